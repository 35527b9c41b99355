-- Written by px.py, a program of this session, over the kit's printer: some functions have a definition and a proof of this session's own.
import Derived.Test.YtbohmfnjgjijdaaDoorQFnGuestsx0
import Derived.Test.YtbohmfnjgjijdaaDoorQFnGuestsx1
import Derived.Test.YtbohmfnjgjijdaaDoorQFnGuestsx2
namespace Go.Proofs.YtbohmfnjgjijdaaDoor.QFnGuests
open Go.RowKit Go.Proofs.YtbohmfnjgjijdaaDoorW.PrintWords Go.Proofs.YtbohmfnjgjijdaaDoorW.PrintLast Go.Proofs.YtbohmfnjgjijdaaDoorW.PrintMore
attribute [local go_sem] max2_int min2_int max_two min_two max_three min_three max_four min_four   -- for this text's walks alone
set_option linter.unusedVariables false
set_option linter.unusedSimpArgs false
set_option maxHeartbeats 8000000
set_option maxRecDepth 100000

def spec_l12Make.f (k : Nat) (a0_0 : Int) (a0_1 : Bool) (l0_2 : List Int) (l0_3 : List Int) (a0_4 : Int) (a1_0 : Int) (a1_1 : Int) (a1_2 : Int) : Option (Int × Bool × List Int × List Int × Int) := (spec_l12Own.f a0_0 a0_1 l0_2 l0_3 a0_4).bind fun bt327 => (if a1_0 = 1 then ((spec_l3Polite.f k a0_0 a0_1 l0_2).bind fun t337 => (if 0 < (t337.length : Int) then ((spec_l12Sit.f k bt327.1 bt327.2.1 bt327.2.2.1 bt327.2.2.2.1 bt327.2.2.2.2 (rd t337 0)).bind fun bt341 => (some (bt341.1, bt341.2.1, bt341.2.2.1, bt341.2.2.2.1, bt341.2.2.2.2))) else (none))) else (if a1_0 = 2 then ((spec_l12Sit.f k bt327.1 bt327.2.1 bt327.2.2.1 bt327.2.2.2.1 bt327.2.2.2.2 a1_1).bind fun bt350 => (some (bt350.1, bt350.2.1, bt350.2.2.1, bt350.2.2.2.1, bt350.2.2.2.2))) else (if a1_0 = 3 then ((spec_l12Place.f k l0_3 a1_1).bind fun t359 => ((spec_l2Without.f k bt327.1 bt327.2.1 bt327.2.2.1 a1_1).bind fun bt360 => (if 0 ≤ t359 then (if t359 ≤ (bt327.2.2.2.1.length : Int) then (if 0 ≤ (wrap64 (t359 + 1)) then (if (wrap64 (t359 + 1)) ≤ (bt327.2.2.2.1.length : Int) then (some (bt360.1, bt360.2.1, bt360.2.2, (bt327.2.2.2.1.eraseIdx (t359 : Int).toNat), bt327.2.2.2.2)) else (none)) else (none)) else (none)) else (none)))) else (if a1_0 = 4 then ((spec_l2Without.f k bt327.1 bt327.2.1 bt327.2.2.1 a1_1).bind fun bt376 => ((spec_l2With.f k bt376.1 bt376.2.1 bt376.2.2 a1_2).bind fun bt381 => ((spec_l12Place.f k l0_3 a1_1).bind fun t386 => (if 0 ≤ t386 then (if t386 < (bt327.2.2.2.1.length : Int) then (some (bt381.1, bt381.2.1, bt381.2.2, (bt327.2.2.2.1.set (t386 : Int).toNat a1_2), bt327.2.2.2.2)) else (none)) else (none))))) else (if a1_0 = 5 then (some (bt327.1, bt327.2.1, (([] : List Int)), (([] : List Int)), bt327.2.2.2.2)) else (some (bt327.1, bt327.2.1, bt327.2.2.1, bt327.2.2.2.1, bt327.2.2.2.2)))))))
theorem spec_l12Make.mono : ∀ a0 a1 a2 a3 a4 a5 a6 a7 k, LeO (spec_l12Make.f k a0 a1 a2 a3 a4 a5 a6 a7) (spec_l12Make.f (k + 1) a0 a1 a2 a3 a4 a5 a6 a7) := by
 intro a0 a1 a2 a3 a4 a5 a6 a7 k
 unfold spec_l12Make.f
 repeat' with_reducible first | exact spec_l12Place.mono .. | exact spec_l12Sit.mono .. | exact spec_l2With.mono .. | exact spec_l2Without.mono .. | exact spec_l3Polite.mono .. | exact LeO.refl .. | exact LeO.none .. | refine LeO.ite ?_ ?_ | refine LeO.bind ?_ (fun _ => ?_)
def spec_l12Make.T4 : Bool × List (List Nat × List Nat) := (true, [([], []), ([], []), ([1], [1]), ([2], [2]), ([3], [3]), ([4], [4]), ([0, 5, 3], [0, 5]), ([6, 6, 0, 1, 2, 3, 4, 5, 6], [6])])
def spec_l12Make.B4 : List Nat := [0, 0, 2, 6, 14, 30, 63, 127]
theorem spec_l12Make.tab4 : rtab .any (opsOf Tryd.f70 4) = spec_l12Make.T4 := by kernel_rfl
theorem spec_l12Make.bits4 : waitsOk spec_l12Make.T4.2 spec_l12Make.B4 = true := by kernel_rfl
def spec_l12Make.T10 : Bool × List (List Nat × List Nat) := (true, [([], []), ([0], [0]), ([], []), ([1, 2], [1, 2]), ([], []), ([4], [4]), ([], []), ([6], [6]), ([5, 7], [5, 7]), ([3, 8], [3, 8]), ([0, 1, 2, 3, 4, 5, 6, 7, 8, 9], []), ([10, 9, 9, 0, 1, 2, 3, 4, 5, 6, 7, 8, 9], [9, 10])])
def spec_l12Make.B10 : List Nat := [0, 1, 0, 7, 0, 16, 0, 64, 240, 511, 1023, 2047]
theorem spec_l12Make.tab10 : rtab .any (opsOf Tryd.f70 10) = spec_l12Make.T10 := by kernel_rfl
theorem spec_l12Make.bits10 : waitsOk spec_l12Make.T10.2 spec_l12Make.B10 = true := by kernel_rfl
def spec_l12Make.T12 : Bool × List (List Nat × List Nat) := (true, [([], []), ([0], [0]), ([], []), ([2], [2]), ([1, 3], [1, 3]), ([], []), ([5], [5]), ([4, 6, 4], [4, 6]), ([0, 1, 2, 3, 4, 5, 6, 7], []), ([8, 7, 7, 0, 1, 2, 3, 4, 5, 6, 7], [7, 8])])
def spec_l12Make.B12 : List Nat := [0, 1, 0, 4, 15, 0, 32, 127, 255, 511]
theorem spec_l12Make.tab12 : rtab .any (opsOf Tryd.f70 12) = spec_l12Make.T12 := by kernel_rfl
theorem spec_l12Make.bits12 : waitsOk spec_l12Make.T12.2 spec_l12Make.B12 = true := by kernel_rfl
def spec_l12Make.T13 : Bool × List (List Nat × List Nat) := (true, [([], []), ([0], [0]), ([], []), ([2], [2]), ([], []), ([4], [4]), ([3, 5], [3, 5]), ([], []), ([7], [7]), ([1, 6, 0, 1, 2, 3, 4, 5, 6, 7, 8], [1, 6]), ([9, 8, 6, 0, 1, 2, 3, 4, 5, 6, 7, 8], [8, 9])])
def spec_l12Make.B13 : List Nat := [0, 1, 0, 4, 0, 16, 60, 0, 128, 511, 1023]
theorem spec_l12Make.tab13 : rtab .any (opsOf Tryd.f70 13) = spec_l12Make.T13 := by kernel_rfl
theorem spec_l12Make.bits13 : waitsOk spec_l12Make.T13.2 spec_l12Make.B13 = true := by kernel_rfl
theorem spec_l12Make.calls (k : Nat) (a0_0 : Int) (a0_1 : Bool) (A0_2 : Option Addr) (c0_2 : Nat) (l0_2 : List Int) (A0_3 : Option Addr) (c0_3 : Nat) (l0_3 : List Int) (a0_4 : Int) (a1_0 : Int) (a1_1 : Int) (a1_2 : Int) (r1 : Int) (r2 : Bool) (r3 : List Int) (r4 : List Int) (r5 : Int) (w : World) (hr0_2 : Kd.C (Kd.int .i64) w A0_2 l0_2.length l0_2) (hc0_2 : l0_2.length ≤ c0_2) (hr0_3 : Kd.C (Kd.int .i64) w A0_3 l0_3.length l0_3) (hc0_3 : l0_3.length ≤ c0_3) (h : spec_l12Make.f k a0_0 a0_1 l0_2 l0_3 a0_4 a1_0 a1_1 a1_2 = some (r1, r2, r3, r4, r5)) :
  Calls Tryd.prog 70 #[.agg #[.int .i64 a0_0, .bool a0_1, .slice A0_2 l0_2.length c0_2, .slice A0_3 l0_3.length c0_3, .int .i64 a0_4], .agg #[.int .i64 a1_0, .int .i64 a1_1, .int .i64 a1_2]] w fun e w' => ∃ v2_ v3_ : Value, e = .returned (.agg #[.int .i64 r1, .bool r2, v2_, v3_, .int .i64 r5]) ∧ Kd.R (Kd.int .i64) 3 w' w.heap.size (fun k_ => no_ v3_ k_) v2_ r3 ∧ Kd.R (Kd.int .i64) 3 w' w.heap.size (fun k_ => no_ v2_ k_) v3_ r4 ∧ Below w.heap.size w w' := by
 have hu26 := Tryd.underlying26
 have hu45 := Tryd.underlying45
 have hu24 := Tryd.underlying24
 have HR0_2 := A0_ hr0_2
 have HC0_2 := A0_ hc0_2
 clear hr0_2 hc0_2
 have HR0_3 := A0_ hr0_3
 have HC0_3 := A0_ hc0_3
 clear hr0_3 hc0_3
 have HB := A0_ (Below.refl w.heap.size w)
 have H : ((spec_l12Own.f a0_0 a0_1 l0_2 l0_3 a0_4).bind fun bt1 => (if a1_0 = 1 then ((spec_l3Polite.f k a0_0 a0_1 l0_2).bind fun t1 => (if 0 < (t1.length : Int) then ((spec_l12Sit.f k bt1.1 bt1.2.1 bt1.2.2.1 bt1.2.2.2.1 bt1.2.2.2.2 (rd t1 0)).bind fun bt2 => (some (bt2.1, bt2.2.1, bt2.2.2.1, bt2.2.2.2.1, bt2.2.2.2.2))) else (none))) else (if a1_0 = 2 then ((spec_l12Sit.f k bt1.1 bt1.2.1 bt1.2.2.1 bt1.2.2.2.1 bt1.2.2.2.2 a1_1).bind fun bt3 => (some (bt3.1, bt3.2.1, bt3.2.2.1, bt3.2.2.2.1, bt3.2.2.2.2))) else (if a1_0 = 3 then ((spec_l12Place.f k l0_3 a1_1).bind fun t2 => ((spec_l2Without.f k bt1.1 bt1.2.1 bt1.2.2.1 a1_1).bind fun bt4 => (if 0 ≤ t2 then (if t2 ≤ (bt1.2.2.2.1.length : Int) then (if 0 ≤ (wrap64 (t2 + 1)) then (if (wrap64 (t2 + 1)) ≤ (bt1.2.2.2.1.length : Int) then (some (bt4.1, bt4.2.1, bt4.2.2, (bt1.2.2.2.1.eraseIdx (t2 : Int).toNat), bt1.2.2.2.2)) else (none)) else (none)) else (none)) else (none)))) else (if a1_0 = 4 then ((spec_l2Without.f k bt1.1 bt1.2.1 bt1.2.2.1 a1_1).bind fun bt5 => ((spec_l2With.f k bt5.1 bt5.2.1 bt5.2.2 a1_2).bind fun bt6 => ((spec_l12Place.f k l0_3 a1_1).bind fun t3 => (if 0 ≤ t3 then (if t3 < (bt1.2.2.2.1.length : Int) then (some (bt6.1, bt6.2.1, bt6.2.2, (bt1.2.2.2.1.set (t3 : Int).toNat a1_2), bt1.2.2.2.2)) else (none)) else (none))))) else (if a1_0 = 5 then (some (bt1.1, bt1.2.1, (([] : List Int)), (([] : List Int)), bt1.2.2.2.2)) else (some (bt1.1, bt1.2.1, bt1.2.2.1, bt1.2.2.2.1, bt1.2.2.2.2)))))))) = some (r1, r2, r3, r4, r5) := h
 clear h
 obtain ⟨⟨t4, t5, t6, t7, t8⟩, A2, H⟩ := o1_ H
 by_cases c1 : a1_0 = 1
 ·rw [if_pos c1] at H
  obtain ⟨c1b0, c1b1⟩ := et_ c1
  clear c1
  obtain ⟨t1, A4, H⟩ := o1_ H
  by_cases c2 : 0 < (t1.length : Int)
  case neg =>
   rw [if_neg c2] at H
   exact absurd H bxka_
  rw [if_pos c2] at H
  have c2b0 : decide (0 < (t1.length : Int)) = true := dt_ c2
  have c2b1 : decide (0 < t1.length) = true := dt_ bh19_
  clear c2
  obtain ⟨⟨t9, t10, t11, t12, t13⟩, A6, H⟩ := o1_ H
  replace H : (some (t9, t10, t11, t12, t13)) = some (r1, r2, r3, r4, r5) := H
  simp only [sj_, pj_] at H
  obtain ⟨rfl, rfl, rfl, rfl, rfl⟩ := H
  go_enter Tryd.func70, Tryd.ntmps70
  try go_wp2_with (first | ((with_reducible refine gd_ (N := 2) rfl ?_); refine bx_ 2 #[.int .i64 a0_0, .bool a0_1, .slice A0_2 l0_2.length c0_2, .slice A0_3 l0_3.length c0_3, .int .i64 a0_4] 26 ?_; intro gb1 hg w1 BK1 hb; have GW1 := ge_ hg brt4_; have GE1 := GW1; replace HB := hb_ hb brt4_; clear hb hg) | ((with_reducible refine gd_ (N := 3) rfl ?_); refine bx_ 3 #[.int .i64 a1_0, .int .i64 a1_1, .int .i64 a1_2] 45 ?_; intro gb2 hg w2 BK2 hb; have GW2 := ge_ hg be6g_; have GE2 := GW2; replace HB := hb_ hb be6g_; have NB1_2 := nl_ hg BK1; have NB2_1 := ng_ hg BK1; replace BK1 := k1_ BK1 hb; clear hb hg) | ((with_reducible refine gd_ (N := 4) rfl ?_); refine bx_ 4 #[.int .i64 0, .bool false, .slice none 0 0, .slice none 0 0, .int .i64 0] 26 ?_; intro gb3 hg w3 BK3 hb; have GW3 := ge_ hg bfnq_; have GE3 := GW3; replace HB := hb_ hb bfnq_; have NB1_3 := nl_ hg BK1; have NB3_1 := ng_ hg BK1; replace BK1 := k1_ BK1 hb; have NB2_3 := nl_ hg BK2; have NB3_2 := ng_ hg BK2; replace BK2 := k1_ BK2 hb; clear hb hg; have hnb1 := NB1_2.out; have hnc1 := NB2_1.out; have hnb2 := NB1_3.out; have hnc2 := NB3_1.out; have hcz1 := z5_ BK1) | ((with_reducible refine gc_ (f := 31) rfl ?_); refine gl_ 8 Tryd.func31 #[.agg #[.int .i64 a0_0, .bool a0_1, .slice A0_2 l0_2.length c0_2, .slice A0_3 l0_3.length c0_3, .int .i64 a0_4]] ?_; (with_reducible refine (spec_l12Own.calls a0_0 a0_1 _ _ l0_2 _ _ l0_3 a0_4 t4 t5 t6 t7 t8 _ ?side1 ?side2 ?side3 ?side4 A2.out).mono ?_); (case side1 => exact b6n8_); (case side2 => exact HC0_2.out); (case side3 => exact bkan_); (case side4 => exact HC0_3.out); rintro e w4 ⟨v1, v4, rfl, ho0, ho1, hb⟩; refine ⟨_, rfl, ?_⟩; have HO1 := A0_ (Kd.R_lower ho0 (bz_ b850_)); have HO2 := A0_ (Kd.R_lower ho1 (bz_ b850_)); replace BK1 := k1_ BK1 hb; replace BK2 := k1_ BK2 hb; replace BK3 := k1_ BK3 hb; replace HB := hb_ hb b850_; (try clear hb); (try clear ho0); (try clear ho1)) | ((with_reducible refine gd_ (N := 5) rfl ?_); refine bx_ 5 #[.int .i64 0, .bool false, .slice none 0 0, .slice none 0 0, .int .i64 0] 26 ?_; intro gb4 hg w5 BK4 hb; replace HO1 := A0_ (Kd.R_below bsm5_ hb); replace HO2 := A0_ (Kd.R_below b9so_ hb); have GW4 := ge_ hg b850_; have GE4 := GW4; replace HB := hb_ hb b850_; have NB1_4 := nl_ hg BK1; have NB4_1 := ng_ hg BK1; replace BK1 := k1_ BK1 hb; have NB2_4 := nl_ hg BK2; have NB4_2 := ng_ hg BK2; replace BK2 := k1_ BK2 hb; have NB3_4 := nl_ hg BK3; have NB4_3 := ng_ hg BK3; replace BK3 := k1_ BK3 hb; clear hb hg; have hnb3 := NB4_1.out; have hnc3 := NB1_4.out; have hnb4 := NB4_2.out; have hnc4 := NB2_4.out; have hnb5 := NB4_3.out; have hnc5 := NB3_4.out; have hcz2 := z5_ BK4; obtain ⟨Ao1, co1, eo1⟩ := Kd.R_slice HO1.out; subst eo1; obtain ⟨Ao2, co2, eo2⟩ := Kd.R_slice HO2.out; subst eo2; have hnb6 := NB2_3.out; have hnc6 := NB3_2.out; have hcz3_0 : w5.cell? ⟨gb2, 0, none⟩ = some (.int .i64 a1_0) := (kc_ BK2.out 0).trans rfl; have hcz3_1 : w5.cell? ⟨gb2, 1, none⟩ = some (.int .i64 a1_1) := (kc_ BK2.out 1).trans rfl; have hcz3_2 : w5.cell? ⟨gb2, 2, none⟩ = some (.int .i64 a1_2) := (kc_ BK2.out 2).trans rfl; have hfz3_0 := kf_ BK2.out 0; have hfz3_1 := kf_ BK2.out 1; have hfz3_2 := kf_ BK2.out 2))
  have n0_ : Aside0 (Kd.R (Kd.int .i64) 3 (((((w5.setCell ⟨gb4, 0, none⟩ (.int .i64 t4)).setCell ⟨gb4, 1, none⟩ (.bool t5)).setCell ⟨gb4, 2, none⟩ (.slice Ao1 t6.length co1)).setCell ⟨gb4, 3, none⟩ (.slice Ao2 t7.length co2)).setCell ⟨gb4, 4, none⟩ (.int .i64 t8)) w.heap.size (fun k_ => no_ (.slice Ao2 t7.length co2) k_) (.slice Ao1 t6.length co1) t6) := ⟨bha5_⟩
  have n1_ : Aside0 (Kd.R (Kd.int .i64) 3 (((((w5.setCell ⟨gb4, 0, none⟩ (.int .i64 t4)).setCell ⟨gb4, 1, none⟩ (.bool t5)).setCell ⟨gb4, 2, none⟩ (.slice Ao1 t6.length co1)).setCell ⟨gb4, 3, none⟩ (.slice Ao2 t7.length co2)).setCell ⟨gb4, 4, none⟩ (.int .i64 t8)) w.heap.size (fun k_ => no_ (.slice Ao1 t6.length co1) k_) (.slice Ao2 t7.length co2) t7) := ⟨bk8z_⟩
  have n2_ : Aside0 ((((((w5.setCell ⟨gb4, 0, none⟩ (.int .i64 t4)).setCell ⟨gb4, 1, none⟩ (.bool t5)).setCell ⟨gb4, 2, none⟩ (.slice Ao1 t6.length co1)).setCell ⟨gb4, 3, none⟩ (.slice Ao2 t7.length co2)).setCell ⟨gb4, 4, none⟩ (.int .i64 t8)).heap[gb1]? = some (.cells #[.int .i64 a0_0, .bool a0_1, .slice A0_2 l0_2.length c0_2, .slice A0_3 l0_3.length c0_3, .int .i64 a0_4] 26 (0, 0))) := ⟨u1_ BK1⟩
  have n3_ : Aside0 ((((((w5.setCell ⟨gb4, 0, none⟩ (.int .i64 t4)).setCell ⟨gb4, 1, none⟩ (.bool t5)).setCell ⟨gb4, 2, none⟩ (.slice Ao1 t6.length co1)).setCell ⟨gb4, 3, none⟩ (.slice Ao2 t7.length co2)).setCell ⟨gb4, 4, none⟩ (.int .i64 t8)).heap[gb2]? = some (.cells #[.int .i64 a1_0, .int .i64 a1_1, .int .i64 a1_2] 45 (0, 0))) := ⟨u1_ BK2⟩
  have n4_ : Aside0 ((((((w5.setCell ⟨gb4, 0, none⟩ (.int .i64 t4)).setCell ⟨gb4, 1, none⟩ (.bool t5)).setCell ⟨gb4, 2, none⟩ (.slice Ao1 t6.length co1)).setCell ⟨gb4, 3, none⟩ (.slice Ao2 t7.length co2)).setCell ⟨gb4, 4, none⟩ (.int .i64 t8)).heap[gb3]? = some (.cells #[.int .i64 0, .bool false, .slice none 0 0, .slice none 0 0, .int .i64 0] 26 (0, 0))) := ⟨u1_ BK3⟩
  have n5_ : Aside0 ((((((w5.setCell ⟨gb4, 0, none⟩ (.int .i64 t4)).setCell ⟨gb4, 1, none⟩ (.bool t5)).setCell ⟨gb4, 2, none⟩ (.slice Ao1 t6.length co1)).setCell ⟨gb4, 3, none⟩ (.slice Ao2 t7.length co2)).setCell ⟨gb4, 4, none⟩ (.int .i64 t8)).heap[gb4]? = some (.cells #[.int .i64 t4, .bool t5, .slice Ao1 t6.length co1, .slice Ao2 t7.length co2, .int .i64 t8] 26 (0, 0))) := ⟨u1_ BK4⟩
  have n6_ : Aside0 (Below w.heap.size w (((((w5.setCell ⟨gb4, 0, none⟩ (.int .i64 t4)).setCell ⟨gb4, 1, none⟩ (.bool t5)).setCell ⟨gb4, 2, none⟩ (.slice Ao1 t6.length co1)).setCell ⟨gb4, 3, none⟩ (.slice Ao2 t7.length co2)).setCell ⟨gb4, 4, none⟩ (.int .i64 t8))) := ⟨b2i7_⟩
  (try clear HO1)
  (try clear HO2)
  (try clear BK1)
  (try clear BK2)
  (try clear BK3)
  (try clear BK4)
  (try clear HB)
  generalize (((((w5.setCell ⟨gb4, 0, none⟩ (.int .i64 t4)).setCell ⟨gb4, 1, none⟩ (.bool t5)).setCell ⟨gb4, 2, none⟩ (.slice Ao1 t6.length co1)).setCell ⟨gb4, 3, none⟩ (.slice Ao2 t7.length co2)).setCell ⟨gb4, 4, none⟩ (.int .i64 t8)) = w6 at n0_ n1_ n2_ n3_ n4_ n5_ n6_ ⊢
  have HO1 := n0_
  have HO2 := n1_
  have BK1 := n2_
  have BK2 := n3_
  have BK3 := n4_
  have BK4 := n5_
  have HB := n6_
  clear n0_ n1_ n2_ n3_ n4_ n5_ n6_
  replace HO1 := A0_ (rd_ HO1.out)
  replace HO2 := A0_ (rd_ HO2.out)
  replace BK1 := A0_ (kd_ BK1.out)
  replace BK2 := A0_ (kd_ BK2.out)
  replace BK3 := A0_ (kd_ BK3.out)
  replace BK4 := A0_ (kd_ BK4.out)
  replace HB := A0_ (bd_ HB.out)
  refine start_ (n := 8) (S := fun w' => w'.cell? ⟨gb4, 0, none⟩ = some (.int .i64 t4) ∧ w'.cell? ⟨gb4, 1, none⟩ = some (.bool t5) ∧ w'.cell? ⟨gb4, 2, none⟩ = some (.slice Ao1 t6.length co1) ∧ w'.cell? ⟨gb4, 3, none⟩ = some (.slice Ao2 t7.length co2) ∧ w'.cell? ⟨gb4, 4, none⟩ = some (.int .i64 t8) ∧ w'.cell? ⟨gb1, 0, none⟩ = some (.int .i64 a0_0) ∧ w'.cell? ⟨gb1, 1, none⟩ = some (.bool a0_1) ∧ w'.cell? ⟨gb1, 2, none⟩ = some (.slice A0_2 l0_2.length c0_2) ∧ w'.cell? ⟨gb1, 3, none⟩ = some (.slice A0_3 l0_3.length c0_3) ∧ w'.cell? ⟨gb1, 4, none⟩ = some (.int .i64 a0_4)) (ds := [7]) #[false, false, false, false, false, false, false, false] bfqv_ rfl rfl ⟨(kc_ BK4.out 0).trans rfl, (kc_ BK4.out 1).trans rfl, (kc_ BK4.out 2).trans rfl, (kc_ BK4.out 3).trans rfl, (kc_ BK4.out 4).trans rfl, (kc_ BK1.out 0).trans rfl, (kc_ BK1.out 1).trans rfl, (kc_ BK1.out 2).trans rfl, (kc_ BK1.out 3).trans rfl, (kc_ BK1.out 4).trans rfl⟩ (fun hHeld => ?_); refine with_tabW spec_l12Make.tab4 spec_l12Make.bits4 (fun HT_ HW_ => ?_)
  generalize w6.drew = w7 at HO1 HO2 BK1 BK2 BK3 BK4 HB hHeld ⊢
  refine pu_ 1 14 ?_
  refine tk_ 0 13 hHeld ?_
  refine tk_ 2 15 hHeld ?_
  refine on_ 3 (some 16) (fun K hK => ?_)
  refine gs_ Tryd.func87 #[.agg #[.int .i64 a0_0, .bool a0_1, .slice A0_2 l0_2.length c0_2]] ?_
  with_reducible refine (spec_l3Polite.calls k a0_0 a0_1 _ _ l0_2 t1 _ ?side1 ?side2 A4.out).mono ?_
  (case side1 => exact b6n8_)
  (case side2 => exact HC0_2.out)
  rintro e w8 ⟨v5, rfl, ho0, hb⟩
  refine ⟨_, rfl, ?_⟩
  have HO3 := A0_ (Kd.R_lower (Kd.R_new' (Kd.R_new' ho0 (Kd.R_lt bsm5_)) (Kd.R_lt b9so_)) (bz_ b2i7_))
  replace HO1 := A0_ (Kd.R_elder' bsm5_ (Kd.R_base ho0) hb)
  replace HO2 := A0_ (Kd.R_elder' b9so_ (Kd.R_base ho0) hb)
  replace BK1 := k1_ BK1 hb
  replace BK2 := k1_ BK2 hb
  replace BK3 := k1_ BK3 hb
  replace BK4 := k1_ BK4 hb
  replace HB := hb_ hb b2i7_
  (try clear hb); (try clear ho0)
  obtain ⟨Ao3, co3, eo3⟩ := Kd.R_slice HO3.out
  (first | subst eo3 | (injection eo3 with f1_ f2_ f3_; have f4_ := f1_.symm; have f5_ := f3_.symm; clear f1_ f2_ f3_; subst f4_; subst f5_))
  have p1 : 0 ≤ (0 : Int) := bh19_
  have q1 : 0 < (t1.length : Int) := od_ bpil_
  obtain ⟨ad1, e1, hx1_0⟩ := Kd.at_int (rr_ HO3.out).2.2 0 p1 q1
  cases e1
  have qi340 : (0 < t1.length) = True := eq_true bh19_
  (try rw [show ((0 : Int)).toNat = 0 from rfl] at hx1_0)
  (try rw [Addr.add_zero'] at hx1_0)
  replace p1 := eq_true p1
  replace q1 := eq_true q1
  refine hK.out _ _ ⟨(kc_ BK4.out 0).trans rfl, (kc_ BK4.out 1).trans rfl, (kc_ BK4.out 2).trans rfl, (kc_ BK4.out 3).trans rfl, (kc_ BK4.out 4).trans rfl, (kc_ BK1.out 0).trans rfl, (kc_ BK1.out 1).trans rfl, (kc_ BK1.out 2).trans rfl, (kc_ BK1.out 3).trans rfl, (kc_ BK1.out 4).trans rfl⟩ (fun hHeld => ?_)
  clear hK K
  refine nm_ 16 ?_
  refine pu_ 4 17 ?_
  refine on_ 5 (some 18) (fun K hK => ?_)
  refine value_ (w1 := ?_) (v := ?_) (by rfl) rfl ?_ ?_
  rotate_left 2
  ·go_simp
   constructor
   ·rfl
   rfl
  refine hK.out _ _ ⟨(kc_ BK4.out 0).trans rfl, (kc_ BK4.out 1).trans rfl, (kc_ BK4.out 2).trans rfl, (kc_ BK4.out 3).trans rfl, (kc_ BK4.out 4).trans rfl, (kc_ BK1.out 0).trans rfl, (kc_ BK1.out 1).trans rfl, (kc_ BK1.out 2).trans rfl, (kc_ BK1.out 3).trans rfl, (kc_ BK1.out 4).trans rfl⟩ (fun hHeld => ?_)
  clear hK K
  refine nm_ 18 ?_
  refine on_ 6 (some 19) (fun K hK => ?_)
  refine gs_ Tryd.func86 #[.agg #[.int .i64 t4, .bool t5, .slice Ao1 t6.length co1, .slice Ao2 t7.length co2, .int .i64 t8], .int .i64 (rd t1 0)] ?_
  with_reducible refine (spec_l12Sit.calls k t4 t5 _ _ t6 _ _ t7 t8 (rd t1 0) t9 t10 t11 t12 t13 _ ?side1 ?side2 ?side3 ?side4 A6.out).mono ?_
  (case side1 => exact bayy_)
  (case side2 => exact (rr_ HO1.out).2.1)
  (case side3 => exact ba04_)
  (case side4 => exact (rr_ HO2.out).2.1)
  rintro e w9 ⟨v6, v7, rfl, ho0, ho1, hb⟩
  refine ⟨_, rfl, ?_⟩
  have HO4 := A0_ (Kd.R_lower (Kd.R_new' (Kd.R_new' (Kd.R_new' ho0 (Kd.R_lt bsm5_)) (Kd.R_lt b9so_)) (Kd.R_lt buiy_)) (bz_ b2i7_))
  have HO5 := A0_ (Kd.R_lower (Kd.R_new' (Kd.R_new' (Kd.R_new' ho1 (Kd.R_lt bsm5_)) (Kd.R_lt b9so_)) (Kd.R_lt buiy_)) (bz_ b2i7_))
  replace HO1 := A0_ (Kd.R_mono (Kd.R_told (Kd.R_told (Kd.R_old bsm5_ hb) (Kd.R_base ho0)) (Kd.R_base ho1)) (fun _ h_ => h_.1))
  replace HO2 := A0_ (Kd.R_mono (Kd.R_told (Kd.R_told (Kd.R_old b9so_ hb) (Kd.R_base ho0)) (Kd.R_base ho1)) (fun _ h_ => h_.1))
  replace HO3 := A0_ (Kd.R_mono (Kd.R_told (Kd.R_told (Kd.R_old buiy_ hb) (Kd.R_base ho0)) (Kd.R_base ho1)) (fun _ h_ => h_.1))
  replace BK1 := k1_ BK1 hb
  replace BK2 := k1_ BK2 hb
  replace BK3 := k1_ BK3 hb
  replace BK4 := k1_ BK4 hb
  replace HB := hb_ hb b2i7_
  (try clear hb); (try clear ho0); (try clear ho1)
  obtain ⟨Ao4, co4, eo4⟩ := Kd.R_slice HO4.out
  (first | subst eo4 | (injection eo4 with f1_ f2_ f3_; have f4_ := f1_.symm; have f5_ := f3_.symm; clear f1_ f2_ f3_; subst f4_; subst f5_))
  obtain ⟨Ao5, co5, eo5⟩ := Kd.R_slice HO5.out
  (first | subst eo5 | (injection eo5 with f1_ f2_ f3_; have f4_ := f1_.symm; have f5_ := f3_.symm; clear f1_ f2_ f3_; subst f4_; subst f5_))
  refine hK.out _ _ ⟨(kc_ BK4.out 0).trans rfl, (kc_ BK4.out 1).trans rfl, (kc_ BK4.out 2).trans rfl, (kc_ BK4.out 3).trans rfl, (kc_ BK4.out 4).trans rfl, (kc_ BK1.out 0).trans rfl, (kc_ BK1.out 1).trans rfl, (kc_ BK1.out 2).trans rfl, (kc_ BK1.out 3).trans rfl, (kc_ BK1.out 4).trans rfl⟩ (fun hHeld => ?_)
  clear hK K
  refine nm_ 19 ?_
  refine last_ (i := 7) (N := none) #[true, true, true, true, true, true, true, true] rfl rfl (one_of HT_.out bfqv_) bi3y_ (fun K hK => ?_)
  have hs29 : w9.cell? ⟨gb4, 0, none⟩ = some (.int .i64 t4) := (kc_ BK4.out 0).trans rfl
  have hfs29 := kf_ BK4.out 0
  have hns1_0 := NB1_4.out
  have hns1_1 := NB2_4.out
  have hns1_2 := NB3_4.out
  have hms1_0 := NB4_1.out
  have hms1_1 := NB4_2.out
  have hms1_2 := NB4_3.out
  have hs30 : w9.cell? ⟨gb4, 1, none⟩ = some (.bool t5) := (kc_ BK4.out 1).trans rfl
  have hfs30 := kf_ BK4.out 1
  have hns2_0 := NB1_4.out
  have hns2_1 := NB2_4.out
  have hns2_2 := NB3_4.out
  have hms2_0 := NB4_1.out
  have hms2_1 := NB4_2.out
  have hms2_2 := NB4_3.out
  have hs32 : w9.cell? ⟨gb4, 2, none⟩ = some (.slice Ao1 t6.length co1) := (kc_ BK4.out 2).trans rfl
  have hfs32 := kf_ BK4.out 2
  have hns3_0 := NB1_4.out
  have hns3_1 := NB2_4.out
  have hns3_2 := NB3_4.out
  have hms3_0 := NB4_1.out
  have hms3_1 := NB4_2.out
  have hms3_2 := NB4_3.out
  have hs34 : w9.cell? ⟨gb4, 3, none⟩ = some (.slice Ao2 t7.length co2) := (kc_ BK4.out 3).trans rfl
  have hfs34 := kf_ BK4.out 3
  have hns4_0 := NB1_4.out
  have hns4_1 := NB2_4.out
  have hns4_2 := NB3_4.out
  have hms4_0 := NB4_1.out
  have hms4_1 := NB4_2.out
  have hms4_2 := NB4_3.out
  have hs35 : w9.cell? ⟨gb4, 4, none⟩ = some (.int .i64 t8) := (kc_ BK4.out 4).trans rfl
  have hfs35 := kf_ BK4.out 4
  have hns5_0 := NB1_4.out
  have hns5_1 := NB2_4.out
  have hns5_2 := NB3_4.out
  have hms5_0 := NB4_1.out
  have hms5_1 := NB4_2.out
  have hms5_2 := NB4_3.out
  refine skip_ (w1 := ?_) (by rfl) rfl ?_ ?_
  rotate_left
  ·go_simp
   rfl
  refine hK.out _ _ ?_
  clear hK K
  refine dn_ ?_
  have hcz4 := z5_ BK4
  have hcz5 := z5_ BK3
  try go_wp2
  refine bodyPost_ret (results_cell_row rfl _ _ gb3 26 #[.int .i64 t9, .bool t10, .slice Ao4 t11.length co4, .slice Ao5 t12.length co5, .int .i64 t13] (0, 0) _ rfl (u1_ BK3) Tryd.underlying26 rfl bfqv_) rfl ?_
  exact ⟨_, _, bnwh_, by (with_reducible repeat (first | apply ra_ | apply rn_ | apply rd_)); exact Kd.R_mono (rf_ (rf_ (rf_ (rf_ (rf_ (rf_ (rf_ (rf_ (rf_ (rf_ (Kd.R_types (Kd.R_types HO4.out BK4.out bi3y_) BK3.out bi3y_) (fun _ hk => hk.1.2) (.int .i64 t9)) (fun _ hk => hk.1.2) (.bool t10)) (fun _ hk => hk.1.2) (.slice Ao4 t11.length co4)) (fun _ hk => hk.1.2) (.slice Ao5 t12.length co5)) (fun _ hk => hk.1.2) (.int .i64 t13)) k2_0 _) k2_0 _) k2_0 _) k2_0 _) k2_0 _) (fun _ hk => hk.1.1.1.1.1), by (with_reducible repeat (first | apply ra_ | apply rn_ | apply rd_)); exact Kd.R_mono (rf_ (rf_ (rf_ (rf_ (rf_ (rf_ (rf_ (rf_ (rf_ (rf_ (Kd.R_types (Kd.R_types HO5.out BK4.out bi3y_) BK3.out bi3y_) (fun _ hk => hk.1.2) (.int .i64 t9)) (fun _ hk => hk.1.2) (.bool t10)) (fun _ hk => hk.1.2) (.slice Ao4 t11.length co4)) (fun _ hk => hk.1.2) (.slice Ao5 t12.length co5)) (fun _ hk => hk.1.2) (.int .i64 t13)) k2_0 _) k2_0 _) k2_0 _) k2_0 _) k2_0 _) (fun _ hk => hk.1.1.1.1.1), b2i7_⟩
 rw [if_neg c1] at H
 obtain ⟨c1b0, c1b1⟩ := ef_ c1
 by_cases c2 : a1_0 = 2
 ·rw [if_pos c2] at H
  obtain ⟨c2b0, c2b1⟩ := et_ c2
  clear c2
  obtain ⟨⟨t9, t10, t11, t12, t13⟩, A4, H⟩ := o1_ H
  replace H : (some (t9, t10, t11, t12, t13)) = some (r1, r2, r3, r4, r5) := H
  simp only [sj_, pj_] at H
  obtain ⟨rfl, rfl, rfl, rfl, rfl⟩ := H
  go_enter Tryd.func70, Tryd.ntmps70
  go_wp2_with (first | ((with_reducible refine gd_ (N := 2) rfl ?_); refine bx_ 2 #[.int .i64 a0_0, .bool a0_1, .slice A0_2 l0_2.length c0_2, .slice A0_3 l0_3.length c0_3, .int .i64 a0_4] 26 ?_; intro gb1 hg w1 BK1 hb; have GW1 := ge_ hg brt4_; have GE1 := GW1; replace HB := hb_ hb brt4_; clear hb hg) | ((with_reducible refine gd_ (N := 3) rfl ?_); refine bx_ 3 #[.int .i64 a1_0, .int .i64 a1_1, .int .i64 a1_2] 45 ?_; intro gb2 hg w2 BK2 hb; have GW2 := ge_ hg be6g_; have GE2 := GW2; replace HB := hb_ hb be6g_; have NB1_2 := nl_ hg BK1; have NB2_1 := ng_ hg BK1; replace BK1 := k1_ BK1 hb; clear hb hg) | ((with_reducible refine gd_ (N := 4) rfl ?_); refine bx_ 4 #[.int .i64 0, .bool false, .slice none 0 0, .slice none 0 0, .int .i64 0] 26 ?_; intro gb3 hg w3 BK3 hb; have GW3 := ge_ hg bfnq_; have GE3 := GW3; replace HB := hb_ hb bfnq_; have NB1_3 := nl_ hg BK1; have NB3_1 := ng_ hg BK1; replace BK1 := k1_ BK1 hb; have NB2_3 := nl_ hg BK2; have NB3_2 := ng_ hg BK2; replace BK2 := k1_ BK2 hb; clear hb hg; have hnb1 := NB1_2.out; have hnc1 := NB2_1.out; have hnb2 := NB1_3.out; have hnc2 := NB3_1.out; have hcz1 := z5_ BK1) | ((with_reducible refine gc_ (f := 31) rfl ?_); refine gl_ 8 Tryd.func31 #[.agg #[.int .i64 a0_0, .bool a0_1, .slice A0_2 l0_2.length c0_2, .slice A0_3 l0_3.length c0_3, .int .i64 a0_4]] ?_; (with_reducible refine (spec_l12Own.calls a0_0 a0_1 _ _ l0_2 _ _ l0_3 a0_4 t4 t5 t6 t7 t8 _ ?side1 ?side2 ?side3 ?side4 A2.out).mono ?_); (case side1 => exact b6n8_); (case side2 => exact HC0_2.out); (case side3 => exact bkan_); (case side4 => exact HC0_3.out); rintro e w4 ⟨v1, v4, rfl, ho0, ho1, hb⟩; refine ⟨_, rfl, ?_⟩; have HO1 := A0_ (Kd.R_lower ho0 (bz_ b850_)); have HO2 := A0_ (Kd.R_lower ho1 (bz_ b850_)); replace BK1 := k1_ BK1 hb; replace BK2 := k1_ BK2 hb; replace BK3 := k1_ BK3 hb; replace HB := hb_ hb b850_; (try clear hb); (try clear ho0); (try clear ho1)) | ((with_reducible refine gd_ (N := 5) rfl ?_); refine bx_ 5 #[.int .i64 0, .bool false, .slice none 0 0, .slice none 0 0, .int .i64 0] 26 ?_; intro gb4 hg w5 BK4 hb; replace HO1 := A0_ (Kd.R_below bsm5_ hb); replace HO2 := A0_ (Kd.R_below b9so_ hb); have GW4 := ge_ hg b850_; have GE4 := GW4; replace HB := hb_ hb b850_; have NB1_4 := nl_ hg BK1; have NB4_1 := ng_ hg BK1; replace BK1 := k1_ BK1 hb; have NB2_4 := nl_ hg BK2; have NB4_2 := ng_ hg BK2; replace BK2 := k1_ BK2 hb; have NB3_4 := nl_ hg BK3; have NB4_3 := ng_ hg BK3; replace BK3 := k1_ BK3 hb; clear hb hg; have hnb3 := NB4_1.out; have hnc3 := NB1_4.out; have hnb4 := NB4_2.out; have hnc4 := NB2_4.out; have hnb5 := NB4_3.out; have hnc5 := NB3_4.out; have hcz2 := z5_ BK4; obtain ⟨Ao1, co1, eo1⟩ := Kd.R_slice HO1.out; subst eo1; obtain ⟨Ao2, co2, eo2⟩ := Kd.R_slice HO2.out; subst eo2; have hnb6 := NB2_3.out; have hnc6 := NB3_2.out; have hcz3_0 : w5.cell? ⟨gb2, 0, none⟩ = some (.int .i64 a1_0) := (kc_ BK2.out 0).trans rfl; have hcz3_1 : w5.cell? ⟨gb2, 1, none⟩ = some (.int .i64 a1_1) := (kc_ BK2.out 1).trans rfl; have hcz3_2 : w5.cell? ⟨gb2, 2, none⟩ = some (.int .i64 a1_2) := (kc_ BK2.out 2).trans rfl; have hfz3_0 := kf_ BK2.out 0; have hfz3_1 := kf_ BK2.out 1; have hfz3_2 := kf_ BK2.out 2) | ((with_reducible refine gc_ (f := 86) rfl ?_); refine gl_ 25 Tryd.func86 #[.agg #[.int .i64 t4, .bool t5, .slice Ao1 t6.length co1, .slice Ao2 t7.length co2, .int .i64 t8], .int .i64 a1_1] ?_; (with_reducible refine (spec_l12Sit.calls k t4 t5 _ _ t6 _ _ t7 t8 a1_1 t9 t10 t11 t12 t13 _ ?side1 ?side2 ?side3 ?side4 A4.out).mono ?_); (case side1 => refine (rr_ (e := 3) (base := w.heap.size) (ok := fun k_ => no_ (.slice Ao2 t7.length co2) k_) (n := t6.length) (c := co1) ?_).2.2; exact bq0f_); (case side2 => exact (rr_ HO1.out).2.1); (case side3 => refine (rr_ (e := 3) (base := w.heap.size) (ok := fun k_ => no_ (.slice Ao1 t6.length co1) k_) (n := t7.length) (c := co2) ?_).2.2; exact bu3r_); (case side4 => exact (rr_ HO2.out).2.1); rintro e w6 ⟨v5, v6, rfl, ho0, ho1, hb⟩; refine ⟨_, rfl, ?_⟩; have HO3 := A0_ (Kd.R_lower (Kd.R_new' (Kd.R_new' ho0 (Kd.R_lt bq0f_)) (Kd.R_lt bu3r_)) (bz_ b2i7_)); have HO4 := A0_ (Kd.R_lower (Kd.R_new' (Kd.R_new' ho1 (Kd.R_lt bq0f_)) (Kd.R_lt bu3r_)) (bz_ b2i7_)); replace HO1 := A0_ (Kd.R_mono (Kd.R_told (Kd.R_told (Kd.R_old bq0f_ hb) (Kd.R_base ho0)) (Kd.R_base ho1)) (fun _ h_ => h_.1)); replace HO2 := A0_ (Kd.R_mono (Kd.R_told (Kd.R_told (Kd.R_old bu3r_ hb) (Kd.R_base ho0)) (Kd.R_base ho1)) (fun _ h_ => h_.1)); replace BK1 := k1_ BK1 hb; replace BK2 := k1_ BK2 hb; replace BK3 := k1_ BK3 hb; replace BK4 := k2_ (.cells #[.int .i64 t4, .bool t5, .slice Ao1 t6.length co1, .slice Ao2 t7.length co2, .int .i64 t8] 26 (0, 0)) BK4 hb; replace HB := hb_ hb b2i7_; (try clear hb); (try clear ho0); (try clear ho1); have hcz4 := z5_ BK4; obtain ⟨Ao3, co3, eo3⟩ := Kd.R_slice HO3.out; subst eo3; obtain ⟨Ao4, co4, eo4⟩ := Kd.R_slice HO4.out; subst eo4; have hcz5_0 : w6.cell? ⟨gb3, 0, none⟩ = some (.int .i64 0) := (kc_ BK3.out 0).trans rfl; have hcz5_1 : w6.cell? ⟨gb3, 1, none⟩ = some (.bool false) := (kc_ BK3.out 1).trans rfl; have hcz5_2 : w6.cell? ⟨gb3, 2, none⟩ = some (.slice none 0 0) := (kc_ BK3.out 2).trans rfl; have hcz5_3 : w6.cell? ⟨gb3, 3, none⟩ = some (.slice none 0 0) := (kc_ BK3.out 3).trans rfl; have hcz5_4 : w6.cell? ⟨gb3, 4, none⟩ = some (.int .i64 0) := (kc_ BK3.out 4).trans rfl; have hfz5_0 := kf_ BK3.out 0; have hfz5_1 := kf_ BK3.out 1; have hfz5_2 := kf_ BK3.out 2; have hfz5_3 := kf_ BK3.out 3; have hfz5_4 := kf_ BK3.out 4))
  refine bodyPost_ret (results_cell_row rfl _ _ gb3 26 #[.int .i64 t9, .bool t10, .slice Ao3 t11.length co3, .slice Ao4 t12.length co4, .int .i64 t13] (0, 0) _ rfl (u1_ BK3) Tryd.underlying26 rfl bfqv_) rfl ?_
  exact ⟨_, _, bnwh_, by (with_reducible repeat (first | apply ra_ | apply rn_ | apply rd_)); exact Kd.R_mono (rf_ (rf_ (rf_ (rf_ (rf_ (rf_ (rf_ (rf_ (rf_ (rf_ (Kd.R_types (Kd.R_types HO3.out BK4.out bi3y_) BK3.out bi3y_) (fun _ hk => hk.1.2) (.int .i64 t9)) (fun _ hk => hk.1.2) (.bool t10)) (fun _ hk => hk.1.2) (.slice Ao3 t11.length co3)) (fun _ hk => hk.1.2) (.slice Ao4 t12.length co4)) (fun _ hk => hk.1.2) (.int .i64 t13)) k2_0 _) k2_0 _) k2_0 _) k2_0 _) k2_0 _) (fun _ hk => hk.1.1.1.1), by (with_reducible repeat (first | apply ra_ | apply rn_ | apply rd_)); exact Kd.R_mono (rf_ (rf_ (rf_ (rf_ (rf_ (rf_ (rf_ (rf_ (rf_ (rf_ (Kd.R_types (Kd.R_types HO4.out BK4.out bi3y_) BK3.out bi3y_) (fun _ hk => hk.1.2) (.int .i64 t9)) (fun _ hk => hk.1.2) (.bool t10)) (fun _ hk => hk.1.2) (.slice Ao3 t11.length co3)) (fun _ hk => hk.1.2) (.slice Ao4 t12.length co4)) (fun _ hk => hk.1.2) (.int .i64 t13)) k2_0 _) k2_0 _) k2_0 _) k2_0 _) k2_0 _) (fun _ hk => hk.1.1.1.1), b2i7_⟩
 rw [if_neg c2] at H
 obtain ⟨c2b0, c2b1⟩ := ef_ c2
 by_cases c3 : a1_0 = 3
 ·rw [if_pos c3] at H
  obtain ⟨c3b0, c3b1⟩ := et_ c3
  clear c3
  obtain ⟨t2, A4, H⟩ := o1_ H
  obtain ⟨⟨t9, t10, t11⟩, A6, H⟩ := o1_ H
  by_cases c4 : 0 ≤ t2
  case neg =>
   rw [if_neg c4] at H
   exact absurd H bxka_
  rw [if_pos c4] at H
  have c4b0 := eq_true c4
  have c4b1 : decide (0 ≤ t2) = true := dt_ c4
  clear c4
  by_cases c5 : t2 ≤ (t7.length : Int)
  case neg =>
   rw [if_neg c5] at H
   exact absurd H bxka_
  rw [if_pos c5] at H
  have c5b0 := eq_true c5
  have c5b1 : decide (t2 ≤ (t7.length : Int)) = true := dt_ c5
  clear c5
  obtain ⟨y1, hy1⟩ : ∃ y_ : List Int, y_ = (t7.take (t2 : Int).toNat) := ⟨_, rfl⟩
  replace H : (if 0 ≤ (wrap64 (t2 + 1)) then (if (wrap64 (t2 + 1)) ≤ (t7.length : Int) then (some (t9, t10, t11, (t7.eraseIdx (t2 : Int).toNat), t8)) else (none)) else (none)) = some (r1, r2, r3, r4, r5) := bgiq_
  have Ny1 := A0_ hy1
  clear hy1
  obtain ⟨ji1, hji1⟩ : ∃ j_ : Int, (wrap64 (t2 + 1)) = j_ := ⟨_, rfl⟩
  replace H : (if 0 ≤ (ji1) then (if (ji1) ≤ (t7.length : Int) then (some (t9, t10, t11, (t7.eraseIdx (t2 : Int).toNat), t8)) else (none)) else (none)) = some (r1, r2, r3, r4, r5) := bmns_
  (try rw [hji1] at A2)
  (try rw [hji1] at A4)
  (try rw [hji1] at A6)
  have hji66w : (IntKind.i64.wrap (t2 + 1)) = ji1 := (i64_w _).trans hji1
  by_cases c6 : 0 ≤ (ji1)
  case neg =>
   rw [if_neg c6] at H
   exact absurd H bxka_
  rw [if_pos c6] at H
  have c6b0 := eq_true c6
  have c6b1 : decide (0 ≤ (ji1)) = true := dt_ c6
  clear c6
  by_cases c7 : (ji1) ≤ (t7.length : Int)
  case neg =>
   rw [if_neg c7] at H
   exact absurd H bxka_
  rw [if_pos c7] at H
  have c7b0 := eq_true c7
  have c7b1 : decide ((ji1) ≤ (t7.length : Int)) = true := dt_ c7
  clear c7
  obtain ⟨y2, hy2⟩ : ∃ y_ : List Int, y_ = (t7.drop ((ji1) : Int).toNat) := ⟨_, rfl⟩
  replace H : (some (t9, t10, t11, (t7.eraseIdx (t2 : Int).toNat), t8)) = some (r1, r2, r3, r4, r5) := bscs_
  have Ny2 := A0_ hy2
  clear hy2
  obtain ⟨y3, hy3⟩ : ∃ y_ : List Int, y_ = (t7.eraseIdx (t2 : Int).toNat) := ⟨_, rfl⟩
  replace H : (some (t9, t10, t11, y3, t8)) = some (r1, r2, r3, r4, r5) := b2x6_
  have Ny3 := A0_ hy3
  clear hy3
  simp only [sj_, pj_] at H
  obtain ⟨rfl, rfl, rfl, rfl, rfl⟩ := H
  go_enter Tryd.func70, Tryd.ntmps70
  try go_wp2_with (first | ((with_reducible refine gd_ (N := 2) rfl ?_); refine bx_ 2 #[.int .i64 a0_0, .bool a0_1, .slice A0_2 l0_2.length c0_2, .slice A0_3 l0_3.length c0_3, .int .i64 a0_4] 26 ?_; intro gb1 hg w1 BK1 hb; have GW1 := ge_ hg brt4_; have GE1 := GW1; replace HB := hb_ hb brt4_; clear hb hg) | ((with_reducible refine gd_ (N := 3) rfl ?_); refine bx_ 3 #[.int .i64 a1_0, .int .i64 a1_1, .int .i64 a1_2] 45 ?_; intro gb2 hg w2 BK2 hb; have GW2 := ge_ hg be6g_; have GE2 := GW2; replace HB := hb_ hb be6g_; have NB1_2 := nl_ hg BK1; have NB2_1 := ng_ hg BK1; replace BK1 := k1_ BK1 hb; clear hb hg) | ((with_reducible refine gd_ (N := 4) rfl ?_); refine bx_ 4 #[.int .i64 0, .bool false, .slice none 0 0, .slice none 0 0, .int .i64 0] 26 ?_; intro gb3 hg w3 BK3 hb; have GW3 := ge_ hg bfnq_; have GE3 := GW3; replace HB := hb_ hb bfnq_; have NB1_3 := nl_ hg BK1; have NB3_1 := ng_ hg BK1; replace BK1 := k1_ BK1 hb; have NB2_3 := nl_ hg BK2; have NB3_2 := ng_ hg BK2; replace BK2 := k1_ BK2 hb; clear hb hg; have hnb1 := NB1_2.out; have hnc1 := NB2_1.out; have hnb2 := NB1_3.out; have hnc2 := NB3_1.out; have hcz1 := z5_ BK1) | ((with_reducible refine gc_ (f := 31) rfl ?_); refine gl_ 8 Tryd.func31 #[.agg #[.int .i64 a0_0, .bool a0_1, .slice A0_2 l0_2.length c0_2, .slice A0_3 l0_3.length c0_3, .int .i64 a0_4]] ?_; (with_reducible refine (spec_l12Own.calls a0_0 a0_1 _ _ l0_2 _ _ l0_3 a0_4 t4 t5 t6 t7 t8 _ ?side1 ?side2 ?side3 ?side4 A2.out).mono ?_); (case side1 => exact b6n8_); (case side2 => exact HC0_2.out); (case side3 => exact bkan_); (case side4 => exact HC0_3.out); rintro e w4 ⟨v1, v4, rfl, ho0, ho1, hb⟩; refine ⟨_, rfl, ?_⟩; have HO1 := A0_ (Kd.R_lower ho0 (bz_ b850_)); have HO2 := A0_ (Kd.R_lower ho1 (bz_ b850_)); replace BK1 := k1_ BK1 hb; replace BK2 := k1_ BK2 hb; replace BK3 := k1_ BK3 hb; replace HB := hb_ hb b850_; (try clear hb); (try clear ho0); (try clear ho1)) | ((with_reducible refine gd_ (N := 5) rfl ?_); refine bx_ 5 #[.int .i64 0, .bool false, .slice none 0 0, .slice none 0 0, .int .i64 0] 26 ?_; intro gb4 hg w5 BK4 hb; replace HO1 := A0_ (Kd.R_below bsm5_ hb); replace HO2 := A0_ (Kd.R_below b9so_ hb); have GW4 := ge_ hg b850_; have GE4 := GW4; replace HB := hb_ hb b850_; have NB1_4 := nl_ hg BK1; have NB4_1 := ng_ hg BK1; replace BK1 := k1_ BK1 hb; have NB2_4 := nl_ hg BK2; have NB4_2 := ng_ hg BK2; replace BK2 := k1_ BK2 hb; have NB3_4 := nl_ hg BK3; have NB4_3 := ng_ hg BK3; replace BK3 := k1_ BK3 hb; clear hb hg; have hnb3 := NB4_1.out; have hnc3 := NB1_4.out; have hnb4 := NB4_2.out; have hnc4 := NB2_4.out; have hnb5 := NB4_3.out; have hnc5 := NB3_4.out; have hcz2 := z5_ BK4; obtain ⟨Ao1, co1, eo1⟩ := Kd.R_slice HO1.out; subst eo1; obtain ⟨Ao2, co2, eo2⟩ := Kd.R_slice HO2.out; subst eo2; have hnb6 := NB2_3.out; have hnc6 := NB3_2.out; have hcz3_0 : w5.cell? ⟨gb2, 0, none⟩ = some (.int .i64 a1_0) := (kc_ BK2.out 0).trans rfl; have hcz3_1 : w5.cell? ⟨gb2, 1, none⟩ = some (.int .i64 a1_1) := (kc_ BK2.out 1).trans rfl; have hcz3_2 : w5.cell? ⟨gb2, 2, none⟩ = some (.int .i64 a1_2) := (kc_ BK2.out 2).trans rfl; have hfz3_0 := kf_ BK2.out 0; have hfz3_1 := kf_ BK2.out 1; have hfz3_2 := kf_ BK2.out 2; have hcz4_0 : w5.cell? ⟨gb1, 0, none⟩ = some (.int .i64 a0_0) := (kc_ BK1.out 0).trans rfl; have hcz4_1 : w5.cell? ⟨gb1, 1, none⟩ = some (.bool a0_1) := (kc_ BK1.out 1).trans rfl; have hcz4_2 : w5.cell? ⟨gb1, 2, none⟩ = some (.slice A0_2 l0_2.length c0_2) := (kc_ BK1.out 2).trans rfl; have hcz4_3 : w5.cell? ⟨gb1, 3, none⟩ = some (.slice A0_3 l0_3.length c0_3) := (kc_ BK1.out 3).trans rfl; have hcz4_4 : w5.cell? ⟨gb1, 4, none⟩ = some (.int .i64 a0_4) := (kc_ BK1.out 4).trans rfl; have hfz4_0 := kf_ BK1.out 0; have hfz4_1 := kf_ BK1.out 1; have hfz4_2 := kf_ BK1.out 2; have hfz4_3 := kf_ BK1.out 3; have hfz4_4 := kf_ BK1.out 4) | ((with_reducible refine gc_ (f := 52) rfl ?_); refine gl_ 32 Tryd.func52 #[.slice A0_3 l0_3.length c0_3, .int .i64 a1_1] ?_; (with_reducible refine (spec_l12Place.calls k _ _ l0_3 a1_1 t2 _ ?side1 ?side2 A4.out).mono ?_); (case side1 => exact cb_ HR0_3.out b2i7_); (case side2 => exact HC0_3.out); rintro e w' ⟨rfl, ⟨nd, rfl⟩⟩; refine ⟨_, rfl, ?_⟩) | ((with_reducible refine gc_ (f := 88) rfl ?_); refine gl_ 37 Tryd.func88 #[.agg #[.int .i64 t4, .bool t5, .slice Ao1 t6.length co1], .int .i64 a1_1] ?_; (with_reducible refine (spec_l2Without.calls k t4 t5 _ _ t6 a1_1 t9 t10 t11 _ ?side1 ?side2 A6.out).mono ?_); (case side1 => refine (rr_ (e := 3) (base := w.heap.size) (ok := fun k_ => no_ (.slice Ao2 t7.length co2) k_) (n := t6.length) (c := co1) ?_).2.2; exact bq0f_); (case side2 => exact (rr_ HO1.out).2.1); rintro e w6 ⟨v5, rfl, ho0, hb⟩; refine ⟨_, rfl, ?_⟩; have HO3 := A0_ (Kd.R_lower (Kd.R_new' (Kd.R_new' ho0 (Kd.R_lt bq0f_)) (Kd.R_lt bu3r_)) (bz_ b2i7_)); replace HO1 := A0_ (Kd.R_elder' bq0f_ (Kd.R_base ho0) hb); replace HO2 := A0_ (Kd.R_elder' bu3r_ (Kd.R_base ho0) hb); replace BK1 := k1_ BK1 hb; replace BK2 := k1_ BK2 hb; replace BK3 := k1_ BK3 hb; replace BK4 := k2_ (.cells #[.int .i64 t4, .bool t5, .slice Ao1 t6.length co1, .slice Ao2 t7.length co2, .int .i64 t8] 26 (0, 0)) BK4 hb; replace HB := hb_ hb b2i7_; (try clear hb); (try clear ho0); have hcz5 := z5_ BK4; obtain ⟨Ao3, co3, eo3⟩ := Kd.R_slice HO3.out; subst eo3))
  have n0_ : Aside0 (Kd.R (Kd.int .i64) 3 (((w6.setCell ⟨gb4, 0, none⟩ (.int .i64 t9)).setCell ⟨gb4, 1, none⟩ (.bool t10)).setCell ⟨gb4, 2, none⟩ (.slice Ao3 t11.length co3)) w.heap.size (fun k_ => no_ (.slice Ao2 t7.length co2) k_ ∧ no_ (.slice Ao3 t11.length co3) k_) (.slice Ao1 t6.length co1) t6) := ⟨by (with_reducible repeat (first | apply ra_ | apply rn_ | apply rd_)); exact Kd.R_mono (rf_ (rf_ (rf_ (Kd.R_types HO1.out BK4.out bi3y_) k2_0 _) k2_0 _) k2_0 _) (fun _ hk => ⟨hk.1.1, hk.1.2⟩)⟩
  have n1_ : Aside0 (Kd.R (Kd.int .i64) 3 (((w6.setCell ⟨gb4, 0, none⟩ (.int .i64 t9)).setCell ⟨gb4, 1, none⟩ (.bool t10)).setCell ⟨gb4, 2, none⟩ (.slice Ao3 t11.length co3)) w.heap.size (fun k_ => no_ (.slice Ao1 t6.length co1) k_ ∧ no_ (.slice Ao3 t11.length co3) k_) (.slice Ao2 t7.length co2) t7) := ⟨by (with_reducible repeat (first | apply ra_ | apply rn_ | apply rd_)); exact Kd.R_mono (rf_ (rf_ (rf_ (Kd.R_types HO2.out BK4.out bi3y_) k2_0 _) k2_0 _) k2_0 _) (fun _ hk => ⟨hk.1.1, hk.1.2⟩)⟩
  have n2_ : Aside0 (Kd.R (Kd.int .i64) 3 (((w6.setCell ⟨gb4, 0, none⟩ (.int .i64 t9)).setCell ⟨gb4, 1, none⟩ (.bool t10)).setCell ⟨gb4, 2, none⟩ (.slice Ao3 t11.length co3)) w.heap.size (fun k_ => no_ (.slice Ao1 t6.length co1) k_ ∧ no_ (.slice Ao2 t7.length co2) k_) (.slice Ao3 t11.length co3) t11) := ⟨by (with_reducible repeat (first | apply ra_ | apply rn_ | apply rd_)); exact Kd.R_mono (rf_ (rf_ (rf_ (Kd.R_types HO3.out BK4.out bi3y_) k2_0 _) k2_0 _) k2_0 _) (fun _ hk => ⟨hk.1.1.2, hk.1.2⟩)⟩
  have n3_ : Aside0 ((((w6.setCell ⟨gb4, 0, none⟩ (.int .i64 t9)).setCell ⟨gb4, 1, none⟩ (.bool t10)).setCell ⟨gb4, 2, none⟩ (.slice Ao3 t11.length co3)).heap[gb1]? = some (.cells #[.int .i64 a0_0, .bool a0_1, .slice A0_2 l0_2.length c0_2, .slice A0_3 l0_3.length c0_3, .int .i64 a0_4] 26 (0, 0))) := ⟨u1_ BK1⟩
  have n4_ : Aside0 ((((w6.setCell ⟨gb4, 0, none⟩ (.int .i64 t9)).setCell ⟨gb4, 1, none⟩ (.bool t10)).setCell ⟨gb4, 2, none⟩ (.slice Ao3 t11.length co3)).heap[gb2]? = some (.cells #[.int .i64 a1_0, .int .i64 a1_1, .int .i64 a1_2] 45 (0, 0))) := ⟨u1_ BK2⟩
  have n5_ : Aside0 ((((w6.setCell ⟨gb4, 0, none⟩ (.int .i64 t9)).setCell ⟨gb4, 1, none⟩ (.bool t10)).setCell ⟨gb4, 2, none⟩ (.slice Ao3 t11.length co3)).heap[gb3]? = some (.cells #[.int .i64 0, .bool false, .slice none 0 0, .slice none 0 0, .int .i64 0] 26 (0, 0))) := ⟨u1_ BK3⟩
  have n6_ : Aside0 ((((w6.setCell ⟨gb4, 0, none⟩ (.int .i64 t9)).setCell ⟨gb4, 1, none⟩ (.bool t10)).setCell ⟨gb4, 2, none⟩ (.slice Ao3 t11.length co3)).heap[gb4]? = some (.cells #[.int .i64 t9, .bool t10, .slice Ao3 t11.length co3, .slice Ao2 t7.length co2, .int .i64 t8] 26 (0, 0))) := ⟨u1_ BK4⟩
  have n7_ : Aside0 (Below w.heap.size w (((w6.setCell ⟨gb4, 0, none⟩ (.int .i64 t9)).setCell ⟨gb4, 1, none⟩ (.bool t10)).setCell ⟨gb4, 2, none⟩ (.slice Ao3 t11.length co3))) := ⟨b2i7_⟩
  (try clear HO1)
  (try clear HO2)
  (try clear HO3)
  (try clear BK1)
  (try clear BK2)
  (try clear BK3)
  (try clear BK4)
  (try clear HB)
  generalize (((w6.setCell ⟨gb4, 0, none⟩ (.int .i64 t9)).setCell ⟨gb4, 1, none⟩ (.bool t10)).setCell ⟨gb4, 2, none⟩ (.slice Ao3 t11.length co3)) = w7 at n0_ n1_ n2_ n3_ n4_ n5_ n6_ n7_ ⊢
  have HO1 := n0_
  have HO2 := n1_
  have HO3 := n2_
  have BK1 := n3_
  have BK2 := n4_
  have BK3 := n5_
  have BK4 := n6_
  have HB := n7_
  clear n0_ n1_ n2_ n3_ n4_ n5_ n6_ n7_
  replace HO1 := A0_ (rd_ HO1.out)
  replace HO2 := A0_ (rd_ HO2.out)
  replace HO3 := A0_ (rd_ HO3.out)
  replace BK1 := A0_ (kd_ BK1.out)
  replace BK2 := A0_ (kd_ BK2.out)
  replace BK3 := A0_ (kd_ BK3.out)
  replace BK4 := A0_ (kd_ BK4.out)
  replace HB := A0_ (bd_ HB.out)
  have q1 : (t2 : Int) ≤ ((t7.length : Int) : Int) := od_ bpil_
  obtain ⟨i091, hi091, _, hsz91, _⟩ := info_parts info3
  have hroom91 : t7.length ≤ co2 := (rr_ HO2.out).2.1
  have hC91 : Kd.C (Kd.int .i64) _ Ao2 t7.length t7 := (rr_ HO2.out).2.2
  have hcut91 := cut_to (P := Tryd.prog) 22 3 .i64 Tryd.underlying22 hi091 Ao2 t7.length co2 t2 (od_ bpil_) q1 hroom91
  have hr91 := Kd.C_take (m := (t2 : Int).toNat) hC91 bh19_
  have hy4 : y1.length = (t2 : Int).toNat := (by rw [Ny1.out, lt_]; omega)
  rw [← Ny1.out] at hr91
  rw [← hy4] at hcut91
  have HR368 := A0_ hr91
  have HC368 := A0_ (show y1.length ≤ co2 from bh19_)
  clear hr91 hC91 hroom91 hi091 hsz91
  have KY91 := A0_ hy4
  clear hy4
  have KL91 := A0_ (show (t2 : Int).toNat ≤ t7.length from bh19_)
  replace q1 := eq_true q1
  have q2 : ((ji1) : Int) ≤ ((t7.length : Int) : Int) := od_ bpil_
  obtain ⟨i092, hi092, _, hsz92, _⟩ := info_parts info3
  have hroom92 : t7.length ≤ co2 := (rr_ HO2.out).2.1
  have hC92 : Kd.C (Kd.int .i64) _ Ao2 t7.length t7 := (rr_ HO2.out).2.2
  have q3 : (0 : Int) ≤ ((ji1) : Int) := od_ bpil_
  have hcut92 := cut_from (P := Tryd.prog) 22 3 .i64 Tryd.underlying22 hi092 1 hsz92 Ao2 t7.length co2 (ji1) q3 q2
  have hr92 := Kd.C_drop (m := ((ji1) : Int).toNat) (c := co2) hC92 bh19_ hroom92
  obtain ⟨A7, hA92⟩ : ∃ A8, A8 = (if co2 = ((ji1) : Int).toNat then Ao2 else (Ao2 : Option Addr).map (·.add (((ji1) : Int).toNat * 1))) := ⟨_, rfl⟩
  obtain ⟨c8, hc92⟩ : ∃ c9, c9 = co2 - ((ji1) : Int).toNat := ⟨_, rfl⟩
  have hy5 : y2.length = t7.length - ((ji1) : Int).toNat := (by rw [Ny2.out, ld_] <;> omega)
  rw [show (t7).drop ((ji1) : Int).toNat = y2 from Ny2.out.symm] at hr92
  replace hr92 : Kd.C (Kd.int .i64) _ A7 y2.length y2 := (by rw [hA92]; exact hr92)
  rw [← hy5, ← hA92, ← hc92] at hcut92
  have HR372 := A0_ hr92
  have HC372 := A0_ (show y2.length ≤ c8 from by rw [hy5, hc92]; exact Nat.sub_le_sub_right hroom92 _)
  clear hr92 hC92 hroom92 hi092 hsz92 hc92
  have KY92 := A0_ hy5
  have KA92 := A0_ hA92
  clear hy5 hA92
  have KL92 := A0_ (show ((ji1) : Int).toNat ≤ t7.length from bh19_)
  replace q2 := eq_true q2
  obtain ⟨go94, co4, eo4, gb5, gl94, cl94, HG94⟩ := Kd.R_form HO2.out (by have hj_ : 0 ≤ (t2 : Int) := od_ bpil_; have hl_ : (ji1 : Int) ≤ (t7.length : Int) := od_ bpil_; have hh_ : (t2 : Int) ≤ (t7.length : Int) := od_ bpil_; rw [← hji1] at hl_; unfold wrap64 at hl_; omega)
  (first | cases eo4 | (injection eo4 with ea_ en_ ec_; (first | subst ea_ | (injection ea_ with ea_; subst ea_)); subst ec_; clear en_))
  have GB94 := A0_ gb5
  have GG94 := A0_ HG94
  clear gb5 gl94 HG94
  refine s5_ 12 [11] BK4 spec_l12Make.tab10 spec_l12Make.bits10 (fun hHeld HT_ HW_ => ?_)
  generalize w7.drew = w8 at HO1 HO2 HO3 BK1 BK2 BK3 BK4 HB GG94 HR368 HR372 hHeld ⊢
  refine pu_ 0 39 ?_
  refine pu_ 2 41 ?_
  refine pu_ 4 43 ?_
  refine pu_ 6 45 ?_
  refine pu_ 7 46 ?_
  refine tk_ 1 40 hHeld ?_
  refine pu_ 3 42 ?_
  refine tk_ 5 44 hHeld ?_
  refine pu_ 8 47 ?_
  refine on_ 9 (some 48) (fun K hK => ?_)
  have hj_ : 0 ≤ (t2 : Int) := od_ bpil_
  have hl_ : (ji1 : Int) ≤ (t7.length : Int) := od_ bpil_
  have hh_ : (t2 : Int) ≤ (t7.length : Int) := od_ bpil_
  have hb_ := (rr_ HO2.out).2.2.2.1
  have h0_ : (0 : Int) ≤ (ji1 : Int) := od_ bpil_
  have hy6_ := KY91.out
  have hk_ : (ji1 : Int).toNat = y1.length + 1 := (by have hw_ : (ji1 : Int) = t2 + 1 := (by have h00_ := h0_; rw [← hji1] at h00_ ⊢; unfold wrap64 at h00_ ⊢; omega); rw [hw_]; omega)
  refine Kd.R_delete_step (Kd.int .i64) (w0 := w) w.heap.size (by rfl) (.tmp 42) (.tmp 47) 22 3 rfl Tryd.underlying22 bfqv_ (g := go94) (n := t7.length) (c := co2) (k := y1.length) rfl rfl ?hA ?hm b9so_ ?hk b2i7_ (bz_ b2i7_) ?_
  (case hA => have ha_ := KA92.out; rw [hk_] at ha_; exact ha_)
  (case hm => have ha_ := KY92.out; omega)
  (case hk => omega)
  intro w9 ho hb hg
  clear hj_ hl_ hh_ hb_ hk_ h0_
  rw [hy6_, ← Ny3.out] at ho
  clear hy6_
  have hn_ : t7.length - 1 = y3.length := (by have := (rr_ ho).1; omega)
  rw [hn_] at ho ⊢
  clear hn_
  replace BK1 := A0_ (blk_grown (g := gb1) (o := .cells #[.int .i64 a0_0, .bool a0_1, .slice A0_2 l0_2.length c0_2, .slice A0_3 l0_3.length c0_3, .int .i64 a0_4] 26 (0, 0)) (u1_ BK1) hg (Kd.R_ne HO2.out BK1.out bi3y_))
  replace BK2 := A0_ (blk_grown (g := gb2) (o := .cells #[.int .i64 a1_0, .int .i64 a1_1, .int .i64 a1_2] 45 (0, 0)) (u1_ BK2) hg (Kd.R_ne HO2.out BK2.out bi3y_))
  replace BK3 := A0_ (blk_grown (g := gb3) (o := .cells #[.int .i64 0, .bool false, .slice none 0 0, .slice none 0 0, .int .i64 0] 26 (0, 0)) (u1_ BK3) hg (Kd.R_ne HO2.out BK3.out bi3y_))
  replace HO1 := A0_ (Kd.R_after (v := (.slice (some ⟨go94, 0, none⟩) t7.length co2)) (v1 := .slice (some ⟨go94, 0, none⟩) y3.length co2) (ok := (fun k_ => no_ (.slice Ao3 t11.length co3) k_)) (by (with_reducible repeat (first | apply ra_ | apply rn_ | apply rd_)); exact Kd.R_mono HO1.out (fun _ hk => ⟨hk.2, hk.1⟩)) hg (.inl rfl))
  replace BK4 := A0_ (blk_grown (g := gb4) (o := .cells #[.int .i64 t9, .bool t10, .slice Ao3 t11.length co3, .slice (some ⟨go94, 0, none⟩) t7.length co2, .int .i64 t8] 26 (0, 0)) (u1_ BK4) hg (Kd.R_ne HO2.out BK4.out bi3y_))
  replace HO2 := A0_ (ho)
  replace HO3 := A0_ (Kd.R_after (v := (.slice (some ⟨go94, 0, none⟩) t7.length co2)) (v1 := .slice (some ⟨go94, 0, none⟩) y3.length co2) (ok := (fun k_ => no_ (.slice Ao1 t6.length co1) k_)) buiy_ hg (.inl rfl))
  replace HB := A0_ (hb)
  clear ho hb hg
  refine hK.out _ _ (c5_ BK4) (fun hHeld => ?_)
  clear hK K
  refine nm_ 48 ?_
  refine pu_ 10 49 ?_
  refine last_ (i := 11) (N := none) #[true, true, true, true, true, true, true, true, true, true, true, true] rfl rfl (one_of HT_.out bfqv_) bi3y_ (fun K hK => ?_)
  have hs95 : w9.cell? ⟨gb4, 3, none⟩ = some (.slice (some ⟨go94, 0, none⟩) t7.length co2) := (kc_ BK4.out 3).trans rfl
  have hfs95 := kf_ BK4.out 3
  have hns1_0 := NB1_4.out
  have hns1_1 := NB2_4.out
  have hns1_2 := NB3_4.out
  have hms1_0 := NB4_1.out
  have hms1_1 := NB4_2.out
  have hms1_2 := NB4_3.out
  refine skip_ (w1 := ?_) (by rfl) rfl ?_ ?_
  rotate_left
  ·go_simp
   rfl
  refine hK.out _ _ ?_
  clear hK K
  refine dn_ ?_
  have hcz6 := z5_ BK4
  have hcz7 := z5_ BK3
  try go_wp2
  refine bodyPost_ret (results_cell_row rfl _ _ gb3 26 #[.int .i64 t9, .bool t10, .slice Ao3 t11.length co3, .slice (some ⟨go94, 0, none⟩) y3.length co2, .int .i64 t8] (0, 0) _ rfl (u1_ BK3) Tryd.underlying26 rfl bfqv_) rfl ?_
  exact ⟨_, _, bfw0_, by (with_reducible repeat (first | apply ra_ | apply rn_ | apply rd_)); exact Kd.R_mono (rf_ (rf_ (rf_ (rf_ (rf_ (rf_ (Kd.R_types (Kd.R_types HO3.out BK4.out bi3y_) BK3.out bi3y_) (fun _ hk => hk.1.2) (.slice (some ⟨go94, 0, none⟩) y3.length co2)) k2_0 _) k2_0 _) k2_0 _) k2_0 _) k2_0 _) (fun _ hk => hk.1.1.2), by (with_reducible repeat (first | apply ra_ | apply rn_ | apply rd_)); exact Kd.R_mono (rf_ (rf_ (rf_ (rf_ (rf_ (rf_ (Kd.R_types (Kd.R_types HO2.out BK4.out bi3y_) BK3.out bi3y_) (fun _ hk => hk.1.2) (.slice (some ⟨go94, 0, none⟩) y3.length co2)) k2_0 _) k2_0 _) k2_0 _) k2_0 _) k2_0 _) (fun _ hk => hk.1.1.2), b2i7_⟩
 rw [if_neg c3] at H
 obtain ⟨c3b0, c3b1⟩ := ef_ c3
 by_cases c4 : a1_0 = 4
 case neg =>
  rw [if_neg c4] at H
  obtain ⟨c4b0, c4b1⟩ := ef_ c4
  by_cases c5 : a1_0 = 5
  case neg =>
   rw [if_neg c5] at H
   obtain ⟨c5b0, c5b1⟩ := ef_ c5
   simp only [sj_, pj_] at H
   obtain ⟨rfl, rfl, rfl, rfl, rfl⟩ := H
   go_enter Tryd.func70, Tryd.ntmps70
   go_wp2_with (first | ((with_reducible refine gd_ (N := 2) rfl ?_); refine bx_ 2 #[.int .i64 a0_0, .bool a0_1, .slice A0_2 l0_2.length c0_2, .slice A0_3 l0_3.length c0_3, .int .i64 a0_4] 26 ?_; intro gb1 hg w1 BK1 hb; have GW1 := ge_ hg brt4_; have GE1 := GW1; replace HB := hb_ hb brt4_; clear hb hg) | ((with_reducible refine gd_ (N := 3) rfl ?_); refine bx_ 3 #[.int .i64 a1_0, .int .i64 a1_1, .int .i64 a1_2] 45 ?_; intro gb2 hg w2 BK2 hb; have GW2 := ge_ hg be6g_; have GE2 := GW2; replace HB := hb_ hb be6g_; have NB1_2 := nl_ hg BK1; have NB2_1 := ng_ hg BK1; replace BK1 := k1_ BK1 hb; clear hb hg) | ((with_reducible refine gd_ (N := 4) rfl ?_); refine bx_ 4 #[.int .i64 0, .bool false, .slice none 0 0, .slice none 0 0, .int .i64 0] 26 ?_; intro gb3 hg w3 BK3 hb; have GW3 := ge_ hg bfnq_; have GE3 := GW3; replace HB := hb_ hb bfnq_; have NB1_3 := nl_ hg BK1; have NB3_1 := ng_ hg BK1; replace BK1 := k1_ BK1 hb; have NB2_3 := nl_ hg BK2; have NB3_2 := ng_ hg BK2; replace BK2 := k1_ BK2 hb; clear hb hg; have hnb1 := NB1_2.out; have hnc1 := NB2_1.out; have hnb2 := NB1_3.out; have hnc2 := NB3_1.out; have hcz1 := z5_ BK1) | ((with_reducible refine gc_ (f := 31) rfl ?_); refine gl_ 8 Tryd.func31 #[.agg #[.int .i64 a0_0, .bool a0_1, .slice A0_2 l0_2.length c0_2, .slice A0_3 l0_3.length c0_3, .int .i64 a0_4]] ?_; (with_reducible refine (spec_l12Own.calls a0_0 a0_1 _ _ l0_2 _ _ l0_3 a0_4 t4 t5 t6 t7 t8 _ ?side1 ?side2 ?side3 ?side4 A2.out).mono ?_); (case side1 => exact b6n8_); (case side2 => exact HC0_2.out); (case side3 => exact bkan_); (case side4 => exact HC0_3.out); rintro e w4 ⟨v1, v4, rfl, ho0, ho1, hb⟩; refine ⟨_, rfl, ?_⟩; have HO1 := A0_ (Kd.R_lower ho0 (bz_ b850_)); have HO2 := A0_ (Kd.R_lower ho1 (bz_ b850_)); replace BK1 := k1_ BK1 hb; replace BK2 := k1_ BK2 hb; replace BK3 := k1_ BK3 hb; replace HB := hb_ hb b850_; (try clear hb); (try clear ho0); (try clear ho1)) | ((with_reducible refine gd_ (N := 5) rfl ?_); refine bx_ 5 #[.int .i64 0, .bool false, .slice none 0 0, .slice none 0 0, .int .i64 0] 26 ?_; intro gb4 hg w5 BK4 hb; replace HO1 := A0_ (Kd.R_below bsm5_ hb); replace HO2 := A0_ (Kd.R_below b9so_ hb); have GW4 := ge_ hg b850_; have GE4 := GW4; replace HB := hb_ hb b850_; have NB1_4 := nl_ hg BK1; have NB4_1 := ng_ hg BK1; replace BK1 := k1_ BK1 hb; have NB2_4 := nl_ hg BK2; have NB4_2 := ng_ hg BK2; replace BK2 := k1_ BK2 hb; have NB3_4 := nl_ hg BK3; have NB4_3 := ng_ hg BK3; replace BK3 := k1_ BK3 hb; clear hb hg; have hnb3 := NB4_1.out; have hnc3 := NB1_4.out; have hnb4 := NB4_2.out; have hnc4 := NB2_4.out; have hnb5 := NB4_3.out; have hnc5 := NB3_4.out; have hcz2 := z5_ BK4; obtain ⟨Ao1, co1, eo1⟩ := Kd.R_slice HO1.out; subst eo1; obtain ⟨Ao2, co2, eo2⟩ := Kd.R_slice HO2.out; subst eo2; have hnb6 := NB2_3.out; have hnc6 := NB3_2.out; have hcz3_0 : w5.cell? ⟨gb2, 0, none⟩ = some (.int .i64 a1_0) := (kc_ BK2.out 0).trans rfl; have hcz3_1 : w5.cell? ⟨gb2, 1, none⟩ = some (.int .i64 a1_1) := (kc_ BK2.out 1).trans rfl; have hcz3_2 : w5.cell? ⟨gb2, 2, none⟩ = some (.int .i64 a1_2) := (kc_ BK2.out 2).trans rfl; have hfz3_0 := kf_ BK2.out 0; have hfz3_1 := kf_ BK2.out 1; have hfz3_2 := kf_ BK2.out 2; have hcz4_0 : w5.cell? ⟨gb3, 0, none⟩ = some (.int .i64 0) := (kc_ BK3.out 0).trans rfl; have hcz4_1 : w5.cell? ⟨gb3, 1, none⟩ = some (.bool false) := (kc_ BK3.out 1).trans rfl; have hcz4_2 : w5.cell? ⟨gb3, 2, none⟩ = some (.slice none 0 0) := (kc_ BK3.out 2).trans rfl; have hcz4_3 : w5.cell? ⟨gb3, 3, none⟩ = some (.slice none 0 0) := (kc_ BK3.out 3).trans rfl; have hcz4_4 : w5.cell? ⟨gb3, 4, none⟩ = some (.int .i64 0) := (kc_ BK3.out 4).trans rfl; have hfz4_0 := kf_ BK3.out 0; have hfz4_1 := kf_ BK3.out 1; have hfz4_2 := kf_ BK3.out 2; have hfz4_3 := kf_ BK3.out 3; have hfz4_4 := kf_ BK3.out 4))
   refine bodyPost_ret (results_cell_row rfl _ _ gb3 26 #[.int .i64 t4, .bool t5, .slice Ao1 t6.length co1, .slice Ao2 t7.length co2, .int .i64 t8] (0, 0) _ rfl (u1_ BK3) Tryd.underlying26 rfl bfqv_) rfl ?_
   exact ⟨_, _, bnwh_, by (with_reducible repeat (first | apply ra_ | apply rn_ | apply rd_)); exact Kd.R_mono (rf_ (rf_ (rf_ (rf_ (rf_ (rf_ (rf_ (rf_ (rf_ (rf_ (Kd.R_types (Kd.R_types HO1.out BK4.out bi3y_) BK3.out bi3y_) (fun _ hk => hk.1.2) (.int .i64 t4)) (fun _ hk => hk.1.2) (.bool t5)) (fun _ hk => hk.1.2) (.slice Ao1 t6.length co1)) (fun _ hk => hk.1.2) (.slice Ao2 t7.length co2)) (fun _ hk => hk.1.2) (.int .i64 t8)) k2_0 _) k2_0 _) k2_0 _) k2_0 _) k2_0 _) (fun _ hk => hk.1.1), by (with_reducible repeat (first | apply ra_ | apply rn_ | apply rd_)); exact Kd.R_mono (rf_ (rf_ (rf_ (rf_ (rf_ (rf_ (rf_ (rf_ (rf_ (rf_ (Kd.R_types (Kd.R_types HO2.out BK4.out bi3y_) BK3.out bi3y_) (fun _ hk => hk.1.2) (.int .i64 t4)) (fun _ hk => hk.1.2) (.bool t5)) (fun _ hk => hk.1.2) (.slice Ao1 t6.length co1)) (fun _ hk => hk.1.2) (.slice Ao2 t7.length co2)) (fun _ hk => hk.1.2) (.int .i64 t8)) k2_0 _) k2_0 _) k2_0 _) k2_0 _) k2_0 _) (fun _ hk => hk.1.1), b2i7_⟩
  rw [if_pos c5] at H
  obtain ⟨c5b0, c5b1⟩ := et_ c5
  clear c5
  obtain ⟨y1, hy1⟩ : ∃ y_ : List Int, y_ = (([] : List Int)) := ⟨_, rfl⟩
  replace H : (some (t4, t5, y1, (([] : List Int)), t8)) = some (r1, r2, r3, r4, r5) := bgiq_
  have Ny1 := A0_ hy1
  clear hy1
  obtain ⟨y2, hy2⟩ : ∃ y_ : List Int, y_ = (([] : List Int)) := ⟨_, rfl⟩
  replace H : (some (t4, t5, y1, y2, t8)) = some (r1, r2, r3, r4, r5) := bscs_
  have Ny2 := A0_ hy2
  clear hy2
  simp only [sj_, pj_] at H
  obtain ⟨rfl, rfl, rfl, rfl, rfl⟩ := H
  go_enter Tryd.func70, Tryd.ntmps70
  go_wp2_with (first | ((with_reducible refine gd_ (N := 2) rfl ?_); refine bx_ 2 #[.int .i64 a0_0, .bool a0_1, .slice A0_2 l0_2.length c0_2, .slice A0_3 l0_3.length c0_3, .int .i64 a0_4] 26 ?_; intro gb1 hg w1 BK1 hb; have GW1 := ge_ hg brt4_; have GE1 := GW1; replace HB := hb_ hb brt4_; clear hb hg) | ((with_reducible refine gd_ (N := 3) rfl ?_); refine bx_ 3 #[.int .i64 a1_0, .int .i64 a1_1, .int .i64 a1_2] 45 ?_; intro gb2 hg w2 BK2 hb; have GW2 := ge_ hg be6g_; have GE2 := GW2; replace HB := hb_ hb be6g_; have NB1_2 := nl_ hg BK1; have NB2_1 := ng_ hg BK1; replace BK1 := k1_ BK1 hb; clear hb hg) | ((with_reducible refine gd_ (N := 4) rfl ?_); refine bx_ 4 #[.int .i64 0, .bool false, .slice none 0 0, .slice none 0 0, .int .i64 0] 26 ?_; intro gb3 hg w3 BK3 hb; have GW3 := ge_ hg bfnq_; have GE3 := GW3; replace HB := hb_ hb bfnq_; have NB1_3 := nl_ hg BK1; have NB3_1 := ng_ hg BK1; replace BK1 := k1_ BK1 hb; have NB2_3 := nl_ hg BK2; have NB3_2 := ng_ hg BK2; replace BK2 := k1_ BK2 hb; clear hb hg; have hnb1 := NB1_2.out; have hnc1 := NB2_1.out; have hnb2 := NB1_3.out; have hnc2 := NB3_1.out; have hcz1 := z5_ BK1) | ((with_reducible refine gc_ (f := 31) rfl ?_); refine gl_ 8 Tryd.func31 #[.agg #[.int .i64 a0_0, .bool a0_1, .slice A0_2 l0_2.length c0_2, .slice A0_3 l0_3.length c0_3, .int .i64 a0_4]] ?_; (with_reducible refine (spec_l12Own.calls a0_0 a0_1 _ _ l0_2 _ _ l0_3 a0_4 t4 t5 t6 t7 t8 _ ?side1 ?side2 ?side3 ?side4 A2.out).mono ?_); (case side1 => exact b6n8_); (case side2 => exact HC0_2.out); (case side3 => exact bkan_); (case side4 => exact HC0_3.out); rintro e w4 ⟨v1, v4, rfl, ho0, ho1, hb⟩; refine ⟨_, rfl, ?_⟩; have HO1 := A0_ (Kd.R_lower ho0 (bz_ b850_)); have HO2 := A0_ (Kd.R_lower ho1 (bz_ b850_)); replace BK1 := k1_ BK1 hb; replace BK2 := k1_ BK2 hb; replace BK3 := k1_ BK3 hb; replace HB := hb_ hb b850_; (try clear hb); (try clear ho0); (try clear ho1)) | ((with_reducible refine gd_ (N := 5) rfl ?_); refine bx_ 5 #[.int .i64 0, .bool false, .slice none 0 0, .slice none 0 0, .int .i64 0] 26 ?_; intro gb4 hg w5 BK4 hb; replace HO1 := A0_ (Kd.R_below bsm5_ hb); replace HO2 := A0_ (Kd.R_below b9so_ hb); have GW4 := ge_ hg b850_; have GE4 := GW4; replace HB := hb_ hb b850_; have NB1_4 := nl_ hg BK1; have NB4_1 := ng_ hg BK1; replace BK1 := k1_ BK1 hb; have NB2_4 := nl_ hg BK2; have NB4_2 := ng_ hg BK2; replace BK2 := k1_ BK2 hb; have NB3_4 := nl_ hg BK3; have NB4_3 := ng_ hg BK3; replace BK3 := k1_ BK3 hb; clear hb hg; have hnb3 := NB4_1.out; have hnc3 := NB1_4.out; have hnb4 := NB4_2.out; have hnc4 := NB2_4.out; have hnb5 := NB4_3.out; have hnc5 := NB3_4.out; have hcz2 := z5_ BK4; obtain ⟨Ao1, co1, eo1⟩ := Kd.R_slice HO1.out; subst eo1; obtain ⟨Ao2, co2, eo2⟩ := Kd.R_slice HO2.out; subst eo2; have hnb6 := NB2_3.out; have hnc6 := NB3_2.out; have hcz3_0 : w5.cell? ⟨gb2, 0, none⟩ = some (.int .i64 a1_0) := (kc_ BK2.out 0).trans rfl; have hcz3_1 : w5.cell? ⟨gb2, 1, none⟩ = some (.int .i64 a1_1) := (kc_ BK2.out 1).trans rfl; have hcz3_2 : w5.cell? ⟨gb2, 2, none⟩ = some (.int .i64 a1_2) := (kc_ BK2.out 2).trans rfl; have hfz3_0 := kf_ BK2.out 0; have hfz3_1 := kf_ BK2.out 1; have hfz3_2 := kf_ BK2.out 2) | ((with_reducible refine gd_ (N := 73) rfl ?_); refine Kd.R_lit (Kd.int .i64) _ 3 ?hg (N := 73) ?hd (xs := ([] : List Int)) (inner := []) (ok := fun _ => True) (okp := fun _ => True) ?hr ?hp (fun _ hk => hk) trivial (Below.refl _ _) (Nat.le_refl _) bxka_ ?_; (case hd => rfl); (case hg => rfl); (case hr => go_simp; first | done | rfl); (case hp => exact (Reps.none _ _)); intro v5 w6 ho154 hb hg_ hnew_; clear hg_ hnew_; (first | rw [← Ny1.out] at ho154 | (simp only [Int.reduceToNat] at ho154; rw [← Ny1.out] at ho154)); have HO3 := A0_ (Kd.R_lower (Kd.R_new' (Kd.R_new' ho154 (Kd.R_lt bq0f_)) (Kd.R_lt bu3r_)) (bz_ b2i7_)); replace HO1 := A0_ (Kd.R_elder' bq0f_ (Kd.R_base ho154) hb); replace HO2 := A0_ (Kd.R_elder' bu3r_ (Kd.R_base ho154) hb); replace BK1 := k1_ BK1 hb; replace BK2 := k1_ BK2 hb; replace BK3 := k1_ BK3 hb; replace BK4 := k2_ (.cells #[.int .i64 t4, .bool t5, .slice Ao1 t6.length co1, .slice Ao2 t7.length co2, .int .i64 t8] 26 (0, 0)) BK4 hb; replace HB := hb_ hb b2i7_; clear hb ho154; obtain ⟨Ao3, co3, eo3⟩ := Kd.R_slice HO3.out; subst eo3; have hcz4 := z5_ BK4) | ((with_reducible refine gd_ (N := 76) rfl ?_); refine Kd.R_lit (Kd.int .i64) _ 3 ?hg (N := 76) ?hd (xs := ([] : List Int)) (inner := []) (ok := fun _ => True) (okp := fun _ => True) ?hr ?hp (fun _ hk => hk) trivial (Below.refl _ _) (Nat.le_refl _) bxka_ ?_; (case hd => rfl); (case hg => rfl); (case hr => go_simp; first | done | rfl); (case hp => exact (Reps.none _ _)); intro v6 w7 ho158 hb hg_ hnew_; clear hg_ hnew_; (first | rw [← Ny2.out] at ho158 | (simp only [Int.reduceToNat] at ho158; rw [← Ny2.out] at ho158)); have HO4 := A0_ (Kd.R_lower (Kd.R_new' (Kd.R_new' (Kd.R_new' ho158 (Kd.R_lt b2b7_)) (Kd.R_lt bl08_)) (Kd.R_lt b9vj_)) (bz_ b2i7_)); replace HO1 := A0_ (Kd.R_elder' b2b7_ (Kd.R_base ho158) hb); replace HO2 := A0_ (Kd.R_elder' bl08_ (Kd.R_base ho158) hb); replace HO3 := A0_ (Kd.R_elder' b9vj_ (Kd.R_base ho158) hb); replace BK1 := k1_ BK1 hb; replace BK2 := k1_ BK2 hb; replace BK3 := k1_ BK3 hb; replace BK4 := k2_ (.cells #[.int .i64 t4, .bool t5, .slice Ao3 y1.length co3, .slice Ao2 t7.length co2, .int .i64 t8] 26 (0, 0)) BK4 hb; replace HB := hb_ hb b2i7_; clear hb ho158; obtain ⟨Ao4, co4, eo4⟩ := Kd.R_slice HO4.out; subst eo4; have hcz5 := z5_ BK4; have hcz6 := z5_ BK3))
  refine bodyPost_ret (results_cell_row rfl _ _ gb3 26 #[.int .i64 t4, .bool t5, .slice Ao3 y1.length co3, .slice Ao4 y2.length co4, .int .i64 t8] (0, 0) _ rfl (u1_ BK3) Tryd.underlying26 rfl bfqv_) rfl ?_
  exact ⟨_, _, bnwh_, by (with_reducible repeat (first | apply ra_ | apply rn_ | apply rd_)); exact Kd.R_mono (rf_ (rf_ (rf_ (rf_ (rf_ (rf_ (Kd.R_types (Kd.R_types HO3.out BK4.out bi3y_) BK3.out bi3y_) (fun _ hk => hk.1.2) (.slice Ao4 y2.length co4)) k2_0 _) k2_0 _) k2_0 _) k2_0 _) k2_0 _) (fun _ hk => hk.1.1.2), by (with_reducible repeat (first | apply ra_ | apply rn_ | apply rd_)); exact Kd.R_mono (rf_ (rf_ (rf_ (rf_ (rf_ (rf_ (Kd.R_types (Kd.R_types HO4.out BK4.out bi3y_) BK3.out bi3y_) (fun _ hk => hk.1.2) (.slice Ao4 y2.length co4)) k2_0 _) k2_0 _) k2_0 _) k2_0 _) k2_0 _) (fun _ hk => hk.1.1.2), b2i7_⟩
 rw [if_pos c4] at H
 obtain ⟨c4b0, c4b1⟩ := et_ c4
 clear c4
 obtain ⟨⟨t9, t10, t11⟩, A4, H⟩ := o1_ H
 obtain ⟨⟨t12, t13, t14⟩, A6, H⟩ := o1_ H
 obtain ⟨t3, A8, H⟩ := o1_ H
 by_cases c5 : 0 ≤ t3
 case neg =>
  rw [if_neg c5] at H
  exact absurd H bxka_
 rw [if_pos c5] at H
 have c5b0 : decide (0 ≤ t3) = true := dt_ c5
 clear c5
 by_cases c6 : t3 < (t7.length : Int)
 case neg =>
  rw [if_neg c6] at H
  exact absurd H bxka_
 rw [if_pos c6] at H
 have c6b0 : decide (t3 < (t7.length : Int)) = true := dt_ c6
 clear c6
 obtain ⟨y1, hy1⟩ : ∃ y_ : List Int, y_ = (t7.set (t3 : Int).toNat a1_2) := ⟨_, rfl⟩
 replace H : (some (t12, t13, t14, y1, t8)) = some (r1, r2, r3, r4, r5) := bgiq_
 have Ny1 := A0_ hy1
 clear hy1
 simp only [sj_, pj_] at H
 obtain ⟨rfl, rfl, rfl, rfl, rfl⟩ := H
 go_enter Tryd.func70, Tryd.ntmps70
 try go_wp2_with (first | ((with_reducible refine gd_ (N := 2) rfl ?_); refine bx_ 2 #[.int .i64 a0_0, .bool a0_1, .slice A0_2 l0_2.length c0_2, .slice A0_3 l0_3.length c0_3, .int .i64 a0_4] 26 ?_; intro gb1 hg w1 BK1 hb; have GW1 := ge_ hg brt4_; have GE1 := GW1; replace HB := hb_ hb brt4_; clear hb hg) | ((with_reducible refine gd_ (N := 3) rfl ?_); refine bx_ 3 #[.int .i64 a1_0, .int .i64 a1_1, .int .i64 a1_2] 45 ?_; intro gb2 hg w2 BK2 hb; have GW2 := ge_ hg be6g_; have GE2 := GW2; replace HB := hb_ hb be6g_; have NB1_2 := nl_ hg BK1; have NB2_1 := ng_ hg BK1; replace BK1 := k1_ BK1 hb; clear hb hg) | ((with_reducible refine gd_ (N := 4) rfl ?_); refine bx_ 4 #[.int .i64 0, .bool false, .slice none 0 0, .slice none 0 0, .int .i64 0] 26 ?_; intro gb3 hg w3 BK3 hb; have GW3 := ge_ hg bfnq_; have GE3 := GW3; replace HB := hb_ hb bfnq_; have NB1_3 := nl_ hg BK1; have NB3_1 := ng_ hg BK1; replace BK1 := k1_ BK1 hb; have NB2_3 := nl_ hg BK2; have NB3_2 := ng_ hg BK2; replace BK2 := k1_ BK2 hb; clear hb hg; have hnb1 := NB1_2.out; have hnc1 := NB2_1.out; have hnb2 := NB1_3.out; have hnc2 := NB3_1.out; have hcz1 := z5_ BK1) | ((with_reducible refine gc_ (f := 31) rfl ?_); refine gl_ 8 Tryd.func31 #[.agg #[.int .i64 a0_0, .bool a0_1, .slice A0_2 l0_2.length c0_2, .slice A0_3 l0_3.length c0_3, .int .i64 a0_4]] ?_; (with_reducible refine (spec_l12Own.calls a0_0 a0_1 _ _ l0_2 _ _ l0_3 a0_4 t4 t5 t6 t7 t8 _ ?side1 ?side2 ?side3 ?side4 A2.out).mono ?_); (case side1 => exact b6n8_); (case side2 => exact HC0_2.out); (case side3 => exact bkan_); (case side4 => exact HC0_3.out); rintro e w4 ⟨v1, v4, rfl, ho0, ho1, hb⟩; refine ⟨_, rfl, ?_⟩; have HO1 := A0_ (Kd.R_lower ho0 (bz_ b850_)); have HO2 := A0_ (Kd.R_lower ho1 (bz_ b850_)); replace BK1 := k1_ BK1 hb; replace BK2 := k1_ BK2 hb; replace BK3 := k1_ BK3 hb; replace HB := hb_ hb b850_; (try clear hb); (try clear ho0); (try clear ho1)) | ((with_reducible refine gd_ (N := 5) rfl ?_); refine bx_ 5 #[.int .i64 0, .bool false, .slice none 0 0, .slice none 0 0, .int .i64 0] 26 ?_; intro gb4 hg w5 BK4 hb; replace HO1 := A0_ (Kd.R_below bsm5_ hb); replace HO2 := A0_ (Kd.R_below b9so_ hb); have GW4 := ge_ hg b850_; have GE4 := GW4; replace HB := hb_ hb b850_; have NB1_4 := nl_ hg BK1; have NB4_1 := ng_ hg BK1; replace BK1 := k1_ BK1 hb; have NB2_4 := nl_ hg BK2; have NB4_2 := ng_ hg BK2; replace BK2 := k1_ BK2 hb; have NB3_4 := nl_ hg BK3; have NB4_3 := ng_ hg BK3; replace BK3 := k1_ BK3 hb; clear hb hg; have hnb3 := NB4_1.out; have hnc3 := NB1_4.out; have hnb4 := NB4_2.out; have hnc4 := NB2_4.out; have hnb5 := NB4_3.out; have hnc5 := NB3_4.out; have hcz2 := z5_ BK4; obtain ⟨Ao1, co1, eo1⟩ := Kd.R_slice HO1.out; subst eo1; obtain ⟨Ao2, co2, eo2⟩ := Kd.R_slice HO2.out; subst eo2; have hnb6 := NB2_3.out; have hnc6 := NB3_2.out; have hcz3_0 : w5.cell? ⟨gb2, 0, none⟩ = some (.int .i64 a1_0) := (kc_ BK2.out 0).trans rfl; have hcz3_1 : w5.cell? ⟨gb2, 1, none⟩ = some (.int .i64 a1_1) := (kc_ BK2.out 1).trans rfl; have hcz3_2 : w5.cell? ⟨gb2, 2, none⟩ = some (.int .i64 a1_2) := (kc_ BK2.out 2).trans rfl; have hfz3_0 := kf_ BK2.out 0; have hfz3_1 := kf_ BK2.out 1; have hfz3_2 := kf_ BK2.out 2))
 have n0_ : Aside0 (Kd.R (Kd.int .i64) 3 (((((w5.setCell ⟨gb4, 0, none⟩ (.int .i64 t4)).setCell ⟨gb4, 1, none⟩ (.bool t5)).setCell ⟨gb4, 2, none⟩ (.slice Ao1 t6.length co1)).setCell ⟨gb4, 3, none⟩ (.slice Ao2 t7.length co2)).setCell ⟨gb4, 4, none⟩ (.int .i64 t8)) w.heap.size (fun k_ => no_ (.slice Ao2 t7.length co2) k_) (.slice Ao1 t6.length co1) t6) := ⟨bha5_⟩
 have n1_ : Aside0 (Kd.R (Kd.int .i64) 3 (((((w5.setCell ⟨gb4, 0, none⟩ (.int .i64 t4)).setCell ⟨gb4, 1, none⟩ (.bool t5)).setCell ⟨gb4, 2, none⟩ (.slice Ao1 t6.length co1)).setCell ⟨gb4, 3, none⟩ (.slice Ao2 t7.length co2)).setCell ⟨gb4, 4, none⟩ (.int .i64 t8)) w.heap.size (fun k_ => no_ (.slice Ao1 t6.length co1) k_) (.slice Ao2 t7.length co2) t7) := ⟨bk8z_⟩
 have n2_ : Aside0 ((((((w5.setCell ⟨gb4, 0, none⟩ (.int .i64 t4)).setCell ⟨gb4, 1, none⟩ (.bool t5)).setCell ⟨gb4, 2, none⟩ (.slice Ao1 t6.length co1)).setCell ⟨gb4, 3, none⟩ (.slice Ao2 t7.length co2)).setCell ⟨gb4, 4, none⟩ (.int .i64 t8)).heap[gb1]? = some (.cells #[.int .i64 a0_0, .bool a0_1, .slice A0_2 l0_2.length c0_2, .slice A0_3 l0_3.length c0_3, .int .i64 a0_4] 26 (0, 0))) := ⟨u1_ BK1⟩
 have n3_ : Aside0 ((((((w5.setCell ⟨gb4, 0, none⟩ (.int .i64 t4)).setCell ⟨gb4, 1, none⟩ (.bool t5)).setCell ⟨gb4, 2, none⟩ (.slice Ao1 t6.length co1)).setCell ⟨gb4, 3, none⟩ (.slice Ao2 t7.length co2)).setCell ⟨gb4, 4, none⟩ (.int .i64 t8)).heap[gb2]? = some (.cells #[.int .i64 a1_0, .int .i64 a1_1, .int .i64 a1_2] 45 (0, 0))) := ⟨u1_ BK2⟩
 have n4_ : Aside0 ((((((w5.setCell ⟨gb4, 0, none⟩ (.int .i64 t4)).setCell ⟨gb4, 1, none⟩ (.bool t5)).setCell ⟨gb4, 2, none⟩ (.slice Ao1 t6.length co1)).setCell ⟨gb4, 3, none⟩ (.slice Ao2 t7.length co2)).setCell ⟨gb4, 4, none⟩ (.int .i64 t8)).heap[gb3]? = some (.cells #[.int .i64 0, .bool false, .slice none 0 0, .slice none 0 0, .int .i64 0] 26 (0, 0))) := ⟨u1_ BK3⟩
 have n5_ : Aside0 ((((((w5.setCell ⟨gb4, 0, none⟩ (.int .i64 t4)).setCell ⟨gb4, 1, none⟩ (.bool t5)).setCell ⟨gb4, 2, none⟩ (.slice Ao1 t6.length co1)).setCell ⟨gb4, 3, none⟩ (.slice Ao2 t7.length co2)).setCell ⟨gb4, 4, none⟩ (.int .i64 t8)).heap[gb4]? = some (.cells #[.int .i64 t4, .bool t5, .slice Ao1 t6.length co1, .slice Ao2 t7.length co2, .int .i64 t8] 26 (0, 0))) := ⟨u1_ BK4⟩
 have n6_ : Aside0 (Below w.heap.size w (((((w5.setCell ⟨gb4, 0, none⟩ (.int .i64 t4)).setCell ⟨gb4, 1, none⟩ (.bool t5)).setCell ⟨gb4, 2, none⟩ (.slice Ao1 t6.length co1)).setCell ⟨gb4, 3, none⟩ (.slice Ao2 t7.length co2)).setCell ⟨gb4, 4, none⟩ (.int .i64 t8))) := ⟨b2i7_⟩
 (try clear HO1)
 (try clear HO2)
 (try clear BK1)
 (try clear BK2)
 (try clear BK3)
 (try clear BK4)
 (try clear HB)
 generalize (((((w5.setCell ⟨gb4, 0, none⟩ (.int .i64 t4)).setCell ⟨gb4, 1, none⟩ (.bool t5)).setCell ⟨gb4, 2, none⟩ (.slice Ao1 t6.length co1)).setCell ⟨gb4, 3, none⟩ (.slice Ao2 t7.length co2)).setCell ⟨gb4, 4, none⟩ (.int .i64 t8)) = w6 at n0_ n1_ n2_ n3_ n4_ n5_ n6_ ⊢
 have HO1 := n0_
 have HO2 := n1_
 have BK1 := n2_
 have BK2 := n3_
 have BK3 := n4_
 have BK4 := n5_
 have HB := n6_
 clear n0_ n1_ n2_ n3_ n4_ n5_ n6_
 replace HO1 := A0_ (rd_ HO1.out)
 replace HO2 := A0_ (rd_ HO2.out)
 replace BK1 := A0_ (kd_ BK1.out)
 replace BK2 := A0_ (kd_ BK2.out)
 replace BK3 := A0_ (kd_ BK3.out)
 replace BK4 := A0_ (kd_ BK4.out)
 replace HB := A0_ (bd_ HB.out)
 refine start_ (n := 10) (S := fun w' => w'.cell? ⟨gb4, 0, none⟩ = some (.int .i64 t4) ∧ w'.cell? ⟨gb4, 1, none⟩ = some (.bool t5) ∧ w'.cell? ⟨gb4, 2, none⟩ = some (.slice Ao1 t6.length co1) ∧ w'.cell? ⟨gb4, 3, none⟩ = some (.slice Ao2 t7.length co2) ∧ w'.cell? ⟨gb4, 4, none⟩ = some (.int .i64 t8) ∧ w'.cell? ⟨gb2, 0, none⟩ = some (.int .i64 a1_0) ∧ w'.cell? ⟨gb2, 1, none⟩ = some (.int .i64 a1_1) ∧ w'.cell? ⟨gb2, 2, none⟩ = some (.int .i64 a1_2)) (ds := [9]) #[false, false, false, false, false, false, false, false, false, false] bfqv_ rfl rfl ⟨(kc_ BK4.out 0).trans rfl, (kc_ BK4.out 1).trans rfl, (kc_ BK4.out 2).trans rfl, (kc_ BK4.out 3).trans rfl, (kc_ BK4.out 4).trans rfl, (kc_ BK2.out 0).trans rfl, (kc_ BK2.out 1).trans rfl, (kc_ BK2.out 2).trans rfl⟩ (fun hHeld => ?_); refine with_tabW spec_l12Make.tab12 spec_l12Make.bits12 (fun HT_ HW_ => ?_)
 generalize w6.drew = w7 at HO1 HO2 BK1 BK2 BK3 BK4 HB hHeld ⊢
 refine pu_ 0 52 ?_
 refine pu_ 2 54 ?_
 refine pu_ 5 57 ?_
 refine tk_ 1 53 hHeld ?_
 refine tk_ 3 55 hHeld ?_
 refine tk_ 6 58 hHeld ?_
 refine on_ 4 (some 56) (fun K hK => ?_)
 refine gs_ Tryd.func88 #[.agg #[.int .i64 t4, .bool t5, .slice Ao1 t6.length co1], .int .i64 a1_1] ?_
 with_reducible refine (spec_l2Without.calls k t4 t5 _ _ t6 a1_1 t9 t10 t11 _ ?side1 ?side2 A4.out).mono ?_
 (case side1 => exact bayy_)
 (case side2 => exact (rr_ HO1.out).2.1)
 rintro e w8 ⟨v5, rfl, ho0, hb⟩
 refine ⟨_, rfl, ?_⟩
 have HO3 := A0_ (Kd.R_lower (Kd.R_new' (Kd.R_new' ho0 (Kd.R_lt bsm5_)) (Kd.R_lt b9so_)) (bz_ b2i7_))
 replace HO1 := A0_ (Kd.R_elder' bsm5_ (Kd.R_base ho0) hb)
 replace HO2 := A0_ (Kd.R_elder' b9so_ (Kd.R_base ho0) hb)
 replace BK1 := k1_ BK1 hb
 replace BK2 := k1_ BK2 hb
 replace BK3 := k1_ BK3 hb
 replace BK4 := k1_ BK4 hb
 replace HB := hb_ hb b2i7_
 (try clear hb); (try clear ho0)
 obtain ⟨Ao3, co3, eo3⟩ := Kd.R_slice HO3.out
 (first | subst eo3 | (injection eo3 with f1_ f2_ f3_; have f4_ := f1_.symm; have f5_ := f3_.symm; clear f1_ f2_ f3_; subst f4_; subst f5_))
 refine hK.out _ _ ⟨(kc_ BK4.out 0).trans rfl, (kc_ BK4.out 1).trans rfl, (kc_ BK4.out 2).trans rfl, (kc_ BK4.out 3).trans rfl, (kc_ BK4.out 4).trans rfl, (kc_ BK2.out 0).trans rfl, (kc_ BK2.out 1).trans rfl, (kc_ BK2.out 2).trans rfl⟩ (fun hHeld => ?_)
 clear hK K
 refine nm_ 56 ?_
 refine on_ 7 (some 59) (fun K hK => ?_)
 refine gs_ Tryd.func89 #[.agg #[.int .i64 t9, .bool t10, .slice Ao3 t11.length co3], .int .i64 a1_2] ?_
 with_reducible refine (spec_l2With.calls k t9 t10 _ _ t11 a1_2 t12 t13 t14 _ ?side1 ?side2 A6.out).mono ?_
 (case side1 => exact be4z_)
 (case side2 => exact (rr_ HO3.out).2.1)
 rintro e w9 ⟨v6, rfl, ho0, hb⟩
 refine ⟨_, rfl, ?_⟩
 have HO4 := A0_ (Kd.R_lower (Kd.R_new' (Kd.R_new' (Kd.R_new' ho0 (Kd.R_lt bsm5_)) (Kd.R_lt b9so_)) (Kd.R_lt buiy_)) (bz_ b2i7_))
 replace HO1 := A0_ (Kd.R_elder' bsm5_ (Kd.R_base ho0) hb)
 replace HO2 := A0_ (Kd.R_elder' b9so_ (Kd.R_base ho0) hb)
 replace HO3 := A0_ (Kd.R_elder' buiy_ (Kd.R_base ho0) hb)
 replace BK1 := k1_ BK1 hb
 replace BK2 := k1_ BK2 hb
 replace BK3 := k1_ BK3 hb
 replace BK4 := k1_ BK4 hb
 replace HB := hb_ hb b2i7_
 (try clear hb); (try clear ho0)
 obtain ⟨Ao4, co4, eo4⟩ := Kd.R_slice HO4.out
 (first | subst eo4 | (injection eo4 with f1_ f2_ f3_; have f4_ := f1_.symm; have f5_ := f3_.symm; clear f1_ f2_ f3_; subst f4_; subst f5_))
 refine hK.out _ _ ⟨(kc_ BK4.out 0).trans rfl, (kc_ BK4.out 1).trans rfl, (kc_ BK4.out 2).trans rfl, (kc_ BK4.out 3).trans rfl, (kc_ BK4.out 4).trans rfl, (kc_ BK2.out 0).trans rfl, (kc_ BK2.out 1).trans rfl, (kc_ BK2.out 2).trans rfl⟩ (fun hHeld => ?_)
 clear hK K
 refine nm_ 59 ?_
 refine pu_ 8 60 ?_
 refine last_ (i := 9) (N := none) #[true, true, true, true, true, true, true, true, true, true] rfl rfl (one_of HT_.out bfqv_) bi3y_ (fun K hK => ?_)
 have hs126 : w9.cell? ⟨gb4, 0, none⟩ = some (.int .i64 t4) := (kc_ BK4.out 0).trans rfl
 have hfs126 := kf_ BK4.out 0
 have hns1_0 := NB1_4.out
 have hns1_1 := NB2_4.out
 have hns1_2 := NB3_4.out
 have hms1_0 := NB4_1.out
 have hms1_1 := NB4_2.out
 have hms1_2 := NB4_3.out
 have hs127 : w9.cell? ⟨gb4, 1, none⟩ = some (.bool t5) := (kc_ BK4.out 1).trans rfl
 have hfs127 := kf_ BK4.out 1
 have hns2_0 := NB1_4.out
 have hns2_1 := NB2_4.out
 have hns2_2 := NB3_4.out
 have hms2_0 := NB4_1.out
 have hms2_1 := NB4_2.out
 have hms2_2 := NB4_3.out
 have hs129 : w9.cell? ⟨gb4, 2, none⟩ = some (.slice Ao1 t6.length co1) := (kc_ BK4.out 2).trans rfl
 have hfs129 := kf_ BK4.out 2
 have hns3_0 := NB1_4.out
 have hns3_1 := NB2_4.out
 have hns3_2 := NB3_4.out
 have hms3_0 := NB4_1.out
 have hms3_1 := NB4_2.out
 have hms3_2 := NB4_3.out
 refine skip_ (w1 := ?_) (by rfl) rfl ?_ ?_
 rotate_left
 ·go_simp
  rfl
 refine hK.out _ _ ?_
 clear hK K
 refine dn_ ?_
 try go_wp2
 have n0_ : Aside0 (Kd.R (Kd.int .i64) 3 (((w9.setCell ⟨gb4, 0, none⟩ (.int .i64 t12)).setCell ⟨gb4, 1, none⟩ (.bool t13)).setCell ⟨gb4, 2, none⟩ (.slice Ao4 t14.length co4)) w.heap.size (fun k_ => no_ (.slice Ao2 t7.length co2) k_ ∧ no_ (.slice Ao3 t11.length co3) k_ ∧ no_ (.slice Ao4 t14.length co4) k_) (.slice Ao1 t6.length co1) t6) := ⟨by (with_reducible repeat (first | apply ra_ | apply rn_ | apply rd_)); exact Kd.R_mono (rf_ (rf_ (rf_ (Kd.R_types HO1.out BK4.out bi3y_) k2_0 _) k2_0 _) k2_0 _) (fun _ hk => ⟨hk.1.1.1, ⟨hk.1.1.2, hk.1.2⟩⟩)⟩
 have n1_ : Aside0 (Kd.R (Kd.int .i64) 3 (((w9.setCell ⟨gb4, 0, none⟩ (.int .i64 t12)).setCell ⟨gb4, 1, none⟩ (.bool t13)).setCell ⟨gb4, 2, none⟩ (.slice Ao4 t14.length co4)) w.heap.size (fun k_ => no_ (.slice Ao1 t6.length co1) k_ ∧ no_ (.slice Ao3 t11.length co3) k_ ∧ no_ (.slice Ao4 t14.length co4) k_) (.slice Ao2 t7.length co2) t7) := ⟨by (with_reducible repeat (first | apply ra_ | apply rn_ | apply rd_)); exact Kd.R_mono (rf_ (rf_ (rf_ (Kd.R_types HO2.out BK4.out bi3y_) k2_0 _) k2_0 _) k2_0 _) (fun _ hk => ⟨hk.1.1.1, ⟨hk.1.1.2, hk.1.2⟩⟩)⟩
 have n2_ : Aside0 (Kd.R (Kd.int .i64) 3 (((w9.setCell ⟨gb4, 0, none⟩ (.int .i64 t12)).setCell ⟨gb4, 1, none⟩ (.bool t13)).setCell ⟨gb4, 2, none⟩ (.slice Ao4 t14.length co4)) w.heap.size (fun k_ => no_ (.slice Ao1 t6.length co1) k_ ∧ no_ (.slice Ao2 t7.length co2) k_ ∧ no_ (.slice Ao4 t14.length co4) k_) (.slice Ao3 t11.length co3) t11) := ⟨by (with_reducible repeat (first | apply ra_ | apply rn_ | apply rd_)); exact Kd.R_mono (rf_ (rf_ (rf_ (Kd.R_types HO3.out BK4.out bi3y_) k2_0 _) k2_0 _) k2_0 _) (fun _ hk => ⟨hk.1.1.1.2, ⟨hk.1.1.2, hk.1.2⟩⟩)⟩
 have n3_ : Aside0 (Kd.R (Kd.int .i64) 3 (((w9.setCell ⟨gb4, 0, none⟩ (.int .i64 t12)).setCell ⟨gb4, 1, none⟩ (.bool t13)).setCell ⟨gb4, 2, none⟩ (.slice Ao4 t14.length co4)) w.heap.size (fun k_ => no_ (.slice Ao1 t6.length co1) k_ ∧ no_ (.slice Ao2 t7.length co2) k_ ∧ no_ (.slice Ao3 t11.length co3) k_) (.slice Ao4 t14.length co4) t14) := ⟨by (with_reducible repeat (first | apply ra_ | apply rn_ | apply rd_)); exact Kd.R_mono (rf_ (rf_ (rf_ (Kd.R_types HO4.out BK4.out bi3y_) k2_0 _) k2_0 _) k2_0 _) (fun _ hk => ⟨hk.1.1.1.2, ⟨hk.1.1.2, hk.1.2⟩⟩)⟩
 have n4_ : Aside0 ((((w9.setCell ⟨gb4, 0, none⟩ (.int .i64 t12)).setCell ⟨gb4, 1, none⟩ (.bool t13)).setCell ⟨gb4, 2, none⟩ (.slice Ao4 t14.length co4)).heap[gb1]? = some (.cells #[.int .i64 a0_0, .bool a0_1, .slice A0_2 l0_2.length c0_2, .slice A0_3 l0_3.length c0_3, .int .i64 a0_4] 26 (0, 0))) := ⟨u1_ BK1⟩
 have n5_ : Aside0 ((((w9.setCell ⟨gb4, 0, none⟩ (.int .i64 t12)).setCell ⟨gb4, 1, none⟩ (.bool t13)).setCell ⟨gb4, 2, none⟩ (.slice Ao4 t14.length co4)).heap[gb2]? = some (.cells #[.int .i64 a1_0, .int .i64 a1_1, .int .i64 a1_2] 45 (0, 0))) := ⟨u1_ BK2⟩
 have n6_ : Aside0 ((((w9.setCell ⟨gb4, 0, none⟩ (.int .i64 t12)).setCell ⟨gb4, 1, none⟩ (.bool t13)).setCell ⟨gb4, 2, none⟩ (.slice Ao4 t14.length co4)).heap[gb3]? = some (.cells #[.int .i64 0, .bool false, .slice none 0 0, .slice none 0 0, .int .i64 0] 26 (0, 0))) := ⟨u1_ BK3⟩
 have n7_ : Aside0 ((((w9.setCell ⟨gb4, 0, none⟩ (.int .i64 t12)).setCell ⟨gb4, 1, none⟩ (.bool t13)).setCell ⟨gb4, 2, none⟩ (.slice Ao4 t14.length co4)).heap[gb4]? = some (.cells #[.int .i64 t12, .bool t13, .slice Ao4 t14.length co4, .slice Ao2 t7.length co2, .int .i64 t8] 26 (0, 0))) := ⟨u1_ BK4⟩
 have n8_ : Aside0 (Below w.heap.size w (((w9.setCell ⟨gb4, 0, none⟩ (.int .i64 t12)).setCell ⟨gb4, 1, none⟩ (.bool t13)).setCell ⟨gb4, 2, none⟩ (.slice Ao4 t14.length co4))) := ⟨b2i7_⟩
 (try clear HO1)
 (try clear HO2)
 (try clear HO3)
 (try clear HO4)
 (try clear BK1)
 (try clear BK2)
 (try clear BK3)
 (try clear BK4)
 (try clear HB)
 generalize (((w9.setCell ⟨gb4, 0, none⟩ (.int .i64 t12)).setCell ⟨gb4, 1, none⟩ (.bool t13)).setCell ⟨gb4, 2, none⟩ (.slice Ao4 t14.length co4)) = w10 at n0_ n1_ n2_ n3_ n4_ n5_ n6_ n7_ n8_ ⊢
 have HO1 := n0_
 have HO2 := n1_
 have HO3 := n2_
 have HO4 := n3_
 have BK1 := n4_
 have BK2 := n5_
 have BK3 := n6_
 have BK4 := n7_
 have HB := n8_
 clear n0_ n1_ n2_ n3_ n4_ n5_ n6_ n7_ n8_
 replace HO1 := A0_ (rd_ HO1.out)
 replace HO2 := A0_ (rd_ HO2.out)
 replace HO3 := A0_ (rd_ HO3.out)
 replace HO4 := A0_ (rd_ HO4.out)
 replace BK1 := A0_ (kd_ BK1.out)
 replace BK2 := A0_ (kd_ BK2.out)
 replace BK3 := A0_ (kd_ BK3.out)
 replace BK4 := A0_ (kd_ BK4.out)
 replace HB := A0_ (bd_ HB.out)
 refine start_ (n := 11) (S := fun w' => w'.cell? ⟨gb4, 0, none⟩ = some (.int .i64 t12) ∧ w'.cell? ⟨gb4, 1, none⟩ = some (.bool t13) ∧ w'.cell? ⟨gb4, 2, none⟩ = some (.slice Ao4 t14.length co4) ∧ w'.cell? ⟨gb4, 3, none⟩ = some (.slice Ao2 t7.length co2) ∧ w'.cell? ⟨gb4, 4, none⟩ = some (.int .i64 t8) ∧ w'.cell? ⟨gb1, 0, none⟩ = some (.int .i64 a0_0) ∧ w'.cell? ⟨gb1, 1, none⟩ = some (.bool a0_1) ∧ w'.cell? ⟨gb1, 2, none⟩ = some (.slice A0_2 l0_2.length c0_2) ∧ w'.cell? ⟨gb1, 3, none⟩ = some (.slice A0_3 l0_3.length c0_3) ∧ w'.cell? ⟨gb1, 4, none⟩ = some (.int .i64 a0_4) ∧ w'.cell? ⟨gb2, 0, none⟩ = some (.int .i64 a1_0) ∧ w'.cell? ⟨gb2, 1, none⟩ = some (.int .i64 a1_1) ∧ w'.cell? ⟨gb2, 2, none⟩ = some (.int .i64 a1_2)) (ds := [10]) #[false, false, false, false, false, false, false, false, false, false, false] bfqv_ rfl rfl ⟨(kc_ BK4.out 0).trans rfl, (kc_ BK4.out 1).trans rfl, (kc_ BK4.out 2).trans rfl, (kc_ BK4.out 3).trans rfl, (kc_ BK4.out 4).trans rfl, (kc_ BK1.out 0).trans rfl, (kc_ BK1.out 1).trans rfl, (kc_ BK1.out 2).trans rfl, (kc_ BK1.out 3).trans rfl, (kc_ BK1.out 4).trans rfl, (kc_ BK2.out 0).trans rfl, (kc_ BK2.out 1).trans rfl, (kc_ BK2.out 2).trans rfl⟩ (fun hHeld => ?_); refine with_tabW spec_l12Make.tab13 spec_l12Make.bits13 (fun HT_ HW_ => ?_)
 generalize w10.drew = w11 at HO1 HO2 HO3 HO4 BK1 BK2 BK3 BK4 HB hHeld ⊢
 refine pu_ 0 61 ?_
 refine pu_ 2 63 ?_
 refine pu_ 4 65 ?_
 refine pu_ 7 68 ?_
 refine tk_ 1 62 hHeld ?_
 refine tk_ 3 64 hHeld ?_
 refine tk_ 5 66 hHeld ?_
 refine tk_ 8 69 hHeld ?_
 refine on_ 6 (some 67) (fun K hK => ?_)
 refine gs_ Tryd.func52 #[.slice A0_3 l0_3.length c0_3, .int .i64 a1_1] ?_
 with_reducible refine (spec_l12Place.calls k _ _ l0_3 a1_1 t3 _ ?side1 ?side2 A8.out).mono ?_
 (case side1 => exact bkan_)
 (case side2 => exact HC0_3.out)
 rintro e w' ⟨rfl, ⟨nd, rfl⟩⟩
 refine ⟨_, rfl, ?_⟩
 have m0_ := A0_ (rn_ HO1.out nd)
 have m1_ := A0_ (rn_ HO2.out nd)
 have m2_ := A0_ (rn_ HO3.out nd)
 have m3_ := A0_ (rn_ HO4.out nd)
 have m4_ := A0_ (kn_ BK1.out nd)
 have m5_ := A0_ (kn_ BK2.out nd)
 have m6_ := A0_ (kn_ BK3.out nd)
 have m7_ := A0_ (kn_ BK4.out nd)
 have m8_ := A0_ (bn_ HB.out nd)
 clear HO1
 clear HO2
 clear HO3
 clear HO4
 clear BK1
 clear BK2
 clear BK3
 clear BK4
 clear HB
 have HO1 := m0_
 have HO2 := m1_
 have HO3 := m2_
 have HO4 := m3_
 have BK1 := m4_
 have BK2 := m5_
 have BK3 := m6_
 have BK4 := m7_
 have HB := m8_
 clear m0_ m1_ m2_ m3_ m4_ m5_ m6_ m7_ m8_
 generalize World.drewN _ nd = wq1_ at HO1 HO2 HO3 HO4 BK1 BK2 BK3 BK4 HB ⊢
 have p1 : 0 ≤ (t3 : Int) := od_ bpil_
 have q1 : (t3 : Int) < ((t7.length : Int) : Int) := od_ bpil_
 obtain ⟨go104, co5, eo5, gb5, gl104, cl104, HG104⟩ := Kd.R_form HO2.out bh19_
 (first | cases eo5 | (injection eo5 with ea_ en_ ec_; (first | subst ea_ | (injection ea_ with ea_; subst ea_)); subst ec_; clear en_))
 have GB104 := A0_ gb5
 have GG104 := A0_ HG104
 clear gb5 gl104 HG104
 obtain ⟨hx1_0, hf1_0⟩ := Kd.R_celln 0 HO2.out (t3 : Int) p1 q1
 replace p1 := eq_true p1
 replace q1 := eq_true q1
 have HP1 := Kd.R_putn HO2.out (t3 : Int) a1_2
 rw [← Ny1.out] at HP1
 have HQ132 := A0_ HP1
 clear HP1
 refine hK.out _ _ ⟨(kc_ BK4.out 0).trans rfl, (kc_ BK4.out 1).trans rfl, (kc_ BK4.out 2).trans rfl, (kc_ BK4.out 3).trans rfl, (kc_ BK4.out 4).trans rfl, (kc_ BK1.out 0).trans rfl, (kc_ BK1.out 1).trans rfl, (kc_ BK1.out 2).trans rfl, (kc_ BK1.out 3).trans rfl, (kc_ BK1.out 4).trans rfl, (kc_ BK2.out 0).trans rfl, (kc_ BK2.out 1).trans rfl, (kc_ BK2.out 2).trans rfl⟩ (fun hHeld => ?_)
 clear hK K
 refine nm_ 67 ?_
 refine pu_ 9 70 ?_
 refine last_ (i := 10) (N := none) #[true, true, true, true, true, true, true, true, true, true, true] rfl rfl (one_of HT_.out bfqv_) bi3y_ (fun K hK => ?_)
 refine skip_ (w1 := ?_) (by rfl) rfl ?_ ?_
 rotate_left
 ·go_simp
  rfl
 refine hK.out _ _ ?_
 clear hK K
 refine dn_ ?_
 have n0_ : Aside0 (Kd.R (Kd.int .i64) 3 (wq1_.setCell ⟨go104, (t3 : Int).toNat, none⟩ (.int .i64 a1_2)) w.heap.size (fun k_ => some k_ ≠ (.slice (some ⟨go104, 0, none⟩) t7.length co2 : Value).ownBlock ∧ no_ (.slice Ao3 t11.length co3) k_ ∧ no_ (.slice Ao4 t14.length co4) k_) (.slice Ao1 t6.length co1) t6) := ⟨by (with_reducible repeat (first | apply ra_ | apply rn_ | apply rd_)); exact Kd.R_mono (Kd.R_far (p := ⟨go104, (t3 : Int).toNat, none⟩) (Kd.R_mono HO1.out (fun k_ hk => (⟨hk, fun e_ => hk.1 (by rw [e_]; rfl)⟩ : _ ∧ k_ ≠ go104))) k2_0 _) (fun _ hk => ⟨hk.1.1, ⟨hk.1.2.1, hk.1.2.2⟩⟩)⟩
 have n1_ : Aside0 (Kd.R (Kd.int .i64) 3 (wq1_.setCell ⟨go104, (t3 : Int).toNat, none⟩ (.int .i64 a1_2)) w.heap.size (fun k_ => no_ (.slice Ao1 t6.length co1) k_ ∧ no_ (.slice Ao3 t11.length co3) k_ ∧ no_ (.slice Ao4 t14.length co4) k_) (.slice (some ⟨go104, 0, none⟩) t7.length co2) y1) := ⟨by (with_reducible repeat (first | apply ra_ | apply rn_ | apply rd_)); exact HQ132.out⟩
 have n2_ : Aside0 (Kd.R (Kd.int .i64) 3 (wq1_.setCell ⟨go104, (t3 : Int).toNat, none⟩ (.int .i64 a1_2)) w.heap.size (fun k_ => no_ (.slice Ao1 t6.length co1) k_ ∧ some k_ ≠ (.slice (some ⟨go104, 0, none⟩) t7.length co2 : Value).ownBlock ∧ no_ (.slice Ao4 t14.length co4) k_) (.slice Ao3 t11.length co3) t11) := ⟨by (with_reducible repeat (first | apply ra_ | apply rn_ | apply rd_)); exact Kd.R_mono (Kd.R_far (p := ⟨go104, (t3 : Int).toNat, none⟩) (Kd.R_mono HO3.out (fun k_ hk => (⟨hk, fun e_ => hk.2.1 (by rw [e_]; rfl)⟩ : _ ∧ k_ ≠ go104))) k2_0 _) (fun _ hk => ⟨hk.1.1, ⟨hk.1.2.1, hk.1.2.2⟩⟩)⟩
 have n3_ : Aside0 (Kd.R (Kd.int .i64) 3 (wq1_.setCell ⟨go104, (t3 : Int).toNat, none⟩ (.int .i64 a1_2)) w.heap.size (fun k_ => no_ (.slice Ao1 t6.length co1) k_ ∧ some k_ ≠ (.slice (some ⟨go104, 0, none⟩) t7.length co2 : Value).ownBlock ∧ no_ (.slice Ao3 t11.length co3) k_) (.slice Ao4 t14.length co4) t14) := ⟨by (with_reducible repeat (first | apply ra_ | apply rn_ | apply rd_)); exact Kd.R_mono (Kd.R_far (p := ⟨go104, (t3 : Int).toNat, none⟩) (Kd.R_mono HO4.out (fun k_ hk => (⟨hk, fun e_ => hk.2.1 (by rw [e_]; rfl)⟩ : _ ∧ k_ ≠ go104))) k2_0 _) (fun _ hk => ⟨hk.1.1, ⟨hk.1.2.1, hk.1.2.2⟩⟩)⟩
 have n4_ : Aside0 ((wq1_.setCell ⟨go104, (t3 : Int).toNat, none⟩ (.int .i64 a1_2)).heap[gb1]? = some (.cells #[.int .i64 a0_0, .bool a0_1, .slice A0_2 l0_2.length c0_2, .slice A0_3 l0_3.length c0_3, .int .i64 a0_4] 26 (0, 0))) := ⟨by (with_reducible repeat (first | apply kn_ | apply kd_ | apply ka_)); refine blk_far ?_ (by have h_ := Kd.R_ne HO2.out BK1.out bi3y_; intro e_; exact h_ (by rw [e_]; rfl)) _; (with_reducible repeat (first | apply kn_ | apply kd_ | apply ka_)); exact BK1.out⟩
 have n5_ : Aside0 ((wq1_.setCell ⟨go104, (t3 : Int).toNat, none⟩ (.int .i64 a1_2)).heap[gb2]? = some (.cells #[.int .i64 a1_0, .int .i64 a1_1, .int .i64 a1_2] 45 (0, 0))) := ⟨by (with_reducible repeat (first | apply kn_ | apply kd_ | apply ka_)); refine blk_far ?_ (by have h_ := Kd.R_ne HO2.out BK2.out bi3y_; intro e_; exact h_ (by rw [e_]; rfl)) _; (with_reducible repeat (first | apply kn_ | apply kd_ | apply ka_)); exact BK2.out⟩
 have n6_ : Aside0 ((wq1_.setCell ⟨go104, (t3 : Int).toNat, none⟩ (.int .i64 a1_2)).heap[gb3]? = some (.cells #[.int .i64 0, .bool false, .slice none 0 0, .slice none 0 0, .int .i64 0] 26 (0, 0))) := ⟨by (with_reducible repeat (first | apply kn_ | apply kd_ | apply ka_)); refine blk_far ?_ (by have h_ := Kd.R_ne HO2.out BK3.out bi3y_; intro e_; exact h_ (by rw [e_]; rfl)) _; (with_reducible repeat (first | apply kn_ | apply kd_ | apply ka_)); exact BK3.out⟩
 have n7_ : Aside0 ((wq1_.setCell ⟨go104, (t3 : Int).toNat, none⟩ (.int .i64 a1_2)).heap[gb4]? = some (.cells #[.int .i64 t12, .bool t13, .slice Ao4 t14.length co4, .slice (some ⟨go104, 0, none⟩) t7.length co2, .int .i64 t8] 26 (0, 0))) := ⟨by (with_reducible repeat (first | apply kn_ | apply kd_ | apply ka_)); refine blk_far ?_ (by have h_ := Kd.R_ne HO2.out BK4.out bi3y_; intro e_; exact h_ (by rw [e_]; rfl)) _; (with_reducible repeat (first | apply kn_ | apply kd_ | apply ka_)); exact BK4.out⟩
 have n8_ : Aside0 (Below w.heap.size w (wq1_.setCell ⟨go104, (t3 : Int).toNat, none⟩ (.int .i64 a1_2))) := ⟨by repeat (with_reducible first | exact HB.out | apply ba_ | apply bn_ | apply bd_ | refine bs_ ?_ GB104.out | refine bs_ ?_ GE1.out | refine bs_ ?_ GE2.out | refine bs_ ?_ GE3.out | refine bs_ ?_ GE4.out)⟩
 (try clear HO1)
 (try clear HO2)
 (try clear HO3)
 (try clear HO4)
 (try clear BK1)
 (try clear BK2)
 (try clear BK3)
 (try clear BK4)
 (try clear HB)
 generalize (wq1_.setCell ⟨go104, (t3 : Int).toNat, none⟩ (.int .i64 a1_2)) = w12 at n0_ n1_ n2_ n3_ n4_ n5_ n6_ n7_ n8_ ⊢
 have HO1 := n0_
 have HO2 := n1_
 have HO3 := n2_
 have HO4 := n3_
 have BK1 := n4_
 have BK2 := n5_
 have BK3 := n6_
 have BK4 := n7_
 have HB := n8_
 clear n0_ n1_ n2_ n3_ n4_ n5_ n6_ n7_ n8_
 have hcz4 := z5_ BK4
 have hcz5 := z5_ BK3
 try go_wp2
 refine bodyPost_ret (results_cell_row rfl _ _ gb3 26 #[.int .i64 t12, .bool t13, .slice Ao4 t14.length co4, .slice (some ⟨go104, 0, none⟩) t7.length co2, .int .i64 t8] (0, 0) _ rfl (u1_ BK3) Tryd.underlying26 rfl bfqv_) rfl ?_
 exact ⟨_, _, bnwh_, by (with_reducible repeat (first | apply ra_ | apply rn_ | apply rd_)); exact Kd.R_mono (rf_ (rf_ (rf_ (rf_ (rf_ (Kd.R_types HO4.out BK3.out bi3y_) k2_0 _) k2_0 _) k2_0 _) k2_0 _) k2_0 _) (fun _ hk => hk.1.2.1), by (with_reducible repeat (first | apply ra_ | apply rn_ | apply rd_)); exact Kd.R_mono (rf_ (rf_ (rf_ (rf_ (rf_ (Kd.R_types HO2.out BK3.out bi3y_) k2_0 _) k2_0 _) k2_0 _) k2_0 _) k2_0 _) (fun _ hk => hk.1.2.2), b2i7_⟩

def spec_l12Do.f (k : Nat) (a0_0 : Int) (a0_1 : Bool) (l0_2 : List Int) (l0_3 : List Int) (a0_4 : Int) (a1_0 : Int) (a1_1 : Int) (a1_2 : Int) : Option (Int × Bool × List Int × List Int × Int × Bool) := (spec_l12May.f k a0_0 a0_1 l0_2 l0_3 a0_4 a1_0 a1_1 a1_2).bind fun t397 => (if t397 = true then ((spec_l12Make.f k a0_0 a0_1 l0_2 l0_3 a0_4 a1_0 a1_1 a1_2).bind fun bt398 => ((spec_l12Own.f bt398.1 bt398.2.1 bt398.2.2.1 bt398.2.2.2.1 bt398.2.2.2.2).bind fun bt407 => ((spec_l12Good.f k bt407.1 bt407.2.1 bt407.2.2.1 bt407.2.2.2.1 (wrap64 (a0_4 + 1))).bind fun t417 => (if t417 = true then (some (bt407.1, bt407.2.1, bt407.2.2.1, bt407.2.2.2.1, wrap64 (a0_4 + 1), true)) else (some (0, false, ([] : List Int), ([] : List Int), 0, false)))))) else (some (0, false, ([] : List Int), ([] : List Int), 0, false)))
theorem spec_l12Do.mono : ∀ a0 a1 a2 a3 a4 a5 a6 a7 k, LeO (spec_l12Do.f k a0 a1 a2 a3 a4 a5 a6 a7) (spec_l12Do.f (k + 1) a0 a1 a2 a3 a4 a5 a6 a7) := by
 intro a0 a1 a2 a3 a4 a5 a6 a7 k
 unfold spec_l12Do.f
 repeat' with_reducible first | exact spec_l12Good.mono .. | exact spec_l12Make.mono .. | exact spec_l12May.mono .. | exact LeO.refl .. | exact LeO.none .. | refine LeO.ite ?_ ?_ | refine LeO.bind ?_ (fun _ => ?_)
theorem spec_l12Do.nameW {P : Program} {ops : Array Oper} {Q : Exit → Act → World → Prop} {l : List Oper} {a : Act} {W : World} (o : Obj) (g : Nat) (hB : W.heap[g]? = some o) (h : ∀ W_ : World, Aside0 (W_ = W) → Aside0 (W_.heap[g]? = some o) → wpList P ops Q l a W_) : wpList P ops Q l a W := h W ⟨rfl⟩ ⟨hB⟩
theorem spec_l12Do.calls (k : Nat) (a0_0 : Int) (a0_1 : Bool) (A0_2 : Option Addr) (c0_2 : Nat) (l0_2 : List Int) (A0_3 : Option Addr) (c0_3 : Nat) (l0_3 : List Int) (a0_4 : Int) (a1_0 : Int) (a1_1 : Int) (a1_2 : Int) (r1 : Int) (r2 : Bool) (r3 : List Int) (r4 : List Int) (r5 : Int) (r6 : Bool) (w : World) (hr0_2 : Kd.C (Kd.int .i64) w A0_2 l0_2.length l0_2) (hc0_2 : l0_2.length ≤ c0_2) (hr0_3 : Kd.C (Kd.int .i64) w A0_3 l0_3.length l0_3) (hc0_3 : l0_3.length ≤ c0_3) (h : spec_l12Do.f k a0_0 a0_1 l0_2 l0_3 a0_4 a1_0 a1_1 a1_2 = some (r1, r2, r3, r4, r5, r6)) :
  Calls Tryd.prog 48 #[.agg #[.int .i64 a0_0, .bool a0_1, .slice A0_2 l0_2.length c0_2, .slice A0_3 l0_3.length c0_3, .int .i64 a0_4], .agg #[.int .i64 a1_0, .int .i64 a1_1, .int .i64 a1_2]] w fun e w' => ∃ v2_ v3_ : Value, e = .returned (.tuple #[.agg #[.int .i64 r1, .bool r2, v2_, v3_, .int .i64 r5], .bool r6]) ∧ Kd.R (Kd.int .i64) 3 w' w.heap.size (fun k_ => no_ v3_ k_) v2_ r3 ∧ Kd.R (Kd.int .i64) 3 w' w.heap.size (fun k_ => no_ v2_ k_) v3_ r4 ∧ Below w.heap.size w w' := by
 have hu26 := Tryd.underlying26
 have hu45 := Tryd.underlying45
 have HR0_2 := A0_ hr0_2
 have HC0_2 := A0_ hc0_2
 clear hr0_2 hc0_2
 have HR0_3 := A0_ hr0_3
 have HC0_3 := A0_ hc0_3
 clear hr0_3 hc0_3
 have HB := A0_ (Below.refl w.heap.size w)
 have H : ((spec_l12May.f k a0_0 a0_1 l0_2 l0_3 a0_4 a1_0 a1_1 a1_2).bind fun t1 => (if t1 = true then ((spec_l12Make.f k a0_0 a0_1 l0_2 l0_3 a0_4 a1_0 a1_1 a1_2).bind fun bt1 => ((spec_l12Own.f bt1.1 bt1.2.1 bt1.2.2.1 bt1.2.2.2.1 bt1.2.2.2.2).bind fun bt2 => ((spec_l12Good.f k bt2.1 bt2.2.1 bt2.2.2.1 bt2.2.2.2.1 (wrap64 (a0_4 + 1))).bind fun t2 => (if t2 = true then (some (bt2.1, bt2.2.1, bt2.2.2.1, bt2.2.2.2.1, wrap64 (a0_4 + 1), true)) else (some (0, false, ([] : List Int), ([] : List Int), 0, false)))))) else (some (0, false, ([] : List Int), ([] : List Int), 0, false)))) = some (r1, r2, r3, r4, r5, r6) := h
 clear h
 obtain ⟨t1, A2, H⟩ := o1_ H
 by_cases c1 : t1 = true
 ·subst c1
  rw [if_pos rfl] at H
  obtain ⟨⟨t3, t4, t5, t6, t7⟩, A4, H⟩ := o1_ H
  obtain ⟨⟨t8, t9, t10, t11, t12⟩, A6, H⟩ := o1_ H
  obtain ⟨t2, A8, H⟩ := o1_ H
  by_cases c2 : t2 = true
  case neg =>
   obtain rfl := bf_.mpr c2
   rw [if_neg ft_] at H
   simp only [sj_, pj_] at H
   obtain ⟨rfl, rfl, rfl, rfl, rfl, rfl⟩ := H
   go_enter Tryd.func48, Tryd.ntmps48
   go_wp2_with (first | ((with_reducible refine gd_ (N := 2) rfl ?_); refine bx_ 2 #[.int .i64 a0_0, .bool a0_1, .slice A0_2 l0_2.length c0_2, .slice A0_3 l0_3.length c0_3, .int .i64 a0_4] 26 ?_; intro gb1 hg w1 BK1 hb; have GW1 := ge_ hg brt4_; have GE1 := GW1; replace HB := hb_ hb brt4_; clear hb hg) | ((with_reducible refine gd_ (N := 3) rfl ?_); refine bx_ 3 #[.int .i64 a1_0, .int .i64 a1_1, .int .i64 a1_2] 45 ?_; intro gb2 hg w2 BK2 hb; have GW2 := ge_ hg be6g_; have GE2 := GW2; replace HB := hb_ hb be6g_; have NB1_2 := nl_ hg BK1; have NB2_1 := ng_ hg BK1; replace BK1 := k1_ BK1 hb; clear hb hg) | ((with_reducible refine gd_ (N := 4) rfl ?_); refine bx_ 4 #[.int .i64 0, .bool false, .slice none 0 0, .slice none 0 0, .int .i64 0] 26 ?_; intro gb3 hg w3 BK3 hb; have GW3 := ge_ hg bfnq_; have GE3 := GW3; replace HB := hb_ hb bfnq_; have NB1_3 := nl_ hg BK1; have NB3_1 := ng_ hg BK1; replace BK1 := k1_ BK1 hb; have NB2_3 := nl_ hg BK2; have NB3_2 := ng_ hg BK2; replace BK2 := k1_ BK2 hb; clear hb hg; have hnb1 := NB1_2.out; have hnc1 := NB2_1.out; have hnb2 := NB1_3.out; have hnc2 := NB3_1.out; have hcz1 := z5_ BK1; have hnb3 := NB2_3.out; have hnc3 := NB3_2.out; have hcz2_0 : w3.cell? ⟨gb2, 0, none⟩ = some (.int .i64 a1_0) := (kc_ BK2.out 0).trans rfl; have hcz2_1 : w3.cell? ⟨gb2, 1, none⟩ = some (.int .i64 a1_1) := (kc_ BK2.out 1).trans rfl; have hcz2_2 : w3.cell? ⟨gb2, 2, none⟩ = some (.int .i64 a1_2) := (kc_ BK2.out 2).trans rfl; have hfz2_0 := kf_ BK2.out 0; have hfz2_1 := kf_ BK2.out 1; have hfz2_2 := kf_ BK2.out 2) | ((with_reducible refine gc_ (f := 69) rfl ?_); refine gl_ 9 Tryd.func69 #[.agg #[.int .i64 a0_0, .bool a0_1, .slice A0_2 l0_2.length c0_2, .slice A0_3 l0_3.length c0_3, .int .i64 a0_4], .agg #[.int .i64 a1_0, .int .i64 a1_1, .int .i64 a1_2]] ?_; (with_reducible refine (spec_l12May.calls k a0_0 a0_1 _ _ l0_2 _ _ l0_3 a0_4 a1_0 a1_1 a1_2 true _ ?side1 ?side2 ?side3 ?side4 A2.out).mono ?_); (case side1 => exact b6n8_); (case side2 => exact HC0_2.out); (case side3 => exact bkan_); (case side4 => exact HC0_3.out); rintro e w4 ⟨rfl, hb⟩; refine ⟨_, rfl, ?_⟩; replace BK1 := k1_ BK1 hb; replace BK2 := k1_ BK2 hb; replace BK3 := k1_ BK3 hb; replace HB := hb_ hb b850_; (try clear hb); have hcz3 := z5_ BK1; have hcz4 := z3_ BK2) | ((with_reducible refine gc_ (f := 70) rfl ?_); refine gl_ 14 Tryd.func70 #[.agg #[.int .i64 a0_0, .bool a0_1, .slice A0_2 l0_2.length c0_2, .slice A0_3 l0_3.length c0_3, .int .i64 a0_4], .agg #[.int .i64 a1_0, .int .i64 a1_1, .int .i64 a1_2]] ?_; (with_reducible refine (spec_l12Make.calls k a0_0 a0_1 _ _ l0_2 _ _ l0_3 a0_4 a1_0 a1_1 a1_2 t3 t4 t5 t6 t7 _ ?side1 ?side2 ?side3 ?side4 A4.out).mono ?_); (case side1 => exact b6n8_); (case side2 => exact HC0_2.out); (case side3 => exact bkan_); (case side4 => exact HC0_3.out); rintro e w5 ⟨v1, v4, rfl, ho0, ho1, hb⟩; refine ⟨_, rfl, ?_⟩; have HO1 := A0_ (Kd.R_lower ho0 (bz_ b850_)); have HO2 := A0_ (Kd.R_lower ho1 (bz_ b850_)); replace BK1 := k1_ BK1 hb; replace BK2 := k1_ BK2 hb; replace BK3 := k1_ BK3 hb; replace HB := hb_ hb b850_; (try clear hb); (try clear ho0); (try clear ho1); obtain ⟨Ao1, co1, eo1⟩ := Kd.R_slice HO1.out; subst eo1; obtain ⟨Ao2, co2, eo2⟩ := Kd.R_slice HO2.out; subst eo2) | ((with_reducible refine gc_ (f := 31) rfl ?_); refine gl_ 15 Tryd.func31 #[.agg #[.int .i64 t3, .bool t4, .slice Ao1 t5.length co1, .slice Ao2 t6.length co2, .int .i64 t7]] ?_; (with_reducible refine (spec_l12Own.calls t3 t4 _ _ t5 _ _ t6 t7 t8 t9 t10 t11 t12 _ ?side1 ?side2 ?side3 ?side4 A6.out).mono ?_); (case side1 => exact bayy_); (case side2 => exact (rr_ HO1.out).2.1); (case side3 => exact ba04_); (case side4 => exact (rr_ HO2.out).2.1); rintro e w6 ⟨v5, v6, rfl, ho0, ho1, hb⟩; refine ⟨_, rfl, ?_⟩; have HO3 := A0_ (Kd.R_lower (Kd.R_new' (Kd.R_new' ho0 (Kd.R_lt bsm5_)) (Kd.R_lt b9so_)) (bz_ b850_)); have HO4 := A0_ (Kd.R_lower (Kd.R_new' (Kd.R_new' ho1 (Kd.R_lt bsm5_)) (Kd.R_lt b9so_)) (bz_ b850_)); replace HO1 := A0_ (Kd.R_mono (Kd.R_told (Kd.R_told (Kd.R_old bsm5_ hb) (Kd.R_base ho0)) (Kd.R_base ho1)) (fun _ h_ => h_.1)); replace HO2 := A0_ (Kd.R_mono (Kd.R_told (Kd.R_told (Kd.R_old b9so_ hb) (Kd.R_base ho0)) (Kd.R_base ho1)) (fun _ h_ => h_.1)); replace BK1 := k1_ BK1 hb; replace BK2 := k1_ BK2 hb; replace BK3 := k1_ BK3 hb; replace HB := hb_ hb b850_; (try clear hb); (try clear ho0); (try clear ho1)) | ((with_reducible refine gd_ (N := 6) rfl ?_); refine bx_ 6 #[.int .i64 0, .bool false, .slice none 0 0, .slice none 0 0, .int .i64 0] 26 ?_; intro gb4 hg w7 BK4 hb; replace HO1 := A0_ (Kd.R_below bsm5_ hb); replace HO2 := A0_ (Kd.R_below b9so_ hb); replace HO3 := A0_ (Kd.R_below buiy_ hb); replace HO4 := A0_ (Kd.R_below b6ip_ hb); have GW4 := ge_ hg b850_; have GE4 := GW4; replace HB := hb_ hb b850_; have NB1_4 := nl_ hg BK1; have NB4_1 := ng_ hg BK1; replace BK1 := k1_ BK1 hb; have NB2_4 := nl_ hg BK2; have NB4_2 := ng_ hg BK2; replace BK2 := k1_ BK2 hb; have NB3_4 := nl_ hg BK3; have NB4_3 := ng_ hg BK3; replace BK3 := k1_ BK3 hb; clear hb hg; have hnb4 := NB4_1.out; have hnc4 := NB1_4.out; have hnb5 := NB4_2.out; have hnc5 := NB2_4.out; have hnb6 := NB4_3.out; have hnc6 := NB3_4.out; have hcz5 := z5_ BK4; obtain ⟨Ao3, co3, eo3⟩ := Kd.R_slice HO3.out; subst eo3; obtain ⟨Ao4, co4, eo4⟩ := Kd.R_slice HO4.out; subst eo4; have hcz6_0 : w7.cell? ⟨gb1, 0, none⟩ = some (.int .i64 a0_0) := (kc_ BK1.out 0).trans rfl; have hcz6_1 : w7.cell? ⟨gb1, 1, none⟩ = some (.bool a0_1) := (kc_ BK1.out 1).trans rfl; have hcz6_2 : w7.cell? ⟨gb1, 2, none⟩ = some (.slice A0_2 l0_2.length c0_2) := (kc_ BK1.out 2).trans rfl; have hcz6_3 : w7.cell? ⟨gb1, 3, none⟩ = some (.slice A0_3 l0_3.length c0_3) := (kc_ BK1.out 3).trans rfl; have hcz6_4 : w7.cell? ⟨gb1, 4, none⟩ = some (.int .i64 a0_4) := (kc_ BK1.out 4).trans rfl; have hfz6_0 := kf_ BK1.out 0; have hfz6_1 := kf_ BK1.out 1; have hfz6_2 := kf_ BK1.out 2; have hfz6_3 := kf_ BK1.out 3; have hfz6_4 := kf_ BK1.out 4) | ((with_reducible refine gd_ (N := 20) rfl ?_); refine spec_l12Do.nameW (.cells #[.int .i64 t8, .bool t9, .slice Ao3 t10.length co3, .slice Ao4 t11.length co4, .int .i64 (wrap64 (a0_4 + 1))] 26 (0, 0)) gb4 (u1_ BK4) ?_; intro W_ hW2_ BKW_; have hczw_0 : W_.cell? ⟨gb4, 0, none⟩ = some (.int .i64 t8) := (kc_ BKW_.out 0).trans rfl; have hczw_1 : W_.cell? ⟨gb4, 1, none⟩ = some (.bool t9) := (kc_ BKW_.out 1).trans rfl; have hczw_2 : W_.cell? ⟨gb4, 2, none⟩ = some (.slice Ao3 t10.length co3) := (kc_ BKW_.out 2).trans rfl; have hczw_3 : W_.cell? ⟨gb4, 3, none⟩ = some (.slice Ao4 t11.length co4) := (kc_ BKW_.out 3).trans rfl; have hczw_4 : W_.cell? ⟨gb4, 4, none⟩ = some (.int .i64 (wrap64 (a0_4 + 1))) := (kc_ BKW_.out 4).trans rfl; go_step; go_step; clear hczw_0 hczw_1 hczw_2 hczw_3 hczw_4 BKW_; have hW_ := hW2_.out; clear hW2_; subst hW_) | ((with_reducible refine gc_ (f := 32) rfl ?_); refine gl_ 21 Tryd.func32 #[.agg #[.int .i64 t8, .bool t9, .slice Ao3 t10.length co3, .slice Ao4 t11.length co4, .int .i64 (wrap64 (a0_4 + 1))]] ?_; (with_reducible refine (spec_l12Good.calls k t8 t9 _ _ t10 _ _ t11 (wrap64 (a0_4 + 1)) false _ ?side1 ?side2 ?side3 ?side4 A8.out).mono ?_); (case side1 => refine (rr_ (e := 3) (base := w.heap.size) (ok := fun k_ => ((no_ (.slice Ao4 t11.length co4) k_ ∧ no_ (.slice Ao1 t5.length co1) k_) ∧ no_ (.slice Ao2 t6.length co2) k_)) (n := t10.length) (c := co3) ?_).2.2; exact b6o8_); (case side2 => exact (rr_ HO3.out).2.1); (case side3 => refine (rr_ (e := 3) (base := w.heap.size) (ok := fun k_ => ((no_ (.slice Ao3 t10.length co3) k_ ∧ no_ (.slice Ao1 t5.length co1) k_) ∧ no_ (.slice Ao2 t6.length co2) k_)) (n := t11.length) (c := co4) ?_).2.2; exact bth6_); (case side4 => exact (rr_ HO4.out).2.1); rintro e w8 ⟨rfl, hb⟩; refine ⟨_, rfl, ?_⟩; replace HO1 := A0_ (Kd.R_below bzqp_ hb); replace HO2 := A0_ (Kd.R_below byr6_ hb); replace HO3 := A0_ (Kd.R_below b6o8_ hb); replace HO4 := A0_ (Kd.R_below bth6_ hb); replace BK1 := k1_ BK1 hb; replace BK2 := k1_ BK2 hb; replace BK3 := k1_ BK3 hb; replace BK4 := k2_ (.cells #[.int .i64 t8, .bool t9, .slice Ao3 t10.length co3, .slice Ao4 t11.length co4, .int .i64 (wrap64 (a0_4 + 1))] 26 (0, 0)) BK4 hb; replace HB := hb_ hb b2i7_; (try clear hb); have hcz7 := z5_ BK3))
   refine bodyPost_ret (results_ct rfl _ _ gb3 26 #[.int .i64 0, .bool false, .slice none 0 0, .slice none 0 0, .int .i64 0] (0, 0) _ rfl (u1_ BK3) Tryd.underlying26 rfl bfqv_) rfl ?_
   exact ⟨_, _, bnwh_, bwfe_, bwfe_, b2i7_⟩
  subst c2
  rw [if_pos rfl] at H
  simp only [sj_, pj_] at H
  obtain ⟨rfl, rfl, rfl, rfl, rfl, rfl⟩ := H
  go_enter Tryd.func48, Tryd.ntmps48
  go_wp2_with (first | ((with_reducible refine gd_ (N := 2) rfl ?_); refine bx_ 2 #[.int .i64 a0_0, .bool a0_1, .slice A0_2 l0_2.length c0_2, .slice A0_3 l0_3.length c0_3, .int .i64 a0_4] 26 ?_; intro gb1 hg w1 BK1 hb; have GW1 := ge_ hg brt4_; have GE1 := GW1; replace HB := hb_ hb brt4_; clear hb hg) | ((with_reducible refine gd_ (N := 3) rfl ?_); refine bx_ 3 #[.int .i64 a1_0, .int .i64 a1_1, .int .i64 a1_2] 45 ?_; intro gb2 hg w2 BK2 hb; have GW2 := ge_ hg be6g_; have GE2 := GW2; replace HB := hb_ hb be6g_; have NB1_2 := nl_ hg BK1; have NB2_1 := ng_ hg BK1; replace BK1 := k1_ BK1 hb; clear hb hg) | ((with_reducible refine gd_ (N := 4) rfl ?_); refine bx_ 4 #[.int .i64 0, .bool false, .slice none 0 0, .slice none 0 0, .int .i64 0] 26 ?_; intro gb3 hg w3 BK3 hb; have GW3 := ge_ hg bfnq_; have GE3 := GW3; replace HB := hb_ hb bfnq_; have NB1_3 := nl_ hg BK1; have NB3_1 := ng_ hg BK1; replace BK1 := k1_ BK1 hb; have NB2_3 := nl_ hg BK2; have NB3_2 := ng_ hg BK2; replace BK2 := k1_ BK2 hb; clear hb hg; have hnb1 := NB1_2.out; have hnc1 := NB2_1.out; have hnb2 := NB1_3.out; have hnc2 := NB3_1.out; have hcz1 := z5_ BK1; have hnb3 := NB2_3.out; have hnc3 := NB3_2.out; have hcz2_0 : w3.cell? ⟨gb2, 0, none⟩ = some (.int .i64 a1_0) := (kc_ BK2.out 0).trans rfl; have hcz2_1 : w3.cell? ⟨gb2, 1, none⟩ = some (.int .i64 a1_1) := (kc_ BK2.out 1).trans rfl; have hcz2_2 : w3.cell? ⟨gb2, 2, none⟩ = some (.int .i64 a1_2) := (kc_ BK2.out 2).trans rfl; have hfz2_0 := kf_ BK2.out 0; have hfz2_1 := kf_ BK2.out 1; have hfz2_2 := kf_ BK2.out 2) | ((with_reducible refine gc_ (f := 69) rfl ?_); refine gl_ 9 Tryd.func69 #[.agg #[.int .i64 a0_0, .bool a0_1, .slice A0_2 l0_2.length c0_2, .slice A0_3 l0_3.length c0_3, .int .i64 a0_4], .agg #[.int .i64 a1_0, .int .i64 a1_1, .int .i64 a1_2]] ?_; (with_reducible refine (spec_l12May.calls k a0_0 a0_1 _ _ l0_2 _ _ l0_3 a0_4 a1_0 a1_1 a1_2 true _ ?side1 ?side2 ?side3 ?side4 A2.out).mono ?_); (case side1 => exact b6n8_); (case side2 => exact HC0_2.out); (case side3 => exact bkan_); (case side4 => exact HC0_3.out); rintro e w4 ⟨rfl, hb⟩; refine ⟨_, rfl, ?_⟩; replace BK1 := k1_ BK1 hb; replace BK2 := k1_ BK2 hb; replace BK3 := k1_ BK3 hb; replace HB := hb_ hb b850_; (try clear hb); have hcz3 := z5_ BK1; have hcz4 := z3_ BK2) | ((with_reducible refine gc_ (f := 70) rfl ?_); refine gl_ 14 Tryd.func70 #[.agg #[.int .i64 a0_0, .bool a0_1, .slice A0_2 l0_2.length c0_2, .slice A0_3 l0_3.length c0_3, .int .i64 a0_4], .agg #[.int .i64 a1_0, .int .i64 a1_1, .int .i64 a1_2]] ?_; (with_reducible refine (spec_l12Make.calls k a0_0 a0_1 _ _ l0_2 _ _ l0_3 a0_4 a1_0 a1_1 a1_2 t3 t4 t5 t6 t7 _ ?side1 ?side2 ?side3 ?side4 A4.out).mono ?_); (case side1 => exact b6n8_); (case side2 => exact HC0_2.out); (case side3 => exact bkan_); (case side4 => exact HC0_3.out); rintro e w5 ⟨v1, v4, rfl, ho0, ho1, hb⟩; refine ⟨_, rfl, ?_⟩; have HO1 := A0_ (Kd.R_lower ho0 (bz_ b850_)); have HO2 := A0_ (Kd.R_lower ho1 (bz_ b850_)); replace BK1 := k1_ BK1 hb; replace BK2 := k1_ BK2 hb; replace BK3 := k1_ BK3 hb; replace HB := hb_ hb b850_; (try clear hb); (try clear ho0); (try clear ho1); obtain ⟨Ao1, co1, eo1⟩ := Kd.R_slice HO1.out; subst eo1; obtain ⟨Ao2, co2, eo2⟩ := Kd.R_slice HO2.out; subst eo2) | ((with_reducible refine gc_ (f := 31) rfl ?_); refine gl_ 15 Tryd.func31 #[.agg #[.int .i64 t3, .bool t4, .slice Ao1 t5.length co1, .slice Ao2 t6.length co2, .int .i64 t7]] ?_; (with_reducible refine (spec_l12Own.calls t3 t4 _ _ t5 _ _ t6 t7 t8 t9 t10 t11 t12 _ ?side1 ?side2 ?side3 ?side4 A6.out).mono ?_); (case side1 => exact bayy_); (case side2 => exact (rr_ HO1.out).2.1); (case side3 => exact ba04_); (case side4 => exact (rr_ HO2.out).2.1); rintro e w6 ⟨v5, v6, rfl, ho0, ho1, hb⟩; refine ⟨_, rfl, ?_⟩; have HO3 := A0_ (Kd.R_lower (Kd.R_new' (Kd.R_new' ho0 (Kd.R_lt bsm5_)) (Kd.R_lt b9so_)) (bz_ b850_)); have HO4 := A0_ (Kd.R_lower (Kd.R_new' (Kd.R_new' ho1 (Kd.R_lt bsm5_)) (Kd.R_lt b9so_)) (bz_ b850_)); replace HO1 := A0_ (Kd.R_mono (Kd.R_told (Kd.R_told (Kd.R_old bsm5_ hb) (Kd.R_base ho0)) (Kd.R_base ho1)) (fun _ h_ => h_.1)); replace HO2 := A0_ (Kd.R_mono (Kd.R_told (Kd.R_told (Kd.R_old b9so_ hb) (Kd.R_base ho0)) (Kd.R_base ho1)) (fun _ h_ => h_.1)); replace BK1 := k1_ BK1 hb; replace BK2 := k1_ BK2 hb; replace BK3 := k1_ BK3 hb; replace HB := hb_ hb b850_; (try clear hb); (try clear ho0); (try clear ho1)) | ((with_reducible refine gd_ (N := 6) rfl ?_); refine bx_ 6 #[.int .i64 0, .bool false, .slice none 0 0, .slice none 0 0, .int .i64 0] 26 ?_; intro gb4 hg w7 BK4 hb; replace HO1 := A0_ (Kd.R_below bsm5_ hb); replace HO2 := A0_ (Kd.R_below b9so_ hb); replace HO3 := A0_ (Kd.R_below buiy_ hb); replace HO4 := A0_ (Kd.R_below b6ip_ hb); have GW4 := ge_ hg b850_; have GE4 := GW4; replace HB := hb_ hb b850_; have NB1_4 := nl_ hg BK1; have NB4_1 := ng_ hg BK1; replace BK1 := k1_ BK1 hb; have NB2_4 := nl_ hg BK2; have NB4_2 := ng_ hg BK2; replace BK2 := k1_ BK2 hb; have NB3_4 := nl_ hg BK3; have NB4_3 := ng_ hg BK3; replace BK3 := k1_ BK3 hb; clear hb hg; have hnb4 := NB4_1.out; have hnc4 := NB1_4.out; have hnb5 := NB4_2.out; have hnc5 := NB2_4.out; have hnb6 := NB4_3.out; have hnc6 := NB3_4.out; have hcz5 := z5_ BK4; obtain ⟨Ao3, co3, eo3⟩ := Kd.R_slice HO3.out; subst eo3; obtain ⟨Ao4, co4, eo4⟩ := Kd.R_slice HO4.out; subst eo4; have hcz6_0 : w7.cell? ⟨gb1, 0, none⟩ = some (.int .i64 a0_0) := (kc_ BK1.out 0).trans rfl; have hcz6_1 : w7.cell? ⟨gb1, 1, none⟩ = some (.bool a0_1) := (kc_ BK1.out 1).trans rfl; have hcz6_2 : w7.cell? ⟨gb1, 2, none⟩ = some (.slice A0_2 l0_2.length c0_2) := (kc_ BK1.out 2).trans rfl; have hcz6_3 : w7.cell? ⟨gb1, 3, none⟩ = some (.slice A0_3 l0_3.length c0_3) := (kc_ BK1.out 3).trans rfl; have hcz6_4 : w7.cell? ⟨gb1, 4, none⟩ = some (.int .i64 a0_4) := (kc_ BK1.out 4).trans rfl; have hfz6_0 := kf_ BK1.out 0; have hfz6_1 := kf_ BK1.out 1; have hfz6_2 := kf_ BK1.out 2; have hfz6_3 := kf_ BK1.out 3; have hfz6_4 := kf_ BK1.out 4) | ((with_reducible refine gd_ (N := 20) rfl ?_); refine spec_l12Do.nameW (.cells #[.int .i64 t8, .bool t9, .slice Ao3 t10.length co3, .slice Ao4 t11.length co4, .int .i64 (wrap64 (a0_4 + 1))] 26 (0, 0)) gb4 (u1_ BK4) ?_; intro W_ hW2_ BKW_; have hczw_0 : W_.cell? ⟨gb4, 0, none⟩ = some (.int .i64 t8) := (kc_ BKW_.out 0).trans rfl; have hczw_1 : W_.cell? ⟨gb4, 1, none⟩ = some (.bool t9) := (kc_ BKW_.out 1).trans rfl; have hczw_2 : W_.cell? ⟨gb4, 2, none⟩ = some (.slice Ao3 t10.length co3) := (kc_ BKW_.out 2).trans rfl; have hczw_3 : W_.cell? ⟨gb4, 3, none⟩ = some (.slice Ao4 t11.length co4) := (kc_ BKW_.out 3).trans rfl; have hczw_4 : W_.cell? ⟨gb4, 4, none⟩ = some (.int .i64 (wrap64 (a0_4 + 1))) := (kc_ BKW_.out 4).trans rfl; go_step; go_step; clear hczw_0 hczw_1 hczw_2 hczw_3 hczw_4 BKW_; have hW_ := hW2_.out; clear hW2_; subst hW_) | ((with_reducible refine gc_ (f := 32) rfl ?_); refine gl_ 21 Tryd.func32 #[.agg #[.int .i64 t8, .bool t9, .slice Ao3 t10.length co3, .slice Ao4 t11.length co4, .int .i64 (wrap64 (a0_4 + 1))]] ?_; (with_reducible refine (spec_l12Good.calls k t8 t9 _ _ t10 _ _ t11 (wrap64 (a0_4 + 1)) true _ ?side1 ?side2 ?side3 ?side4 A8.out).mono ?_); (case side1 => refine (rr_ (e := 3) (base := w.heap.size) (ok := fun k_ => ((no_ (.slice Ao4 t11.length co4) k_ ∧ no_ (.slice Ao1 t5.length co1) k_) ∧ no_ (.slice Ao2 t6.length co2) k_)) (n := t10.length) (c := co3) ?_).2.2; exact b6o8_); (case side2 => exact (rr_ HO3.out).2.1); (case side3 => refine (rr_ (e := 3) (base := w.heap.size) (ok := fun k_ => ((no_ (.slice Ao3 t10.length co3) k_ ∧ no_ (.slice Ao1 t5.length co1) k_) ∧ no_ (.slice Ao2 t6.length co2) k_)) (n := t11.length) (c := co4) ?_).2.2; exact bth6_); (case side4 => exact (rr_ HO4.out).2.1); rintro e w8 ⟨rfl, hb⟩; refine ⟨_, rfl, ?_⟩; replace HO1 := A0_ (Kd.R_below bzqp_ hb); replace HO2 := A0_ (Kd.R_below byr6_ hb); replace HO3 := A0_ (Kd.R_below b6o8_ hb); replace HO4 := A0_ (Kd.R_below bth6_ hb); replace BK1 := k1_ BK1 hb; replace BK2 := k1_ BK2 hb; replace BK3 := k1_ BK3 hb; replace BK4 := k2_ (.cells #[.int .i64 t8, .bool t9, .slice Ao3 t10.length co3, .slice Ao4 t11.length co4, .int .i64 (wrap64 (a0_4 + 1))] 26 (0, 0)) BK4 hb; replace HB := hb_ hb b2i7_; (try clear hb); have hcz7 := z5_ BK4; have hcz8 := z5_ BK3))
  refine bodyPost_ret (results_ct rfl _ _ gb3 26 #[.int .i64 t8, .bool t9, .slice Ao3 t10.length co3, .slice Ao4 t11.length co4, .int .i64 (wrap64 (a0_4 + 1))] (0, 0) _ rfl (u1_ BK3) Tryd.underlying26 rfl bfqv_) rfl ?_
  exact ⟨_, _, bnwh_, by (with_reducible repeat (first | apply ra_ | apply rn_ | apply rd_)); exact Kd.R_mono (rf_ (rf_ (rf_ (rf_ (rf_ (Kd.R_types HO3.out BK3.out bi3y_) k2_0 _) k2_0 _) k2_0 _) k2_0 _) (fun _ hk => hk.2) (.int .i64 (wrap64 (a0_4 + 1)))) (fun _ hk => hk.1.1.1), by (with_reducible repeat (first | apply ra_ | apply rn_ | apply rd_)); exact Kd.R_mono (rf_ (rf_ (rf_ (rf_ (rf_ (Kd.R_types HO4.out BK3.out bi3y_) k2_0 _) k2_0 _) k2_0 _) k2_0 _) (fun _ hk => hk.2) (.int .i64 (wrap64 (a0_4 + 1)))) (fun _ hk => hk.1.1.1), b2i7_⟩
 ·obtain rfl := bf_.mpr c1
  rw [if_neg ft_] at H
  simp only [sj_, pj_] at H
  obtain ⟨rfl, rfl, rfl, rfl, rfl, rfl⟩ := H
  go_enter Tryd.func48, Tryd.ntmps48
  go_wp2_with (first | ((with_reducible refine gd_ (N := 2) rfl ?_); refine bx_ 2 #[.int .i64 a0_0, .bool a0_1, .slice A0_2 l0_2.length c0_2, .slice A0_3 l0_3.length c0_3, .int .i64 a0_4] 26 ?_; intro gb1 hg w1 BK1 hb; have GW1 := ge_ hg brt4_; have GE1 := GW1; replace HB := hb_ hb brt4_; clear hb hg) | ((with_reducible refine gd_ (N := 3) rfl ?_); refine bx_ 3 #[.int .i64 a1_0, .int .i64 a1_1, .int .i64 a1_2] 45 ?_; intro gb2 hg w2 BK2 hb; have GW2 := ge_ hg be6g_; have GE2 := GW2; replace HB := hb_ hb be6g_; have NB1_2 := nl_ hg BK1; have NB2_1 := ng_ hg BK1; replace BK1 := k1_ BK1 hb; clear hb hg) | ((with_reducible refine gd_ (N := 4) rfl ?_); refine bx_ 4 #[.int .i64 0, .bool false, .slice none 0 0, .slice none 0 0, .int .i64 0] 26 ?_; intro gb3 hg w3 BK3 hb; have GW3 := ge_ hg bfnq_; have GE3 := GW3; replace HB := hb_ hb bfnq_; have NB1_3 := nl_ hg BK1; have NB3_1 := ng_ hg BK1; replace BK1 := k1_ BK1 hb; have NB2_3 := nl_ hg BK2; have NB3_2 := ng_ hg BK2; replace BK2 := k1_ BK2 hb; clear hb hg; have hnb1 := NB1_2.out; have hnc1 := NB2_1.out; have hnb2 := NB1_3.out; have hnc2 := NB3_1.out; have hcz1 := z5_ BK1; have hnb3 := NB2_3.out; have hnc3 := NB3_2.out; have hcz2_0 : w3.cell? ⟨gb2, 0, none⟩ = some (.int .i64 a1_0) := (kc_ BK2.out 0).trans rfl; have hcz2_1 : w3.cell? ⟨gb2, 1, none⟩ = some (.int .i64 a1_1) := (kc_ BK2.out 1).trans rfl; have hcz2_2 : w3.cell? ⟨gb2, 2, none⟩ = some (.int .i64 a1_2) := (kc_ BK2.out 2).trans rfl; have hfz2_0 := kf_ BK2.out 0; have hfz2_1 := kf_ BK2.out 1; have hfz2_2 := kf_ BK2.out 2) | ((with_reducible refine gc_ (f := 69) rfl ?_); refine gl_ 9 Tryd.func69 #[.agg #[.int .i64 a0_0, .bool a0_1, .slice A0_2 l0_2.length c0_2, .slice A0_3 l0_3.length c0_3, .int .i64 a0_4], .agg #[.int .i64 a1_0, .int .i64 a1_1, .int .i64 a1_2]] ?_; (with_reducible refine (spec_l12May.calls k a0_0 a0_1 _ _ l0_2 _ _ l0_3 a0_4 a1_0 a1_1 a1_2 false _ ?side1 ?side2 ?side3 ?side4 A2.out).mono ?_); (case side1 => exact b6n8_); (case side2 => exact HC0_2.out); (case side3 => exact bkan_); (case side4 => exact HC0_3.out); rintro e w4 ⟨rfl, hb⟩; refine ⟨_, rfl, ?_⟩; replace BK1 := k1_ BK1 hb; replace BK2 := k1_ BK2 hb; replace BK3 := k1_ BK3 hb; replace HB := hb_ hb b850_; (try clear hb); have hcz3 := z5_ BK3))
  refine bodyPost_ret (results_ct rfl _ _ gb3 26 #[.int .i64 0, .bool false, .slice none 0 0, .slice none 0 0, .int .i64 0] (0, 0) _ rfl (u1_ BK3) Tryd.underlying26 rfl bfqv_) rfl ?_
  exact ⟨_, _, bnwh_, bwfe_, bwfe_, b850_⟩
 /-- A state of type 95 at block g of W; what its slices lead to came in by w1. -/
def IsS95 (w0 W : World) (g : Nat) (f0 : List Int) (f1 : Int) (f2 : Int) : Prop := ∃ A0 c0, W.heap[g]? = some (.cells #[.slice A0 f0.length c0, .int .i64 f1, .int .u64 f2] 95 (0, 0)) ∧ w0.heap.size ≤ g ∧ Kd.C (Kd.int .u8) w0 A0 f0.length f0
theorem IsS95.grown {w0 W : World} {g : Nat} {f0 : List Int} {f1 : Int} {f2 : Int} {W1 : World} {row : Option Nat} (h : IsS95 w0 W g f0 f1 f2) (hw : W.grownBy W1 row) (hne : some g ≠ row) : IsS95 w0 W1 g f0 f1 f2 := by
 obtain ⟨A1, c1, hb, hg, hr0⟩ := h
 exact ⟨A1, c1, blk_grown hb hw hne, hg, hr0⟩
theorem IsS95.own_neN {w0 W : World} {g : Nat} {f0 : List Int} {f1 : Int} {f2 : Int} {α : Type} {d : Kd α} {e : Nat} {base : Nat} {ok : Nat → Prop} {v : Value} {xs : List α} (h : IsS95 w0 W g f0 f1 f2) (ho : Kd.N d e W base ok v xs) (ht : e ≠ 95) : some g ≠ v.ownBlock := by
 obtain ⟨A1, c1, hb, hg, hr0⟩ := h
 exact Kd.N_ne ho hb ht
theorem IsS95.fresh {w0 W : World} {g : Nat} {f0 : List Int} {f1 : Int} {f2 : Int} (h : IsS95 w0 W g f0 f1 f2) : ∀ k, W.heap.size ≤ k → k ≠ g := by
 obtain ⟨A1, c1, hb, hg, hr0⟩ := h
 exact Kd.freshB hb
theorem IsS95.kept {w0 W : World} {g : Nat} {f0 : List Int} {f1 : Int} {f2 : Int} {W1 : World} {S : Nat → Prop} (h : IsS95 w0 W g f0 f1 f2) (hk : Kept W W1 S) (hne : ¬ S g) : IsS95 w0 W1 g f0 f1 f2 := by
 obtain ⟨A1, c1, hb, hg, hr0⟩ := h
 exact ⟨A1, c1, blk_kept hb hk hne, hg, hr0⟩
theorem IsS95.below {w0 W : World} {g : Nat} {f0 : List Int} {f1 : Int} {f2 : Int} {W1 : World} (h : IsS95 w0 W g f0 f1 f2) (hw : Below W.heap.size W W1) : IsS95 w0 W1 g f0 f1 f2 := h.grown (grown_of_below hw none) bxka_
theorem IsS95.alloc {w0 W : World} {g : Nat} {f0 : List Int} {f1 : Int} {f2 : Int} (h : IsS95 w0 W g f0 f1 f2) (o : Obj) : IsS95 w0 (W.alloc o) g f0 f1 f2 := h.below (ba_ (Below.refl _ _) o)
theorem IsS95.drewN {w0 W : World} {g : Nat} {f0 : List Int} {f1 : Int} {f2 : Int} (h : IsS95 w0 W g f0 f1 f2) (m : Nat) : IsS95 w0 (W.drewN m) g f0 f1 f2 := h
theorem IsS95.drew {w0 W : World} {g : Nat} {f0 : List Int} {f1 : Int} {f2 : Int} (h : IsS95 w0 W g f0 f1 f2) : IsS95 w0 W.drew g f0 f1 f2 := h
theorem IsS95.at_ {w0 W : World} {g : Nat} {f0 : List Int} {f1 : Int} {f2 : Int} {w' : World} {m : Nat} (hq : W.drewN m = w') (h : IsS95 w0 W g f0 f1 f2) : IsS95 w0 w' g f0 f1 f2 := by subst hq; exact IsS95.drewN h m
theorem IsS95.apart {w0 W : World} {g : Nat} {f0 : List Int} {f1 : Int} {f2 : Int} {α : Type} {d : Kd α} {e : Nat} {base : Nat} {ok : Nat → Prop} {v : Value} {xs : List α} (h : IsS95 w0 W g f0 f1 f2) (ho : d.R e W base ok v xs) (ht : ∀ q, q ∈ e :: d.E → q ≠ 95) : d.R e W base (fun k => ok k ∧ k ≠ g) v xs := by
 obtain ⟨A1, c1, hb, hg, hr0⟩ := h
 exact Kd.R_types ho hb ht
theorem IsS95.own_ne {w0 W : World} {g : Nat} {f0 : List Int} {f1 : Int} {f2 : Int} {α : Type} {d : Kd α} {e : Nat} {base : Nat} {ok : Nat → Prop} {v : Value} {xs : List α} (h : IsS95 w0 W g f0 f1 f2) (ho : d.R e W base ok v xs) (ht : e ≠ 95) : some g ≠ v.ownBlock := by
 obtain ⟨A1, c1, hb, hg, hr0⟩ := h
 exact Kd.R_ne ho hb ht
theorem IsS95.apartQ {w0 W : World} {g : Nat} {f0 : List Int} {f1 : Int} {f2 : Int} {α : Type} {d : Kd α} {e : Nat} {base : Nat} {ok : Nat → Prop} {v : Value} {xs : List α} (h : IsS95 w0 W g f0 f1 f2) (ho : d.Q e W base ok v xs) (ht : ∀ q, q ∈ e :: d.E → q ≠ 95) : d.Q e W base (fun k => ok k ∧ k ≠ g) v xs := by
 obtain ⟨A1, c1, hb, hg, hr0⟩ := h
 exact Kd.Q_types ho hb ht
theorem IsS95.own_neQ {w0 W : World} {g : Nat} {f0 : List Int} {f1 : Int} {f2 : Int} {α : Type} {d : Kd α} {e : Nat} {base : Nat} {ok : Nat → Prop} {v : Value} {xs : List α} (h : IsS95 w0 W g f0 f1 f2) (ho : d.Q e W base ok v xs) (ht : e ≠ 95) : some g ≠ v.ownBlock := by
 obtain ⟨A1, c1, hb, hg, hr0⟩ := h
 exact Kd.Q_ne ho hb ht
theorem IsS95.apartS {w0 W : World} {g : Nat} {f0 : List Int} {f1 : Int} {f2 : Int} {α : Type} {d : Kd α} {e : Nat} {base : Nat} {ok : Nat → Prop} {v : Value} {xs : List α} (h : IsS95 w0 W g f0 f1 f2) (ho : d.S e W base ok v xs) (ht : ∀ q, q ∈ e :: d.E → q ≠ 95) : d.S e W base (fun k => ok k ∧ k ≠ g) v xs := by
 obtain ⟨A1, c1, hb, hg, hr0⟩ := h
 exact Kd.S_types ho hb ht
theorem IsS95.own_neS {w0 W : World} {g : Nat} {f0 : List Int} {f1 : Int} {f2 : Int} {α : Type} {d : Kd α} {e : Nat} {base : Nat} {ok : Nat → Prop} {v : Value} {xs : List α} (h : IsS95 w0 W g f0 f1 f2) (ho : d.S e W base ok v xs) (ht : e ≠ 95) : some g ≠ v.ownBlock := by
 obtain ⟨A1, c1, hb, hg, hr0⟩ := h
 exact Kd.S_ne ho hb ht
theorem IsS95.lt {w0 W : World} {g : Nat} {f0 : List Int} {f1 : Int} {f2 : Int} (h : IsS95 w0 W g f0 f1 f2) : g < W.heap.size := by
 obtain ⟨A1, c1, hb, hg, hr0⟩ := h
 exact blk_lt hb
theorem IsS95.ge {w0 W : World} {g : Nat} {f0 : List Int} {f1 : Int} {f2 : Int} (h : IsS95 w0 W g f0 f1 f2) : w0.heap.size ≤ g := by
 obtain ⟨A1, c1, hb, hg, hr0⟩ := h
 exact hg
theorem IsS95.ne_blk {w0 W : World} {g : Nat} {f0 : List Int} {f1 : Int} {f2 : Int} {a : Nat} {cs : Array Value} {t : TypeId} {fr : Nat × Nat} (h : IsS95 w0 W g f0 f1 f2) (hb2 : W.heap[a]? = some (.cells cs t fr)) (ht : t ≠ 95) : g ≠ a := by
 obtain ⟨A1, c1, hb, hg, hr0⟩ := h
 rintro rfl
 rw [hb] at hb2
 injection hb2 with hb2
 injection hb2 with _ ht2
 exact ht ht2.symm
theorem IsS95.far {w0 W : World} {g : Nat} {f0 : List Int} {f1 : Int} {f2 : Int} {p : Addr} (h : IsS95 w0 W g f0 f1 f2) (hne : g ≠ p.block) (u : Value) : IsS95 w0 (W.setCell p u) g f0 f1 f2 := by
 obtain ⟨A1, c1, hb, hg, hr0⟩ := h
 exact ⟨A1, c1, blk_far hb hne u, hg, hr0⟩
theorem cellS95_0 {W : World} {g : Nat} {A0 : Option Addr} {c0 : Nat} {f0 : List Int} {f1 : Int} {f2 : Int} (h : W.heap[g]? = some (.cells #[.slice A0 f0.length c0, .int .i64 f1, .int .u64 f2] 95 (0, 0))) : W.cell? ⟨g, 0, none⟩ = some (.slice A0 f0.length c0) := (kc_ h 0).trans rfl
theorem cellS95_1 {W : World} {g : Nat} {A0 : Option Addr} {c0 : Nat} {f0 : List Int} {f1 : Int} {f2 : Int} (h : W.heap[g]? = some (.cells #[.slice A0 f0.length c0, .int .i64 f1, .int .u64 f2] 95 (0, 0))) : W.cell? ⟨g, 1, none⟩ = some (.int .i64 f1) := (kc_ h 1).trans rfl
theorem IsS95.set_1 {w0 W : World} {g : Nat} {f0 : List Int} {f1 : Int} {f2 : Int} (h : IsS95 w0 W g f0 f1 f2) (x : Int) : IsS95 w0 (W.setCell ⟨g, 1, none⟩ (.int .i64 x)) g f0 x f2 := by
 obtain ⟨A1, c1, hb, hg, hr0⟩ := h
 exact ⟨A1, c1, by simpa using blk_set hb 1 (.int .i64 x), hg, hr0⟩
theorem cellS95_2 {W : World} {g : Nat} {A0 : Option Addr} {c0 : Nat} {f0 : List Int} {f1 : Int} {f2 : Int} (h : W.heap[g]? = some (.cells #[.slice A0 f0.length c0, .int .i64 f1, .int .u64 f2] 95 (0, 0))) : W.cell? ⟨g, 2, none⟩ = some (.int .u64 f2) := (kc_ h 2).trans rfl
theorem IsS95.set_2 {w0 W : World} {g : Nat} {f0 : List Int} {f1 : Int} {f2 : Int} (h : IsS95 w0 W g f0 f1 f2) (x : Int) : IsS95 w0 (W.setCell ⟨g, 2, none⟩ (.int .u64 x)) g f0 f1 x := by
 obtain ⟨A1, c1, hb, hg, hr0⟩ := h
 exact ⟨A1, c1, by simpa using blk_set hb 2 (.int .u64 x), hg, hr0⟩
theorem IsS95.new (w0 W : World) (A0 : Option Addr) (c0 : Nat) (f0 : List Int) (f1 : Int) (f2 : Int) (hB : Below w0.heap.size w0 W) (hr0 : Kd.C (Kd.int .u8) w0 A0 f0.length f0) : IsS95 w0 (W.alloc (.cells #[.slice A0 f0.length c0, .int .i64 f1, .int .u64 f2] 95)) W.heap.size f0 f1 f2 := ⟨A0, c0, by simpa using heap_alloc_new W _, hB.size, hr0⟩

def spec_l1Cur_next.f (s0_0 : List Int) (s0_1 : Int) (s0_2 : Int) : Option (Int × Int × Int) := if s0_1 < (s0_0.length : Int) then (if 0 ≤ s0_1 then (if (wrap64 (s0_1 + 1)) ≤ (s0_0.length : Int) then (some (wrap64 (rd s0_0 s0_1), wrap64 (s0_1 + 1), IntKind.u64.wrap ((IntKind.u64.wrap ((IntKind.u64.wrap (s0_2 * 6364136223846793005)) + (IntKind.u64.wrap (wrap64 (rd s0_0 s0_1))))) + 462197))) else (some (wrap64 (Go.bits .and .u64 ((IntKind.u64.wrap ((IntKind.u64.wrap ((IntKind.u64.wrap (s0_2 * 6364136223846793005)) + (IntKind.u64.wrap (wrap64 (rd s0_0 s0_1))))) + 462197)) / 1099511627776) 255), wrap64 (s0_1 + 1), IntKind.u64.wrap ((IntKind.u64.wrap ((IntKind.u64.wrap (s0_2 * 6364136223846793005)) + (IntKind.u64.wrap (wrap64 (rd s0_0 s0_1))))) + 462197)))) else (none)) else (if (wrap64 (s0_1 + 1)) ≤ (s0_0.length : Int) then (some (0, wrap64 (s0_1 + 1), IntKind.u64.wrap ((IntKind.u64.wrap ((IntKind.u64.wrap (s0_2 * 6364136223846793005)) + 0)) + 462197))) else (some (wrap64 (Go.bits .and .u64 ((IntKind.u64.wrap ((IntKind.u64.wrap ((IntKind.u64.wrap (s0_2 * 6364136223846793005)) + 0)) + 462197)) / 1099511627776) 255), wrap64 (s0_1 + 1), IntKind.u64.wrap ((IntKind.u64.wrap ((IntKind.u64.wrap (s0_2 * 6364136223846793005)) + 0)) + 462197))))
theorem spec_l1Cur_next.calls (g : Nat) (s0_0 : List Int) (s0_1 : Int) (s0_2 : Int) (r1 : Int) (r2 : Int) (r3 : Int) (w0 w : World) (hI : IsS95 w0 w g s0_0 s0_1 s0_2) (hB : Below w0.heap.size w0 w) (h : spec_l1Cur_next.f s0_0 s0_1 s0_2 = some (r1, r2, r3)) :
  Calls Tryd.prog 105 #[.pointer (some ⟨g, 0, none⟩)] w fun e w' => e = .returned (.int .i64 r1) ∧ IsS95 w0 w' g s0_0 r2 r3 ∧ Below w0.heap.size w0 w' ∧ KeepBut w w' g none := by
 have HI0 := A0_ hI
 have HK := A0_ (KeepBut.refl w g none)
 have HL := A0_ hB.size
 clear hI
 have HW0 := A0_ hB.size
 have HB := A0_ hB
 clear hB
 have H : (if s0_1 < (s0_0.length : Int) then (if 0 ≤ s0_1 then (if (wrap64 (s0_1 + 1)) ≤ (s0_0.length : Int) then (some (wrap64 (rd s0_0 s0_1), wrap64 (s0_1 + 1), IntKind.u64.wrap ((IntKind.u64.wrap ((IntKind.u64.wrap (s0_2 * 6364136223846793005)) + (IntKind.u64.wrap (wrap64 (rd s0_0 s0_1))))) + 462197))) else (some (wrap64 (Go.bits .and .u64 ((IntKind.u64.wrap ((IntKind.u64.wrap ((IntKind.u64.wrap (s0_2 * 6364136223846793005)) + (IntKind.u64.wrap (wrap64 (rd s0_0 s0_1))))) + 462197)) / 1099511627776) 255), wrap64 (s0_1 + 1), IntKind.u64.wrap ((IntKind.u64.wrap ((IntKind.u64.wrap (s0_2 * 6364136223846793005)) + (IntKind.u64.wrap (wrap64 (rd s0_0 s0_1))))) + 462197)))) else (none)) else (if (wrap64 (s0_1 + 1)) ≤ (s0_0.length : Int) then (some (0, wrap64 (s0_1 + 1), IntKind.u64.wrap ((IntKind.u64.wrap ((IntKind.u64.wrap (s0_2 * 6364136223846793005)) + 0)) + 462197))) else (some (wrap64 (Go.bits .and .u64 ((IntKind.u64.wrap ((IntKind.u64.wrap ((IntKind.u64.wrap (s0_2 * 6364136223846793005)) + 0)) + 462197)) / 1099511627776) 255), wrap64 (s0_1 + 1), IntKind.u64.wrap ((IntKind.u64.wrap ((IntKind.u64.wrap (s0_2 * 6364136223846793005)) + 0)) + 462197))))) = some (r1, r2, r3) := h
 clear h
 by_cases c1 : s0_1 < (s0_0.length : Int)
 case neg =>
  rw [if_neg c1] at H
  have c1b0 : decide (s0_1 < (s0_0.length : Int)) = false := decide_eq_false c1
  clear c1
  by_cases c2 : (wrap64 (s0_1 + 1)) ≤ (s0_0.length : Int)
  ·rw [if_pos c2] at H
   have c2b0 : decide ((wrap64 (s0_1 + 1)) ≤ (s0_0.length : Int)) = true := dt_ c2
   clear c2
   simp only [sj_, pj_] at H
   obtain ⟨rfl, rfl, rfl⟩ := H
   obtain ⟨ASz8_0, cSz8_0, HGz8, hgz8, HSz8_0⟩ := HI0.out
   have hcz1_0 := cellS95_0 HGz8
   have hcz1_1 := cellS95_1 HGz8
   have hcz1_2 := cellS95_2 HGz8
   have hfz1_1 := kf_ HGz8 1
   have hfz1_2 := kf_ HGz8 2
   clear HGz8 hgz8
   go_enter Tryd.func105, Tryd.ntmps105
   go_wp2
   repeat (go_quiet (fail); try go_wp2)
   go_ret
   exact ⟨bnwh_, bltj_, bg6d_, bjmx_⟩
  rw [if_neg c2] at H
  have c2b0 : decide ((wrap64 (s0_1 + 1)) ≤ (s0_0.length : Int)) = false := decide_eq_false c2
  clear c2
  simp only [sj_, pj_] at H
  obtain ⟨rfl, rfl, rfl⟩ := H
  obtain ⟨ASz9_0, cSz9_0, HGz9, hgz9, HSz9_0⟩ := HI0.out
  have hcz1_0 := cellS95_0 HGz9
  have hcz1_1 := cellS95_1 HGz9
  have hcz1_2 := cellS95_2 HGz9
  have hfz1_1 := kf_ HGz9 1
  have hfz1_2 := kf_ HGz9 2
  clear HGz9 hgz9
  go_enter Tryd.func105, Tryd.ntmps105
  go_wp2
  repeat (go_quiet (fail); try go_wp2)
  go_ret
  exact ⟨bnwh_, bltj_, bg6d_, bjmx_⟩
 rw [if_pos c1] at H
 have c1b0 : decide (s0_1 < (s0_0.length : Int)) = true := dt_ c1
 clear c1
 by_cases c2 : 0 ≤ s0_1
 case neg =>
  rw [if_neg c2] at H
  exact absurd H bxka_
 rw [if_pos c2] at H
 have c2b0 : decide (0 ≤ s0_1) = true := dt_ c2
 clear c2
 by_cases c3 : (wrap64 (s0_1 + 1)) ≤ (s0_0.length : Int)
 ·rw [if_pos c3] at H
  have c3b0 : decide ((wrap64 (s0_1 + 1)) ≤ (s0_0.length : Int)) = true := dt_ c3
  clear c3
  simp only [sj_, pj_] at H
  obtain ⟨rfl, rfl, rfl⟩ := H
  obtain ⟨ASz5_0, cSz5_0, HGz5, hgz5, HSz5_0⟩ := HI0.out
  have hcz1_0 := cellS95_0 HGz5
  have hcz1_1 := cellS95_1 HGz5
  have hcz1_2 := cellS95_2 HGz5
  have hfz1_1 := kf_ HGz5 1
  have hfz1_2 := kf_ HGz5 2
  clear HGz5 hgz5
  have p1 : 0 ≤ (s0_1 : Int) := od_ bpil_
  have q1 : s0_1 < (s0_0.length : Int) := od_ bpil_
  obtain ⟨ad1, e1, hx1_0⟩ := Kd.at_int HSz5_0 s0_1 p1 q1
  cases e1
  replace hx1_0 := pw_cell_below HB.out hx1_0
  replace p1 := eq_true p1
  replace q1 := eq_true q1
  go_enter Tryd.func105, Tryd.ntmps105
  go_wp2
  repeat (go_quiet (fail); try go_wp2)
  go_ret
  exact ⟨bnwh_, bltj_, bg6d_, bjmx_⟩
 rw [if_neg c3] at H
 have c3b0 : decide ((wrap64 (s0_1 + 1)) ≤ (s0_0.length : Int)) = false := decide_eq_false c3
 clear c3
 simp only [sj_, pj_] at H
 obtain ⟨rfl, rfl, rfl⟩ := H
 obtain ⟨ASz6_0, cSz6_0, HGz6, hgz6, HSz6_0⟩ := HI0.out
 have hcz1_0 := cellS95_0 HGz6
 have hcz1_1 := cellS95_1 HGz6
 have hcz1_2 := cellS95_2 HGz6
 have hfz1_1 := kf_ HGz6 1
 have hfz1_2 := kf_ HGz6 2
 clear HGz6 hgz6
 have p1 : 0 ≤ (s0_1 : Int) := od_ bpil_
 have q1 : s0_1 < (s0_0.length : Int) := od_ bpil_
 obtain ⟨ad1, e1, hx1_0⟩ := Kd.at_int HSz6_0 s0_1 p1 q1
 cases e1
 replace hx1_0 := pw_cell_below HB.out hx1_0
 replace p1 := eq_true p1
 replace q1 := eq_true q1
 go_enter Tryd.func105, Tryd.ntmps105
 go_wp2
 repeat (go_quiet (fail); try go_wp2)
 go_ret
 exact ⟨bnwh_, bltj_, bg6d_, bjmx_⟩

def spec_l1Cur_pick.f (s0_0 : List Int) (s0_1 : Int) (s0_2 : Int) (a1 : Int) : Option (Int × Int × Int) := if a1 ≤ 1 then (some (0, s0_1, s0_2)) else ((spec_l1Cur_next.f s0_0 s0_1 s0_2).bind fun bt419 => (if a1 > 200 then ((spec_l1Cur_next.f s0_0 bt419.2.1 bt419.2.2).bind fun bt422 => (if a1 = 0 then (none) else (some (Int.tmod (wrap64 ((wrap64 (bt419.1 * 256)) + bt422.1)) a1, bt422.2.1, bt422.2.2)))) else (if a1 = 0 then (none) else (some (Int.tmod bt419.1 a1, bt419.2.1, bt419.2.2)))))
theorem spec_l1Cur_pick.calls (g : Nat) (s0_0 : List Int) (s0_1 : Int) (s0_2 : Int) (a1 : Int) (r1 : Int) (r2 : Int) (r3 : Int) (w0 w : World) (hI : IsS95 w0 w g s0_0 s0_1 s0_2) (hB : Below w0.heap.size w0 w) (h : spec_l1Cur_pick.f s0_0 s0_1 s0_2 a1 = some (r1, r2, r3)) :
  Calls Tryd.prog 94 #[.pointer (some ⟨g, 0, none⟩), .int .i64 a1] w fun e w' => e = .returned (.int .i64 r1) ∧ IsS95 w0 w' g s0_0 r2 r3 ∧ Below w0.heap.size w0 w' ∧ KeepBut w w' g none := by
 have HI0 := A0_ hI
 have HK := A0_ (KeepBut.refl w g none)
 have HL := A0_ hB.size
 clear hI
 have HW0 := A0_ hB.size
 have HB := A0_ hB
 clear hB
 have H : (if a1 ≤ 1 then (some (0, s0_1, s0_2)) else ((spec_l1Cur_next.f s0_0 s0_1 s0_2).bind fun bt1 => (if a1 > 200 then ((spec_l1Cur_next.f s0_0 bt1.2.1 bt1.2.2).bind fun bt2 => (if a1 = 0 then (none) else (some (Int.tmod (wrap64 ((wrap64 (bt1.1 * 256)) + bt2.1)) a1, bt2.2.1, bt2.2.2)))) else (if a1 = 0 then (none) else (some (Int.tmod bt1.1 a1, bt1.2.1, bt1.2.2)))))) = some (r1, r2, r3) := h
 clear h
 by_cases c1 : a1 ≤ 1
 ·rw [if_pos c1] at H
  have c1b0 : decide (a1 ≤ 1) = true := dt_ c1
  clear c1
  simp only [sj_, pj_] at H
  obtain ⟨rfl, rfl, rfl⟩ := H
  go_enter Tryd.func94, Tryd.ntmps94
  go_wp2
  go_ret
  exact ⟨bnwh_, bnbf_, bg6d_, bjmx_⟩
 rw [if_neg c1] at H
 have c1b0 : decide (a1 ≤ 1) = false := decide_eq_false c1
 clear c1
 obtain ⟨⟨t1, t2, t3⟩, A2, H⟩ := o1_ H
 by_cases c2 : a1 > 200
 case neg =>
  rw [if_neg c2] at H
  have c2b0 : decide (200 < a1) = false := decide_eq_false c2
  clear c2
  by_cases c3 : a1 = 0
  ·rw [if_pos c3] at H
   exact absurd H bxka_
  rw [if_neg c3] at H
  obtain ⟨c3b0, c3b1⟩ := ef_ c3
  simp only [sj_, pj_] at H
  obtain ⟨rfl, rfl, rfl⟩ := H
  go_enter Tryd.func94, Tryd.ntmps94
  go_wp2_with (first | ((with_reducible refine gc_ (f := 105) rfl ?_); refine gl_ 9 Tryd.func105 #[.pointer (some ⟨g, 0, none⟩)] ?_; (with_reducible refine (spec_l1Cur_next.calls g s0_0 s0_1 s0_2 t1 t2 t3 w0 _ ?side1 ?side2 A2.out).mono ?_); (case side1 => exact bnbf_); (case side2 => exact bg6d_); rintro e w1 ⟨rfl, hi, hb, hk⟩; refine ⟨_, rfl, ?_⟩; replace HK := A0_ (KeepBut.trans bjmx_ hk (.inl rfl)); replace HB := A0_ (hb); replace HI0 := A0_ (hi); (try clear hb); (try clear hk); (try clear hi)))
  go_ret
  exact ⟨bnwh_, bnbf_, bg6d_, bjmx_⟩
 rw [if_pos c2] at H
 have c2b0 : decide (200 < a1) = true := dt_ c2
 clear c2
 obtain ⟨⟨t4, t5, t6⟩, A4, H⟩ := o1_ H
 by_cases c3 : a1 = 0
 ·rw [if_pos c3] at H
  exact absurd H bxka_
 rw [if_neg c3] at H
 obtain ⟨c3b0, c3b1⟩ := ef_ c3
 simp only [sj_, pj_] at H
 obtain ⟨rfl, rfl, rfl⟩ := H
 go_enter Tryd.func94, Tryd.ntmps94
 go_wp2_with (first | ((with_reducible refine gc_ (f := 105) rfl ?_); refine gl_ 9 Tryd.func105 #[.pointer (some ⟨g, 0, none⟩)] ?_; (with_reducible refine (spec_l1Cur_next.calls g s0_0 s0_1 s0_2 t1 t2 t3 w0 _ ?side1 ?side2 A2.out).mono ?_); (case side1 => exact bnbf_); (case side2 => exact bg6d_); rintro e w1 ⟨rfl, hi, hb, hk⟩; refine ⟨_, rfl, ?_⟩; replace HK := A0_ (KeepBut.trans bjmx_ hk (.inl rfl)); replace HB := A0_ (hb); replace HI0 := A0_ (hi); (try clear hb); (try clear hk); (try clear hi)) | ((with_reducible refine gc_ (f := 105) rfl ?_); refine gl_ 15 Tryd.func105 #[.pointer (some ⟨g, 0, none⟩)] ?_; (with_reducible refine (spec_l1Cur_next.calls g s0_0 t2 t3 t4 t5 t6 w0 _ ?side1 ?side2 A4.out).mono ?_); (case side1 => exact bnbf_); (case side2 => exact bg6d_); rintro e w2 ⟨rfl, hi, hb, hk⟩; refine ⟨_, rfl, ?_⟩; replace HK := A0_ (KeepBut.trans bjmx_ hk (.inl rfl)); replace HB := A0_ (hb); replace HI0 := A0_ (hi); (try clear hb); (try clear hk); (try clear hi)))
 go_ret
 exact ⟨bnwh_, bnbf_, bg6d_, bjmx_⟩

def spec_l1Cur_among.f (s0_0 : List Int) (s0_1 : Int) (s0_2 : Int) (l1 : List Int) : Option (Int × Int × Int) := (spec_l1Cur_pick.f s0_0 s0_1 s0_2 (l1.length : Int)).bind fun bt425 => (if 0 ≤ bt425.1 then (if bt425.1 < (l1.length : Int) then (some (rd l1 bt425.1, bt425.2.1, bt425.2.2)) else (none)) else (none))
theorem spec_l1Cur_among.calls (g : Nat) (s0_0 : List Int) (s0_1 : Int) (s0_2 : Int) (A1 : Option Addr) (c1 : Nat) (l1 : List Int) (r1 : Int) (r2 : Int) (r3 : Int) (w0 w : World) (hI : IsS95 w0 w g s0_0 s0_1 s0_2) (hB : Below w0.heap.size w0 w) (hr1 : Kd.C (Kd.int .i64) w A1 l1.length l1) (hc1 : l1.length ≤ c1) (hf1 : ∀ ad, A1 = some ad → 0 < l1.length → ad.block ≠ g) (h : spec_l1Cur_among.f s0_0 s0_1 s0_2 l1 = some (r1, r2, r3)) :
  Calls Tryd.prog 92 #[.pointer (some ⟨g, 0, none⟩), .slice A1 l1.length c1] w fun e w' => e = .returned (.int .i64 r1) ∧ IsS95 w0 w' g s0_0 r2 r3 ∧ Below w0.heap.size w0 w' ∧ KeepBut w w' g none := by
 have HR1 := A0_ hr1
 have HC1 := A0_ hc1
 clear hr1 hc1
 have HI0 := A0_ hI
 have HK := A0_ (KeepBut.refl w g none)
 have HL := A0_ hB.size
 clear hI
 have HW0 := A0_ hB.size
 have HB := A0_ hB
 clear hB
 have H : ((spec_l1Cur_pick.f s0_0 s0_1 s0_2 (l1.length : Int)).bind fun bt1 => (if 0 ≤ bt1.1 then (if bt1.1 < (l1.length : Int) then (some (rd l1 bt1.1, bt1.2.1, bt1.2.2)) else (none)) else (none))) = some (r1, r2, r3) := h
 clear h
 obtain ⟨⟨t1, t2, t3⟩, A3, H⟩ := o1_ H
 by_cases c2 : 0 ≤ t1
 case neg =>
  rw [if_neg c2] at H
  exact absurd H bxka_
 rw [if_pos c2] at H
 have c2b0 : decide (0 ≤ t1) = true := dt_ c2
 clear c2
 by_cases c3 : t1 < (l1.length : Int)
 case neg =>
  rw [if_neg c3] at H
  exact absurd H bxka_
 rw [if_pos c3] at H
 have c3b0 : decide (t1 < (l1.length : Int)) = true := dt_ c3
 clear c3
 simp only [sj_, pj_] at H
 obtain ⟨rfl, rfl, rfl⟩ := H
 go_enter Tryd.func92, Tryd.ntmps92
 go_wp2_with (first | ((with_reducible refine gc_ (f := 94) rfl ?_); refine gl_ 9 Tryd.func94 #[.pointer (some ⟨g, 0, none⟩), .int .i64 (l1.length : Int)] ?_; (with_reducible refine (spec_l1Cur_pick.calls g s0_0 s0_1 s0_2 (l1.length : Int) t1 t2 t3 w0 _ ?side1 ?side2 A3.out).mono ?_); (case side1 => exact bnbf_); (case side2 => exact bg6d_); rintro e w1 ⟨rfl, hi, hb, hk⟩; refine ⟨_, rfl, ?_⟩; replace HK := A0_ (KeepBut.trans bjmx_ hk (.inl rfl)); replace HB := A0_ (hb); replace HI0 := A0_ (hi); (try clear hb); (try clear hk); (try clear hi); have p1 : 0 ≤ (t1 : Int) := od_ bpil_; have q1 : t1 < (l1.length : Int) := od_ bpil_; obtain ⟨ad1, e1, hx1_0⟩ := Kd.at_int HR1.out t1 p1 q1; cases e1; replace hx1_0 := keep_cell HK.out hx1_0 (by first | (rw [add_block]; exact hf1 _ rfl bh19_) | exact hf1 _ rfl bh19_ | exact hf1 ad1 rfl bh19_); replace p1 := eq_true p1; replace q1 := eq_true q1))
 go_ret
 exact ⟨bnwh_, bnbf_, bg6d_, bjmx_⟩

def spec_l1Cur_one.f (s0_0 : List Int) (s0_1 : Int) (s0_2 : Int) (a1 : Int) : Option (Bool × Int × Int) := (spec_l1Cur_pick.f s0_0 s0_1 s0_2 a1).bind fun bt429 => (some ((bt429.1 == 0), bt429.2.1, bt429.2.2))
theorem spec_l1Cur_one.calls (g : Nat) (s0_0 : List Int) (s0_1 : Int) (s0_2 : Int) (a1 : Int) (r1 : Bool) (r2 : Int) (r3 : Int) (w0 w : World) (hI : IsS95 w0 w g s0_0 s0_1 s0_2) (hB : Below w0.heap.size w0 w) (h : spec_l1Cur_one.f s0_0 s0_1 s0_2 a1 = some (r1, r2, r3)) :
  Calls Tryd.prog 93 #[.pointer (some ⟨g, 0, none⟩), .int .i64 a1] w fun e w' => e = .returned (.bool r1) ∧ IsS95 w0 w' g s0_0 r2 r3 ∧ Below w0.heap.size w0 w' ∧ KeepBut w w' g none := by
 have HI0 := A0_ hI
 have HK := A0_ (KeepBut.refl w g none)
 have HL := A0_ hB.size
 clear hI
 have HW0 := A0_ hB.size
 have HB := A0_ hB
 clear hB
 have H : ((spec_l1Cur_pick.f s0_0 s0_1 s0_2 a1).bind fun bt1 => (some ((bt1.1 == 0), bt1.2.1, bt1.2.2))) = some (r1, r2, r3) := h
 clear h
 obtain ⟨⟨t1, t2, t3⟩, A2, H⟩ := o1_ H
 replace H : (some ((t1 == 0), t2, t3)) = some (r1, r2, r3) := H
 simp only [sj_, pj_] at H
 obtain ⟨rfl, rfl, rfl⟩ := H
 go_enter Tryd.func93, Tryd.ntmps93
 go_wp2_with (first | ((with_reducible refine gc_ (f := 94) rfl ?_); refine gl_ 7 Tryd.func94 #[.pointer (some ⟨g, 0, none⟩), .int .i64 a1] ?_; (with_reducible refine (spec_l1Cur_pick.calls g s0_0 s0_1 s0_2 a1 t1 t2 t3 w0 _ ?side1 ?side2 A2.out).mono ?_); (case side1 => exact bnbf_); (case side2 => exact bg6d_); rintro e w1 ⟨rfl, hi, hb, hk⟩; refine ⟨_, rfl, ?_⟩; replace HK := A0_ (KeepBut.trans bjmx_ hk (.inl rfl)); replace HB := A0_ (hb); replace HI0 := A0_ (hi); (try clear hb); (try clear hk); (try clear hi)))
 go_ret
 exact ⟨bnwh_, bnbf_, bg6d_, bjmx_⟩

def spec_l1Cur_seat.f (s0_0 : List Int) (s0_1 : Int) (s0_2 : Int) (a1_0 : Int) (a1_1 : Bool) (l1_2 : List Int) : Option (Int × Int × Int) := (spec_l1Cur_one.f s0_0 s0_1 s0_2 30).bind fun bt433 => (if bt433.1 = true then ((spec_l1Cur_among.f s0_0 bt433.2.1 bt433.2.2 (([(-1), 0, a1_0, 4611686018427387904] : List Int))).bind fun bt439 => (some (bt439.1, bt439.2.1, bt439.2.2))) else ((spec_l1Least.f a1_0 24).bind fun t442 => ((spec_l1Most.f t442 1).bind fun t443 => ((spec_l1Cur_pick.f s0_0 bt433.2.1 bt433.2.2 t443).bind fun bt444 => (some (bt444.1, bt444.2.1, bt444.2.2))))))
theorem spec_l1Cur_seat.calls (g : Nat) (s0_0 : List Int) (s0_1 : Int) (s0_2 : Int) (a1_0 : Int) (a1_1 : Bool) (A1_2 : Option Addr) (c1_2 : Nat) (l1_2 : List Int) (r1 : Int) (r2 : Int) (r3 : Int) (w0 w : World) (hI : IsS95 w0 w g s0_0 s0_1 s0_2) (hB : Below w0.heap.size w0 w) (hr1_2 : Kd.C (Kd.int .i64) w A1_2 l1_2.length l1_2) (hc1_2 : l1_2.length ≤ c1_2) (hf1_2 : ∀ ad, A1_2 = some ad → 0 < l1_2.length → ad.block ≠ g) (h : spec_l1Cur_seat.f s0_0 s0_1 s0_2 a1_0 a1_1 l1_2 = some (r1, r2, r3)) :
  Calls Tryd.prog 107 #[.pointer (some ⟨g, 0, none⟩), .agg #[.int .i64 a1_0, .bool a1_1, .slice A1_2 l1_2.length c1_2]] w fun e w' => e = .returned (.int .i64 r1) ∧ IsS95 w0 w' g s0_0 r2 r3 ∧ Below w0.heap.size w0 w' ∧ KeepBut w w' g none := by
 have hu24 := Tryd.underlying24
 have HR1_2 := A0_ hr1_2
 have HC1_2 := A0_ hc1_2
 clear hr1_2 hc1_2
 have HI0 := A0_ hI
 have HK := A0_ (KeepBut.refl w g none)
 have HL := A0_ hB.size
 clear hI
 have HW0 := A0_ hB.size
 have HB := A0_ hB
 clear hB
 have H : ((spec_l1Cur_one.f s0_0 s0_1 s0_2 30).bind fun bt1 => (if bt1.1 = true then ((spec_l1Cur_among.f s0_0 bt1.2.1 bt1.2.2 (([(-1), 0, a1_0, 4611686018427387904] : List Int))).bind fun bt2 => (some (bt2.1, bt2.2.1, bt2.2.2))) else ((spec_l1Least.f a1_0 24).bind fun t1 => ((spec_l1Most.f t1 1).bind fun t2 => ((spec_l1Cur_pick.f s0_0 bt1.2.1 bt1.2.2 t2).bind fun bt3 => (some (bt3.1, bt3.2.1, bt3.2.2))))))) = some (r1, r2, r3) := h
 clear h
 obtain ⟨⟨t3, t4, t5⟩, A3, H⟩ := o1_ H
 by_cases c2 : t3 = true
 case neg =>
  obtain rfl := bf_.mpr c2
  rw [if_neg ft_] at H
  obtain ⟨t1, A5, H⟩ := o1_ H
  obtain ⟨t2, A7, H⟩ := o1_ H
  obtain ⟨⟨t6, t7, t8⟩, A9, H⟩ := o1_ H
  replace H : (some (t6, t7, t8)) = some (r1, r2, r3) := H
  simp only [sj_, pj_] at H
  obtain ⟨rfl, rfl, rfl⟩ := H
  go_enter Tryd.func107, Tryd.ntmps107
  go_wp2_with (first | ((with_reducible refine gd_ (N := 3) rfl ?_); refine bx_ 3 #[.int .i64 a1_0, .bool a1_1, .slice A1_2 l1_2.length c1_2] 24 ?_; intro gb1 hg w1 BK1 hb; replace HB := hb_ hb bg6d_; have GW1 := A0_ ((b7vg_ : w.heap.size ≤ gb1)); have GE1 := A0_ ((Nat.le_trans HW0.out (b7vg_ : w.heap.size ≤ gb1) : w0.heap.size ≤ gb1)); replace HK := A0_ (KeepBut.trans bjmx_ (KeepBut.of_below hb g none) (.inl rfl)); have NB0_1 := A0_ ((bdp5_ : g ≠ gb1)); have NB1_0 := A0_ ((btnc_ : gb1 ≠ g)); replace HI0 := A0_ (IsS95.below bnbf_ hb); clear hb hg) | ((with_reducible refine gc_ (f := 93) rfl ?_); refine gl_ 6 Tryd.func93 #[.pointer (some ⟨g, 0, none⟩), .int .i64 30] ?_; (with_reducible refine (spec_l1Cur_one.calls g s0_0 s0_1 s0_2 30 false t4 t5 w0 _ ?side1 ?side2 A3.out).mono ?_); (case side1 => exact bn4t_); (case side2 => exact bnur_); rintro e w2 ⟨rfl, hi, hb, hk⟩; refine ⟨_, rfl, ?_⟩; replace BK1 := kb1_ BK1 hk NB1_0; replace HK := A0_ (KeepBut.trans bcka_ hk (.inl rfl)); replace HB := A0_ (hb); replace HI0 := A0_ (hi); (try clear hb); (try clear hk); (try clear hi); have hnb1 := NB1_0.out; have hnc1 := NB0_1.out; have hcz1 := c3_ BK1) | ((with_reducible refine gc_ (f := 97) rfl ?_); refine gl_ 15 Tryd.func97 #[.int .i64 a1_0, .int .i64 24] ?_; (with_reducible refine (spec_l1Least.calls a1_0 24 t1 _ A5.out).mono ?_); rintro e w' ⟨rfl, ⟨nd, rfl⟩⟩; refine ⟨_, rfl, ?_⟩) | ((with_reducible refine gc_ (f := 96) rfl ?_); refine gl_ 16 Tryd.func96 #[.int .i64 t1, .int .i64 1] ?_; (with_reducible refine (spec_l1Most.calls t1 1 t2 _ A7.out).mono ?_); rintro e w' ⟨rfl, ⟨nd, rfl⟩⟩; refine ⟨_, rfl, ?_⟩) | ((with_reducible refine gc_ (f := 94) rfl ?_); refine gl_ 17 Tryd.func94 #[.pointer (some ⟨g, 0, none⟩), .int .i64 t2] ?_; (with_reducible refine (spec_l1Cur_pick.calls g s0_0 t4 t5 t2 t6 t7 t8 w0 _ ?side1 ?side2 A9.out).mono ?_); (case side1 => exact bn4t_); (case side2 => exact bnur_); rintro e w3 ⟨rfl, hi, hb, hk⟩; refine ⟨_, rfl, ?_⟩; replace BK1 := kb1_ BK1 hk NB1_0; replace HK := A0_ (KeepBut.trans bcka_ hk (.inl rfl)); replace HB := A0_ (hb); replace HI0 := A0_ (hi); (try clear hb); (try clear hk); (try clear hi)))
  go_ret
  exact ⟨bnwh_, bn4t_, bnur_, bcka_⟩
 subst c2
 rw [if_pos rfl] at H
 obtain ⟨y1, hy1⟩ : ∃ y_ : List Int, y_ = (([(-1), 0, a1_0, 4611686018427387904] : List Int)) := ⟨_, rfl⟩
 replace H : ((spec_l1Cur_among.f s0_0 t4 t5 y1).bind fun bt2 => (some (bt2.1, bt2.2.1, bt2.2.2))) = some (r1, r2, r3) := bgiq_
 have Ny1 := A0_ hy1
 clear hy1
 obtain ⟨⟨t6, t7, t8⟩, A5, H⟩ := o1_ H
 replace H : (some (t6, t7, t8)) = some (r1, r2, r3) := H
 simp only [sj_, pj_] at H
 obtain ⟨rfl, rfl, rfl⟩ := H
 go_enter Tryd.func107, Tryd.ntmps107
 go_wp2_with (first | ((with_reducible refine gd_ (N := 3) rfl ?_); refine bx_ 3 #[.int .i64 a1_0, .bool a1_1, .slice A1_2 l1_2.length c1_2] 24 ?_; intro gb1 hg w1 BK1 hb; replace HB := hb_ hb bg6d_; have GW1 := A0_ ((b7vg_ : w.heap.size ≤ gb1)); have GE1 := A0_ ((Nat.le_trans HW0.out (b7vg_ : w.heap.size ≤ gb1) : w0.heap.size ≤ gb1)); replace HK := A0_ (KeepBut.trans bjmx_ (KeepBut.of_below hb g none) (.inl rfl)); have NB0_1 := A0_ ((bdp5_ : g ≠ gb1)); have NB1_0 := A0_ ((btnc_ : gb1 ≠ g)); replace HI0 := A0_ (IsS95.below bnbf_ hb); clear hb hg) | ((with_reducible refine gc_ (f := 93) rfl ?_); refine gl_ 6 Tryd.func93 #[.pointer (some ⟨g, 0, none⟩), .int .i64 30] ?_; (with_reducible refine (spec_l1Cur_one.calls g s0_0 s0_1 s0_2 30 true t4 t5 w0 _ ?side1 ?side2 A3.out).mono ?_); (case side1 => exact bn4t_); (case side2 => exact bnur_); rintro e w2 ⟨rfl, hi, hb, hk⟩; refine ⟨_, rfl, ?_⟩; replace BK1 := kb1_ BK1 hk NB1_0; replace HK := A0_ (KeepBut.trans bcka_ hk (.inl rfl)); replace HB := A0_ (hb); replace HI0 := A0_ (hi); (try clear hb); (try clear hk); (try clear hi); have hnb1 := NB1_0.out; have hnc1 := NB0_1.out; have hcz1 := c3_ BK1) | ((with_reducible refine gd_ (N := 10) rfl ?_); refine Kd.R_lit (Kd.int .i64) _ 3 ?hg (N := 10) ?hd (xs := ([(-1), 0, a1_0, 4611686018427387904] : List Int)) (inner := [.int .i64 (-1), .int .i64 0, .int .i64 a1_0, .int .i64 4611686018427387904]) (ok := fun _ => True) (okp := fun _ => True) ?hr ?hp (fun _ hk => hk) trivial (Below.refl _ _) (Nat.le_refl _) bxka_ ?_; (case hd => rfl); (case hg => rfl); (case hr => go_simp; first | done | rfl); (case hp => exact (Reps.one (show Kd.M (Kd.int .i64) _ _ _ (-1) [.int .i64 (-1)] from rfl) (Reps.one (show Kd.M (Kd.int .i64) _ _ _ 0 [.int .i64 0] from rfl) (Reps.one (show Kd.M (Kd.int .i64) _ _ _ a1_0 [.int .i64 a1_0] from rfl) (Reps.one (show Kd.M (Kd.int .i64) _ _ _ 4611686018427387904 [.int .i64 4611686018427387904] from rfl) (Reps.none _ _)))))); intro v1 w3 ho11 hb hg_ hnew_; clear hg_ hnew_; (first | rw [← Ny1.out] at ho11 | (simp only [Int.reduceToNat] at ho11; rw [← Ny1.out] at ho11)); have HO1 := A0_ (Kd.R_lower ho11 (keep_size (w := w) (g := g) (row := none) bcka_)); replace BK1 := k1_ BK1 hb; replace HK := A0_ (KeepBut.trans bcka_ (KeepBut.of_below hb g none) (.inl rfl)); replace HB := hb_ hb bnur_; replace HI0 := A0_ (IsS95.below bn4t_ hb); clear hb ho11; obtain ⟨Ao1, co1, eo1⟩ := Kd.R_slice HO1.out; subst eo1) | ((with_reducible refine gc_ (f := 92) rfl ?_); refine gl_ 11 Tryd.func92 #[.pointer (some ⟨g, 0, none⟩), .slice Ao1 y1.length co1] ?_; (with_reducible refine (spec_l1Cur_among.calls g s0_0 t4 t5 _ _ y1 t6 t7 t8 w0 _ ?side1 ?side2 ?side3 ?side4 ?side5 A5.out).mono ?_); (case side1 => exact bn4t_); (case side2 => exact bnur_); (case side3 => exact bayy_); (case side4 => exact (rr_ HO1.out).2.1); (case side5 => exact far_slice (IsS95.own_ne HI0.out HO1.out bi3y_)); rintro e w4 ⟨rfl, hi, hb, hk⟩; refine ⟨_, rfl, ?_⟩; replace BK1 := kb1_ BK1 hk NB1_0; replace HO1 := A0_ (Kd.R_mono (Kd.R_keep (IsS95.apart (show IsS95 w0 _ g s0_0 t4 t5 from bn4t_) bsm5_ bi3y_) hk (fun _ h => h.2)) (fun _ h => h.1)); replace HK := A0_ (KeepBut.trans bcka_ hk (.inl rfl)); replace HB := A0_ (hb); replace HI0 := A0_ (hi); (try clear hb); (try clear hk); (try clear hi)))
 go_ret
 exact ⟨bnwh_, bn4t_, bnur_, bcka_⟩

def spec_l2Free.l0 : Nat → List Int → Int → Int → Bool → List Int → Option (List Int)
 | 0, _, _, _, _, _ => none
 | k + 1, x3, x4, x448000, x448001, x448002 => if x4 < x448000 then ((spec_l2Is.f k x448000 x448001 x448002 x4).bind fun t451 => (if t451 = true then (spec_l2Free.l0 k x3 (wrap64 (x4 + 1)) x448000 x448001 x448002) else (if x3.length < 17592186044416 then (spec_l2Free.l0 k (x3 ++ [x4]) (wrap64 (x4 + 1)) x448000 x448001 x448002) else (none)))) else (some x3)
def spec_l2Free.f (k : Nat) (a0_0 : Int) (a0_1 : Bool) (l0_2 : List Int) : Option (List Int) := spec_l2Free.l0 k (([] : List Int)) 0 a0_0 a0_1 l0_2
theorem spec_l2Free.mono_l : ∀ k, (∀ y0 y1 y2 y3 y4, LeO (spec_l2Free.l0 k y0 y1 y2 y3 y4) (spec_l2Free.l0 (k + 1) y0 y1 y2 y3 y4))
 | 0 => fun _ _ _ _ _ r h => by simp [spec_l2Free.l0] at h
 | k + 1 => by
  have ih0 := spec_l2Free.mono_l k
  ·intro y0 y1 y2 y3 y4
   unfold spec_l2Free.l0
   repeat' with_reducible first | exact ih0 .. | exact spec_l2Is.mono .. | exact LeO.refl .. | exact LeO.none .. | refine LeO.ite ?_ ?_ | refine LeO.bind ?_ (fun _ => ?_)
theorem spec_l2Free.mono : ∀ a0 a1 a2 k, LeO (spec_l2Free.f k a0 a1 a2) (spec_l2Free.f (k + 1) a0 a1 a2) := by
 intro a0 a1 a2 k
 have ih0 := spec_l2Free.mono_l k
 unfold spec_l2Free.f
 repeat' with_reducible first | exact ih0 .. | exact spec_l2Is.mono .. | exact LeO.refl .. | exact LeO.none .. | refine LeO.ite ?_ ?_ | refine LeO.bind ?_ (fun _ => ?_)
theorem spec_l2Free.calls (k : Nat) (a0_0 : Int) (a0_1 : Bool) (A0_2 : Option Addr) (c0_2 : Nat) (l0_2 : List Int) (r : List Int) (w : World) (hr0_2 : Kd.C (Kd.int .i64) w A0_2 l0_2.length l0_2) (hc0_2 : l0_2.length ≤ c0_2) (h : spec_l2Free.f k a0_0 a0_1 l0_2 = some r) :
  Calls Tryd.prog 121 #[.agg #[.int .i64 a0_0, .bool a0_1, .slice A0_2 l0_2.length c0_2]] w fun e w' => ∃ v0_ : Value, e = .returned (v0_) ∧ Kd.R (Kd.int .i64) 3 w' w.heap.size (fun _ => True) v0_ r ∧ Below w.heap.size w w' := by
 have hu24 := Tryd.underlying24
 have HR0_2 := A0_ hr0_2
 have HC0_2 := A0_ hc0_2
 clear hr0_2 hc0_2
 have HB := A0_ (Below.refl w.heap.size w)
 have H : (spec_l2Free.l0 k (([] : List Int)) 0 a0_0 a0_1 l0_2) = some r := h
 clear h
 obtain ⟨y1, hy1⟩ : ∃ y_ : List Int, y_ = (([] : List Int)) := ⟨_, rfl⟩
 replace H : (spec_l2Free.l0 k y1 0 a0_0 a0_1 l0_2) = some r := bgiq_
 have Ny1 := A0_ hy1
 clear hy1
 have H' := A0_ H
 clear H
 go_enter Tryd.func121, Tryd.ntmps121
 go_wp2_with (first | ((with_reducible refine gd_ (N := 1) rfl ?_); refine bx_ 1 #[.int .i64 a0_0, .bool a0_1, .slice A0_2 l0_2.length c0_2] 24 ?_; intro gb1 hg w1 BK1 hb; have GW1 := ge_ hg brt4_; have GE1 := GW1; replace HB := hb_ hb brt4_; clear hb hg) | ((with_reducible refine gd_ (N := 5) rfl ?_); refine Kd.R_lit (Kd.int .i64) _ 3 ?hg (N := 5) ?hd (xs := ([] : List Int)) (inner := []) (ok := fun _ => True) (okp := fun _ => True) ?hr ?hp (fun _ hk => hk) trivial (Below.refl _ _) (Nat.le_refl _) bxka_ ?_; (case hd => rfl); (case hg => rfl); (case hr => go_simp; first | done | rfl); (case hp => exact (Reps.none _ _)); intro v1 w2 ho4 hb hg_ hnew_; clear hg_ hnew_; (first | rw [← Ny1.out] at ho4 | (simp only [Int.reduceToNat] at ho4; rw [← Ny1.out] at ho4)); have HO1 := A0_ (Kd.R_lower ho4 (bz_ be6g_)); replace BK1 := k1_ BK1 hb; replace HB := hb_ hb be6g_; clear hb ho4))
 go_loopg [3, 4] k (fun kq v2 v3 w' => ∃ (x3_1 : List Int) (x4_1 : Int), v3 = .int .i64 x4_1 ∧ Aside0 (spec_l2Free.l0 kq x3_1 x4_1 a0_0 a0_1 l0_2 = some r) ∧ Aside0 (kq ≤ k) ∧ Aside0 (Kd.R (Kd.int .i64) 3 w' w.heap.size (fun _ => True) v2 x3_1) ∧ Aside0 (w'.heap[gb1]? = some (.cells #[.int .i64 a0_0, .bool a0_1, (.slice A0_2 l0_2.length c0_2)] 24 (0, 0))) ∧ Aside0 (Below w.heap.size w w'))
 case atStart => exact ⟨(y1), (0), b2ew_, H', ⟨Nat.le_refl _⟩, ⟨bsm5_⟩, ⟨u1_ BK1⟩, ⟨be6g_⟩⟩
 clear H'
 obtain ⟨x3_1, x4_1, rfl, HA, HK1, HO_1, BK1, HB⟩ := hrel
 cases gk with | zero => exact absurd HA.out (by simp [spec_l2Free.l0]) | succ k1 => ?_
 have H := HA.out
 clear HA
 simp only [spec_l2Free.l0] at H
 by_cases c1 : x4_1 < a0_0
 case neg =>
  rw [if_neg c1] at H
  have c1b0 : decide (x4_1 < a0_0) = false := decide_eq_false c1
  clear c1
  obtain rfl := si_ H
  have hcz1 := c3_ BK1
  go_wp2
  go_ret
  exact ⟨_, bnwh_, bwik_, be6g_⟩
 rw [if_pos c1] at H
 have c1b0 : decide (x4_1 < a0_0) = true := dt_ c1
 clear c1
 obtain ⟨t1, A2, H⟩ := o1_ H
 by_cases c2 : t1 = true
 ·subst c2
  rw [if_pos rfl] at H
  have H' := A0_ H
  clear H
  have hcz1 := c3_ BK1
  go_wp2_with (first | ((with_reducible refine gc_ (f := 64) rfl ?_); refine gl_ 14 Tryd.func64 #[.agg #[.int .i64 a0_0, .bool a0_1, .slice A0_2 l0_2.length c0_2], .int .i64 x4_1] ?_; (with_reducible refine (spec_l2Is.calls k1 a0_0 a0_1 _ _ l0_2 x4_1 true _ ?side1 ?side2 A2.out).mono ?_); (case side1 => exact b6n8_); (case side2 => exact HC0_2.out); rintro e w3 ⟨rfl, hb⟩; refine ⟨_, rfl, ?_⟩; replace HO_1 := A0_ (Kd.R_below bwik_ hb); replace BK1 := k1_ BK1 hb; replace HB := hb_ hb be6g_; (try clear hb)))
  go_roundg k1
  case measure => have := HK1.out; omega
  exact ⟨(x3_1), (wrap64 (x4_1 + 1)), b2ew_, H', ⟨bxjq_⟩, ⟨bwik_⟩, ⟨u1_ BK1⟩, ⟨be6g_⟩⟩
 obtain rfl := bf_.mpr c2
 rw [if_neg ft_] at H
 by_cases c3 : x3_1.length < 17592186044416
 case neg =>
  rw [if_neg c3] at H
  exact absurd H bxka_
 rw [if_pos c3] at H
 have LMc1 := A0_ c3
 clear c3
 obtain ⟨y2, hy2⟩ : ∃ y_ : List Int, y_ = (x3_1 ++ [x4_1]) := ⟨_, rfl⟩
 replace H : (spec_l2Free.l0 k1 y2 (wrap64 (x4_1 + 1)) a0_0 a0_1 l0_2) = some r := bscs_
 have Ny2 := A0_ hy2
 clear hy2
 have H' := A0_ H
 clear H
 have hcz1 := c3_ BK1
 go_wp2_with (first | ((with_reducible refine gc_ (f := 64) rfl ?_); refine gl_ 14 Tryd.func64 #[.agg #[.int .i64 a0_0, .bool a0_1, .slice A0_2 l0_2.length c0_2], .int .i64 x4_1] ?_; (with_reducible refine (spec_l2Is.calls k1 a0_0 a0_1 _ _ l0_2 x4_1 false _ ?side1 ?side2 A2.out).mono ?_); (case side1 => exact b6n8_); (case side2 => exact HC0_2.out); rintro e w3 ⟨rfl, hb⟩; refine ⟨_, rfl, ?_⟩; replace HO_1 := A0_ (Kd.R_below bwik_ hb); replace BK1 := k1_ BK1 hb; replace HB := hb_ hb be6g_; (try clear hb)) | ((with_reducible refine gate_builtin (b := .append) (xs := #[.tmp 16, .tmp 18]) rfl ?_); at_builtin; refine Kd.R_append (Kd.int .i64) (w0 := w) w.heap.size rfl (.tmp 16) (.tmp 18) 22 3 (.int .i64 0) 8 rfl Tryd.underlying22 info3 rfl bi3y_ bh19_ u3 x3_1 x4_1 [.int .i64 x4_1] (fun _ => True) (fun _ => False) rfl rfl ?aP (fun _ hk => hk.elim) ?aF ?aO ?aB ?aS ?aL ?_; (case aP => exact rfl); (case aB => exact be6g_); (case aF => exact (fun _ _ => trivial)); (case aO => exact bwik_); (case aS => exact (bz_ be6g_)); (case aL => have := LMc1.out; omega); intro v4 w4 ho hb hg hat; rw [← Ny2.out] at ho; have n0_ := A0_ (blk_grown (g := gb1) (o := .cells #[.int .i64 a0_0, .bool a0_1, .slice A0_2 l0_2.length c0_2] 24 (0, 0)) (u1_ BK1) hg (Kd.R_ne HO_1.out BK1.out bi3y_)); have n1_ := A0_ (hb); have n2_ := A0_ (ho); clear BK1 HB HO_1; have BK1 := n0_; have HB := n1_; have HO2 := n2_; clear n0_ n1_ n2_ ho hb hg hat))
 go_roundg k1
 case measure => have := HK1.out; omega
 exact ⟨(y2), (wrap64 (x4_1 + 1)), b2ew_, H', ⟨bxjq_⟩, ⟨b9so_⟩, ⟨u1_ BK1⟩, ⟨be6g_⟩⟩

def spec_l1Cur_freeSeat.j0 : Nat → Bool → List Int → Int → Int → Int → Bool → List Int → Option (Int × Int × Int)
 | 0, _, _, _, _, _, _, _ => none
 | k + 1, x12, x1000, x1001, x1002, x456000, x456001, x456002 => if x12 = true then ((spec_l2Free.f k x456000 x456001 x456002).bind fun t460 => (if (t460.length : Int) > 0 then ((spec_l1Cur_pick.f x1000 x1001 x1002 (t460.length : Int)).bind fun bt463 => (if 0 ≤ bt463.1 then (if bt463.1 < (t460.length : Int) then (some (rd t460 bt463.1, bt463.2.1, bt463.2.2)) else (none)) else (none))) else ((spec_l1Cur_seat.f x1000 x1001 x1002 x456000 x456001 x456002).bind fun bt467 => (some (bt467.1, bt467.2.1, bt467.2.2))))) else ((spec_l1Cur_seat.f x1000 x1001 x1002 x456000 x456001 x456002).bind fun bt470 => (some (bt470.1, bt470.2.1, bt470.2.2)))
def spec_l1Cur_freeSeat.f (k : Nat) (s0_0 : List Int) (s0_1 : Int) (s0_2 : Int) (a1_0 : Int) (a1_1 : Bool) (l1_2 : List Int) : Option (Int × Int × Int) := (spec_l2Row.f k a1_0 a1_1 l1_2).bind fun t456 => (if t456 = true then ((spec_l1Cur_one.f s0_0 s0_1 s0_2 8).bind fun bt457 => (spec_l1Cur_freeSeat.j0 k (!bt457.1) s0_0 bt457.2.1 bt457.2.2 a1_0 a1_1 l1_2)) else (spec_l1Cur_freeSeat.j0 k false s0_0 s0_1 s0_2 a1_0 a1_1 l1_2))
theorem spec_l1Cur_freeSeat.mono_l : ∀ k, (∀ y0 y1 y2 y3 y4 y5 y6, LeO (spec_l1Cur_freeSeat.j0 k y0 y1 y2 y3 y4 y5 y6) (spec_l1Cur_freeSeat.j0 (k + 1) y0 y1 y2 y3 y4 y5 y6))
 | 0 => fun _ _ _ _ _ _ _ r h => by simp [spec_l1Cur_freeSeat.j0] at h
 | k + 1 => by
  have ih0 := spec_l1Cur_freeSeat.mono_l k
  ·intro y0 y1 y2 y3 y4 y5 y6
   unfold spec_l1Cur_freeSeat.j0
   repeat' with_reducible first | exact ih0 .. | exact spec_l2Free.mono .. | exact spec_l2Row.mono .. | exact LeO.refl .. | exact LeO.none .. | refine LeO.ite ?_ ?_ | refine LeO.bind ?_ (fun _ => ?_)
theorem spec_l1Cur_freeSeat.mono : ∀ a0 a1 a2 a3 a4 a5 k, LeO (spec_l1Cur_freeSeat.f k a0 a1 a2 a3 a4 a5) (spec_l1Cur_freeSeat.f (k + 1) a0 a1 a2 a3 a4 a5) := by
 intro a0 a1 a2 a3 a4 a5 k
 have ih0 := spec_l1Cur_freeSeat.mono_l k
 unfold spec_l1Cur_freeSeat.f
 repeat' with_reducible first | exact ih0 .. | exact spec_l2Free.mono .. | exact spec_l2Row.mono .. | exact LeO.refl .. | exact LeO.none .. | refine LeO.ite ?_ ?_ | refine LeO.bind ?_ (fun _ => ?_)
theorem spec_l1Cur_freeSeat.calls (k : Nat) (g : Nat) (s0_0 : List Int) (s0_1 : Int) (s0_2 : Int) (a1_0 : Int) (a1_1 : Bool) (A1_2 : Option Addr) (c1_2 : Nat) (l1_2 : List Int) (r1 : Int) (r2 : Int) (r3 : Int) (w0 w : World) (hI : IsS95 w0 w g s0_0 s0_1 s0_2) (hB : Below w0.heap.size w0 w) (hr1_2 : Kd.C (Kd.int .i64) w A1_2 l1_2.length l1_2) (hc1_2 : l1_2.length ≤ c1_2) (hf1_2 : ∀ ad, A1_2 = some ad → 0 < l1_2.length → ad.block ≠ g) (h : spec_l1Cur_freeSeat.f k s0_0 s0_1 s0_2 a1_0 a1_1 l1_2 = some (r1, r2, r3)) :
  Calls Tryd.prog 106 #[.pointer (some ⟨g, 0, none⟩), .agg #[.int .i64 a1_0, .bool a1_1, .slice A1_2 l1_2.length c1_2]] w fun e w' => e = .returned (.int .i64 r1) ∧ IsS95 w0 w' g s0_0 r2 r3 ∧ Below w0.heap.size w0 w' ∧ KeepBut w w' g none := by
 have hu24 := Tryd.underlying24
 have HR1_2 := A0_ hr1_2
 have HC1_2 := A0_ hc1_2
 clear hr1_2 hc1_2
 have HI0 := A0_ hI
 have HK := A0_ (KeepBut.refl w g none)
 have HL := A0_ hB.size
 clear hI
 have HW0 := A0_ hB.size
 have HB := A0_ hB
 clear hB
 have H : ((spec_l2Row.f k a1_0 a1_1 l1_2).bind fun t1 => (if t1 = true then ((spec_l1Cur_one.f s0_0 s0_1 s0_2 8).bind fun bt1 => (spec_l1Cur_freeSeat.j0 k (!bt1.1) s0_0 bt1.2.1 bt1.2.2 a1_0 a1_1 l1_2)) else (spec_l1Cur_freeSeat.j0 k false s0_0 s0_1 s0_2 a1_0 a1_1 l1_2))) = some (r1, r2, r3) := h
 clear h
 have HC3 := A0_ H
 clear H
 go_enter Tryd.func106, Tryd.ntmps106
 go_upto_region 1 with (first | ((with_reducible refine gd_ (N := 3) rfl ?_); refine bx_ 3 #[.int .i64 a1_0, .bool a1_1, .slice A1_2 l1_2.length c1_2] 24 ?_; intro gb1 hg w1 BK1 hb; replace HB := hb_ hb bg6d_; have GW1 := A0_ ((b7vg_ : w.heap.size ≤ gb1)); have GE1 := A0_ ((Nat.le_trans HW0.out (b7vg_ : w.heap.size ≤ gb1) : w0.heap.size ≤ gb1)); replace HK := A0_ (KeepBut.trans bjmx_ (KeepBut.of_below hb g none) (.inl rfl)); have NB0_1 := A0_ ((bdp5_ : g ≠ gb1)); have NB1_0 := A0_ ((btnc_ : gb1 ≠ g)); replace HI0 := A0_ (IsS95.below bnbf_ hb); clear hb hg))
 (try simp only [Act.put, sa_, sz_, ss_])
 go_cut [12] (fun v1 wc => ∃ (kq : Nat) (x12_2 : Bool) (x1001_2 : Int) (x1002_2 : Int), v1 = .bool x12_2 ∧ Aside0 (spec_l1Cur_freeSeat.j0 kq x12_2 s0_0 x1001_2 x1002_2 a1_0 a1_1 l1_2 = some (r1, r2, r3)) ∧ Aside0 (kq ≤ k) ∧ Aside0 (wc.heap[gb1]? = some (.cells #[.int .i64 a1_0, .bool a1_1, (.slice A1_2 l1_2.length c1_2)] 24 (0, 0))) ∧ Aside0 (IsS95 w0 wc g s0_0 x1001_2 x1002_2) ∧ Aside0 (KeepBut w wc g none) ∧ Aside0 (Below w0.heap.size w0 wc))
 case first =>
  have H := HC3.out
  clear HC3
  obtain ⟨t1, A3, H⟩ := o1_ H
  by_cases c2 : t1 = true
  case neg =>
   obtain rfl := bf_.mpr c2
   rw [if_neg ft_] at H
   have H' := A0_ H
   clear H
   have hnb1 := NB1_0.out
   have hnc1 := NB0_1.out
   have hcz1 := c3_ BK1
   go_wp2_with (first | ((with_reducible refine gc_ (f := 59) rfl ?_); refine gl_ 7 Tryd.func59 #[.agg #[.int .i64 a1_0, .bool a1_1, .slice A1_2 l1_2.length c1_2]] ?_; (with_reducible refine (spec_l2Row.calls k a1_0 a1_1 _ _ l1_2 false _ ?side1 ?side2 A3.out).mono ?_); (case side1 => exact Kd.C_keep 0 HR1_2.out bcka_ hf1_2); (case side2 => exact HC1_2.out); rintro e w2 ⟨rfl, hb⟩; refine ⟨_, rfl, ?_⟩; replace BK1 := k1_ BK1 hb; replace HK := A0_ (KeepBut.trans bcka_ (KeepBut.of_below hb g none) (.inl rfl)); replace HB := hb_ hb bnur_; replace HI0 := A0_ (IsS95.below bn4t_ hb); (try clear hb)))
   go_meet
   exact ⟨_, (false), (s0_1), (s0_2), b2ew_, H', ⟨bbn0_⟩, ⟨u1_ BK1⟩, ⟨bn4t_⟩, ⟨bcka_⟩, ⟨bnur_⟩⟩
  subst c2
  rw [if_pos rfl] at H
  obtain ⟨⟨t2, t3, t4⟩, A5, H⟩ := o1_ H
  have H' := A0_ H
  clear H
  have hnb1 := NB1_0.out
  have hnc1 := NB0_1.out
  have hcz1 := c3_ BK1
  go_wp2_with (first | ((with_reducible refine gc_ (f := 59) rfl ?_); refine gl_ 7 Tryd.func59 #[.agg #[.int .i64 a1_0, .bool a1_1, .slice A1_2 l1_2.length c1_2]] ?_; (with_reducible refine (spec_l2Row.calls k a1_0 a1_1 _ _ l1_2 true _ ?side1 ?side2 A3.out).mono ?_); (case side1 => exact Kd.C_keep 0 HR1_2.out bcka_ hf1_2); (case side2 => exact HC1_2.out); rintro e w2 ⟨rfl, hb⟩; refine ⟨_, rfl, ?_⟩; replace BK1 := k1_ BK1 hb; replace HK := A0_ (KeepBut.trans bcka_ (KeepBut.of_below hb g none) (.inl rfl)); replace HB := hb_ hb bnur_; replace HI0 := A0_ (IsS95.below bn4t_ hb); (try clear hb)) | (go_at_call 93; (with_reducible refine (spec_l1Cur_one.calls g s0_0 s0_1 s0_2 8 t2 t3 t4 w0 _ ?side1 ?side2 A5.out).mono ?_); (case side1 => exact bn4t_); (case side2 => exact bnur_); rintro e w3 ⟨rfl, hi, hb, hk⟩; replace BK1 := kb1_ BK1 hk NB1_0; replace HK := A0_ (KeepBut.trans bcka_ hk (.inl rfl)); replace HB := A0_ (hb); replace HI0 := A0_ (hi); (try clear hb); (try clear hk); (try clear hi)))
  go_meet
  exact ⟨_, (!t2), (t3), (t4), b2ew_, H', ⟨bbn0_⟩, ⟨u1_ BK1⟩, ⟨bn4t_⟩, ⟨bcka_⟩, ⟨bnur_⟩⟩
 clear HC3
 try clear c1
 obtain ⟨kq, x12_2, x1001_2, x1002_2, rfl, HA, HJ1, BK1, HI0, HK, HB⟩ := hcut
 cases kq with | zero => exact absurd HA.out (by simp [spec_l1Cur_freeSeat.j0]) | succ kj1 => ?_
 have H := HA.out
 clear HA
 simp only [spec_l1Cur_freeSeat.j0] at H
 by_cases c2 : x12_2 = true
 case neg =>
  obtain rfl := bf_.mpr c2
  rw [if_neg ft_] at H
  obtain ⟨⟨t2, t3, t4⟩, A3, H⟩ := o1_ H
  replace H : (some (t2, t3, t4)) = some (r1, r2, r3) := H
  simp only [sj_, pj_] at H
  obtain ⟨rfl, rfl, rfl⟩ := H
  have hnb1 := NB1_0.out
  have hnc1 := NB0_1.out
  have hcz1 := c3_ BK1
  go_wp2_with (first | ((with_reducible refine gc_ (f := 107) rfl ?_); refine gl_ 27 Tryd.func107 #[.pointer (some ⟨g, 0, none⟩), .agg #[.int .i64 a1_0, .bool a1_1, .slice A1_2 l1_2.length c1_2]] ?_; (with_reducible refine (spec_l1Cur_seat.calls g s0_0 x1001_2 x1002_2 a1_0 a1_1 _ _ l1_2 t2 t3 t4 w0 _ ?side1 ?side2 ?side3 ?side4 ?side5 A3.out).mono ?_); (case side1 => exact bn4t_); (case side2 => exact bnur_); (case side3 => exact Kd.C_keep 0 HR1_2.out bcka_ hf1_2); (case side4 => exact HC1_2.out); (case side5 => exact hf1_2); rintro e w2 ⟨rfl, hi, hb, hk⟩; refine ⟨_, rfl, ?_⟩; replace BK1 := kb1_ BK1 hk NB1_0; replace HK := A0_ (KeepBut.trans bcka_ hk (.inl rfl)); replace HB := A0_ (hb); replace HI0 := A0_ (hi); (try clear hb); (try clear hk); (try clear hi)))
  go_ret
  exact ⟨bnwh_, bn4t_, bnur_, bcka_⟩
 subst c2
 rw [if_pos rfl] at H
 obtain ⟨t2, A3, H⟩ := o1_ H
 by_cases c3 : (t2.length : Int) > 0
 case neg =>
  rw [if_neg c3] at H
  have c3b0 : decide (0 < (t2.length : Int)) = false := decide_eq_false c3
  have c3b1 : decide (0 < t2.length) = false := decide_eq_false bh19_
  clear c3
  obtain ⟨⟨t3, t4, t5⟩, A5, H⟩ := o1_ H
  replace H : (some (t3, t4, t5)) = some (r1, r2, r3) := H
  simp only [sj_, pj_] at H
  obtain ⟨rfl, rfl, rfl⟩ := H
  have hnb1 := NB1_0.out
  have hnc1 := NB0_1.out
  have hcz1 := c3_ BK1
  go_wp2_with (first | ((with_reducible refine gc_ (f := 121) rfl ?_); refine gl_ 14 Tryd.func121 #[.agg #[.int .i64 a1_0, .bool a1_1, .slice A1_2 l1_2.length c1_2]] ?_; (with_reducible refine (spec_l2Free.calls kj1 a1_0 a1_1 _ _ l1_2 t2 _ ?side1 ?side2 A3.out).mono ?_); (case side1 => exact Kd.C_keep 0 HR1_2.out bcka_ hf1_2); (case side2 => exact HC1_2.out); rintro e w2 ⟨v2, rfl, ho0, hb⟩; refine ⟨_, rfl, ?_⟩; have HO1 := A0_ (Kd.R_lower ho0 (keep_size (w := w) (g := g) (row := none) bcka_)); replace BK1 := k1_ BK1 hb; replace HK := A0_ (KeepBut.trans bcka_ (KeepBut.of_below hb g none) (.inl rfl)); replace HB := hb_ hb bnur_; replace HI0 := A0_ (IsS95.below bn4t_ hb); (try clear hb); (try clear ho0); obtain ⟨Ao1, co1, eo1⟩ := Kd.R_slice HO1.out; subst eo1; have hcz2 := c3_ BK1) | ((with_reducible refine gc_ (f := 107) rfl ?_); refine gl_ 27 Tryd.func107 #[.pointer (some ⟨g, 0, none⟩), .agg #[.int .i64 a1_0, .bool a1_1, .slice A1_2 l1_2.length c1_2]] ?_; (with_reducible refine (spec_l1Cur_seat.calls g s0_0 x1001_2 x1002_2 a1_0 a1_1 _ _ l1_2 t3 t4 t5 w0 _ ?side1 ?side2 ?side3 ?side4 ?side5 A5.out).mono ?_); (case side1 => exact bn4t_); (case side2 => exact bnur_); (case side3 => exact Kd.C_keep 0 HR1_2.out bcka_ hf1_2); (case side4 => exact HC1_2.out); (case side5 => exact hf1_2); rintro e w3 ⟨rfl, hi, hb, hk⟩; refine ⟨_, rfl, ?_⟩; replace BK1 := kb1_ BK1 hk NB1_0; replace HO1 := A0_ (Kd.R_mono (Kd.R_keep (IsS95.apart (show IsS95 w0 _ g s0_0 x1001_2 x1002_2 from bn4t_) bsm5_ bi3y_) hk (fun _ h => h.2)) (fun _ h => h.1)); replace HK := A0_ (KeepBut.trans bcka_ hk (.inl rfl)); replace HB := A0_ (hb); replace HI0 := A0_ (hi); (try clear hb); (try clear hk); (try clear hi)))
  go_ret
  exact ⟨bnwh_, bn4t_, bnur_, bcka_⟩
 rw [if_pos c3] at H
 have c3b0 : decide (0 < (t2.length : Int)) = true := dt_ c3
 have c3b1 : decide (0 < t2.length) = true := dt_ bh19_
 clear c3
 obtain ⟨⟨t3, t4, t5⟩, A5, H⟩ := o1_ H
 by_cases c4 : 0 ≤ t3
 case neg =>
  rw [if_neg c4] at H
  exact absurd H bxka_
 rw [if_pos c4] at H
 have c4b0 : decide (0 ≤ t3) = true := dt_ c4
 clear c4
 by_cases c5 : t3 < (t2.length : Int)
 case neg =>
  rw [if_neg c5] at H
  exact absurd H bxka_
 rw [if_pos c5] at H
 have c5b0 : decide (t3 < (t2.length : Int)) = true := dt_ c5
 clear c5
 simp only [sj_, pj_] at H
 obtain ⟨rfl, rfl, rfl⟩ := H
 have hnb1 := NB1_0.out
 have hnc1 := NB0_1.out
 have hcz1 := c3_ BK1
 go_wp2_with (first | ((with_reducible refine gc_ (f := 121) rfl ?_); refine gl_ 14 Tryd.func121 #[.agg #[.int .i64 a1_0, .bool a1_1, .slice A1_2 l1_2.length c1_2]] ?_; (with_reducible refine (spec_l2Free.calls kj1 a1_0 a1_1 _ _ l1_2 t2 _ ?side1 ?side2 A3.out).mono ?_); (case side1 => exact Kd.C_keep 0 HR1_2.out bcka_ hf1_2); (case side2 => exact HC1_2.out); rintro e w2 ⟨v2, rfl, ho0, hb⟩; refine ⟨_, rfl, ?_⟩; have HO1 := A0_ (Kd.R_lower ho0 (keep_size (w := w) (g := g) (row := none) bcka_)); replace BK1 := k1_ BK1 hb; replace HK := A0_ (KeepBut.trans bcka_ (KeepBut.of_below hb g none) (.inl rfl)); replace HB := hb_ hb bnur_; replace HI0 := A0_ (IsS95.below bn4t_ hb); (try clear hb); (try clear ho0); obtain ⟨Ao1, co1, eo1⟩ := Kd.R_slice HO1.out; subst eo1) | ((with_reducible refine gc_ (f := 94) rfl ?_); refine gl_ 22 Tryd.func94 #[.pointer (some ⟨g, 0, none⟩), .int .i64 (t2.length : Int)] ?_; (with_reducible refine (spec_l1Cur_pick.calls g s0_0 x1001_2 x1002_2 (t2.length : Int) t3 t4 t5 w0 _ ?side1 ?side2 A5.out).mono ?_); (case side1 => exact bn4t_); (case side2 => exact bnur_); rintro e w3 ⟨rfl, hi, hb, hk⟩; refine ⟨_, rfl, ?_⟩; replace BK1 := kb1_ BK1 hk NB1_0; replace HO1 := A0_ (Kd.R_mono (Kd.R_keep (IsS95.apart (show IsS95 w0 _ g s0_0 x1001_2 x1002_2 from bn4t_) bsm5_ bi3y_) hk (fun _ h => h.2)) (fun _ h => h.1)); replace HK := A0_ (KeepBut.trans bcka_ hk (.inl rfl)); replace HB := A0_ (hb); replace HI0 := A0_ (hi); (try clear hb); (try clear hk); (try clear hi); have p1 : 0 ≤ (t3 : Int) := od_ bpil_; have q1 : t3 < (t2.length : Int) := od_ bpil_; obtain ⟨ad1, e1, hx1_0⟩ := Kd.at_int (rr_ HO1.out).2.2 t3 p1 q1; cases e1; replace p1 := eq_true p1; replace q1 := eq_true q1))
 go_ret
 exact ⟨bnwh_, bn4t_, bnur_, bcka_⟩

mutual
def spec_l1Cur_work12.j2 : Nat → List Int → Int → Int → Int → Int → Int → Option (Int × Int × Int × Int × Int)
 | 0, _, _, _, _, _, _ => none
 | k + 1, x1000, x1001, x1002, x482000, x482001, x482002 => (spec_l1Cur_pick.f x1000 x1001 x1002 32).bind fun bt504 => (if bt504.1 = 0 then ((spec_l1Cur_among.f x1000 bt504.2.1 bt504.2.2 (([(-1), 24, 1, 4611686018427387904] : List Int))).bind fun bt510 => (some (x482000, bt510.1, x482002, bt510.2.1, bt510.2.2))) else (if bt504.1 = 1 then ((spec_l1Cur_among.f x1000 bt504.2.1 bt504.2.2 (([(-1), 24, 1] : List Int))).bind fun bt516 => (some (x482000, x482001, bt516.1, bt516.2.1, bt516.2.2))) else (if bt504.1 = 2 then ((spec_l1Cur_among.f x1000 bt504.2.1 bt504.2.2 (([0, 6, (-1)] : List Int))).bind fun bt522 => (some (bt522.1, x482001, x482002, bt522.2.1, bt522.2.2))) else (some (x482000, x482001, x482002, bt504.2.1, bt504.2.2)))))
def spec_l1Cur_work12.j0 : Nat → Int → Bool → List Int → Int → Int → Int → Bool → List Int → List Int → Int → Int → Int → Int → Option (Int × Int × Int × Int × Int)
 | 0, _, _, _, _, _, _, _, _, _, _, _, _, _ => none
 | k + 1, x11, x19, x1000, x1001, x1002, x474000, x474001, x474002, x474003, x474004, x482000, x482001, x482002 => if x19 = true then ((spec_l1Cur_seat.f x1000 x1001 x1002 x474000 x474001 x474002).bind fun bt485 => (if (x474003.length : Int) > 0 then ((spec_l1Cur_one.f x1000 bt485.2.1 bt485.2.2 8).bind fun bt488 => (spec_l1Cur_work12.j1 k (!bt488.1) x1000 bt488.2.1 bt488.2.2 x474000 x474001 x474002 x474003 x474004 x482000 bt485.1 x482002)) else (spec_l1Cur_work12.j1 k false x1000 bt485.2.1 bt485.2.2 x474000 x474001 x474002 x474003 x474004 x482000 bt485.1 x482002))) else (if x11 = 5 then ((spec_l1Cur_one.f x1000 x1001 x1002 4).bind fun bt501 => (if bt501.1 = true then (spec_l1Cur_work12.j2 k x1000 bt501.2.1 bt501.2.2 x482000 x482001 x482002) else (spec_l1Cur_work12.j2 k x1000 bt501.2.1 bt501.2.2 1 x482001 x482002))) else (spec_l1Cur_work12.j2 k x1000 x1001 x1002 x482000 x482001 x482002))
def spec_l1Cur_work12.j1 : Nat → Bool → List Int → Int → Int → Int → Bool → List Int → List Int → Int → Int → Int → Int → Option (Int × Int × Int × Int × Int)
 | 0, _, _, _, _, _, _, _, _, _, _, _, _ => none
 | k + 1, x35, x1000, x1001, x1002, x474000, x474001, x474002, x474003, x474004, x482000, x482001, x482002 => if x35 = true then ((spec_l1Cur_pick.f x1000 x1001 x1002 (x474003.length : Int)).bind fun bt491 => (if 0 ≤ bt491.1 then (if bt491.1 < (x474003.length : Int) then (if x482000 = 4 then ((spec_l1Cur_freeSeat.f k x1000 bt491.2.1 bt491.2.2 x474000 x474001 x474002).bind fun bt495 => (spec_l1Cur_work12.j2 k x1000 bt495.2.1 bt495.2.2 x482000 (rd x474003 bt491.1) bt495.1)) else (spec_l1Cur_work12.j2 k x1000 bt491.2.1 bt491.2.2 x482000 (rd x474003 bt491.1) x482002)) else (none)) else (none))) else (if x482000 = 4 then ((spec_l1Cur_freeSeat.f k x1000 x1001 x1002 x474000 x474001 x474002).bind fun bt498 => (spec_l1Cur_work12.j2 k x1000 bt498.2.1 bt498.2.2 x482000 x482001 bt498.1)) else (spec_l1Cur_work12.j2 k x1000 x1001 x1002 x482000 x482001 x482002))
end
def spec_l1Cur_work12.f (k : Nat) (s0_0 : List Int) (s0_1 : Int) (s0_2 : Int) (a1_0 : Int) (a1_1 : Bool) (l1_2 : List Int) (l1_3 : List Int) (a1_4 : Int) : Option (Int × Int × Int × Int × Int) := (spec_l1Cur_among.f s0_0 s0_1 s0_2 (([1, 1, 1, 2, 2, 3, 4, 5] : List Int))).bind fun bt478 => (if bt478.1 = 2 then ((spec_l1Cur_freeSeat.f k s0_0 bt478.2.1 bt478.2.2 a1_0 a1_1 l1_2).bind fun bt482 => (spec_l1Cur_work12.j2 k s0_0 bt482.2.1 bt482.2.2 bt478.1 bt482.1 0)) else (if bt478.1 = 3 then (spec_l1Cur_work12.j0 k bt478.1 (bt478.1 == 3) s0_0 bt478.2.1 bt478.2.2 a1_0 a1_1 l1_2 l1_3 a1_4 bt478.1 0 0) else (spec_l1Cur_work12.j0 k bt478.1 (bt478.1 == 4) s0_0 bt478.2.1 bt478.2.2 a1_0 a1_1 l1_2 l1_3 a1_4 bt478.1 0 0)))
theorem spec_l1Cur_work12.mono_l : ∀ k, (∀ y0 y1 y2 y3 y4 y5, LeO (spec_l1Cur_work12.j2 k y0 y1 y2 y3 y4 y5) (spec_l1Cur_work12.j2 (k + 1) y0 y1 y2 y3 y4 y5)) ∧ (∀ y0 y1 y2 y3 y4 y5 y6 y7 y8 y9 y10 y11 y12, LeO (spec_l1Cur_work12.j0 k y0 y1 y2 y3 y4 y5 y6 y7 y8 y9 y10 y11 y12) (spec_l1Cur_work12.j0 (k + 1) y0 y1 y2 y3 y4 y5 y6 y7 y8 y9 y10 y11 y12)) ∧ (∀ y0 y1 y2 y3 y4 y5 y6 y7 y8 y9 y10 y11, LeO (spec_l1Cur_work12.j1 k y0 y1 y2 y3 y4 y5 y6 y7 y8 y9 y10 y11) (spec_l1Cur_work12.j1 (k + 1) y0 y1 y2 y3 y4 y5 y6 y7 y8 y9 y10 y11))
 | 0 => ⟨fun _ _ _ _ _ _ r h => by simp [spec_l1Cur_work12.j2] at h, fun _ _ _ _ _ _ _ _ _ _ _ _ _ r h => by simp [spec_l1Cur_work12.j0] at h, fun _ _ _ _ _ _ _ _ _ _ _ _ r h => by simp [spec_l1Cur_work12.j1] at h⟩
 | k + 1 => by
  obtain ⟨ih0, ih1, ih2⟩ := spec_l1Cur_work12.mono_l k
  refine ⟨?_, ?_, ?_⟩
  ·intro y0 y1 y2 y3 y4 y5
   unfold spec_l1Cur_work12.j2
   repeat' with_reducible first | exact ih0 .. | exact ih1 .. | exact ih2 .. | exact spec_l1Cur_freeSeat.mono .. | exact LeO.refl .. | exact LeO.none .. | refine LeO.ite ?_ ?_ | refine LeO.bind ?_ (fun _ => ?_)
  ·intro y0 y1 y2 y3 y4 y5 y6 y7 y8 y9 y10 y11 y12
   unfold spec_l1Cur_work12.j0
   repeat' with_reducible first | exact ih0 .. | exact ih1 .. | exact ih2 .. | exact spec_l1Cur_freeSeat.mono .. | exact LeO.refl .. | exact LeO.none .. | refine LeO.ite ?_ ?_ | refine LeO.bind ?_ (fun _ => ?_)
  ·intro y0 y1 y2 y3 y4 y5 y6 y7 y8 y9 y10 y11
   unfold spec_l1Cur_work12.j1
   repeat' with_reducible first | exact ih0 .. | exact ih1 .. | exact ih2 .. | exact spec_l1Cur_freeSeat.mono .. | exact LeO.refl .. | exact LeO.none .. | refine LeO.ite ?_ ?_ | refine LeO.bind ?_ (fun _ => ?_)
theorem spec_l1Cur_work12.mono : ∀ a0 a1 a2 a3 a4 a5 a6 a7 k, LeO (spec_l1Cur_work12.f k a0 a1 a2 a3 a4 a5 a6 a7) (spec_l1Cur_work12.f (k + 1) a0 a1 a2 a3 a4 a5 a6 a7) := by
 intro a0 a1 a2 a3 a4 a5 a6 a7 k
 obtain ⟨ih0, ih1, ih2⟩ := spec_l1Cur_work12.mono_l k
 unfold spec_l1Cur_work12.f
 repeat' with_reducible first | exact ih0 .. | exact ih1 .. | exact ih2 .. | exact spec_l1Cur_freeSeat.mono .. | exact LeO.refl .. | exact LeO.none .. | refine LeO.ite ?_ ?_ | refine LeO.bind ?_ (fun _ => ?_)
def spec_l1Cur_work12.T9 : Bool × List (List Nat × List Nat) := (true, [([], []), ([0], [0]), ([], []), ([], []), ([3], [3]), ([4], [4]), ([2, 5], [2, 5]), ([1, 6], [1, 6]), ([7], [7]), ([0, 1, 2, 3, 4, 5, 6, 7, 8], []), ([9, 8, 6, 0, 1, 2, 3, 4, 5, 6, 7, 8], [8, 9])])
def spec_l1Cur_work12.B9 : List Nat := [0, 1, 0, 0, 8, 24, 60, 127, 255, 511, 1023]
theorem spec_l1Cur_work12.tab9 : rtab .any (opsOf Tryd.f95 9) = spec_l1Cur_work12.T9 := by kernel_rfl
theorem spec_l1Cur_work12.bits9 : waitsOk spec_l1Cur_work12.T9.2 spec_l1Cur_work12.B9 = true := by kernel_rfl
theorem spec_l1Cur_work12.calls (k : Nat) (g : Nat) (s0_0 : List Int) (s0_1 : Int) (s0_2 : Int) (a1_0 : Int) (a1_1 : Bool) (A1_2 : Option Addr) (c1_2 : Nat) (l1_2 : List Int) (A1_3 : Option Addr) (c1_3 : Nat) (l1_3 : List Int) (a1_4 : Int) (r1 : Int) (r2 : Int) (r3 : Int) (r4 : Int) (r5 : Int) (w0 w : World) (hI : IsS95 w0 w g s0_0 s0_1 s0_2) (hB : Below w0.heap.size w0 w) (hr1_2 : Kd.C (Kd.int .i64) w A1_2 l1_2.length l1_2) (hc1_2 : l1_2.length ≤ c1_2) (hf1_2 : ∀ ad, A1_2 = some ad → 0 < l1_2.length → ad.block ≠ g) (hr1_3 : Kd.C (Kd.int .i64) w A1_3 l1_3.length l1_3) (hc1_3 : l1_3.length ≤ c1_3) (hf1_3 : ∀ ad, A1_3 = some ad → 0 < l1_3.length → ad.block ≠ g) (h : spec_l1Cur_work12.f k s0_0 s0_1 s0_2 a1_0 a1_1 l1_2 l1_3 a1_4 = some (r1, r2, r3, r4, r5)) :
  Calls Tryd.prog 95 #[.pointer (some ⟨g, 0, none⟩), .agg #[.int .i64 a1_0, .bool a1_1, .slice A1_2 l1_2.length c1_2, .slice A1_3 l1_3.length c1_3, .int .i64 a1_4]] w fun e w' => e = .returned (.agg #[.int .i64 r1, .int .i64 r2, .int .i64 r3]) ∧ IsS95 w0 w' g s0_0 r4 r5 ∧ Below w0.heap.size w0 w' ∧ KeepBut w w' g none := by
 have hu26 := Tryd.underlying26
 have hu45 := Tryd.underlying45
 have hu24 := Tryd.underlying24
 have HR1_2 := A0_ hr1_2
 have HC1_2 := A0_ hc1_2
 clear hr1_2 hc1_2
 have HR1_3 := A0_ hr1_3
 have HC1_3 := A0_ hc1_3
 clear hr1_3 hc1_3
 have HI0 := A0_ hI
 have HK := A0_ (KeepBut.refl w g none)
 have HL := A0_ hB.size
 clear hI
 have HW0 := A0_ hB.size
 have HB := A0_ hB
 clear hB
 have H : ((spec_l1Cur_among.f s0_0 s0_1 s0_2 (([1, 1, 1, 2, 2, 3, 4, 5] : List Int))).bind fun bt1 => (if bt1.1 = 2 then ((spec_l1Cur_freeSeat.f k s0_0 bt1.2.1 bt1.2.2 a1_0 a1_1 l1_2).bind fun bt2 => (spec_l1Cur_work12.j2 k s0_0 bt2.2.1 bt2.2.2 bt1.1 bt2.1 0)) else (if bt1.1 = 3 then (spec_l1Cur_work12.j0 k bt1.1 (bt1.1 == 3) s0_0 bt1.2.1 bt1.2.2 a1_0 a1_1 l1_2 l1_3 a1_4 bt1.1 0 0) else (spec_l1Cur_work12.j0 k bt1.1 (bt1.1 == 4) s0_0 bt1.2.1 bt1.2.2 a1_0 a1_1 l1_2 l1_3 a1_4 bt1.1 0 0)))) = some (r1, r2, r3, r4, r5) := h
 clear h
 obtain ⟨y1, hy1⟩ : ∃ y_ : List Int, y_ = (([1, 1, 1, 2, 2, 3, 4, 5] : List Int)) := ⟨_, rfl⟩
 replace H : ((spec_l1Cur_among.f s0_0 s0_1 s0_2 y1).bind fun bt1 => (if bt1.1 = 2 then ((spec_l1Cur_freeSeat.f k s0_0 bt1.2.1 bt1.2.2 a1_0 a1_1 l1_2).bind fun bt2 => (spec_l1Cur_work12.j2 k s0_0 bt2.2.1 bt2.2.2 bt1.1 bt2.1 0)) else (if bt1.1 = 3 then (spec_l1Cur_work12.j0 k bt1.1 (bt1.1 == 3) s0_0 bt1.2.1 bt1.2.2 a1_0 a1_1 l1_2 l1_3 a1_4 bt1.1 0 0) else (spec_l1Cur_work12.j0 k bt1.1 (bt1.1 == 4) s0_0 bt1.2.1 bt1.2.2 a1_0 a1_1 l1_2 l1_3 a1_4 bt1.1 0 0)))) = some (r1, r2, r3, r4, r5) := bgiq_
 have Ny1 := A0_ hy1
 clear hy1
 obtain ⟨⟨t1, t2, t3⟩, A3, H⟩ := o1_ H
 have HC4 := A0_ H
 clear H
 go_enter Tryd.func95, Tryd.ntmps95
 go_upto_block 0 with (first | ((with_reducible refine gd_ (N := 3) rfl ?_); refine bx_ 3 #[.int .i64 a1_0, .bool a1_1, .slice A1_2 l1_2.length c1_2, .slice A1_3 l1_3.length c1_3, .int .i64 a1_4] 26 ?_; intro gb1 hg w1 BK1 hb; replace HB := hb_ hb bg6d_; have GW1 := A0_ ((b7vg_ : w.heap.size ≤ gb1)); have GE1 := A0_ ((Nat.le_trans HW0.out (b7vg_ : w.heap.size ≤ gb1) : w0.heap.size ≤ gb1)); replace HK := A0_ (KeepBut.trans bjmx_ (KeepBut.of_below hb g none) (.inl rfl)); have NB0_1 := A0_ ((bdp5_ : g ≠ gb1)); have NB1_0 := A0_ ((btnc_ : gb1 ≠ g)); replace HI0 := A0_ (IsS95.below bnbf_ hb); clear hb hg) | ((with_reducible refine gd_ (N := 4) rfl ?_); refine bx_ 4 #[.int .i64 0, .int .i64 0, .int .i64 0] 45 ?_; intro gb2 hg w2 BK2 hb; replace HB := hb_ hb bnur_; have GW2 := A0_ ((bejl_ : w.heap.size ≤ gb2)); have GE2 := A0_ ((Nat.le_trans HW0.out (bejl_ : w.heap.size ≤ gb2) : w0.heap.size ≤ gb2)); replace HK := A0_ (KeepBut.trans bcka_ (KeepBut.of_below hb g none) (.inl rfl)); have NB1_2 := nl_ hg BK1; have NB2_1 := ng_ hg BK1; replace BK1 := k1_ BK1 hb; have NB0_2 := A0_ ((by rw [hg]; exact Nat.ne_of_lt (IsS95.lt (show IsS95 w0 _ g s0_0 s0_1 s0_2 from bn4t_)) : g ≠ gb2)); have NB2_0 := A0_ ((by rw [hg]; exact Nat.ne_of_gt (IsS95.lt (show IsS95 w0 _ g s0_0 s0_1 s0_2 from bn4t_)) : gb2 ≠ g)); replace HI0 := A0_ (IsS95.below bn4t_ hb); clear hb hg) | ((with_reducible refine gd_ (N := 7) rfl ?_); refine Kd.R_lit (Kd.int .i64) _ 3 ?hg (N := 7) ?hd (xs := ([1, 1, 1, 2, 2, 3, 4, 5] : List Int)) (inner := [.int .i64 1, .int .i64 1, .int .i64 1, .int .i64 2, .int .i64 2, .int .i64 3, .int .i64 4, .int .i64 5]) (ok := fun _ => True) (okp := fun _ => True) ?hr ?hp (fun _ hk => hk) trivial (Below.refl _ _) (Nat.le_refl _) bxka_ ?_; (case hd => rfl); (case hg => rfl); (case hr => go_simp; first | done | rfl); (case hp => exact (Reps.one (show Kd.M (Kd.int .i64) _ _ _ 1 [.int .i64 1] from rfl) (Reps.one (show Kd.M (Kd.int .i64) _ _ _ 1 [.int .i64 1] from rfl) (Reps.one (show Kd.M (Kd.int .i64) _ _ _ 1 [.int .i64 1] from rfl) (Reps.one (show Kd.M (Kd.int .i64) _ _ _ 2 [.int .i64 2] from rfl) (Reps.one (show Kd.M (Kd.int .i64) _ _ _ 2 [.int .i64 2] from rfl) (Reps.one (show Kd.M (Kd.int .i64) _ _ _ 3 [.int .i64 3] from rfl) (Reps.one (show Kd.M (Kd.int .i64) _ _ _ 4 [.int .i64 4] from rfl) (Reps.one (show Kd.M (Kd.int .i64) _ _ _ 5 [.int .i64 5] from rfl) (Reps.none _ _)))))))))); intro v1 w3 ho8 hb hg_ hnew_; clear hg_ hnew_; (first | rw [← Ny1.out] at ho8 | (simp only [Int.reduceToNat] at ho8; rw [← Ny1.out] at ho8)); have HO1 := A0_ (Kd.R_lower ho8 (keep_size (w := w) (g := g) (row := none) bgjc_)); replace BK1 := k1_ BK1 hb; replace BK2 := k1_ BK2 hb; replace HK := A0_ (KeepBut.trans bgjc_ (KeepBut.of_below hb g none) (.inl rfl)); replace HB := hb_ hb b6ve_; replace HI0 := A0_ (IsS95.below br5r_ hb); clear hb ho8; obtain ⟨Ao1, co1, eo1⟩ := Kd.R_slice HO1.out; subst eo1) | ((with_reducible refine gc_ (f := 92) rfl ?_); refine gl_ 8 Tryd.func92 #[.pointer (some ⟨g, 0, none⟩), .slice Ao1 y1.length co1] ?_; (with_reducible refine (spec_l1Cur_among.calls g s0_0 s0_1 s0_2 _ _ y1 t1 t2 t3 w0 _ ?side1 ?side2 ?side3 ?side4 ?side5 A3.out).mono ?_); (case side1 => exact br5r_); (case side2 => exact b6ve_); (case side3 => exact bayy_); (case side4 => exact (rr_ HO1.out).2.1); (case side5 => exact far_slice (IsS95.own_ne HI0.out HO1.out bi3y_)); rintro e w4 ⟨rfl, hi, hb, hk⟩; refine ⟨_, rfl, ?_⟩; replace BK1 := kb1_ BK1 hk NB1_0; replace BK2 := kb1_ BK2 hk NB2_0; replace HO1 := A0_ (Kd.R_mono (Kd.R_keep (IsS95.apart (show IsS95 w0 _ g s0_0 s0_1 s0_2 from br5r_) bsm5_ bi3y_) hk (fun _ h => h.2)) (fun _ h => h.1)); replace HK := A0_ (KeepBut.trans bgjc_ hk (.inl rfl)); replace HB := A0_ (hb); replace HI0 := A0_ (hi); (try clear hb); (try clear hk); (try clear hi)) | ((with_reducible refine gd_ (N := 5) rfl ?_); refine bx_ 5 #[.int .i64 0, .int .i64 0, .int .i64 0] 45 ?_; intro gb3 hg w5 BK3 hb; replace HO1 := A0_ (Kd.R_below bsm5_ hb); replace HB := hb_ hb b6ve_; have GW3 := A0_ ((b1ye_ : w.heap.size ≤ gb3)); have GE3 := A0_ ((Nat.le_trans HW0.out (b1ye_ : w.heap.size ≤ gb3) : w0.heap.size ≤ gb3)); replace HK := A0_ (KeepBut.trans bgjc_ (KeepBut.of_below hb g none) (.inl rfl)); have NB1_3 := nl_ hg BK1; have NB3_1 := ng_ hg BK1; replace BK1 := k1_ BK1 hb; have NB2_3 := nl_ hg BK2; have NB3_2 := ng_ hg BK2; replace BK2 := k1_ BK2 hb; have NB0_3 := A0_ ((by rw [hg]; exact Nat.ne_of_lt (IsS95.lt (show IsS95 w0 _ g s0_0 t2 t3 from br5r_)) : g ≠ gb3)); have NB3_0 := A0_ ((by rw [hg]; exact Nat.ne_of_gt (IsS95.lt (show IsS95 w0 _ g s0_0 t2 t3 from br5r_)) : gb3 ≠ g)); replace HI0 := A0_ (IsS95.below br5r_ hb); clear hb hg; have hnb1 := NB3_1.out; have hnc1 := NB1_3.out; have hnb2 := NB3_2.out; have hnc2 := NB2_3.out; have hnb3 := NB3_0.out; have hnc3 := NB0_3.out; have hcz1 := z3_ BK3))
 (try simp only [Act.put, sa_, sz_, ss_])
 go_cut [] (fun wc => ∃ (kq : Nat) (x1001_3 : Int) (x1002_3 : Int) (x482000_3 : Int) (x482001_3 : Int) (x482002_3 : Int), Aside0 (spec_l1Cur_work12.j2 kq s0_0 x1001_3 x1002_3 x482000_3 x482001_3 x482002_3 = some (r1, r2, r3, r4, r5)) ∧ Aside0 (kq ≤ k) ∧ Aside0 (wc.heap[gb2]? = some (.cells #[.int .i64 0, .int .i64 0, .int .i64 0] 45 (0, 0))) ∧ Aside0 (wc.heap[gb3]? = some (.cells #[.int .i64 x482000_3, .int .i64 x482001_3, .int .i64 x482002_3] 45 (0, 0))) ∧ Aside0 (IsS95 w0 wc g s0_0 x1001_3 x1002_3) ∧ Aside0 (KeepBut w wc g none) ∧ Aside0 (Below w0.heap.size w0 wc))
 case first =>
  have H := HC4.out
  clear HC4
  by_cases c2 : t1 = 2
  ·rw [if_pos c2] at H
   obtain ⟨c2b0, c2b1⟩ := et_ c2
   clear c2
   (first | rw [c2b0] | (simp only [i64_w, i32_w]; rw [c2b0]) | skip)
   obtain ⟨⟨t4, t5, t6⟩, A5, H⟩ := o1_ H
   have H' := A0_ H
   clear H
   have hnb4 := NB1_2.out
   have hnc4 := NB2_1.out
   have hnb5 := NB1_3.out
   have hnc5 := NB3_1.out
   have hnb6 := NB1_0.out
   have hnc6 := NB0_1.out
   have hcz2 := z5_ BK1
   go_wp2_with (first | ((with_reducible refine gc_ (f := 106) rfl ?_); refine gl_ 17 Tryd.func106 #[.pointer (some ⟨g, 0, none⟩), .agg #[.int .i64 a1_0, .bool a1_1, .slice A1_2 l1_2.length c1_2]] ?_; (with_reducible refine (spec_l1Cur_freeSeat.calls k g s0_0 t2 t3 a1_0 a1_1 _ _ l1_2 t4 t5 t6 w0 _ ?side1 ?side2 ?side3 ?side4 ?side5 A5.out).mono ?_); (case side1 => exact bnex_); (case side2 => exact bypc_); (case side3 => exact Kd.C_keep 0 HR1_2.out bjzi_ hf1_2); (case side4 => exact HC1_2.out); (case side5 => exact hf1_2); rintro e w6 ⟨rfl, hi, hb, hk⟩; refine ⟨_, rfl, ?_⟩; replace BK1 := kb1_ BK1 hk NB1_0; replace BK2 := kb1_ BK2 hk NB2_0; replace HO1 := A0_ (Kd.R_mono (Kd.R_keep (IsS95.apart (show IsS95 w0 _ g s0_0 t2 t3 from bnex_) boj0_ bi3y_) hk (fun _ h => h.2)) (fun _ h => h.1)); replace BK3 := A0_ (KeepBut.blk hk (g' := gb3) (o := .cells #[.int .i64 t1, .int .i64 0, .int .i64 0] 45 (0, 0)) (u1_ BK3) NB3_0.out bxka_); replace HK := A0_ (KeepBut.trans bjzi_ hk (.inl rfl)); replace HB := A0_ (hb); replace HI0 := A0_ (hi); (try clear hb); (try clear hk); (try clear hi); have hnb7 := NB3_2.out; have hnc7 := NB2_3.out; have hnb8 := NB3_0.out; have hnc8 := NB0_3.out; have hcz3 := z3_ BK3))
   go_meet
   exact ⟨_, (t5), (t6), (t1), (t4), (0), H', ⟨bbn0_⟩, ⟨u1_ BK2⟩, ⟨u1_ BK3⟩, ⟨bnex_⟩, ⟨bjzi_⟩, ⟨bypc_⟩⟩
  rw [if_neg c2] at H
  obtain ⟨c2b0, c2b1⟩ := ef_ c2
  (first | rw [c2b0] | (simp only [i64_w, i32_w]; rw [c2b0]) | skip)
  have HC26 := A0_ H
  clear H
  go_upto_if 19 with (fail)
  go_cut [19] (fun v2 wc => ∃ (kq : Nat) (x19_25 : Bool), v2 = .bool x19_25 ∧ Aside0 (spec_l1Cur_work12.j0 kq t1 x19_25 s0_0 t2 t3 a1_0 a1_1 l1_2 l1_3 a1_4 t1 0 0 = some (r1, r2, r3, r4, r5)) ∧ Aside0 (kq ≤ k) ∧ Aside0 (wc.heap[gb1]? = some (.cells #[.int .i64 a1_0, .bool a1_1, (.slice A1_2 l1_2.length c1_2), (.slice A1_3 l1_3.length c1_3), .int .i64 a1_4] 26 (0, 0))) ∧ Aside0 (wc.heap[gb2]? = some (.cells #[.int .i64 0, .int .i64 0, .int .i64 0] 45 (0, 0))) ∧ Aside0 (wc.heap[gb3]? = some (.cells #[.int .i64 t1, .int .i64 0, .int .i64 0] 45 (0, 0))) ∧ Aside0 (IsS95 w0 wc g s0_0 t2 t3) ∧ Aside0 (KeepBut w wc g none) ∧ Aside0 (Below w0.heap.size w0 wc))
  case first =>
   have H := HC26.out
   clear HC26
   by_cases c3 : t1 = 3
   case neg =>
    rw [if_neg c3] at H
    obtain ⟨c3b0, c3b1⟩ := ef_ c3
    (first | rw [c3b0] | (simp only [i64_w, i32_w]; rw [c3b0]) | skip)
    have H' := A0_ H
    clear H
    go_wp2
    go_meet
    exact ⟨_, ((t1 == 4)), b2ew_, H', ⟨bbn0_⟩, ⟨u1_ BK1⟩, ⟨u1_ BK2⟩, ⟨u1_ BK3⟩, ⟨bnex_⟩, ⟨bjzi_⟩, ⟨bypc_⟩⟩
   rw [if_pos c3] at H
   obtain ⟨c3b0, c3b1⟩ := et_ c3
   clear c3
   (first | rw [c3b0] | (simp only [i64_w, i32_w]; rw [c3b0]) | skip)
   have H' := A0_ H
   clear H
   go_wp2
   go_meet
   exact ⟨_, ((t1 == 3)), b2ew_, H', ⟨bbn0_⟩, ⟨u1_ BK1⟩, ⟨u1_ BK2⟩, ⟨u1_ BK3⟩, ⟨bnex_⟩, ⟨bjzi_⟩, ⟨bypc_⟩⟩
  clear HC26
  try clear c1
  try clear c2
  try clear c2b0
  try clear c2b1
  (try clear hcz1); (try clear hfz1)
  obtain ⟨kq, x19_25, rfl, HA, HJ1, BK1, BK2, BK3, HI0, HK, HB⟩ := hcut
  cases kq with | zero => exact absurd HA.out (by simp [spec_l1Cur_work12.j0]) | succ kj1 => ?_
  have H := HA.out
  clear HA
  simp only [spec_l1Cur_work12.j0] at H
  by_cases c3 : x19_25 = true
  case neg =>
   obtain rfl := bf_.mpr c3
   rw [if_neg ft_] at H
   by_cases c4 : t1 = 5
   case neg =>
    rw [if_neg c4] at H
    obtain ⟨c4b0, c4b1⟩ := ef_ c4
    have H' := A0_ H
    clear H
    go_wp2
    go_meet
    exact ⟨_, (t2), (t3), (t1), (0), (0), H', ⟨bust_⟩, ⟨u1_ BK2⟩, ⟨u1_ BK3⟩, ⟨bnex_⟩, ⟨bjzi_⟩, ⟨bypc_⟩⟩
   rw [if_pos c4] at H
   obtain ⟨c4b0, c4b1⟩ := et_ c4
   clear c4
   obtain ⟨⟨t4, t5, t6⟩, A5, H⟩ := o1_ H
   by_cases c5 : t4 = true
   ·subst c5
    rw [if_pos rfl] at H
    have H' := A0_ H
    clear H
    go_wp2_with (first | ((with_reducible refine gc_ (f := 93) rfl ?_); refine gl_ 57 Tryd.func93 #[.pointer (some ⟨g, 0, none⟩), .int .i64 4] ?_; (with_reducible refine (spec_l1Cur_one.calls g s0_0 t2 t3 4 true t5 t6 w0 _ ?side1 ?side2 A5.out).mono ?_); (case side1 => exact bnex_); (case side2 => exact bypc_); rintro e w6 ⟨rfl, hi, hb, hk⟩; refine ⟨_, rfl, ?_⟩; replace BK1 := kb1_ BK1 hk NB1_0; replace BK2 := kb1_ BK2 hk NB2_0; replace BK3 := kb1_ BK3 hk NB3_0; replace HK := A0_ (KeepBut.trans bjzi_ hk (.inl rfl)); replace HB := A0_ (hb); replace HI0 := A0_ (hi); (try clear hb); (try clear hk); (try clear hi)))
    go_meet
    exact ⟨_, (t5), (t6), (t1), (0), (0), H', ⟨bust_⟩, ⟨u1_ BK2⟩, ⟨u1_ BK3⟩, ⟨bnex_⟩, ⟨bjzi_⟩, ⟨bypc_⟩⟩
   obtain rfl := bf_.mpr c5
   rw [if_neg ft_] at H
   have H' := A0_ H
   clear H
   go_wp2_with (first | ((with_reducible refine gc_ (f := 93) rfl ?_); refine gl_ 57 Tryd.func93 #[.pointer (some ⟨g, 0, none⟩), .int .i64 4] ?_; (with_reducible refine (spec_l1Cur_one.calls g s0_0 t2 t3 4 false t5 t6 w0 _ ?side1 ?side2 A5.out).mono ?_); (case side1 => exact bnex_); (case side2 => exact bypc_); rintro e w6 ⟨rfl, hi, hb, hk⟩; refine ⟨_, rfl, ?_⟩; replace BK1 := kb1_ BK1 hk NB1_0; replace BK2 := kb1_ BK2 hk NB2_0; replace BK3 := kb1_ BK3 hk NB3_0; replace HK := A0_ (KeepBut.trans bjzi_ hk (.inl rfl)); replace HB := A0_ (hb); replace HI0 := A0_ (hi); (try clear hb); (try clear hk); (try clear hi); have hnb4 := NB3_1.out; have hnc4 := NB1_3.out; have hnb5 := NB3_2.out; have hnc5 := NB2_3.out; have hnb6 := NB3_0.out; have hnc6 := NB0_3.out; have hcz2 := z3_ BK3))
   go_meet
   exact ⟨_, (t5), (t6), (1), (0), (0), H', ⟨bust_⟩, ⟨u1_ BK2⟩, ⟨u1_ BK3⟩, ⟨bnex_⟩, ⟨bjzi_⟩, ⟨bypc_⟩⟩
  subst c3
  rw [if_pos rfl] at H
  obtain ⟨⟨t4, t5, t6⟩, A5, H⟩ := o1_ H
  have HC30 := A0_ H
  clear H
  have hnb4 := NB1_2.out
  have hnc4 := NB2_1.out
  have hnb5 := NB1_3.out
  have hnc5 := NB3_1.out
  have hnb6 := NB1_0.out
  have hnc6 := NB0_1.out
  have hcz2 := z5_ BK1
  go_upto_region 8 with (first | ((with_reducible refine gc_ (f := 107) rfl ?_); refine gl_ 25 Tryd.func107 #[.pointer (some ⟨g, 0, none⟩), .agg #[.int .i64 a1_0, .bool a1_1, .slice A1_2 l1_2.length c1_2]] ?_; (with_reducible refine (spec_l1Cur_seat.calls g s0_0 t2 t3 a1_0 a1_1 _ _ l1_2 t4 t5 t6 w0 _ ?side1 ?side2 ?side3 ?side4 ?side5 A5.out).mono ?_); (case side1 => exact bnex_); (case side2 => exact bypc_); (case side3 => exact Kd.C_keep 0 HR1_2.out bjzi_ hf1_2); (case side4 => exact HC1_2.out); (case side5 => exact hf1_2); rintro e w6 ⟨rfl, hi, hb, hk⟩; refine ⟨_, rfl, ?_⟩; replace BK1 := kb1_ BK1 hk NB1_0; replace BK2 := kb1_ BK2 hk NB2_0; replace BK3 := kb1_ BK3 hk NB3_0; replace HK := A0_ (KeepBut.trans bjzi_ hk (.inl rfl)); replace HB := A0_ (hb); replace HI0 := A0_ (hi); (try clear hb); (try clear hk); (try clear hi); have hnb7 := NB3_2.out; have hnc7 := NB2_3.out; have hnb8 := NB3_0.out; have hnc8 := NB0_3.out; have hcz3 := z3_ BK3))
  (try simp only [Act.put, sa_, sz_, ss_])
  go_cut [35] (fun v3 wc => ∃ (kq : Nat) (x35_29 : Bool) (x1001_29 : Int) (x1002_29 : Int), v3 = .bool x35_29 ∧ Aside0 (spec_l1Cur_work12.j1 kq x35_29 s0_0 x1001_29 x1002_29 a1_0 a1_1 l1_2 l1_3 a1_4 t1 t4 0 = some (r1, r2, r3, r4, r5)) ∧ Aside0 (kq ≤ kj1) ∧ Aside0 (wc.heap[gb1]? = some (.cells #[.int .i64 a1_0, .bool a1_1, (.slice A1_2 l1_2.length c1_2), (.slice A1_3 l1_3.length c1_3), .int .i64 a1_4] 26 (0, 0))) ∧ Aside0 (wc.heap[gb2]? = some (.cells #[.int .i64 0, .int .i64 0, .int .i64 0] 45 (0, 0))) ∧ Aside0 (wc.heap[gb3]? = some (.cells #[.int .i64 t1, .int .i64 t4, .int .i64 0] 45 (0, 0))) ∧ Aside0 (IsS95 w0 wc g s0_0 x1001_29 x1002_29) ∧ Aside0 (KeepBut w wc g none) ∧ Aside0 (Below w0.heap.size w0 wc))
  case first =>
   have H := HC30.out
   clear HC30
   by_cases c4 : (l1_3.length : Int) > 0
   case neg =>
    rw [if_neg c4] at H
    have c4b0 : decide (0 < (l1_3.length : Int)) = false := decide_eq_false c4
    have c4b1 : decide (0 < l1_3.length) = false := decide_eq_false bh19_
    clear c4
    (first | rw [c4b0] | (simp only [i64_w, i32_w]; rw [c4b0]) | skip)
    have H' := A0_ H
    clear H
    have hnb9 := NB1_2.out
    have hnc9 := NB2_1.out
    have hnb10 := NB1_3.out
    have hnc10 := NB3_1.out
    have hnb11 := NB1_0.out
    have hnc11 := NB0_1.out
    have hcz4 := z5_ BK1
    go_wp2
    go_meet
    exact ⟨_, (false), (t5), (t6), b2ew_, H', ⟨bust_⟩, ⟨u1_ BK1⟩, ⟨u1_ BK2⟩, ⟨u1_ BK3⟩, ⟨bnex_⟩, ⟨bjzi_⟩, ⟨bypc_⟩⟩
   rw [if_pos c4] at H
   have c4b0 : decide (0 < (l1_3.length : Int)) = true := dt_ c4
   have c4b1 : decide (0 < l1_3.length) = true := dt_ bh19_
   clear c4
   (first | rw [c4b0] | (simp only [i64_w, i32_w]; rw [c4b0]) | skip)
   obtain ⟨⟨t7, t8, t9⟩, A7, H⟩ := o1_ H
   have H' := A0_ H
   clear H
   have hnb9 := NB1_2.out
   have hnc9 := NB2_1.out
   have hnb10 := NB1_3.out
   have hnc10 := NB3_1.out
   have hnb11 := NB1_0.out
   have hnc11 := NB0_1.out
   have hcz4 := z5_ BK1
   go_wp2_with (first | (go_at_call 93; (with_reducible refine (spec_l1Cur_one.calls g s0_0 t5 t6 8 t7 t8 t9 w0 _ ?side1 ?side2 A7.out).mono ?_); (case side1 => exact bnex_); (case side2 => exact bypc_); rintro e w7 ⟨rfl, hi, hb, hk⟩; replace BK1 := kb1_ BK1 hk NB1_0; replace BK2 := kb1_ BK2 hk NB2_0; replace BK3 := A0_ (KeepBut.blk hk (g' := gb3) (o := .cells #[.int .i64 t1, .int .i64 t4, .int .i64 0] 45 (0, 0)) (u1_ BK3) NB3_0.out bxka_); replace HK := A0_ (KeepBut.trans bjzi_ hk (.inl rfl)); replace HB := A0_ (hb); replace HI0 := A0_ (hi); (try clear hb); (try clear hk); (try clear hi)))
   go_meet
   exact ⟨_, (!t7), (t8), (t9), b2ew_, H', ⟨bust_⟩, ⟨u1_ BK1⟩, ⟨u1_ BK2⟩, ⟨u1_ BK3⟩, ⟨bnex_⟩, ⟨bjzi_⟩, ⟨bypc_⟩⟩
  clear HC30
  try clear c1
  try clear c2
  try clear c2b0
  try clear c2b1
  try clear c3
  (try clear hcz1); (try clear hcz2); (try clear hcz3); (try clear hfz1); (try clear hfz2); (try clear hfz3)
  obtain ⟨kq, x35_29, x1001_29, x1002_29, rfl, HA, HJ2, BK1, BK2, BK3, HI0, HK, HB⟩ := hcut
  cases kq with | zero => exact absurd HA.out (by simp [spec_l1Cur_work12.j1]) | succ kj2 => ?_
  have H := HA.out
  clear HA
  simp only [spec_l1Cur_work12.j1] at H
  by_cases c4 : x35_29 = true
  case neg =>
   obtain rfl := bf_.mpr c4
   rw [if_neg ft_] at H
   by_cases c5 : t1 = 4
   case neg =>
    rw [if_neg c5] at H
    obtain ⟨c5b0, c5b1⟩ := ef_ c5
    have H' := A0_ H
    clear H
    have hnb9 := NB3_1.out
    have hnc9 := NB1_3.out
    have hnb10 := NB3_2.out
    have hnc10 := NB2_3.out
    have hnb11 := NB3_0.out
    have hnc11 := NB0_3.out
    have hcz4 := z3_ BK3
    go_wp2
    go_meet
    exact ⟨_, (x1001_29), (x1002_29), (t1), (t4), (0), H', ⟨bjw4_⟩, ⟨u1_ BK2⟩, ⟨u1_ BK3⟩, ⟨bnex_⟩, ⟨bjzi_⟩, ⟨bypc_⟩⟩
   rw [if_pos c5] at H
   obtain ⟨c5b0, c5b1⟩ := et_ c5
   clear c5
   obtain ⟨⟨t7, t8, t9⟩, A7, H⟩ := o1_ H
   have H' := A0_ H
   clear H
   have hnb9 := NB3_1.out
   have hnc9 := NB1_3.out
   have hnb10 := NB3_2.out
   have hnc10 := NB2_3.out
   have hnb11 := NB3_0.out
   have hnc11 := NB0_3.out
   have hcz4 := z3_ BK3
   have hnb12 := NB1_2.out
   have hnc12 := NB2_1.out
   have hnb13 := NB1_0.out
   have hnc13 := NB0_1.out
   have hcz5 := z5_ BK1
   go_wp2_with (first | ((with_reducible refine gc_ (f := 106) rfl ?_); refine gl_ 52 Tryd.func106 #[.pointer (some ⟨g, 0, none⟩), .agg #[.int .i64 a1_0, .bool a1_1, .slice A1_2 l1_2.length c1_2]] ?_; (with_reducible refine (spec_l1Cur_freeSeat.calls kj2 g s0_0 x1001_29 x1002_29 a1_0 a1_1 _ _ l1_2 t7 t8 t9 w0 _ ?side1 ?side2 ?side3 ?side4 ?side5 A7.out).mono ?_); (case side1 => exact bnex_); (case side2 => exact bypc_); (case side3 => exact Kd.C_keep 0 HR1_2.out bjzi_ hf1_2); (case side4 => exact HC1_2.out); (case side5 => exact hf1_2); rintro e w7 ⟨rfl, hi, hb, hk⟩; refine ⟨_, rfl, ?_⟩; replace BK1 := kb1_ BK1 hk NB1_0; replace BK2 := kb1_ BK2 hk NB2_0; replace BK3 := kb1_ BK3 hk NB3_0; replace HK := A0_ (KeepBut.trans bjzi_ hk (.inl rfl)); replace HB := A0_ (hb); replace HI0 := A0_ (hi); (try clear hb); (try clear hk); (try clear hi); have hcz6 := z3_ BK3))
   go_meet
   exact ⟨_, (t8), (t9), (t1), (t4), (t7), H', ⟨bjw4_⟩, ⟨u1_ BK2⟩, ⟨u1_ BK3⟩, ⟨bnex_⟩, ⟨bjzi_⟩, ⟨bypc_⟩⟩
  subst c4
  rw [if_pos rfl] at H
  obtain ⟨⟨t7, t8, t9⟩, A7, H⟩ := o1_ H
  by_cases c5 : 0 ≤ t7
  case neg =>
   rw [if_neg c5] at H
   exact absurd H bxka_
  rw [if_pos c5] at H
  have c5b0 : decide (0 ≤ t7) = true := dt_ c5
  clear c5
  by_cases c6 : t7 < (l1_3.length : Int)
  case neg =>
   rw [if_neg c6] at H
   exact absurd H bxka_
  rw [if_pos c6] at H
  have c6b0 : decide (t7 < (l1_3.length : Int)) = true := dt_ c6
  clear c6
  by_cases c7 : t1 = 4
  case neg =>
   rw [if_neg c7] at H
   obtain ⟨c7b0, c7b1⟩ := ef_ c7
   have H' := A0_ H
   clear H
   try go_wp2
   replace BK1 := A0_ (kd_ BK1.out)
   replace BK2 := A0_ (kd_ BK2.out)
   replace BK3 := A0_ (kd_ BK3.out)
   replace HI0 := A0_ (IsS95.drew HI0.out)
   replace HK := A0_ (keep_drew HK.out)
   replace HB := A0_ (bd_ HB.out)
   have p1 : 0 ≤ (t7 : Int) := od_ bpil_
   have q1 : t7 < (l1_3.length : Int) := od_ bpil_
   obtain ⟨ad1, e1, hx1_0⟩ := Kd.at_int HR1_3.out t7 p1 q1
   have hw494_0 := hx1_0
   cases e1
   have hne494_0 := (show ((ad1.add (t7).toNat) : Addr).block ≠ g from b3pw_)
   replace hx1_0 := keep_cell HK.out hx1_0 br4j_
   replace p1 := eq_true p1
   replace q1 := eq_true q1
   refine start_ (n := 11) (S := fun w' => w'.cell? ⟨gb1, 0, none⟩ = some (.int .i64 a1_0) ∧ w'.cell? ⟨gb1, 1, none⟩ = some (.bool a1_1) ∧ w'.cell? ⟨gb1, 2, none⟩ = some (.slice A1_2 l1_2.length c1_2) ∧ w'.cell? ⟨gb1, 3, none⟩ = some (.slice (some ad1) l1_3.length c1_3) ∧ w'.cell? ⟨gb1, 4, none⟩ = some (.int .i64 a1_4) ∧ w'.cell? (ad1.add (t7).toNat) = some (.int .i64 (rd l1_3 t7))) (ds := []) #[false, false, false, false, false, false, false, false, false, false, false] bfqv_ rfl rfl ⟨(kc_ BK1.out 0).trans rfl, (kc_ BK1.out 1).trans rfl, (kc_ BK1.out 2).trans rfl, (kc_ BK1.out 3).trans rfl, (kc_ BK1.out 4).trans rfl, (keep_cell HK.out hw494_0 hne494_0)⟩ (fun hHeld => ?_); refine with_tabW spec_l1Cur_work12.tab9 spec_l1Cur_work12.bits9 (fun HT_ HW_ => ?_)
   generalize wc.drew = w7 at BK1 BK2 BK3 HI0 HK HB hf1_3 hx1_0 hHeld ⊢
   refine pu_ 0 36 ?_
   refine pu_ 2 38 ?_
   refine pu_ 3 39 ?_
   refine tk_ 1 37 hHeld ?_
   refine tk_ 4 40 hHeld ?_
   refine pu_ 5 41 ?_
   refine on_ 6 (some 42) (fun K hK => ?_)
   refine gs_ Tryd.func94 #[.pointer (some ⟨g, 0, none⟩), .int .i64 (l1_3.length : Int)] ?_
   with_reducible refine (spec_l1Cur_pick.calls g s0_0 x1001_29 x1002_29 (l1_3.length : Int) t7 t8 t9 w0 _ ?side1 ?side2 A7.out).mono ?_
   (case side1 => exact bnex_)
   (case side2 => exact bypc_)
   rintro e w8 ⟨rfl, hi, hb, hk⟩
   refine ⟨_, rfl, ?_⟩
   replace BK1 := kb1_ BK1 hk NB1_0
   replace BK2 := kb1_ BK2 hk NB2_0
   replace BK3 := kb1_ BK3 hk NB3_0
   replace HK := A0_ (KeepBut.trans bjzi_ hk (.inl rfl))
   replace HB := A0_ (hb)
   replace HI0 := A0_ (hi)
   (try clear hb); (try clear hk); (try clear hi)
   refine hK.out _ _ ⟨(kc_ BK1.out 0).trans rfl, (kc_ BK1.out 1).trans rfl, (kc_ BK1.out 2).trans rfl, (kc_ BK1.out 3).trans rfl, (kc_ BK1.out 4).trans rfl, (keep_cell HK.out hw494_0 hne494_0)⟩ (fun hHeld => ?_)
   clear hK K
   refine nm_ 42 ?_
   refine pu_ 7 43 ?_
   refine tk_ 8 44 hHeld ?_
   refine pu_ 9 45 ?_
   refine on_ 10 none (fun K hK => ?_)
   have hs70 : w8.cell? ⟨gb3, 1, none⟩ = some (.int .i64 t4) := (kc_ BK3.out 1).trans rfl
   have hfs70 := kf_ BK3.out 1
   have hns1_0 := NB1_3.out
   have hns1_1 := NB2_3.out
   have hms1_0 := NB3_1.out
   have hms1_1 := NB3_2.out
   refine skip_ (w1 := ?_) (by rfl) rfl ?_ ?_
   rotate_left
   ·go_simp
    rfl
   refine hK.out _ _ ⟨((cell_far (p := ⟨gb3, _, none⟩) NB1_3.out _).trans (hHeld.1)), ((cell_far (p := ⟨gb3, _, none⟩) NB1_3.out _).trans (hHeld.2.1)), ((cell_far (p := ⟨gb3, _, none⟩) NB1_3.out _).trans (hHeld.2.2.1)), ((cell_far (p := ⟨gb3, _, none⟩) NB1_3.out _).trans (hHeld.2.2.2.1)), ((cell_far (p := ⟨gb3, _, none⟩) NB1_3.out _).trans (hHeld.2.2.2.2.1)), ((cell_far (p := ⟨gb3, _, none⟩) btu0_ _).trans (hHeld.2.2.2.2.2))⟩ (fun hHeld => ?_)
   clear hK K
   refine dn_ ?_
   have hnb9 := NB3_1.out
   have hnc9 := NB1_3.out
   have hnb10 := NB3_2.out
   have hnc10 := NB2_3.out
   have hnb11 := NB3_0.out
   have hnc11 := NB0_3.out
   have hcz4 := z3_ BK3
   try go_wp2
   go_meet
   exact ⟨_, (t8), (t9), (t1), (rd l1_3 t7), (0), H', ⟨bjw4_⟩, ⟨u1_ BK2⟩, ⟨u1_ BK3⟩, ⟨bnex_⟩, ⟨bjzi_⟩, ⟨bypc_⟩⟩
  rw [if_pos c7] at H
  obtain ⟨c7b0, c7b1⟩ := et_ c7
  clear c7
  obtain ⟨⟨t10, t11, t12⟩, A9, H⟩ := o1_ H
  have H' := A0_ H
  clear H
  try go_wp2
  replace BK1 := A0_ (kd_ BK1.out)
  replace BK2 := A0_ (kd_ BK2.out)
  replace BK3 := A0_ (kd_ BK3.out)
  replace HI0 := A0_ (IsS95.drew HI0.out)
  replace HK := A0_ (keep_drew HK.out)
  replace HB := A0_ (bd_ HB.out)
  have p1 : 0 ≤ (t7 : Int) := od_ bpil_
  have q1 : t7 < (l1_3.length : Int) := od_ bpil_
  obtain ⟨ad1, e1, hx1_0⟩ := Kd.at_int HR1_3.out t7 p1 q1
  have hw494_0 := hx1_0
  cases e1
  have hne494_0 := (show ((ad1.add (t7).toNat) : Addr).block ≠ g from b3pw_)
  replace hx1_0 := keep_cell HK.out hx1_0 br4j_
  replace p1 := eq_true p1
  replace q1 := eq_true q1
  refine start_ (n := 11) (S := fun w' => w'.cell? ⟨gb1, 0, none⟩ = some (.int .i64 a1_0) ∧ w'.cell? ⟨gb1, 1, none⟩ = some (.bool a1_1) ∧ w'.cell? ⟨gb1, 2, none⟩ = some (.slice A1_2 l1_2.length c1_2) ∧ w'.cell? ⟨gb1, 3, none⟩ = some (.slice (some ad1) l1_3.length c1_3) ∧ w'.cell? ⟨gb1, 4, none⟩ = some (.int .i64 a1_4) ∧ w'.cell? (ad1.add (t7).toNat) = some (.int .i64 (rd l1_3 t7))) (ds := []) #[false, false, false, false, false, false, false, false, false, false, false] bfqv_ rfl rfl ⟨(kc_ BK1.out 0).trans rfl, (kc_ BK1.out 1).trans rfl, (kc_ BK1.out 2).trans rfl, (kc_ BK1.out 3).trans rfl, (kc_ BK1.out 4).trans rfl, (keep_cell HK.out hw494_0 hne494_0)⟩ (fun hHeld => ?_); refine with_tabW spec_l1Cur_work12.tab9 spec_l1Cur_work12.bits9 (fun HT_ HW_ => ?_)
  generalize wc.drew = w7 at BK1 BK2 BK3 HI0 HK HB hf1_3 hx1_0 hHeld ⊢
  refine pu_ 0 36 ?_
  refine pu_ 2 38 ?_
  refine pu_ 3 39 ?_
  refine tk_ 1 37 hHeld ?_
  refine tk_ 4 40 hHeld ?_
  refine pu_ 5 41 ?_
  refine on_ 6 (some 42) (fun K hK => ?_)
  refine gs_ Tryd.func94 #[.pointer (some ⟨g, 0, none⟩), .int .i64 (l1_3.length : Int)] ?_
  with_reducible refine (spec_l1Cur_pick.calls g s0_0 x1001_29 x1002_29 (l1_3.length : Int) t7 t8 t9 w0 _ ?side1 ?side2 A7.out).mono ?_
  (case side1 => exact bnex_)
  (case side2 => exact bypc_)
  rintro e w8 ⟨rfl, hi, hb, hk⟩
  refine ⟨_, rfl, ?_⟩
  replace BK1 := kb1_ BK1 hk NB1_0
  replace BK2 := kb1_ BK2 hk NB2_0
  replace BK3 := kb1_ BK3 hk NB3_0
  replace HK := A0_ (KeepBut.trans bjzi_ hk (.inl rfl))
  replace HB := A0_ (hb)
  replace HI0 := A0_ (hi)
  (try clear hb); (try clear hk); (try clear hi)
  refine hK.out _ _ ⟨(kc_ BK1.out 0).trans rfl, (kc_ BK1.out 1).trans rfl, (kc_ BK1.out 2).trans rfl, (kc_ BK1.out 3).trans rfl, (kc_ BK1.out 4).trans rfl, (keep_cell HK.out hw494_0 hne494_0)⟩ (fun hHeld => ?_)
  clear hK K
  refine nm_ 42 ?_
  refine pu_ 7 43 ?_
  refine tk_ 8 44 hHeld ?_
  refine pu_ 9 45 ?_
  refine on_ 10 none (fun K hK => ?_)
  have hs58 : w8.cell? ⟨gb3, 1, none⟩ = some (.int .i64 t4) := (kc_ BK3.out 1).trans rfl
  have hfs58 := kf_ BK3.out 1
  have hns1_0 := NB1_3.out
  have hns1_1 := NB2_3.out
  have hms1_0 := NB3_1.out
  have hms1_1 := NB3_2.out
  refine skip_ (w1 := ?_) (by rfl) rfl ?_ ?_
  rotate_left
  ·go_simp
   rfl
  refine hK.out _ _ ⟨((cell_far (p := ⟨gb3, _, none⟩) NB1_3.out _).trans (hHeld.1)), ((cell_far (p := ⟨gb3, _, none⟩) NB1_3.out _).trans (hHeld.2.1)), ((cell_far (p := ⟨gb3, _, none⟩) NB1_3.out _).trans (hHeld.2.2.1)), ((cell_far (p := ⟨gb3, _, none⟩) NB1_3.out _).trans (hHeld.2.2.2.1)), ((cell_far (p := ⟨gb3, _, none⟩) NB1_3.out _).trans (hHeld.2.2.2.2.1)), ((cell_far (p := ⟨gb3, _, none⟩) btu0_ _).trans (hHeld.2.2.2.2.2))⟩ (fun hHeld => ?_)
  clear hK K
  refine dn_ ?_
  have hnb9 := NB3_1.out
  have hnc9 := NB1_3.out
  have hnb10 := NB3_2.out
  have hnc10 := NB2_3.out
  have hnb11 := NB3_0.out
  have hnc11 := NB0_3.out
  have hcz4 := z3_ BK3
  have hnb12 := NB1_2.out
  have hnc12 := NB2_1.out
  have hnb13 := NB1_0.out
  have hnc13 := NB0_1.out
  have hcz5 := z5_ BK1
  try go_wp2_with (first | ((with_reducible refine gc_ (f := 106) rfl ?_); refine gl_ 52 Tryd.func106 #[.pointer (some ⟨g, 0, none⟩), .agg #[.int .i64 a1_0, .bool a1_1, .slice A1_2 l1_2.length c1_2]] ?_; (with_reducible refine (spec_l1Cur_freeSeat.calls kj2 g s0_0 t8 t9 a1_0 a1_1 _ _ l1_2 t10 t11 t12 w0 _ ?side1 ?side2 ?side3 ?side4 ?side5 A9.out).mono ?_); (case side1 => exact bnex_); (case side2 => exact bypc_); (case side3 => exact Kd.C_keep 0 HR1_2.out bjzi_ hf1_2); (case side4 => exact HC1_2.out); (case side5 => exact hf1_2); rintro e w9 ⟨rfl, hi, hb, hk⟩; refine ⟨_, rfl, ?_⟩; replace BK1 := kb1_ BK1 hk NB1_0; replace BK2 := kb1_ BK2 hk NB2_0; replace BK3 := A0_ (KeepBut.blk hk (g' := gb3) (o := .cells #[.int .i64 t1, .int .i64 (rd l1_3 t7), .int .i64 0] 45 (0, 0)) (u1_ BK3) NB3_0.out bxka_); replace HK := A0_ (KeepBut.trans bjzi_ hk (.inl rfl)); replace HB := A0_ (hb); replace HI0 := A0_ (hi); (try clear hb); (try clear hk); (try clear hi); have hcz6 := z3_ BK3))
  go_meet
  exact ⟨_, (t11), (t12), (t1), (rd l1_3 t7), (t10), H', ⟨bjw4_⟩, ⟨u1_ BK2⟩, ⟨u1_ BK3⟩, ⟨bnex_⟩, ⟨bjzi_⟩, ⟨bypc_⟩⟩
 clear HC4
 try clear c1
 (try clear hcz1); (try clear hfz1)
 obtain ⟨kq, x1001_3, x1002_3, x482000_3, x482001_3, x482002_3, HA, HJ1, BK2, BK3, HI0, HK, HB⟩ := hcut
 cases kq with | zero => exact absurd HA.out (by simp [spec_l1Cur_work12.j2]) | succ kj1 => ?_
 have H := HA.out
 clear HA
 simp only [spec_l1Cur_work12.j2] at H
 obtain ⟨⟨t4, t5, t6⟩, A5, H⟩ := o1_ H
 by_cases c2 : t4 = 0
 ·rw [if_pos c2] at H
  obtain ⟨c2b0, c2b1⟩ := et_ c2
  clear c2
  obtain ⟨y2, hy2⟩ : ∃ y_ : List Int, y_ = (([(-1), 24, 1, 4611686018427387904] : List Int)) := ⟨_, rfl⟩
  replace H : ((spec_l1Cur_among.f s0_0 t5 t6 y2).bind fun bt3 => (some (x482000_3, bt3.1, x482002_3, bt3.2.1, bt3.2.2))) = some (r1, r2, r3, r4, r5) := bscs_
  have Ny2 := A0_ hy2
  clear hy2
  obtain ⟨⟨t7, t8, t9⟩, A7, H⟩ := o1_ H
  replace H : (some (x482000_3, t7, x482002_3, t8, t9)) = some (r1, r2, r3, r4, r5) := H
  simp only [sj_, pj_] at H
  obtain ⟨rfl, rfl, rfl, rfl, rfl⟩ := H
  go_wp2_with (first | ((with_reducible refine gc_ (f := 94) rfl ?_); refine gl_ 61 Tryd.func94 #[.pointer (some ⟨g, 0, none⟩), .int .i64 32] ?_; (with_reducible refine (spec_l1Cur_pick.calls g s0_0 x1001_3 x1002_3 32 t4 t5 t6 w0 _ ?side1 ?side2 A5.out).mono ?_); (case side1 => exact b8rk_); (case side2 => exact b9ju_); rintro e w6 ⟨rfl, hi, hb, hk⟩; refine ⟨_, rfl, ?_⟩; replace BK2 := kb1_ BK2 hk NB2_0; replace BK3 := kb1_ BK3 hk NB3_0; replace HK := A0_ (KeepBut.trans b1tq_ hk (.inl rfl)); replace HB := A0_ (hb); replace HI0 := A0_ (hi); (try clear hb); (try clear hk); (try clear hi)) | ((with_reducible refine gd_ (N := 65) rfl ?_); refine Kd.R_lit (Kd.int .i64) _ 3 ?hg (N := 65) ?hd (xs := ([(-1), 24, 1, 4611686018427387904] : List Int)) (inner := [.int .i64 (-1), .int .i64 24, .int .i64 1, .int .i64 4611686018427387904]) (ok := fun _ => True) (okp := fun _ => True) ?hr ?hp (fun _ hk => hk) trivial (Below.refl _ _) (Nat.le_refl _) bxka_ ?_; (case hd => rfl); (case hg => rfl); (case hr => go_simp; first | done | rfl); (case hp => exact (Reps.one (show Kd.M (Kd.int .i64) _ _ _ (-1) [.int .i64 (-1)] from rfl) (Reps.one (show Kd.M (Kd.int .i64) _ _ _ 24 [.int .i64 24] from rfl) (Reps.one (show Kd.M (Kd.int .i64) _ _ _ 1 [.int .i64 1] from rfl) (Reps.one (show Kd.M (Kd.int .i64) _ _ _ 4611686018427387904 [.int .i64 4611686018427387904] from rfl) (Reps.none _ _)))))); intro v2 w7 ho104 hb hg_ hnew_; clear hg_ hnew_; (first | rw [← Ny2.out] at ho104 | (simp only [Int.reduceToNat] at ho104; rw [← Ny2.out] at ho104)); have HO2 := A0_ (Kd.R_lower ho104 (keep_size (w := w) (g := g) (row := none) b1tq_)); replace BK2 := k1_ BK2 hb; replace BK3 := k1_ BK3 hb; replace HK := A0_ (KeepBut.trans b1tq_ (KeepBut.of_below hb g none) (.inl rfl)); replace HB := hb_ hb b9ju_; replace HI0 := A0_ (IsS95.below b8rk_ hb); clear hb ho104; obtain ⟨Ao2, co2, eo2⟩ := Kd.R_slice HO2.out; subst eo2) | ((with_reducible refine gc_ (f := 92) rfl ?_); refine gl_ 66 Tryd.func92 #[.pointer (some ⟨g, 0, none⟩), .slice Ao2 y2.length co2] ?_; (with_reducible refine (spec_l1Cur_among.calls g s0_0 t5 t6 _ _ y2 t7 t8 t9 w0 _ ?side1 ?side2 ?side3 ?side4 ?side5 A7.out).mono ?_); (case side1 => exact b8rk_); (case side2 => exact b9ju_); (case side3 => exact ba04_); (case side4 => exact (rr_ HO2.out).2.1); (case side5 => exact far_slice (IsS95.own_ne HI0.out HO2.out bi3y_)); rintro e w8 ⟨rfl, hi, hb, hk⟩; refine ⟨_, rfl, ?_⟩; replace BK2 := kb1_ BK2 hk NB2_0; replace BK3 := kb1_ BK3 hk NB3_0; replace HO2 := A0_ (Kd.R_mono (Kd.R_keep (IsS95.apart (show IsS95 w0 _ g s0_0 t5 t6 from b8rk_) b9so_ bi3y_) hk (fun _ h => h.2)) (fun _ h => h.1)); replace HK := A0_ (KeepBut.trans b1tq_ hk (.inl rfl)); replace HB := A0_ (hb); replace HI0 := A0_ (hi); (try clear hb); (try clear hk); (try clear hi); have hnb4 := NB3_2.out; have hnc4 := NB2_3.out; have hnb5 := NB3_0.out; have hnc5 := NB0_3.out; have hcz2 := z3_ BK3; have hnb6 := NB2_0.out; have hnc6 := NB0_2.out; have hcz3_0 : w8.cell? ⟨gb2, 0, none⟩ = some (.int .i64 0) := (kc_ BK2.out 0).trans rfl; have hcz3_1 : w8.cell? ⟨gb2, 1, none⟩ = some (.int .i64 0) := (kc_ BK2.out 1).trans rfl; have hcz3_2 : w8.cell? ⟨gb2, 2, none⟩ = some (.int .i64 0) := (kc_ BK2.out 2).trans rfl; have hfz3_0 := kf_ BK2.out 0; have hfz3_1 := kf_ BK2.out 1; have hfz3_2 := kf_ BK2.out 2))
  refine bodyPost_ret (results_cell_row rfl _ _ gb2 45 #[.int .i64 x482000_3, .int .i64 t7, .int .i64 x482002_3] (0, 0) _ rfl (u1_ BK2) Tryd.underlying45 rfl bfqv_) rfl ?_
  exact ⟨bnwh_, b8rk_, b9ju_, b1tq_⟩
 rw [if_neg c2] at H
 obtain ⟨c2b0, c2b1⟩ := ef_ c2
 by_cases c3 : t4 = 1
 ·rw [if_pos c3] at H
  obtain ⟨c3b0, c3b1⟩ := et_ c3
  clear c3
  obtain ⟨y2, hy2⟩ : ∃ y_ : List Int, y_ = (([(-1), 24, 1] : List Int)) := ⟨_, rfl⟩
  replace H : ((spec_l1Cur_among.f s0_0 t5 t6 y2).bind fun bt3 => (some (x482000_3, x482001_3, bt3.1, bt3.2.1, bt3.2.2))) = some (r1, r2, r3, r4, r5) := bscs_
  have Ny2 := A0_ hy2
  clear hy2
  obtain ⟨⟨t7, t8, t9⟩, A7, H⟩ := o1_ H
  replace H : (some (x482000_3, x482001_3, t7, t8, t9)) = some (r1, r2, r3, r4, r5) := H
  simp only [sj_, pj_] at H
  obtain ⟨rfl, rfl, rfl, rfl, rfl⟩ := H
  go_wp2_with (first | ((with_reducible refine gc_ (f := 94) rfl ?_); refine gl_ 61 Tryd.func94 #[.pointer (some ⟨g, 0, none⟩), .int .i64 32] ?_; (with_reducible refine (spec_l1Cur_pick.calls g s0_0 x1001_3 x1002_3 32 t4 t5 t6 w0 _ ?side1 ?side2 A5.out).mono ?_); (case side1 => exact b8rk_); (case side2 => exact b9ju_); rintro e w6 ⟨rfl, hi, hb, hk⟩; refine ⟨_, rfl, ?_⟩; replace BK2 := kb1_ BK2 hk NB2_0; replace BK3 := kb1_ BK3 hk NB3_0; replace HK := A0_ (KeepBut.trans b1tq_ hk (.inl rfl)); replace HB := A0_ (hb); replace HI0 := A0_ (hi); (try clear hb); (try clear hk); (try clear hi)) | ((with_reducible refine gd_ (N := 71) rfl ?_); refine Kd.R_lit (Kd.int .i64) _ 3 ?hg (N := 71) ?hd (xs := ([(-1), 24, 1] : List Int)) (inner := [.int .i64 (-1), .int .i64 24, .int .i64 1]) (ok := fun _ => True) (okp := fun _ => True) ?hr ?hp (fun _ hk => hk) trivial (Below.refl _ _) (Nat.le_refl _) bxka_ ?_; (case hd => rfl); (case hg => rfl); (case hr => go_simp; first | done | rfl); (case hp => exact (Reps.one (show Kd.M (Kd.int .i64) _ _ _ (-1) [.int .i64 (-1)] from rfl) (Reps.one (show Kd.M (Kd.int .i64) _ _ _ 24 [.int .i64 24] from rfl) (Reps.one (show Kd.M (Kd.int .i64) _ _ _ 1 [.int .i64 1] from rfl) (Reps.none _ _))))); intro v2 w7 ho116 hb hg_ hnew_; clear hg_ hnew_; (first | rw [← Ny2.out] at ho116 | (simp only [Int.reduceToNat] at ho116; rw [← Ny2.out] at ho116)); have HO2 := A0_ (Kd.R_lower ho116 (keep_size (w := w) (g := g) (row := none) b1tq_)); replace BK2 := k1_ BK2 hb; replace BK3 := k1_ BK3 hb; replace HK := A0_ (KeepBut.trans b1tq_ (KeepBut.of_below hb g none) (.inl rfl)); replace HB := hb_ hb b9ju_; replace HI0 := A0_ (IsS95.below b8rk_ hb); clear hb ho116; obtain ⟨Ao2, co2, eo2⟩ := Kd.R_slice HO2.out; subst eo2) | ((with_reducible refine gc_ (f := 92) rfl ?_); refine gl_ 72 Tryd.func92 #[.pointer (some ⟨g, 0, none⟩), .slice Ao2 y2.length co2] ?_; (with_reducible refine (spec_l1Cur_among.calls g s0_0 t5 t6 _ _ y2 t7 t8 t9 w0 _ ?side1 ?side2 ?side3 ?side4 ?side5 A7.out).mono ?_); (case side1 => exact b8rk_); (case side2 => exact b9ju_); (case side3 => exact ba04_); (case side4 => exact (rr_ HO2.out).2.1); (case side5 => exact far_slice (IsS95.own_ne HI0.out HO2.out bi3y_)); rintro e w8 ⟨rfl, hi, hb, hk⟩; refine ⟨_, rfl, ?_⟩; replace BK2 := kb1_ BK2 hk NB2_0; replace BK3 := kb1_ BK3 hk NB3_0; replace HO2 := A0_ (Kd.R_mono (Kd.R_keep (IsS95.apart (show IsS95 w0 _ g s0_0 t5 t6 from b8rk_) b9so_ bi3y_) hk (fun _ h => h.2)) (fun _ h => h.1)); replace HK := A0_ (KeepBut.trans b1tq_ hk (.inl rfl)); replace HB := A0_ (hb); replace HI0 := A0_ (hi); (try clear hb); (try clear hk); (try clear hi); have hnb4 := NB3_2.out; have hnc4 := NB2_3.out; have hnb5 := NB3_0.out; have hnc5 := NB0_3.out; have hcz2 := z3_ BK3; have hnb6 := NB2_0.out; have hnc6 := NB0_2.out; have hcz3_0 : w8.cell? ⟨gb2, 0, none⟩ = some (.int .i64 0) := (kc_ BK2.out 0).trans rfl; have hcz3_1 : w8.cell? ⟨gb2, 1, none⟩ = some (.int .i64 0) := (kc_ BK2.out 1).trans rfl; have hcz3_2 : w8.cell? ⟨gb2, 2, none⟩ = some (.int .i64 0) := (kc_ BK2.out 2).trans rfl; have hfz3_0 := kf_ BK2.out 0; have hfz3_1 := kf_ BK2.out 1; have hfz3_2 := kf_ BK2.out 2))
  refine bodyPost_ret (results_cell_row rfl _ _ gb2 45 #[.int .i64 x482000_3, .int .i64 x482001_3, .int .i64 t7] (0, 0) _ rfl (u1_ BK2) Tryd.underlying45 rfl bfqv_) rfl ?_
  exact ⟨bnwh_, b8rk_, b9ju_, b1tq_⟩
 rw [if_neg c3] at H
 obtain ⟨c3b0, c3b1⟩ := ef_ c3
 by_cases c4 : t4 = 2
 case neg =>
  rw [if_neg c4] at H
  obtain ⟨c4b0, c4b1⟩ := ef_ c4
  simp only [sj_, pj_] at H
  obtain ⟨rfl, rfl, rfl, rfl, rfl⟩ := H
  go_wp2_with (first | ((with_reducible refine gc_ (f := 94) rfl ?_); refine gl_ 61 Tryd.func94 #[.pointer (some ⟨g, 0, none⟩), .int .i64 32] ?_; (with_reducible refine (spec_l1Cur_pick.calls g s0_0 x1001_3 x1002_3 32 t4 t5 t6 w0 _ ?side1 ?side2 A5.out).mono ?_); (case side1 => exact b8rk_); (case side2 => exact b9ju_); rintro e w6 ⟨rfl, hi, hb, hk⟩; refine ⟨_, rfl, ?_⟩; replace BK2 := kb1_ BK2 hk NB2_0; replace BK3 := kb1_ BK3 hk NB3_0; replace HK := A0_ (KeepBut.trans b1tq_ hk (.inl rfl)); replace HB := A0_ (hb); replace HI0 := A0_ (hi); (try clear hb); (try clear hk); (try clear hi); have hnb4 := NB3_2.out; have hnc4 := NB2_3.out; have hnb5 := NB3_0.out; have hnc5 := NB0_3.out; have hcz2 := z3_ BK3; have hnb6 := NB2_0.out; have hnc6 := NB0_2.out; have hcz3_0 : w6.cell? ⟨gb2, 0, none⟩ = some (.int .i64 0) := (kc_ BK2.out 0).trans rfl; have hcz3_1 : w6.cell? ⟨gb2, 1, none⟩ = some (.int .i64 0) := (kc_ BK2.out 1).trans rfl; have hcz3_2 : w6.cell? ⟨gb2, 2, none⟩ = some (.int .i64 0) := (kc_ BK2.out 2).trans rfl; have hfz3_0 := kf_ BK2.out 0; have hfz3_1 := kf_ BK2.out 1; have hfz3_2 := kf_ BK2.out 2))
  refine bodyPost_ret (results_cell_row rfl _ _ gb2 45 #[.int .i64 x482000_3, .int .i64 x482001_3, .int .i64 x482002_3] (0, 0) _ rfl (u1_ BK2) Tryd.underlying45 rfl bfqv_) rfl ?_
  exact ⟨bnwh_, b8rk_, b9ju_, b1tq_⟩
 rw [if_pos c4] at H
 obtain ⟨c4b0, c4b1⟩ := et_ c4
 clear c4
 obtain ⟨y2, hy2⟩ : ∃ y_ : List Int, y_ = (([0, 6, (-1)] : List Int)) := ⟨_, rfl⟩
 replace H : ((spec_l1Cur_among.f s0_0 t5 t6 y2).bind fun bt3 => (some (bt3.1, x482001_3, x482002_3, bt3.2.1, bt3.2.2))) = some (r1, r2, r3, r4, r5) := bscs_
 have Ny2 := A0_ hy2
 clear hy2
 obtain ⟨⟨t7, t8, t9⟩, A7, H⟩ := o1_ H
 replace H : (some (t7, x482001_3, x482002_3, t8, t9)) = some (r1, r2, r3, r4, r5) := H
 simp only [sj_, pj_] at H
 obtain ⟨rfl, rfl, rfl, rfl, rfl⟩ := H
 go_wp2_with (first | ((with_reducible refine gc_ (f := 94) rfl ?_); refine gl_ 61 Tryd.func94 #[.pointer (some ⟨g, 0, none⟩), .int .i64 32] ?_; (with_reducible refine (spec_l1Cur_pick.calls g s0_0 x1001_3 x1002_3 32 t4 t5 t6 w0 _ ?side1 ?side2 A5.out).mono ?_); (case side1 => exact b8rk_); (case side2 => exact b9ju_); rintro e w6 ⟨rfl, hi, hb, hk⟩; refine ⟨_, rfl, ?_⟩; replace BK2 := kb1_ BK2 hk NB2_0; replace BK3 := kb1_ BK3 hk NB3_0; replace HK := A0_ (KeepBut.trans b1tq_ hk (.inl rfl)); replace HB := A0_ (hb); replace HI0 := A0_ (hi); (try clear hb); (try clear hk); (try clear hi)) | ((with_reducible refine gd_ (N := 77) rfl ?_); refine Kd.R_lit (Kd.int .i64) _ 3 ?hg (N := 77) ?hd (xs := ([0, 6, (-1)] : List Int)) (inner := [.int .i64 0, .int .i64 6, .int .i64 (-1)]) (ok := fun _ => True) (okp := fun _ => True) ?hr ?hp (fun _ hk => hk) trivial (Below.refl _ _) (Nat.le_refl _) bxka_ ?_; (case hd => rfl); (case hg => rfl); (case hr => go_simp; first | done | rfl); (case hp => exact (Reps.one (show Kd.M (Kd.int .i64) _ _ _ 0 [.int .i64 0] from rfl) (Reps.one (show Kd.M (Kd.int .i64) _ _ _ 6 [.int .i64 6] from rfl) (Reps.one (show Kd.M (Kd.int .i64) _ _ _ (-1) [.int .i64 (-1)] from rfl) (Reps.none _ _))))); intro v2 w7 ho128 hb hg_ hnew_; clear hg_ hnew_; (first | rw [← Ny2.out] at ho128 | (simp only [Int.reduceToNat] at ho128; rw [← Ny2.out] at ho128)); have HO2 := A0_ (Kd.R_lower ho128 (keep_size (w := w) (g := g) (row := none) b1tq_)); replace BK2 := k1_ BK2 hb; replace BK3 := k1_ BK3 hb; replace HK := A0_ (KeepBut.trans b1tq_ (KeepBut.of_below hb g none) (.inl rfl)); replace HB := hb_ hb b9ju_; replace HI0 := A0_ (IsS95.below b8rk_ hb); clear hb ho128; obtain ⟨Ao2, co2, eo2⟩ := Kd.R_slice HO2.out; subst eo2) | ((with_reducible refine gc_ (f := 92) rfl ?_); refine gl_ 78 Tryd.func92 #[.pointer (some ⟨g, 0, none⟩), .slice Ao2 y2.length co2] ?_; (with_reducible refine (spec_l1Cur_among.calls g s0_0 t5 t6 _ _ y2 t7 t8 t9 w0 _ ?side1 ?side2 ?side3 ?side4 ?side5 A7.out).mono ?_); (case side1 => exact b8rk_); (case side2 => exact b9ju_); (case side3 => exact ba04_); (case side4 => exact (rr_ HO2.out).2.1); (case side5 => exact far_slice (IsS95.own_ne HI0.out HO2.out bi3y_)); rintro e w8 ⟨rfl, hi, hb, hk⟩; refine ⟨_, rfl, ?_⟩; replace BK2 := kb1_ BK2 hk NB2_0; replace BK3 := kb1_ BK3 hk NB3_0; replace HO2 := A0_ (Kd.R_mono (Kd.R_keep (IsS95.apart (show IsS95 w0 _ g s0_0 t5 t6 from b8rk_) b9so_ bi3y_) hk (fun _ h => h.2)) (fun _ h => h.1)); replace HK := A0_ (KeepBut.trans b1tq_ hk (.inl rfl)); replace HB := A0_ (hb); replace HI0 := A0_ (hi); (try clear hb); (try clear hk); (try clear hi); have hnb4 := NB3_2.out; have hnc4 := NB2_3.out; have hnb5 := NB3_0.out; have hnc5 := NB0_3.out; have hcz2 := z3_ BK3; have hnb6 := NB2_0.out; have hnc6 := NB0_2.out; have hcz3_0 : w8.cell? ⟨gb2, 0, none⟩ = some (.int .i64 0) := (kc_ BK2.out 0).trans rfl; have hcz3_1 : w8.cell? ⟨gb2, 1, none⟩ = some (.int .i64 0) := (kc_ BK2.out 1).trans rfl; have hcz3_2 : w8.cell? ⟨gb2, 2, none⟩ = some (.int .i64 0) := (kc_ BK2.out 2).trans rfl; have hfz3_0 := kf_ BK2.out 0; have hfz3_1 := kf_ BK2.out 1; have hfz3_2 := kf_ BK2.out 2))
 refine bodyPost_ret (results_cell_row rfl _ _ gb2 45 #[.int .i64 t7, .int .i64 x482001_3, .int .i64 x482002_3] (0, 0) _ rfl (u1_ BK2) Tryd.underlying45 rfl bfqv_) rfl ?_
 exact ⟨bnwh_, b8rk_, b9ju_, b1tq_⟩

end Go.Proofs.YtbohmfnjgjijdaaDoor.QFnGuests
-- packed
-- squeezed
