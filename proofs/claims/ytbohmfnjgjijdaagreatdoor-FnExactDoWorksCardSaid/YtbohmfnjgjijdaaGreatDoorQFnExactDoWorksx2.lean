-- Written by px.py, a program of this session, over the kit's printer: some functions have a definition and a proof of this session's own.
import Derived.Test.YtbohmfnjgjijdaaGreatDoorQFnExactDoWorksx0
import Derived.Test.YtbohmfnjgjijdaaGreatDoorQFnExactDoWorksx1
namespace Go.Proofs.YtbohmfnjgjijdaaGreatDoor.QFnExactDoWorks
open Go.RowKit Go.Proofs.YtbohmfnjgjijdaaGreatDoorW.PrintWords Go.Proofs.YtbohmfnjgjijdaaGreatDoorW.PrintLast Go.Proofs.YtbohmfnjgjijdaaGreatDoorW.PrintMore
attribute [local go_sem] max2_int min2_int max_two min_two max_three min_three max_four min_four   -- for this text's walks alone
set_option linter.unusedVariables false
set_option linter.unusedSimpArgs false
set_option maxHeartbeats 8000000
set_option maxRecDepth 100000

def spec_l12Make.f (k : Nat) (a0_0 : Int) (a0_1 : Bool) (l0_2 : List Int) (l0_3 : List Int) (a0_4 : Int) (a1_0 : Int) (a1_1 : Int) (a1_2 : Int) : Option (Int × Bool × List Int × List Int × Int) := (spec_l12Own.f a0_0 a0_1 l0_2 l0_3 a0_4).bind fun bt231 => (if a1_0 = 1 then ((spec_l3Polite.f k a0_0 a0_1 l0_2).bind fun t241 => (if 0 < (t241.length : Int) then ((spec_l12Sit.f k bt231.1 bt231.2.1 bt231.2.2.1 bt231.2.2.2.1 bt231.2.2.2.2 (rd t241 0)).bind fun bt245 => (some (bt245.1, bt245.2.1, bt245.2.2.1, bt245.2.2.2.1, bt245.2.2.2.2))) else (none))) else (if a1_0 = 2 then ((spec_l12Sit.f k bt231.1 bt231.2.1 bt231.2.2.1 bt231.2.2.2.1 bt231.2.2.2.2 a1_1).bind fun bt254 => (some (bt254.1, bt254.2.1, bt254.2.2.1, bt254.2.2.2.1, bt254.2.2.2.2))) else (if a1_0 = 3 then ((spec_l12Place.f k l0_3 a1_1).bind fun t263 => ((spec_l2Without.f k bt231.1 bt231.2.1 bt231.2.2.1 a1_1).bind fun bt264 => (if 0 ≤ t263 then (if t263 ≤ (bt231.2.2.2.1.length : Int) then (if 0 ≤ (wrap64 (t263 + 1)) then (if (wrap64 (t263 + 1)) ≤ (bt231.2.2.2.1.length : Int) then (some (bt264.1, bt264.2.1, bt264.2.2, (bt231.2.2.2.1.eraseIdx (t263 : Int).toNat), bt231.2.2.2.2)) else (none)) else (none)) else (none)) else (none)))) else (if a1_0 = 4 then ((spec_l2Without.f k bt231.1 bt231.2.1 bt231.2.2.1 a1_1).bind fun bt280 => ((spec_l2With.f k bt280.1 bt280.2.1 bt280.2.2 a1_2).bind fun bt285 => ((spec_l12Place.f k l0_3 a1_1).bind fun t290 => (if 0 ≤ t290 then (if t290 < (bt231.2.2.2.1.length : Int) then (some (bt285.1, bt285.2.1, bt285.2.2, (bt231.2.2.2.1.set (t290 : Int).toNat a1_2), bt231.2.2.2.2)) else (none)) else (none))))) else (if a1_0 = 5 then (some (bt231.1, bt231.2.1, (([] : List Int)), (([] : List Int)), bt231.2.2.2.2)) else (some (bt231.1, bt231.2.1, bt231.2.2.1, bt231.2.2.2.1, bt231.2.2.2.2)))))))
theorem spec_l12Make.mono : ∀ a0 a1 a2 a3 a4 a5 a6 a7 k, LeO (spec_l12Make.f k a0 a1 a2 a3 a4 a5 a6 a7) (spec_l12Make.f (k + 1) a0 a1 a2 a3 a4 a5 a6 a7) := by
 intro a0 a1 a2 a3 a4 a5 a6 a7 k
 unfold spec_l12Make.f
 repeat' with_reducible first | exact spec_l12Place.mono .. | exact spec_l12Sit.mono .. | exact spec_l2With.mono .. | exact spec_l2Without.mono .. | exact spec_l3Polite.mono .. | exact LeO.refl .. | exact LeO.none .. | refine LeO.ite ?_ ?_ | refine LeO.bind ?_ (fun _ => ?_)
def spec_l12Make.T4 : Bool × List (List Nat × List Nat) := (true, [([], []), ([], []), ([1], [1]), ([2], [2]), ([3], [3]), ([4], [4]), ([0, 5, 3], [0, 5]), ([6, 6, 0, 1, 2, 3, 4, 5, 6], [6])])
def spec_l12Make.B4 : List Nat := [0, 0, 2, 6, 14, 30, 63, 127]
theorem spec_l12Make.tab4 : rtab .any (opsOf Tryz.f69 4) = spec_l12Make.T4 := by kernel_rfl
theorem spec_l12Make.bits4 : waitsOk spec_l12Make.T4.2 spec_l12Make.B4 = true := by kernel_rfl
def spec_l12Make.T10 : Bool × List (List Nat × List Nat) := (true, [([], []), ([0], [0]), ([], []), ([1, 2], [1, 2]), ([], []), ([4], [4]), ([], []), ([6], [6]), ([5, 7], [5, 7]), ([3, 8], [3, 8]), ([0, 1, 2, 3, 4, 5, 6, 7, 8, 9], []), ([10, 9, 9, 0, 1, 2, 3, 4, 5, 6, 7, 8, 9], [9, 10])])
def spec_l12Make.B10 : List Nat := [0, 1, 0, 7, 0, 16, 0, 64, 240, 511, 1023, 2047]
theorem spec_l12Make.tab10 : rtab .any (opsOf Tryz.f69 10) = spec_l12Make.T10 := by kernel_rfl
theorem spec_l12Make.bits10 : waitsOk spec_l12Make.T10.2 spec_l12Make.B10 = true := by kernel_rfl
def spec_l12Make.T12 : Bool × List (List Nat × List Nat) := (true, [([], []), ([0], [0]), ([], []), ([2], [2]), ([1, 3], [1, 3]), ([], []), ([5], [5]), ([4, 6, 4], [4, 6]), ([0, 1, 2, 3, 4, 5, 6, 7], []), ([8, 7, 7, 0, 1, 2, 3, 4, 5, 6, 7], [7, 8])])
def spec_l12Make.B12 : List Nat := [0, 1, 0, 4, 15, 0, 32, 127, 255, 511]
theorem spec_l12Make.tab12 : rtab .any (opsOf Tryz.f69 12) = spec_l12Make.T12 := by kernel_rfl
theorem spec_l12Make.bits12 : waitsOk spec_l12Make.T12.2 spec_l12Make.B12 = true := by kernel_rfl
def spec_l12Make.T13 : Bool × List (List Nat × List Nat) := (true, [([], []), ([0], [0]), ([], []), ([2], [2]), ([], []), ([4], [4]), ([3, 5], [3, 5]), ([], []), ([7], [7]), ([1, 6, 0, 1, 2, 3, 4, 5, 6, 7, 8], [1, 6]), ([9, 8, 6, 0, 1, 2, 3, 4, 5, 6, 7, 8], [8, 9])])
def spec_l12Make.B13 : List Nat := [0, 1, 0, 4, 0, 16, 60, 0, 128, 511, 1023]
theorem spec_l12Make.tab13 : rtab .any (opsOf Tryz.f69 13) = spec_l12Make.T13 := by kernel_rfl
theorem spec_l12Make.bits13 : waitsOk spec_l12Make.T13.2 spec_l12Make.B13 = true := by kernel_rfl
theorem spec_l12Make.calls (k : Nat) (a0_0 : Int) (a0_1 : Bool) (A0_2 : Option Addr) (c0_2 : Nat) (l0_2 : List Int) (A0_3 : Option Addr) (c0_3 : Nat) (l0_3 : List Int) (a0_4 : Int) (a1_0 : Int) (a1_1 : Int) (a1_2 : Int) (r1 : Int) (r2 : Bool) (r3 : List Int) (r4 : List Int) (r5 : Int) (w : World) (hr0_2 : Kd.C (Kd.int .i64) w A0_2 l0_2.length l0_2) (hc0_2 : l0_2.length ≤ c0_2) (hr0_3 : Kd.C (Kd.int .i64) w A0_3 l0_3.length l0_3) (hc0_3 : l0_3.length ≤ c0_3) (h : spec_l12Make.f k a0_0 a0_1 l0_2 l0_3 a0_4 a1_0 a1_1 a1_2 = some (r1, r2, r3, r4, r5)) :
  Calls Tryz.prog 69 #[.agg #[.int .i64 a0_0, .bool a0_1, .slice A0_2 l0_2.length c0_2, .slice A0_3 l0_3.length c0_3, .int .i64 a0_4], .agg #[.int .i64 a1_0, .int .i64 a1_1, .int .i64 a1_2]] w fun e w' => ∃ v2_ v3_ : Value, e = .returned (.agg #[.int .i64 r1, .bool r2, v2_, v3_, .int .i64 r5]) ∧ Kd.R (Kd.int .i64) 3 w' w.heap.size (fun k_ => no_ v3_ k_) v2_ r3 ∧ Kd.R (Kd.int .i64) 3 w' w.heap.size (fun k_ => no_ v2_ k_) v3_ r4 ∧ Below w.heap.size w w' := by
 have hu32 := Tryz.underlying32
 have hu50 := Tryz.underlying50
 have hu30 := Tryz.underlying30
 have HR0_2 := A0_ hr0_2
 have HC0_2 := A0_ hc0_2
 clear hr0_2 hc0_2
 have HR0_3 := A0_ hr0_3
 have HC0_3 := A0_ hc0_3
 clear hr0_3 hc0_3
 have HB := A0_ (Below.refl w.heap.size w)
 have H : ((spec_l12Own.f a0_0 a0_1 l0_2 l0_3 a0_4).bind fun bt1 => (if a1_0 = 1 then ((spec_l3Polite.f k a0_0 a0_1 l0_2).bind fun t1 => (if 0 < (t1.length : Int) then ((spec_l12Sit.f k bt1.1 bt1.2.1 bt1.2.2.1 bt1.2.2.2.1 bt1.2.2.2.2 (rd t1 0)).bind fun bt2 => (some (bt2.1, bt2.2.1, bt2.2.2.1, bt2.2.2.2.1, bt2.2.2.2.2))) else (none))) else (if a1_0 = 2 then ((spec_l12Sit.f k bt1.1 bt1.2.1 bt1.2.2.1 bt1.2.2.2.1 bt1.2.2.2.2 a1_1).bind fun bt3 => (some (bt3.1, bt3.2.1, bt3.2.2.1, bt3.2.2.2.1, bt3.2.2.2.2))) else (if a1_0 = 3 then ((spec_l12Place.f k l0_3 a1_1).bind fun t2 => ((spec_l2Without.f k bt1.1 bt1.2.1 bt1.2.2.1 a1_1).bind fun bt4 => (if 0 ≤ t2 then (if t2 ≤ (bt1.2.2.2.1.length : Int) then (if 0 ≤ (wrap64 (t2 + 1)) then (if (wrap64 (t2 + 1)) ≤ (bt1.2.2.2.1.length : Int) then (some (bt4.1, bt4.2.1, bt4.2.2, (bt1.2.2.2.1.eraseIdx (t2 : Int).toNat), bt1.2.2.2.2)) else (none)) else (none)) else (none)) else (none)))) else (if a1_0 = 4 then ((spec_l2Without.f k bt1.1 bt1.2.1 bt1.2.2.1 a1_1).bind fun bt5 => ((spec_l2With.f k bt5.1 bt5.2.1 bt5.2.2 a1_2).bind fun bt6 => ((spec_l12Place.f k l0_3 a1_1).bind fun t3 => (if 0 ≤ t3 then (if t3 < (bt1.2.2.2.1.length : Int) then (some (bt6.1, bt6.2.1, bt6.2.2, (bt1.2.2.2.1.set (t3 : Int).toNat a1_2), bt1.2.2.2.2)) else (none)) else (none))))) else (if a1_0 = 5 then (some (bt1.1, bt1.2.1, (([] : List Int)), (([] : List Int)), bt1.2.2.2.2)) else (some (bt1.1, bt1.2.1, bt1.2.2.1, bt1.2.2.2.1, bt1.2.2.2.2)))))))) = some (r1, r2, r3, r4, r5) := h
 clear h
 obtain ⟨⟨t4, t5, t6, t7, t8⟩, A2, H⟩ := o1_ H
 by_cases c1 : a1_0 = 1
 ·rw [if_pos c1] at H
  obtain ⟨c1b0, c1b1⟩ := et_ c1
  clear c1
  obtain ⟨t1, A4, H⟩ := o1_ H
  by_cases c2 : 0 < (t1.length : Int)
  case neg =>
   rw [if_neg c2] at H
   exact absurd H bxka_
  rw [if_pos c2] at H
  have c2b0 : decide (0 < (t1.length : Int)) = true := dt_ c2
  have c2b1 : decide (0 < t1.length) = true := dt_ bh19_
  clear c2
  obtain ⟨⟨t9, t10, t11, t12, t13⟩, A6, H⟩ := o1_ H
  replace H : (some (t9, t10, t11, t12, t13)) = some (r1, r2, r3, r4, r5) := H
  simp only [sj_, pj_] at H
  obtain ⟨rfl, rfl, rfl, rfl, rfl⟩ := H
  go_enter Tryz.func69, Tryz.ntmps69
  try go_wp2_with (first | ((with_reducible refine gd_ (N := 2) rfl ?_); refine bx_ 2 #[.int .i64 a0_0, .bool a0_1, .slice A0_2 l0_2.length c0_2, .slice A0_3 l0_3.length c0_3, .int .i64 a0_4] 32 ?_; intro gb1 hg w1 BK1 hb; have GW1 := ge_ hg brt4_; have GE1 := GW1; replace HB := hb_ hb brt4_; clear hb hg) | ((with_reducible refine gd_ (N := 3) rfl ?_); refine bx_ 3 #[.int .i64 a1_0, .int .i64 a1_1, .int .i64 a1_2] 50 ?_; intro gb2 hg w2 BK2 hb; have GW2 := ge_ hg be6g_; have GE2 := GW2; replace HB := hb_ hb be6g_; have NB1_2 := nl_ hg BK1; have NB2_1 := ng_ hg BK1; replace BK1 := k1_ BK1 hb; clear hb hg) | ((with_reducible refine gd_ (N := 4) rfl ?_); refine bx_ 4 #[.int .i64 0, .bool false, .slice none 0 0, .slice none 0 0, .int .i64 0] 32 ?_; intro gb3 hg w3 BK3 hb; have GW3 := ge_ hg bfnq_; have GE3 := GW3; replace HB := hb_ hb bfnq_; have NB1_3 := nl_ hg BK1; have NB3_1 := ng_ hg BK1; replace BK1 := k1_ BK1 hb; have NB2_3 := nl_ hg BK2; have NB3_2 := ng_ hg BK2; replace BK2 := k1_ BK2 hb; clear hb hg; have hnb1 := NB1_2.out; have hnc1 := NB2_1.out; have hnb2 := NB1_3.out; have hnc2 := NB3_1.out; have hcz1 := z5_ BK1) | ((with_reducible refine gc_ (f := 33) rfl ?_); refine gl_ 8 Tryz.func33 #[.agg #[.int .i64 a0_0, .bool a0_1, .slice A0_2 l0_2.length c0_2, .slice A0_3 l0_3.length c0_3, .int .i64 a0_4]] ?_; (with_reducible refine (spec_l12Own.calls a0_0 a0_1 _ _ l0_2 _ _ l0_3 a0_4 t4 t5 t6 t7 t8 _ ?side1 ?side2 ?side3 ?side4 A2.out).mono ?_); (case side1 => exact b6n8_); (case side2 => exact HC0_2.out); (case side3 => exact bkan_); (case side4 => exact HC0_3.out); rintro e w4 ⟨v1, v4, rfl, ho0, ho1, hb⟩; refine ⟨_, rfl, ?_⟩; have HO1 := A0_ (Kd.R_lower ho0 (bz_ b850_)); have HO2 := A0_ (Kd.R_lower ho1 (bz_ b850_)); replace BK1 := k1_ BK1 hb; replace BK2 := k1_ BK2 hb; replace BK3 := k1_ BK3 hb; replace HB := hb_ hb b850_; (try clear hb); (try clear ho0); (try clear ho1)) | ((with_reducible refine gd_ (N := 5) rfl ?_); refine bx_ 5 #[.int .i64 0, .bool false, .slice none 0 0, .slice none 0 0, .int .i64 0] 32 ?_; intro gb4 hg w5 BK4 hb; replace HO1 := A0_ (Kd.R_below bsm5_ hb); replace HO2 := A0_ (Kd.R_below b9so_ hb); have GW4 := ge_ hg b850_; have GE4 := GW4; replace HB := hb_ hb b850_; have NB1_4 := nl_ hg BK1; have NB4_1 := ng_ hg BK1; replace BK1 := k1_ BK1 hb; have NB2_4 := nl_ hg BK2; have NB4_2 := ng_ hg BK2; replace BK2 := k1_ BK2 hb; have NB3_4 := nl_ hg BK3; have NB4_3 := ng_ hg BK3; replace BK3 := k1_ BK3 hb; clear hb hg; have hnb3 := NB4_1.out; have hnc3 := NB1_4.out; have hnb4 := NB4_2.out; have hnc4 := NB2_4.out; have hnb5 := NB4_3.out; have hnc5 := NB3_4.out; have hcz2 := z5_ BK4; obtain ⟨Ao1, co1, eo1⟩ := Kd.R_slice HO1.out; subst eo1; obtain ⟨Ao2, co2, eo2⟩ := Kd.R_slice HO2.out; subst eo2; have hnb6 := NB2_3.out; have hnc6 := NB3_2.out; have hcz3_0 : w5.cell? ⟨gb2, 0, none⟩ = some (.int .i64 a1_0) := (kc_ BK2.out 0).trans rfl; have hcz3_1 : w5.cell? ⟨gb2, 1, none⟩ = some (.int .i64 a1_1) := (kc_ BK2.out 1).trans rfl; have hcz3_2 : w5.cell? ⟨gb2, 2, none⟩ = some (.int .i64 a1_2) := (kc_ BK2.out 2).trans rfl; have hfz3_0 := kf_ BK2.out 0; have hfz3_1 := kf_ BK2.out 1; have hfz3_2 := kf_ BK2.out 2))
  have n0_ : Aside0 (Kd.R (Kd.int .i64) 3 (((((w5.setCell ⟨gb4, 0, none⟩ (.int .i64 t4)).setCell ⟨gb4, 1, none⟩ (.bool t5)).setCell ⟨gb4, 2, none⟩ (.slice Ao1 t6.length co1)).setCell ⟨gb4, 3, none⟩ (.slice Ao2 t7.length co2)).setCell ⟨gb4, 4, none⟩ (.int .i64 t8)) w.heap.size (fun k_ => no_ (.slice Ao2 t7.length co2) k_) (.slice Ao1 t6.length co1) t6) := ⟨bha5_⟩
  have n1_ : Aside0 (Kd.R (Kd.int .i64) 3 (((((w5.setCell ⟨gb4, 0, none⟩ (.int .i64 t4)).setCell ⟨gb4, 1, none⟩ (.bool t5)).setCell ⟨gb4, 2, none⟩ (.slice Ao1 t6.length co1)).setCell ⟨gb4, 3, none⟩ (.slice Ao2 t7.length co2)).setCell ⟨gb4, 4, none⟩ (.int .i64 t8)) w.heap.size (fun k_ => no_ (.slice Ao1 t6.length co1) k_) (.slice Ao2 t7.length co2) t7) := ⟨bk8z_⟩
  have n2_ : Aside0 ((((((w5.setCell ⟨gb4, 0, none⟩ (.int .i64 t4)).setCell ⟨gb4, 1, none⟩ (.bool t5)).setCell ⟨gb4, 2, none⟩ (.slice Ao1 t6.length co1)).setCell ⟨gb4, 3, none⟩ (.slice Ao2 t7.length co2)).setCell ⟨gb4, 4, none⟩ (.int .i64 t8)).heap[gb1]? = some (.cells #[.int .i64 a0_0, .bool a0_1, .slice A0_2 l0_2.length c0_2, .slice A0_3 l0_3.length c0_3, .int .i64 a0_4] 32 (0, 0))) := ⟨u1_ BK1⟩
  have n3_ : Aside0 ((((((w5.setCell ⟨gb4, 0, none⟩ (.int .i64 t4)).setCell ⟨gb4, 1, none⟩ (.bool t5)).setCell ⟨gb4, 2, none⟩ (.slice Ao1 t6.length co1)).setCell ⟨gb4, 3, none⟩ (.slice Ao2 t7.length co2)).setCell ⟨gb4, 4, none⟩ (.int .i64 t8)).heap[gb2]? = some (.cells #[.int .i64 a1_0, .int .i64 a1_1, .int .i64 a1_2] 50 (0, 0))) := ⟨u1_ BK2⟩
  have n4_ : Aside0 ((((((w5.setCell ⟨gb4, 0, none⟩ (.int .i64 t4)).setCell ⟨gb4, 1, none⟩ (.bool t5)).setCell ⟨gb4, 2, none⟩ (.slice Ao1 t6.length co1)).setCell ⟨gb4, 3, none⟩ (.slice Ao2 t7.length co2)).setCell ⟨gb4, 4, none⟩ (.int .i64 t8)).heap[gb3]? = some (.cells #[.int .i64 0, .bool false, .slice none 0 0, .slice none 0 0, .int .i64 0] 32 (0, 0))) := ⟨u1_ BK3⟩
  have n5_ : Aside0 ((((((w5.setCell ⟨gb4, 0, none⟩ (.int .i64 t4)).setCell ⟨gb4, 1, none⟩ (.bool t5)).setCell ⟨gb4, 2, none⟩ (.slice Ao1 t6.length co1)).setCell ⟨gb4, 3, none⟩ (.slice Ao2 t7.length co2)).setCell ⟨gb4, 4, none⟩ (.int .i64 t8)).heap[gb4]? = some (.cells #[.int .i64 t4, .bool t5, .slice Ao1 t6.length co1, .slice Ao2 t7.length co2, .int .i64 t8] 32 (0, 0))) := ⟨u1_ BK4⟩
  have n6_ : Aside0 (Below w.heap.size w (((((w5.setCell ⟨gb4, 0, none⟩ (.int .i64 t4)).setCell ⟨gb4, 1, none⟩ (.bool t5)).setCell ⟨gb4, 2, none⟩ (.slice Ao1 t6.length co1)).setCell ⟨gb4, 3, none⟩ (.slice Ao2 t7.length co2)).setCell ⟨gb4, 4, none⟩ (.int .i64 t8))) := ⟨b2i7_⟩
  (try clear HO1)
  (try clear HO2)
  (try clear BK1)
  (try clear BK2)
  (try clear BK3)
  (try clear BK4)
  (try clear HB)
  generalize (((((w5.setCell ⟨gb4, 0, none⟩ (.int .i64 t4)).setCell ⟨gb4, 1, none⟩ (.bool t5)).setCell ⟨gb4, 2, none⟩ (.slice Ao1 t6.length co1)).setCell ⟨gb4, 3, none⟩ (.slice Ao2 t7.length co2)).setCell ⟨gb4, 4, none⟩ (.int .i64 t8)) = w6 at n0_ n1_ n2_ n3_ n4_ n5_ n6_ ⊢
  have HO1 := n0_
  have HO2 := n1_
  have BK1 := n2_
  have BK2 := n3_
  have BK3 := n4_
  have BK4 := n5_
  have HB := n6_
  clear n0_ n1_ n2_ n3_ n4_ n5_ n6_
  replace HO1 := A0_ (rd_ HO1.out)
  replace HO2 := A0_ (rd_ HO2.out)
  replace BK1 := A0_ (kd_ BK1.out)
  replace BK2 := A0_ (kd_ BK2.out)
  replace BK3 := A0_ (kd_ BK3.out)
  replace BK4 := A0_ (kd_ BK4.out)
  replace HB := A0_ (bd_ HB.out)
  refine start_ (n := 8) (S := fun w' => w'.cell? ⟨gb4, 0, none⟩ = some (.int .i64 t4) ∧ w'.cell? ⟨gb4, 1, none⟩ = some (.bool t5) ∧ w'.cell? ⟨gb4, 2, none⟩ = some (.slice Ao1 t6.length co1) ∧ w'.cell? ⟨gb4, 3, none⟩ = some (.slice Ao2 t7.length co2) ∧ w'.cell? ⟨gb4, 4, none⟩ = some (.int .i64 t8) ∧ w'.cell? ⟨gb1, 0, none⟩ = some (.int .i64 a0_0) ∧ w'.cell? ⟨gb1, 1, none⟩ = some (.bool a0_1) ∧ w'.cell? ⟨gb1, 2, none⟩ = some (.slice A0_2 l0_2.length c0_2) ∧ w'.cell? ⟨gb1, 3, none⟩ = some (.slice A0_3 l0_3.length c0_3) ∧ w'.cell? ⟨gb1, 4, none⟩ = some (.int .i64 a0_4)) (ds := [7]) #[false, false, false, false, false, false, false, false] bfqv_ rfl rfl ⟨(kc_ BK4.out 0).trans rfl, (kc_ BK4.out 1).trans rfl, (kc_ BK4.out 2).trans rfl, (kc_ BK4.out 3).trans rfl, (kc_ BK4.out 4).trans rfl, (kc_ BK1.out 0).trans rfl, (kc_ BK1.out 1).trans rfl, (kc_ BK1.out 2).trans rfl, (kc_ BK1.out 3).trans rfl, (kc_ BK1.out 4).trans rfl⟩ (fun hHeld => ?_); refine with_tabW spec_l12Make.tab4 spec_l12Make.bits4 (fun HT_ HW_ => ?_)
  generalize w6.drew = w7 at HO1 HO2 BK1 BK2 BK3 BK4 HB hHeld ⊢
  refine pu_ 1 14 ?_
  refine tk_ 0 13 hHeld ?_
  refine tk_ 2 15 hHeld ?_
  refine on_ 3 (some 16) (fun K hK => ?_)
  refine gs_ Tryz.func90 #[.agg #[.int .i64 a0_0, .bool a0_1, .slice A0_2 l0_2.length c0_2]] ?_
  with_reducible refine (spec_l3Polite.calls k a0_0 a0_1 _ _ l0_2 t1 _ ?side1 ?side2 A4.out).mono ?_
  (case side1 => exact b6n8_)
  (case side2 => exact HC0_2.out)
  rintro e w8 ⟨v5, rfl, ho0, hb⟩
  refine ⟨_, rfl, ?_⟩
  have HO3 := A0_ (Kd.R_lower (Kd.R_new' (Kd.R_new' ho0 (Kd.R_lt bsm5_)) (Kd.R_lt b9so_)) (bz_ b2i7_))
  replace HO1 := A0_ (Kd.R_elder' bsm5_ (Kd.R_base ho0) hb)
  replace HO2 := A0_ (Kd.R_elder' b9so_ (Kd.R_base ho0) hb)
  replace BK1 := k1_ BK1 hb
  replace BK2 := k1_ BK2 hb
  replace BK3 := k1_ BK3 hb
  replace BK4 := k1_ BK4 hb
  replace HB := hb_ hb b2i7_
  (try clear hb); (try clear ho0)
  obtain ⟨Ao3, co3, eo3⟩ := Kd.R_slice HO3.out
  (first | subst eo3 | (injection eo3 with f1_ f2_ f3_; have f4_ := f1_.symm; have f5_ := f3_.symm; clear f1_ f2_ f3_; subst f4_; subst f5_))
  have p1 : 0 ≤ (0 : Int) := bh19_
  have q1 : 0 < (t1.length : Int) := od_ bpil_
  obtain ⟨ad1, e1, hx1_0⟩ := Kd.at_int (rr_ HO3.out).2.2 0 p1 q1
  cases e1
  have qi244 : (0 < t1.length) = True := eq_true bh19_
  (try rw [show ((0 : Int)).toNat = 0 from rfl] at hx1_0)
  (try rw [Addr.add_zero'] at hx1_0)
  replace p1 := eq_true p1
  replace q1 := eq_true q1
  refine hK.out _ _ ⟨(kc_ BK4.out 0).trans rfl, (kc_ BK4.out 1).trans rfl, (kc_ BK4.out 2).trans rfl, (kc_ BK4.out 3).trans rfl, (kc_ BK4.out 4).trans rfl, (kc_ BK1.out 0).trans rfl, (kc_ BK1.out 1).trans rfl, (kc_ BK1.out 2).trans rfl, (kc_ BK1.out 3).trans rfl, (kc_ BK1.out 4).trans rfl⟩ (fun hHeld => ?_)
  clear hK K
  refine nm_ 16 ?_
  refine pu_ 4 17 ?_
  refine on_ 5 (some 18) (fun K hK => ?_)
  refine value_ (w1 := ?_) (v := ?_) (by rfl) rfl ?_ ?_
  rotate_left 2
  ·go_simp
   constructor
   ·rfl
   rfl
  refine hK.out _ _ ⟨(kc_ BK4.out 0).trans rfl, (kc_ BK4.out 1).trans rfl, (kc_ BK4.out 2).trans rfl, (kc_ BK4.out 3).trans rfl, (kc_ BK4.out 4).trans rfl, (kc_ BK1.out 0).trans rfl, (kc_ BK1.out 1).trans rfl, (kc_ BK1.out 2).trans rfl, (kc_ BK1.out 3).trans rfl, (kc_ BK1.out 4).trans rfl⟩ (fun hHeld => ?_)
  clear hK K
  refine nm_ 18 ?_
  refine on_ 6 (some 19) (fun K hK => ?_)
  refine gs_ Tryz.func89 #[.agg #[.int .i64 t4, .bool t5, .slice Ao1 t6.length co1, .slice Ao2 t7.length co2, .int .i64 t8], .int .i64 (rd t1 0)] ?_
  with_reducible refine (spec_l12Sit.calls k t4 t5 _ _ t6 _ _ t7 t8 (rd t1 0) t9 t10 t11 t12 t13 _ ?side1 ?side2 ?side3 ?side4 A6.out).mono ?_
  (case side1 => exact bayy_)
  (case side2 => exact (rr_ HO1.out).2.1)
  (case side3 => exact ba04_)
  (case side4 => exact (rr_ HO2.out).2.1)
  rintro e w9 ⟨v6, v7, rfl, ho0, ho1, hb⟩
  refine ⟨_, rfl, ?_⟩
  have HO4 := A0_ (Kd.R_lower (Kd.R_new' (Kd.R_new' (Kd.R_new' ho0 (Kd.R_lt bsm5_)) (Kd.R_lt b9so_)) (Kd.R_lt buiy_)) (bz_ b2i7_))
  have HO5 := A0_ (Kd.R_lower (Kd.R_new' (Kd.R_new' (Kd.R_new' ho1 (Kd.R_lt bsm5_)) (Kd.R_lt b9so_)) (Kd.R_lt buiy_)) (bz_ b2i7_))
  replace HO1 := A0_ (Kd.R_mono (Kd.R_told (Kd.R_told (Kd.R_old bsm5_ hb) (Kd.R_base ho0)) (Kd.R_base ho1)) (fun _ h_ => h_.1))
  replace HO2 := A0_ (Kd.R_mono (Kd.R_told (Kd.R_told (Kd.R_old b9so_ hb) (Kd.R_base ho0)) (Kd.R_base ho1)) (fun _ h_ => h_.1))
  replace HO3 := A0_ (Kd.R_mono (Kd.R_told (Kd.R_told (Kd.R_old buiy_ hb) (Kd.R_base ho0)) (Kd.R_base ho1)) (fun _ h_ => h_.1))
  replace BK1 := k1_ BK1 hb
  replace BK2 := k1_ BK2 hb
  replace BK3 := k1_ BK3 hb
  replace BK4 := k1_ BK4 hb
  replace HB := hb_ hb b2i7_
  (try clear hb); (try clear ho0); (try clear ho1)
  obtain ⟨Ao4, co4, eo4⟩ := Kd.R_slice HO4.out
  (first | subst eo4 | (injection eo4 with f1_ f2_ f3_; have f4_ := f1_.symm; have f5_ := f3_.symm; clear f1_ f2_ f3_; subst f4_; subst f5_))
  obtain ⟨Ao5, co5, eo5⟩ := Kd.R_slice HO5.out
  (first | subst eo5 | (injection eo5 with f1_ f2_ f3_; have f4_ := f1_.symm; have f5_ := f3_.symm; clear f1_ f2_ f3_; subst f4_; subst f5_))
  refine hK.out _ _ ⟨(kc_ BK4.out 0).trans rfl, (kc_ BK4.out 1).trans rfl, (kc_ BK4.out 2).trans rfl, (kc_ BK4.out 3).trans rfl, (kc_ BK4.out 4).trans rfl, (kc_ BK1.out 0).trans rfl, (kc_ BK1.out 1).trans rfl, (kc_ BK1.out 2).trans rfl, (kc_ BK1.out 3).trans rfl, (kc_ BK1.out 4).trans rfl⟩ (fun hHeld => ?_)
  clear hK K
  refine nm_ 19 ?_
  refine last_ (i := 7) (N := none) #[true, true, true, true, true, true, true, true] rfl rfl (one_of HT_.out bfqv_) bi3y_ (fun K hK => ?_)
  have hs29 : w9.cell? ⟨gb4, 0, none⟩ = some (.int .i64 t4) := (kc_ BK4.out 0).trans rfl
  have hfs29 := kf_ BK4.out 0
  have hns1_0 := NB1_4.out
  have hns1_1 := NB2_4.out
  have hns1_2 := NB3_4.out
  have hms1_0 := NB4_1.out
  have hms1_1 := NB4_2.out
  have hms1_2 := NB4_3.out
  have hs30 : w9.cell? ⟨gb4, 1, none⟩ = some (.bool t5) := (kc_ BK4.out 1).trans rfl
  have hfs30 := kf_ BK4.out 1
  have hns2_0 := NB1_4.out
  have hns2_1 := NB2_4.out
  have hns2_2 := NB3_4.out
  have hms2_0 := NB4_1.out
  have hms2_1 := NB4_2.out
  have hms2_2 := NB4_3.out
  have hs32 : w9.cell? ⟨gb4, 2, none⟩ = some (.slice Ao1 t6.length co1) := (kc_ BK4.out 2).trans rfl
  have hfs32 := kf_ BK4.out 2
  have hns3_0 := NB1_4.out
  have hns3_1 := NB2_4.out
  have hns3_2 := NB3_4.out
  have hms3_0 := NB4_1.out
  have hms3_1 := NB4_2.out
  have hms3_2 := NB4_3.out
  have hs34 : w9.cell? ⟨gb4, 3, none⟩ = some (.slice Ao2 t7.length co2) := (kc_ BK4.out 3).trans rfl
  have hfs34 := kf_ BK4.out 3
  have hns4_0 := NB1_4.out
  have hns4_1 := NB2_4.out
  have hns4_2 := NB3_4.out
  have hms4_0 := NB4_1.out
  have hms4_1 := NB4_2.out
  have hms4_2 := NB4_3.out
  have hs35 : w9.cell? ⟨gb4, 4, none⟩ = some (.int .i64 t8) := (kc_ BK4.out 4).trans rfl
  have hfs35 := kf_ BK4.out 4
  have hns5_0 := NB1_4.out
  have hns5_1 := NB2_4.out
  have hns5_2 := NB3_4.out
  have hms5_0 := NB4_1.out
  have hms5_1 := NB4_2.out
  have hms5_2 := NB4_3.out
  refine skip_ (w1 := ?_) (by rfl) rfl ?_ ?_
  rotate_left
  ·go_simp
   rfl
  refine hK.out _ _ ?_
  clear hK K
  refine dn_ ?_
  have hcz4 := z5_ BK4
  have hcz5 := z5_ BK3
  try go_wp2
  refine bodyPost_ret (results_cell_row rfl _ _ gb3 32 #[.int .i64 t9, .bool t10, .slice Ao4 t11.length co4, .slice Ao5 t12.length co5, .int .i64 t13] (0, 0) _ rfl (u1_ BK3) Tryz.underlying32 rfl bfqv_) rfl ?_
  exact ⟨_, _, bnwh_, by (with_reducible repeat (first | apply ra_ | apply rn_ | apply rd_)); exact Kd.R_mono (rf_ (rf_ (rf_ (rf_ (rf_ (rf_ (rf_ (rf_ (rf_ (rf_ (Kd.R_types (Kd.R_types HO4.out BK4.out bi3y_) BK3.out bi3y_) (fun _ hk => hk.1.2) (.int .i64 t9)) (fun _ hk => hk.1.2) (.bool t10)) (fun _ hk => hk.1.2) (.slice Ao4 t11.length co4)) (fun _ hk => hk.1.2) (.slice Ao5 t12.length co5)) (fun _ hk => hk.1.2) (.int .i64 t13)) k2_0 _) k2_0 _) k2_0 _) k2_0 _) k2_0 _) (fun _ hk => hk.1.1.1.1.1), by (with_reducible repeat (first | apply ra_ | apply rn_ | apply rd_)); exact Kd.R_mono (rf_ (rf_ (rf_ (rf_ (rf_ (rf_ (rf_ (rf_ (rf_ (rf_ (Kd.R_types (Kd.R_types HO5.out BK4.out bi3y_) BK3.out bi3y_) (fun _ hk => hk.1.2) (.int .i64 t9)) (fun _ hk => hk.1.2) (.bool t10)) (fun _ hk => hk.1.2) (.slice Ao4 t11.length co4)) (fun _ hk => hk.1.2) (.slice Ao5 t12.length co5)) (fun _ hk => hk.1.2) (.int .i64 t13)) k2_0 _) k2_0 _) k2_0 _) k2_0 _) k2_0 _) (fun _ hk => hk.1.1.1.1.1), b2i7_⟩
 rw [if_neg c1] at H
 obtain ⟨c1b0, c1b1⟩ := ef_ c1
 by_cases c2 : a1_0 = 2
 ·rw [if_pos c2] at H
  obtain ⟨c2b0, c2b1⟩ := et_ c2
  clear c2
  obtain ⟨⟨t9, t10, t11, t12, t13⟩, A4, H⟩ := o1_ H
  replace H : (some (t9, t10, t11, t12, t13)) = some (r1, r2, r3, r4, r5) := H
  simp only [sj_, pj_] at H
  obtain ⟨rfl, rfl, rfl, rfl, rfl⟩ := H
  go_enter Tryz.func69, Tryz.ntmps69
  go_wp2_with (first | ((with_reducible refine gd_ (N := 2) rfl ?_); refine bx_ 2 #[.int .i64 a0_0, .bool a0_1, .slice A0_2 l0_2.length c0_2, .slice A0_3 l0_3.length c0_3, .int .i64 a0_4] 32 ?_; intro gb1 hg w1 BK1 hb; have GW1 := ge_ hg brt4_; have GE1 := GW1; replace HB := hb_ hb brt4_; clear hb hg) | ((with_reducible refine gd_ (N := 3) rfl ?_); refine bx_ 3 #[.int .i64 a1_0, .int .i64 a1_1, .int .i64 a1_2] 50 ?_; intro gb2 hg w2 BK2 hb; have GW2 := ge_ hg be6g_; have GE2 := GW2; replace HB := hb_ hb be6g_; have NB1_2 := nl_ hg BK1; have NB2_1 := ng_ hg BK1; replace BK1 := k1_ BK1 hb; clear hb hg) | ((with_reducible refine gd_ (N := 4) rfl ?_); refine bx_ 4 #[.int .i64 0, .bool false, .slice none 0 0, .slice none 0 0, .int .i64 0] 32 ?_; intro gb3 hg w3 BK3 hb; have GW3 := ge_ hg bfnq_; have GE3 := GW3; replace HB := hb_ hb bfnq_; have NB1_3 := nl_ hg BK1; have NB3_1 := ng_ hg BK1; replace BK1 := k1_ BK1 hb; have NB2_3 := nl_ hg BK2; have NB3_2 := ng_ hg BK2; replace BK2 := k1_ BK2 hb; clear hb hg; have hnb1 := NB1_2.out; have hnc1 := NB2_1.out; have hnb2 := NB1_3.out; have hnc2 := NB3_1.out; have hcz1 := z5_ BK1) | ((with_reducible refine gc_ (f := 33) rfl ?_); refine gl_ 8 Tryz.func33 #[.agg #[.int .i64 a0_0, .bool a0_1, .slice A0_2 l0_2.length c0_2, .slice A0_3 l0_3.length c0_3, .int .i64 a0_4]] ?_; (with_reducible refine (spec_l12Own.calls a0_0 a0_1 _ _ l0_2 _ _ l0_3 a0_4 t4 t5 t6 t7 t8 _ ?side1 ?side2 ?side3 ?side4 A2.out).mono ?_); (case side1 => exact b6n8_); (case side2 => exact HC0_2.out); (case side3 => exact bkan_); (case side4 => exact HC0_3.out); rintro e w4 ⟨v1, v4, rfl, ho0, ho1, hb⟩; refine ⟨_, rfl, ?_⟩; have HO1 := A0_ (Kd.R_lower ho0 (bz_ b850_)); have HO2 := A0_ (Kd.R_lower ho1 (bz_ b850_)); replace BK1 := k1_ BK1 hb; replace BK2 := k1_ BK2 hb; replace BK3 := k1_ BK3 hb; replace HB := hb_ hb b850_; (try clear hb); (try clear ho0); (try clear ho1)) | ((with_reducible refine gd_ (N := 5) rfl ?_); refine bx_ 5 #[.int .i64 0, .bool false, .slice none 0 0, .slice none 0 0, .int .i64 0] 32 ?_; intro gb4 hg w5 BK4 hb; replace HO1 := A0_ (Kd.R_below bsm5_ hb); replace HO2 := A0_ (Kd.R_below b9so_ hb); have GW4 := ge_ hg b850_; have GE4 := GW4; replace HB := hb_ hb b850_; have NB1_4 := nl_ hg BK1; have NB4_1 := ng_ hg BK1; replace BK1 := k1_ BK1 hb; have NB2_4 := nl_ hg BK2; have NB4_2 := ng_ hg BK2; replace BK2 := k1_ BK2 hb; have NB3_4 := nl_ hg BK3; have NB4_3 := ng_ hg BK3; replace BK3 := k1_ BK3 hb; clear hb hg; have hnb3 := NB4_1.out; have hnc3 := NB1_4.out; have hnb4 := NB4_2.out; have hnc4 := NB2_4.out; have hnb5 := NB4_3.out; have hnc5 := NB3_4.out; have hcz2 := z5_ BK4; obtain ⟨Ao1, co1, eo1⟩ := Kd.R_slice HO1.out; subst eo1; obtain ⟨Ao2, co2, eo2⟩ := Kd.R_slice HO2.out; subst eo2; have hnb6 := NB2_3.out; have hnc6 := NB3_2.out; have hcz3_0 : w5.cell? ⟨gb2, 0, none⟩ = some (.int .i64 a1_0) := (kc_ BK2.out 0).trans rfl; have hcz3_1 : w5.cell? ⟨gb2, 1, none⟩ = some (.int .i64 a1_1) := (kc_ BK2.out 1).trans rfl; have hcz3_2 : w5.cell? ⟨gb2, 2, none⟩ = some (.int .i64 a1_2) := (kc_ BK2.out 2).trans rfl; have hfz3_0 := kf_ BK2.out 0; have hfz3_1 := kf_ BK2.out 1; have hfz3_2 := kf_ BK2.out 2) | ((with_reducible refine gc_ (f := 89) rfl ?_); refine gl_ 25 Tryz.func89 #[.agg #[.int .i64 t4, .bool t5, .slice Ao1 t6.length co1, .slice Ao2 t7.length co2, .int .i64 t8], .int .i64 a1_1] ?_; (with_reducible refine (spec_l12Sit.calls k t4 t5 _ _ t6 _ _ t7 t8 a1_1 t9 t10 t11 t12 t13 _ ?side1 ?side2 ?side3 ?side4 A4.out).mono ?_); (case side1 => refine (rr_ (e := 3) (base := w.heap.size) (ok := fun k_ => no_ (.slice Ao2 t7.length co2) k_) (n := t6.length) (c := co1) ?_).2.2; exact bq0f_); (case side2 => exact (rr_ HO1.out).2.1); (case side3 => refine (rr_ (e := 3) (base := w.heap.size) (ok := fun k_ => no_ (.slice Ao1 t6.length co1) k_) (n := t7.length) (c := co2) ?_).2.2; exact bu3r_); (case side4 => exact (rr_ HO2.out).2.1); rintro e w6 ⟨v5, v6, rfl, ho0, ho1, hb⟩; refine ⟨_, rfl, ?_⟩; have HO3 := A0_ (Kd.R_lower (Kd.R_new' (Kd.R_new' ho0 (Kd.R_lt bq0f_)) (Kd.R_lt bu3r_)) (bz_ b2i7_)); have HO4 := A0_ (Kd.R_lower (Kd.R_new' (Kd.R_new' ho1 (Kd.R_lt bq0f_)) (Kd.R_lt bu3r_)) (bz_ b2i7_)); replace HO1 := A0_ (Kd.R_mono (Kd.R_told (Kd.R_told (Kd.R_old bq0f_ hb) (Kd.R_base ho0)) (Kd.R_base ho1)) (fun _ h_ => h_.1)); replace HO2 := A0_ (Kd.R_mono (Kd.R_told (Kd.R_told (Kd.R_old bu3r_ hb) (Kd.R_base ho0)) (Kd.R_base ho1)) (fun _ h_ => h_.1)); replace BK1 := k1_ BK1 hb; replace BK2 := k1_ BK2 hb; replace BK3 := k1_ BK3 hb; replace BK4 := k2_ (.cells #[.int .i64 t4, .bool t5, .slice Ao1 t6.length co1, .slice Ao2 t7.length co2, .int .i64 t8] 32 (0, 0)) BK4 hb; replace HB := hb_ hb b2i7_; (try clear hb); (try clear ho0); (try clear ho1); have hcz4 := z5_ BK4; obtain ⟨Ao3, co3, eo3⟩ := Kd.R_slice HO3.out; subst eo3; obtain ⟨Ao4, co4, eo4⟩ := Kd.R_slice HO4.out; subst eo4; have hcz5_0 : w6.cell? ⟨gb3, 0, none⟩ = some (.int .i64 0) := (kc_ BK3.out 0).trans rfl; have hcz5_1 : w6.cell? ⟨gb3, 1, none⟩ = some (.bool false) := (kc_ BK3.out 1).trans rfl; have hcz5_2 : w6.cell? ⟨gb3, 2, none⟩ = some (.slice none 0 0) := (kc_ BK3.out 2).trans rfl; have hcz5_3 : w6.cell? ⟨gb3, 3, none⟩ = some (.slice none 0 0) := (kc_ BK3.out 3).trans rfl; have hcz5_4 : w6.cell? ⟨gb3, 4, none⟩ = some (.int .i64 0) := (kc_ BK3.out 4).trans rfl; have hfz5_0 := kf_ BK3.out 0; have hfz5_1 := kf_ BK3.out 1; have hfz5_2 := kf_ BK3.out 2; have hfz5_3 := kf_ BK3.out 3; have hfz5_4 := kf_ BK3.out 4))
  refine bodyPost_ret (results_cell_row rfl _ _ gb3 32 #[.int .i64 t9, .bool t10, .slice Ao3 t11.length co3, .slice Ao4 t12.length co4, .int .i64 t13] (0, 0) _ rfl (u1_ BK3) Tryz.underlying32 rfl bfqv_) rfl ?_
  exact ⟨_, _, bnwh_, by (with_reducible repeat (first | apply ra_ | apply rn_ | apply rd_)); exact Kd.R_mono (rf_ (rf_ (rf_ (rf_ (rf_ (rf_ (rf_ (rf_ (rf_ (rf_ (Kd.R_types (Kd.R_types HO3.out BK4.out bi3y_) BK3.out bi3y_) (fun _ hk => hk.1.2) (.int .i64 t9)) (fun _ hk => hk.1.2) (.bool t10)) (fun _ hk => hk.1.2) (.slice Ao3 t11.length co3)) (fun _ hk => hk.1.2) (.slice Ao4 t12.length co4)) (fun _ hk => hk.1.2) (.int .i64 t13)) k2_0 _) k2_0 _) k2_0 _) k2_0 _) k2_0 _) (fun _ hk => hk.1.1.1.1), by (with_reducible repeat (first | apply ra_ | apply rn_ | apply rd_)); exact Kd.R_mono (rf_ (rf_ (rf_ (rf_ (rf_ (rf_ (rf_ (rf_ (rf_ (rf_ (Kd.R_types (Kd.R_types HO4.out BK4.out bi3y_) BK3.out bi3y_) (fun _ hk => hk.1.2) (.int .i64 t9)) (fun _ hk => hk.1.2) (.bool t10)) (fun _ hk => hk.1.2) (.slice Ao3 t11.length co3)) (fun _ hk => hk.1.2) (.slice Ao4 t12.length co4)) (fun _ hk => hk.1.2) (.int .i64 t13)) k2_0 _) k2_0 _) k2_0 _) k2_0 _) k2_0 _) (fun _ hk => hk.1.1.1.1), b2i7_⟩
 rw [if_neg c2] at H
 obtain ⟨c2b0, c2b1⟩ := ef_ c2
 by_cases c3 : a1_0 = 3
 ·rw [if_pos c3] at H
  obtain ⟨c3b0, c3b1⟩ := et_ c3
  clear c3
  obtain ⟨t2, A4, H⟩ := o1_ H
  obtain ⟨⟨t9, t10, t11⟩, A6, H⟩ := o1_ H
  by_cases c4 : 0 ≤ t2
  case neg =>
   rw [if_neg c4] at H
   exact absurd H bxka_
  rw [if_pos c4] at H
  have c4b0 := eq_true c4
  have c4b1 : decide (0 ≤ t2) = true := dt_ c4
  clear c4
  by_cases c5 : t2 ≤ (t7.length : Int)
  case neg =>
   rw [if_neg c5] at H
   exact absurd H bxka_
  rw [if_pos c5] at H
  have c5b0 := eq_true c5
  have c5b1 : decide (t2 ≤ (t7.length : Int)) = true := dt_ c5
  clear c5
  obtain ⟨y1, hy1⟩ : ∃ y_ : List Int, y_ = (t7.take (t2 : Int).toNat) := ⟨_, rfl⟩
  replace H : (if 0 ≤ (wrap64 (t2 + 1)) then (if (wrap64 (t2 + 1)) ≤ (t7.length : Int) then (some (t9, t10, t11, (t7.eraseIdx (t2 : Int).toNat), t8)) else (none)) else (none)) = some (r1, r2, r3, r4, r5) := bgiq_
  have Ny1 := A0_ hy1
  clear hy1
  obtain ⟨ji1, hji1⟩ : ∃ j_ : Int, (wrap64 (t2 + 1)) = j_ := ⟨_, rfl⟩
  replace H : (if 0 ≤ (ji1) then (if (ji1) ≤ (t7.length : Int) then (some (t9, t10, t11, (t7.eraseIdx (t2 : Int).toNat), t8)) else (none)) else (none)) = some (r1, r2, r3, r4, r5) := bmns_
  (try rw [hji1] at A2)
  (try rw [hji1] at A4)
  (try rw [hji1] at A6)
  have hji66w : (IntKind.i64.wrap (t2 + 1)) = ji1 := (i64_w _).trans hji1
  by_cases c6 : 0 ≤ (ji1)
  case neg =>
   rw [if_neg c6] at H
   exact absurd H bxka_
  rw [if_pos c6] at H
  have c6b0 := eq_true c6
  have c6b1 : decide (0 ≤ (ji1)) = true := dt_ c6
  clear c6
  by_cases c7 : (ji1) ≤ (t7.length : Int)
  case neg =>
   rw [if_neg c7] at H
   exact absurd H bxka_
  rw [if_pos c7] at H
  have c7b0 := eq_true c7
  have c7b1 : decide ((ji1) ≤ (t7.length : Int)) = true := dt_ c7
  clear c7
  obtain ⟨y2, hy2⟩ : ∃ y_ : List Int, y_ = (t7.drop ((ji1) : Int).toNat) := ⟨_, rfl⟩
  replace H : (some (t9, t10, t11, (t7.eraseIdx (t2 : Int).toNat), t8)) = some (r1, r2, r3, r4, r5) := bscs_
  have Ny2 := A0_ hy2
  clear hy2
  obtain ⟨y3, hy3⟩ : ∃ y_ : List Int, y_ = (t7.eraseIdx (t2 : Int).toNat) := ⟨_, rfl⟩
  replace H : (some (t9, t10, t11, y3, t8)) = some (r1, r2, r3, r4, r5) := b2x6_
  have Ny3 := A0_ hy3
  clear hy3
  simp only [sj_, pj_] at H
  obtain ⟨rfl, rfl, rfl, rfl, rfl⟩ := H
  go_enter Tryz.func69, Tryz.ntmps69
  try go_wp2_with (first | ((with_reducible refine gd_ (N := 2) rfl ?_); refine bx_ 2 #[.int .i64 a0_0, .bool a0_1, .slice A0_2 l0_2.length c0_2, .slice A0_3 l0_3.length c0_3, .int .i64 a0_4] 32 ?_; intro gb1 hg w1 BK1 hb; have GW1 := ge_ hg brt4_; have GE1 := GW1; replace HB := hb_ hb brt4_; clear hb hg) | ((with_reducible refine gd_ (N := 3) rfl ?_); refine bx_ 3 #[.int .i64 a1_0, .int .i64 a1_1, .int .i64 a1_2] 50 ?_; intro gb2 hg w2 BK2 hb; have GW2 := ge_ hg be6g_; have GE2 := GW2; replace HB := hb_ hb be6g_; have NB1_2 := nl_ hg BK1; have NB2_1 := ng_ hg BK1; replace BK1 := k1_ BK1 hb; clear hb hg) | ((with_reducible refine gd_ (N := 4) rfl ?_); refine bx_ 4 #[.int .i64 0, .bool false, .slice none 0 0, .slice none 0 0, .int .i64 0] 32 ?_; intro gb3 hg w3 BK3 hb; have GW3 := ge_ hg bfnq_; have GE3 := GW3; replace HB := hb_ hb bfnq_; have NB1_3 := nl_ hg BK1; have NB3_1 := ng_ hg BK1; replace BK1 := k1_ BK1 hb; have NB2_3 := nl_ hg BK2; have NB3_2 := ng_ hg BK2; replace BK2 := k1_ BK2 hb; clear hb hg; have hnb1 := NB1_2.out; have hnc1 := NB2_1.out; have hnb2 := NB1_3.out; have hnc2 := NB3_1.out; have hcz1 := z5_ BK1) | ((with_reducible refine gc_ (f := 33) rfl ?_); refine gl_ 8 Tryz.func33 #[.agg #[.int .i64 a0_0, .bool a0_1, .slice A0_2 l0_2.length c0_2, .slice A0_3 l0_3.length c0_3, .int .i64 a0_4]] ?_; (with_reducible refine (spec_l12Own.calls a0_0 a0_1 _ _ l0_2 _ _ l0_3 a0_4 t4 t5 t6 t7 t8 _ ?side1 ?side2 ?side3 ?side4 A2.out).mono ?_); (case side1 => exact b6n8_); (case side2 => exact HC0_2.out); (case side3 => exact bkan_); (case side4 => exact HC0_3.out); rintro e w4 ⟨v1, v4, rfl, ho0, ho1, hb⟩; refine ⟨_, rfl, ?_⟩; have HO1 := A0_ (Kd.R_lower ho0 (bz_ b850_)); have HO2 := A0_ (Kd.R_lower ho1 (bz_ b850_)); replace BK1 := k1_ BK1 hb; replace BK2 := k1_ BK2 hb; replace BK3 := k1_ BK3 hb; replace HB := hb_ hb b850_; (try clear hb); (try clear ho0); (try clear ho1)) | ((with_reducible refine gd_ (N := 5) rfl ?_); refine bx_ 5 #[.int .i64 0, .bool false, .slice none 0 0, .slice none 0 0, .int .i64 0] 32 ?_; intro gb4 hg w5 BK4 hb; replace HO1 := A0_ (Kd.R_below bsm5_ hb); replace HO2 := A0_ (Kd.R_below b9so_ hb); have GW4 := ge_ hg b850_; have GE4 := GW4; replace HB := hb_ hb b850_; have NB1_4 := nl_ hg BK1; have NB4_1 := ng_ hg BK1; replace BK1 := k1_ BK1 hb; have NB2_4 := nl_ hg BK2; have NB4_2 := ng_ hg BK2; replace BK2 := k1_ BK2 hb; have NB3_4 := nl_ hg BK3; have NB4_3 := ng_ hg BK3; replace BK3 := k1_ BK3 hb; clear hb hg; have hnb3 := NB4_1.out; have hnc3 := NB1_4.out; have hnb4 := NB4_2.out; have hnc4 := NB2_4.out; have hnb5 := NB4_3.out; have hnc5 := NB3_4.out; have hcz2 := z5_ BK4; obtain ⟨Ao1, co1, eo1⟩ := Kd.R_slice HO1.out; subst eo1; obtain ⟨Ao2, co2, eo2⟩ := Kd.R_slice HO2.out; subst eo2; have hnb6 := NB2_3.out; have hnc6 := NB3_2.out; have hcz3_0 : w5.cell? ⟨gb2, 0, none⟩ = some (.int .i64 a1_0) := (kc_ BK2.out 0).trans rfl; have hcz3_1 : w5.cell? ⟨gb2, 1, none⟩ = some (.int .i64 a1_1) := (kc_ BK2.out 1).trans rfl; have hcz3_2 : w5.cell? ⟨gb2, 2, none⟩ = some (.int .i64 a1_2) := (kc_ BK2.out 2).trans rfl; have hfz3_0 := kf_ BK2.out 0; have hfz3_1 := kf_ BK2.out 1; have hfz3_2 := kf_ BK2.out 2; have hcz4_0 : w5.cell? ⟨gb1, 0, none⟩ = some (.int .i64 a0_0) := (kc_ BK1.out 0).trans rfl; have hcz4_1 : w5.cell? ⟨gb1, 1, none⟩ = some (.bool a0_1) := (kc_ BK1.out 1).trans rfl; have hcz4_2 : w5.cell? ⟨gb1, 2, none⟩ = some (.slice A0_2 l0_2.length c0_2) := (kc_ BK1.out 2).trans rfl; have hcz4_3 : w5.cell? ⟨gb1, 3, none⟩ = some (.slice A0_3 l0_3.length c0_3) := (kc_ BK1.out 3).trans rfl; have hcz4_4 : w5.cell? ⟨gb1, 4, none⟩ = some (.int .i64 a0_4) := (kc_ BK1.out 4).trans rfl; have hfz4_0 := kf_ BK1.out 0; have hfz4_1 := kf_ BK1.out 1; have hfz4_2 := kf_ BK1.out 2; have hfz4_3 := kf_ BK1.out 3; have hfz4_4 := kf_ BK1.out 4) | ((with_reducible refine gc_ (f := 91) rfl ?_); refine gl_ 32 Tryz.func91 #[.slice A0_3 l0_3.length c0_3, .int .i64 a1_1] ?_; (with_reducible refine (spec_l12Place.calls k _ _ l0_3 a1_1 t2 _ ?side1 ?side2 A4.out).mono ?_); (case side1 => exact cb_ HR0_3.out b2i7_); (case side2 => exact HC0_3.out); rintro e w' ⟨rfl, ⟨nd, rfl⟩⟩; refine ⟨_, rfl, ?_⟩) | ((with_reducible refine gc_ (f := 92) rfl ?_); refine gl_ 37 Tryz.func92 #[.agg #[.int .i64 t4, .bool t5, .slice Ao1 t6.length co1], .int .i64 a1_1] ?_; (with_reducible refine (spec_l2Without.calls k t4 t5 _ _ t6 a1_1 t9 t10 t11 _ ?side1 ?side2 A6.out).mono ?_); (case side1 => refine (rr_ (e := 3) (base := w.heap.size) (ok := fun k_ => no_ (.slice Ao2 t7.length co2) k_) (n := t6.length) (c := co1) ?_).2.2; exact bq0f_); (case side2 => exact (rr_ HO1.out).2.1); rintro e w6 ⟨v5, rfl, ho0, hb⟩; refine ⟨_, rfl, ?_⟩; have HO3 := A0_ (Kd.R_lower (Kd.R_new' (Kd.R_new' ho0 (Kd.R_lt bq0f_)) (Kd.R_lt bu3r_)) (bz_ b2i7_)); replace HO1 := A0_ (Kd.R_elder' bq0f_ (Kd.R_base ho0) hb); replace HO2 := A0_ (Kd.R_elder' bu3r_ (Kd.R_base ho0) hb); replace BK1 := k1_ BK1 hb; replace BK2 := k1_ BK2 hb; replace BK3 := k1_ BK3 hb; replace BK4 := k2_ (.cells #[.int .i64 t4, .bool t5, .slice Ao1 t6.length co1, .slice Ao2 t7.length co2, .int .i64 t8] 32 (0, 0)) BK4 hb; replace HB := hb_ hb b2i7_; (try clear hb); (try clear ho0); have hcz5 := z5_ BK4; obtain ⟨Ao3, co3, eo3⟩ := Kd.R_slice HO3.out; subst eo3))
  have n0_ : Aside0 (Kd.R (Kd.int .i64) 3 (((w6.setCell ⟨gb4, 0, none⟩ (.int .i64 t9)).setCell ⟨gb4, 1, none⟩ (.bool t10)).setCell ⟨gb4, 2, none⟩ (.slice Ao3 t11.length co3)) w.heap.size (fun k_ => no_ (.slice Ao2 t7.length co2) k_ ∧ no_ (.slice Ao3 t11.length co3) k_) (.slice Ao1 t6.length co1) t6) := ⟨by (with_reducible repeat (first | apply ra_ | apply rn_ | apply rd_)); exact Kd.R_mono (rf_ (rf_ (rf_ (Kd.R_types HO1.out BK4.out bi3y_) k2_0 _) k2_0 _) k2_0 _) (fun _ hk => ⟨hk.1.1, hk.1.2⟩)⟩
  have n1_ : Aside0 (Kd.R (Kd.int .i64) 3 (((w6.setCell ⟨gb4, 0, none⟩ (.int .i64 t9)).setCell ⟨gb4, 1, none⟩ (.bool t10)).setCell ⟨gb4, 2, none⟩ (.slice Ao3 t11.length co3)) w.heap.size (fun k_ => no_ (.slice Ao1 t6.length co1) k_ ∧ no_ (.slice Ao3 t11.length co3) k_) (.slice Ao2 t7.length co2) t7) := ⟨by (with_reducible repeat (first | apply ra_ | apply rn_ | apply rd_)); exact Kd.R_mono (rf_ (rf_ (rf_ (Kd.R_types HO2.out BK4.out bi3y_) k2_0 _) k2_0 _) k2_0 _) (fun _ hk => ⟨hk.1.1, hk.1.2⟩)⟩
  have n2_ : Aside0 (Kd.R (Kd.int .i64) 3 (((w6.setCell ⟨gb4, 0, none⟩ (.int .i64 t9)).setCell ⟨gb4, 1, none⟩ (.bool t10)).setCell ⟨gb4, 2, none⟩ (.slice Ao3 t11.length co3)) w.heap.size (fun k_ => no_ (.slice Ao1 t6.length co1) k_ ∧ no_ (.slice Ao2 t7.length co2) k_) (.slice Ao3 t11.length co3) t11) := ⟨by (with_reducible repeat (first | apply ra_ | apply rn_ | apply rd_)); exact Kd.R_mono (rf_ (rf_ (rf_ (Kd.R_types HO3.out BK4.out bi3y_) k2_0 _) k2_0 _) k2_0 _) (fun _ hk => ⟨hk.1.1.2, hk.1.2⟩)⟩
  have n3_ : Aside0 ((((w6.setCell ⟨gb4, 0, none⟩ (.int .i64 t9)).setCell ⟨gb4, 1, none⟩ (.bool t10)).setCell ⟨gb4, 2, none⟩ (.slice Ao3 t11.length co3)).heap[gb1]? = some (.cells #[.int .i64 a0_0, .bool a0_1, .slice A0_2 l0_2.length c0_2, .slice A0_3 l0_3.length c0_3, .int .i64 a0_4] 32 (0, 0))) := ⟨u1_ BK1⟩
  have n4_ : Aside0 ((((w6.setCell ⟨gb4, 0, none⟩ (.int .i64 t9)).setCell ⟨gb4, 1, none⟩ (.bool t10)).setCell ⟨gb4, 2, none⟩ (.slice Ao3 t11.length co3)).heap[gb2]? = some (.cells #[.int .i64 a1_0, .int .i64 a1_1, .int .i64 a1_2] 50 (0, 0))) := ⟨u1_ BK2⟩
  have n5_ : Aside0 ((((w6.setCell ⟨gb4, 0, none⟩ (.int .i64 t9)).setCell ⟨gb4, 1, none⟩ (.bool t10)).setCell ⟨gb4, 2, none⟩ (.slice Ao3 t11.length co3)).heap[gb3]? = some (.cells #[.int .i64 0, .bool false, .slice none 0 0, .slice none 0 0, .int .i64 0] 32 (0, 0))) := ⟨u1_ BK3⟩
  have n6_ : Aside0 ((((w6.setCell ⟨gb4, 0, none⟩ (.int .i64 t9)).setCell ⟨gb4, 1, none⟩ (.bool t10)).setCell ⟨gb4, 2, none⟩ (.slice Ao3 t11.length co3)).heap[gb4]? = some (.cells #[.int .i64 t9, .bool t10, .slice Ao3 t11.length co3, .slice Ao2 t7.length co2, .int .i64 t8] 32 (0, 0))) := ⟨u1_ BK4⟩
  have n7_ : Aside0 (Below w.heap.size w (((w6.setCell ⟨gb4, 0, none⟩ (.int .i64 t9)).setCell ⟨gb4, 1, none⟩ (.bool t10)).setCell ⟨gb4, 2, none⟩ (.slice Ao3 t11.length co3))) := ⟨b2i7_⟩
  (try clear HO1)
  (try clear HO2)
  (try clear HO3)
  (try clear BK1)
  (try clear BK2)
  (try clear BK3)
  (try clear BK4)
  (try clear HB)
  generalize (((w6.setCell ⟨gb4, 0, none⟩ (.int .i64 t9)).setCell ⟨gb4, 1, none⟩ (.bool t10)).setCell ⟨gb4, 2, none⟩ (.slice Ao3 t11.length co3)) = w7 at n0_ n1_ n2_ n3_ n4_ n5_ n6_ n7_ ⊢
  have HO1 := n0_
  have HO2 := n1_
  have HO3 := n2_
  have BK1 := n3_
  have BK2 := n4_
  have BK3 := n5_
  have BK4 := n6_
  have HB := n7_
  clear n0_ n1_ n2_ n3_ n4_ n5_ n6_ n7_
  replace HO1 := A0_ (rd_ HO1.out)
  replace HO2 := A0_ (rd_ HO2.out)
  replace HO3 := A0_ (rd_ HO3.out)
  replace BK1 := A0_ (kd_ BK1.out)
  replace BK2 := A0_ (kd_ BK2.out)
  replace BK3 := A0_ (kd_ BK3.out)
  replace BK4 := A0_ (kd_ BK4.out)
  replace HB := A0_ (bd_ HB.out)
  have q1 : (t2 : Int) ≤ ((t7.length : Int) : Int) := od_ bpil_
  obtain ⟨i091, hi091, _, hsz91, _⟩ := info_parts info3
  have hroom91 : t7.length ≤ co2 := (rr_ HO2.out).2.1
  have hC91 : Kd.C (Kd.int .i64) _ Ao2 t7.length t7 := (rr_ HO2.out).2.2
  have hcut91 := cut_to (P := Tryz.prog) 22 3 .i64 Tryz.underlying22 hi091 Ao2 t7.length co2 t2 (od_ bpil_) q1 hroom91
  have hr91 := Kd.C_take (m := (t2 : Int).toNat) hC91 bh19_
  have hy4 : y1.length = (t2 : Int).toNat := (by rw [Ny1.out, lt_]; omega)
  rw [← Ny1.out] at hr91
  rw [← hy4] at hcut91
  have HR272 := A0_ hr91
  have HC272 := A0_ (show y1.length ≤ co2 from bh19_)
  clear hr91 hC91 hroom91 hi091 hsz91
  have KY91 := A0_ hy4
  clear hy4
  have KL91 := A0_ (show (t2 : Int).toNat ≤ t7.length from bh19_)
  replace q1 := eq_true q1
  have q2 : ((ji1) : Int) ≤ ((t7.length : Int) : Int) := od_ bpil_
  obtain ⟨i092, hi092, _, hsz92, _⟩ := info_parts info3
  have hroom92 : t7.length ≤ co2 := (rr_ HO2.out).2.1
  have hC92 : Kd.C (Kd.int .i64) _ Ao2 t7.length t7 := (rr_ HO2.out).2.2
  have q3 : (0 : Int) ≤ ((ji1) : Int) := od_ bpil_
  have hcut92 := cut_from (P := Tryz.prog) 22 3 .i64 Tryz.underlying22 hi092 1 hsz92 Ao2 t7.length co2 (ji1) q3 q2
  have hr92 := Kd.C_drop (m := ((ji1) : Int).toNat) (c := co2) hC92 bh19_ hroom92
  obtain ⟨A7, hA92⟩ : ∃ A8, A8 = (if co2 = ((ji1) : Int).toNat then Ao2 else (Ao2 : Option Addr).map (·.add (((ji1) : Int).toNat * 1))) := ⟨_, rfl⟩
  obtain ⟨c8, hc92⟩ : ∃ c9, c9 = co2 - ((ji1) : Int).toNat := ⟨_, rfl⟩
  have hy5 : y2.length = t7.length - ((ji1) : Int).toNat := (by rw [Ny2.out, ld_] <;> omega)
  rw [show (t7).drop ((ji1) : Int).toNat = y2 from Ny2.out.symm] at hr92
  replace hr92 : Kd.C (Kd.int .i64) _ A7 y2.length y2 := (by rw [hA92]; exact hr92)
  rw [← hy5, ← hA92, ← hc92] at hcut92
  have HR276 := A0_ hr92
  have HC276 := A0_ (show y2.length ≤ c8 from by rw [hy5, hc92]; exact Nat.sub_le_sub_right hroom92 _)
  clear hr92 hC92 hroom92 hi092 hsz92 hc92
  have KY92 := A0_ hy5
  have KA92 := A0_ hA92
  clear hy5 hA92
  have KL92 := A0_ (show ((ji1) : Int).toNat ≤ t7.length from bh19_)
  replace q2 := eq_true q2
  obtain ⟨go94, co4, eo4, gb5, gl94, cl94, HG94⟩ := Kd.R_form HO2.out (by have hj_ : 0 ≤ (t2 : Int) := od_ bpil_; have hl_ : (ji1 : Int) ≤ (t7.length : Int) := od_ bpil_; have hh_ : (t2 : Int) ≤ (t7.length : Int) := od_ bpil_; rw [← hji1] at hl_; unfold wrap64 at hl_; omega)
  (first | cases eo4 | (injection eo4 with ea_ en_ ec_; (first | subst ea_ | (injection ea_ with ea_; subst ea_)); subst ec_; clear en_))
  have GB94 := A0_ gb5
  have GG94 := A0_ HG94
  clear gb5 gl94 HG94
  refine s5_ 12 [11] BK4 spec_l12Make.tab10 spec_l12Make.bits10 (fun hHeld HT_ HW_ => ?_)
  generalize w7.drew = w8 at HO1 HO2 HO3 BK1 BK2 BK3 BK4 HB GG94 HR272 HR276 hHeld ⊢
  refine pu_ 0 39 ?_
  refine pu_ 2 41 ?_
  refine pu_ 4 43 ?_
  refine pu_ 6 45 ?_
  refine pu_ 7 46 ?_
  refine tk_ 1 40 hHeld ?_
  refine pu_ 3 42 ?_
  refine tk_ 5 44 hHeld ?_
  refine pu_ 8 47 ?_
  refine on_ 9 (some 48) (fun K hK => ?_)
  have hj_ : 0 ≤ (t2 : Int) := od_ bpil_
  have hl_ : (ji1 : Int) ≤ (t7.length : Int) := od_ bpil_
  have hh_ : (t2 : Int) ≤ (t7.length : Int) := od_ bpil_
  have hb_ := (rr_ HO2.out).2.2.2.1
  have h0_ : (0 : Int) ≤ (ji1 : Int) := od_ bpil_
  have hy6_ := KY91.out
  have hk_ : (ji1 : Int).toNat = y1.length + 1 := (by have hw_ : (ji1 : Int) = t2 + 1 := (by have h00_ := h0_; rw [← hji1] at h00_ ⊢; unfold wrap64 at h00_ ⊢; omega); rw [hw_]; omega)
  refine Kd.R_delete_step (Kd.int .i64) (w0 := w) w.heap.size (by rfl) (.tmp 42) (.tmp 47) 22 3 rfl Tryz.underlying22 bfqv_ (g := go94) (n := t7.length) (c := co2) (k := y1.length) rfl rfl ?hA ?hm b9so_ ?hk b2i7_ (bz_ b2i7_) ?_
  (case hA => have ha_ := KA92.out; rw [hk_] at ha_; exact ha_)
  (case hm => have ha_ := KY92.out; omega)
  (case hk => omega)
  intro w9 ho hb hg
  clear hj_ hl_ hh_ hb_ hk_ h0_
  rw [hy6_, ← Ny3.out] at ho
  clear hy6_
  have hn_ : t7.length - 1 = y3.length := (by have := (rr_ ho).1; omega)
  rw [hn_] at ho ⊢
  clear hn_
  replace BK1 := A0_ (blk_grown (g := gb1) (o := .cells #[.int .i64 a0_0, .bool a0_1, .slice A0_2 l0_2.length c0_2, .slice A0_3 l0_3.length c0_3, .int .i64 a0_4] 32 (0, 0)) (u1_ BK1) hg (Kd.R_ne HO2.out BK1.out bi3y_))
  replace BK2 := A0_ (blk_grown (g := gb2) (o := .cells #[.int .i64 a1_0, .int .i64 a1_1, .int .i64 a1_2] 50 (0, 0)) (u1_ BK2) hg (Kd.R_ne HO2.out BK2.out bi3y_))
  replace BK3 := A0_ (blk_grown (g := gb3) (o := .cells #[.int .i64 0, .bool false, .slice none 0 0, .slice none 0 0, .int .i64 0] 32 (0, 0)) (u1_ BK3) hg (Kd.R_ne HO2.out BK3.out bi3y_))
  replace HO1 := A0_ (Kd.R_after (v := (.slice (some ⟨go94, 0, none⟩) t7.length co2)) (v1 := .slice (some ⟨go94, 0, none⟩) y3.length co2) (ok := (fun k_ => no_ (.slice Ao3 t11.length co3) k_)) (by (with_reducible repeat (first | apply ra_ | apply rn_ | apply rd_)); exact Kd.R_mono HO1.out (fun _ hk => ⟨hk.2, hk.1⟩)) hg (.inl rfl))
  replace BK4 := A0_ (blk_grown (g := gb4) (o := .cells #[.int .i64 t9, .bool t10, .slice Ao3 t11.length co3, .slice (some ⟨go94, 0, none⟩) t7.length co2, .int .i64 t8] 32 (0, 0)) (u1_ BK4) hg (Kd.R_ne HO2.out BK4.out bi3y_))
  replace HO2 := A0_ (ho)
  replace HO3 := A0_ (Kd.R_after (v := (.slice (some ⟨go94, 0, none⟩) t7.length co2)) (v1 := .slice (some ⟨go94, 0, none⟩) y3.length co2) (ok := (fun k_ => no_ (.slice Ao1 t6.length co1) k_)) buiy_ hg (.inl rfl))
  replace HB := A0_ (hb)
  clear ho hb hg
  refine hK.out _ _ (c5_ BK4) (fun hHeld => ?_)
  clear hK K
  refine nm_ 48 ?_
  refine pu_ 10 49 ?_
  refine last_ (i := 11) (N := none) #[true, true, true, true, true, true, true, true, true, true, true, true] rfl rfl (one_of HT_.out bfqv_) bi3y_ (fun K hK => ?_)
  have hs95 : w9.cell? ⟨gb4, 3, none⟩ = some (.slice (some ⟨go94, 0, none⟩) t7.length co2) := (kc_ BK4.out 3).trans rfl
  have hfs95 := kf_ BK4.out 3
  have hns1_0 := NB1_4.out
  have hns1_1 := NB2_4.out
  have hns1_2 := NB3_4.out
  have hms1_0 := NB4_1.out
  have hms1_1 := NB4_2.out
  have hms1_2 := NB4_3.out
  refine skip_ (w1 := ?_) (by rfl) rfl ?_ ?_
  rotate_left
  ·go_simp
   rfl
  refine hK.out _ _ ?_
  clear hK K
  refine dn_ ?_
  have hcz6 := z5_ BK4
  have hcz7 := z5_ BK3
  try go_wp2
  refine bodyPost_ret (results_cell_row rfl _ _ gb3 32 #[.int .i64 t9, .bool t10, .slice Ao3 t11.length co3, .slice (some ⟨go94, 0, none⟩) y3.length co2, .int .i64 t8] (0, 0) _ rfl (u1_ BK3) Tryz.underlying32 rfl bfqv_) rfl ?_
  exact ⟨_, _, bfw0_, by (with_reducible repeat (first | apply ra_ | apply rn_ | apply rd_)); exact Kd.R_mono (rf_ (rf_ (rf_ (rf_ (rf_ (rf_ (Kd.R_types (Kd.R_types HO3.out BK4.out bi3y_) BK3.out bi3y_) (fun _ hk => hk.1.2) (.slice (some ⟨go94, 0, none⟩) y3.length co2)) k2_0 _) k2_0 _) k2_0 _) k2_0 _) k2_0 _) (fun _ hk => hk.1.1.2), by (with_reducible repeat (first | apply ra_ | apply rn_ | apply rd_)); exact Kd.R_mono (rf_ (rf_ (rf_ (rf_ (rf_ (rf_ (Kd.R_types (Kd.R_types HO2.out BK4.out bi3y_) BK3.out bi3y_) (fun _ hk => hk.1.2) (.slice (some ⟨go94, 0, none⟩) y3.length co2)) k2_0 _) k2_0 _) k2_0 _) k2_0 _) k2_0 _) (fun _ hk => hk.1.1.2), b2i7_⟩
 rw [if_neg c3] at H
 obtain ⟨c3b0, c3b1⟩ := ef_ c3
 by_cases c4 : a1_0 = 4
 case neg =>
  rw [if_neg c4] at H
  obtain ⟨c4b0, c4b1⟩ := ef_ c4
  by_cases c5 : a1_0 = 5
  case neg =>
   rw [if_neg c5] at H
   obtain ⟨c5b0, c5b1⟩ := ef_ c5
   simp only [sj_, pj_] at H
   obtain ⟨rfl, rfl, rfl, rfl, rfl⟩ := H
   go_enter Tryz.func69, Tryz.ntmps69
   go_wp2_with (first | ((with_reducible refine gd_ (N := 2) rfl ?_); refine bx_ 2 #[.int .i64 a0_0, .bool a0_1, .slice A0_2 l0_2.length c0_2, .slice A0_3 l0_3.length c0_3, .int .i64 a0_4] 32 ?_; intro gb1 hg w1 BK1 hb; have GW1 := ge_ hg brt4_; have GE1 := GW1; replace HB := hb_ hb brt4_; clear hb hg) | ((with_reducible refine gd_ (N := 3) rfl ?_); refine bx_ 3 #[.int .i64 a1_0, .int .i64 a1_1, .int .i64 a1_2] 50 ?_; intro gb2 hg w2 BK2 hb; have GW2 := ge_ hg be6g_; have GE2 := GW2; replace HB := hb_ hb be6g_; have NB1_2 := nl_ hg BK1; have NB2_1 := ng_ hg BK1; replace BK1 := k1_ BK1 hb; clear hb hg) | ((with_reducible refine gd_ (N := 4) rfl ?_); refine bx_ 4 #[.int .i64 0, .bool false, .slice none 0 0, .slice none 0 0, .int .i64 0] 32 ?_; intro gb3 hg w3 BK3 hb; have GW3 := ge_ hg bfnq_; have GE3 := GW3; replace HB := hb_ hb bfnq_; have NB1_3 := nl_ hg BK1; have NB3_1 := ng_ hg BK1; replace BK1 := k1_ BK1 hb; have NB2_3 := nl_ hg BK2; have NB3_2 := ng_ hg BK2; replace BK2 := k1_ BK2 hb; clear hb hg; have hnb1 := NB1_2.out; have hnc1 := NB2_1.out; have hnb2 := NB1_3.out; have hnc2 := NB3_1.out; have hcz1 := z5_ BK1) | ((with_reducible refine gc_ (f := 33) rfl ?_); refine gl_ 8 Tryz.func33 #[.agg #[.int .i64 a0_0, .bool a0_1, .slice A0_2 l0_2.length c0_2, .slice A0_3 l0_3.length c0_3, .int .i64 a0_4]] ?_; (with_reducible refine (spec_l12Own.calls a0_0 a0_1 _ _ l0_2 _ _ l0_3 a0_4 t4 t5 t6 t7 t8 _ ?side1 ?side2 ?side3 ?side4 A2.out).mono ?_); (case side1 => exact b6n8_); (case side2 => exact HC0_2.out); (case side3 => exact bkan_); (case side4 => exact HC0_3.out); rintro e w4 ⟨v1, v4, rfl, ho0, ho1, hb⟩; refine ⟨_, rfl, ?_⟩; have HO1 := A0_ (Kd.R_lower ho0 (bz_ b850_)); have HO2 := A0_ (Kd.R_lower ho1 (bz_ b850_)); replace BK1 := k1_ BK1 hb; replace BK2 := k1_ BK2 hb; replace BK3 := k1_ BK3 hb; replace HB := hb_ hb b850_; (try clear hb); (try clear ho0); (try clear ho1)) | ((with_reducible refine gd_ (N := 5) rfl ?_); refine bx_ 5 #[.int .i64 0, .bool false, .slice none 0 0, .slice none 0 0, .int .i64 0] 32 ?_; intro gb4 hg w5 BK4 hb; replace HO1 := A0_ (Kd.R_below bsm5_ hb); replace HO2 := A0_ (Kd.R_below b9so_ hb); have GW4 := ge_ hg b850_; have GE4 := GW4; replace HB := hb_ hb b850_; have NB1_4 := nl_ hg BK1; have NB4_1 := ng_ hg BK1; replace BK1 := k1_ BK1 hb; have NB2_4 := nl_ hg BK2; have NB4_2 := ng_ hg BK2; replace BK2 := k1_ BK2 hb; have NB3_4 := nl_ hg BK3; have NB4_3 := ng_ hg BK3; replace BK3 := k1_ BK3 hb; clear hb hg; have hnb3 := NB4_1.out; have hnc3 := NB1_4.out; have hnb4 := NB4_2.out; have hnc4 := NB2_4.out; have hnb5 := NB4_3.out; have hnc5 := NB3_4.out; have hcz2 := z5_ BK4; obtain ⟨Ao1, co1, eo1⟩ := Kd.R_slice HO1.out; subst eo1; obtain ⟨Ao2, co2, eo2⟩ := Kd.R_slice HO2.out; subst eo2; have hnb6 := NB2_3.out; have hnc6 := NB3_2.out; have hcz3_0 : w5.cell? ⟨gb2, 0, none⟩ = some (.int .i64 a1_0) := (kc_ BK2.out 0).trans rfl; have hcz3_1 : w5.cell? ⟨gb2, 1, none⟩ = some (.int .i64 a1_1) := (kc_ BK2.out 1).trans rfl; have hcz3_2 : w5.cell? ⟨gb2, 2, none⟩ = some (.int .i64 a1_2) := (kc_ BK2.out 2).trans rfl; have hfz3_0 := kf_ BK2.out 0; have hfz3_1 := kf_ BK2.out 1; have hfz3_2 := kf_ BK2.out 2; have hcz4_0 : w5.cell? ⟨gb3, 0, none⟩ = some (.int .i64 0) := (kc_ BK3.out 0).trans rfl; have hcz4_1 : w5.cell? ⟨gb3, 1, none⟩ = some (.bool false) := (kc_ BK3.out 1).trans rfl; have hcz4_2 : w5.cell? ⟨gb3, 2, none⟩ = some (.slice none 0 0) := (kc_ BK3.out 2).trans rfl; have hcz4_3 : w5.cell? ⟨gb3, 3, none⟩ = some (.slice none 0 0) := (kc_ BK3.out 3).trans rfl; have hcz4_4 : w5.cell? ⟨gb3, 4, none⟩ = some (.int .i64 0) := (kc_ BK3.out 4).trans rfl; have hfz4_0 := kf_ BK3.out 0; have hfz4_1 := kf_ BK3.out 1; have hfz4_2 := kf_ BK3.out 2; have hfz4_3 := kf_ BK3.out 3; have hfz4_4 := kf_ BK3.out 4))
   refine bodyPost_ret (results_cell_row rfl _ _ gb3 32 #[.int .i64 t4, .bool t5, .slice Ao1 t6.length co1, .slice Ao2 t7.length co2, .int .i64 t8] (0, 0) _ rfl (u1_ BK3) Tryz.underlying32 rfl bfqv_) rfl ?_
   exact ⟨_, _, bnwh_, by (with_reducible repeat (first | apply ra_ | apply rn_ | apply rd_)); exact Kd.R_mono (rf_ (rf_ (rf_ (rf_ (rf_ (rf_ (rf_ (rf_ (rf_ (rf_ (Kd.R_types (Kd.R_types HO1.out BK4.out bi3y_) BK3.out bi3y_) (fun _ hk => hk.1.2) (.int .i64 t4)) (fun _ hk => hk.1.2) (.bool t5)) (fun _ hk => hk.1.2) (.slice Ao1 t6.length co1)) (fun _ hk => hk.1.2) (.slice Ao2 t7.length co2)) (fun _ hk => hk.1.2) (.int .i64 t8)) k2_0 _) k2_0 _) k2_0 _) k2_0 _) k2_0 _) (fun _ hk => hk.1.1), by (with_reducible repeat (first | apply ra_ | apply rn_ | apply rd_)); exact Kd.R_mono (rf_ (rf_ (rf_ (rf_ (rf_ (rf_ (rf_ (rf_ (rf_ (rf_ (Kd.R_types (Kd.R_types HO2.out BK4.out bi3y_) BK3.out bi3y_) (fun _ hk => hk.1.2) (.int .i64 t4)) (fun _ hk => hk.1.2) (.bool t5)) (fun _ hk => hk.1.2) (.slice Ao1 t6.length co1)) (fun _ hk => hk.1.2) (.slice Ao2 t7.length co2)) (fun _ hk => hk.1.2) (.int .i64 t8)) k2_0 _) k2_0 _) k2_0 _) k2_0 _) k2_0 _) (fun _ hk => hk.1.1), b2i7_⟩
  rw [if_pos c5] at H
  obtain ⟨c5b0, c5b1⟩ := et_ c5
  clear c5
  obtain ⟨y1, hy1⟩ : ∃ y_ : List Int, y_ = (([] : List Int)) := ⟨_, rfl⟩
  replace H : (some (t4, t5, y1, (([] : List Int)), t8)) = some (r1, r2, r3, r4, r5) := bgiq_
  have Ny1 := A0_ hy1
  clear hy1
  obtain ⟨y2, hy2⟩ : ∃ y_ : List Int, y_ = (([] : List Int)) := ⟨_, rfl⟩
  replace H : (some (t4, t5, y1, y2, t8)) = some (r1, r2, r3, r4, r5) := bscs_
  have Ny2 := A0_ hy2
  clear hy2
  simp only [sj_, pj_] at H
  obtain ⟨rfl, rfl, rfl, rfl, rfl⟩ := H
  go_enter Tryz.func69, Tryz.ntmps69
  go_wp2_with (first | ((with_reducible refine gd_ (N := 2) rfl ?_); refine bx_ 2 #[.int .i64 a0_0, .bool a0_1, .slice A0_2 l0_2.length c0_2, .slice A0_3 l0_3.length c0_3, .int .i64 a0_4] 32 ?_; intro gb1 hg w1 BK1 hb; have GW1 := ge_ hg brt4_; have GE1 := GW1; replace HB := hb_ hb brt4_; clear hb hg) | ((with_reducible refine gd_ (N := 3) rfl ?_); refine bx_ 3 #[.int .i64 a1_0, .int .i64 a1_1, .int .i64 a1_2] 50 ?_; intro gb2 hg w2 BK2 hb; have GW2 := ge_ hg be6g_; have GE2 := GW2; replace HB := hb_ hb be6g_; have NB1_2 := nl_ hg BK1; have NB2_1 := ng_ hg BK1; replace BK1 := k1_ BK1 hb; clear hb hg) | ((with_reducible refine gd_ (N := 4) rfl ?_); refine bx_ 4 #[.int .i64 0, .bool false, .slice none 0 0, .slice none 0 0, .int .i64 0] 32 ?_; intro gb3 hg w3 BK3 hb; have GW3 := ge_ hg bfnq_; have GE3 := GW3; replace HB := hb_ hb bfnq_; have NB1_3 := nl_ hg BK1; have NB3_1 := ng_ hg BK1; replace BK1 := k1_ BK1 hb; have NB2_3 := nl_ hg BK2; have NB3_2 := ng_ hg BK2; replace BK2 := k1_ BK2 hb; clear hb hg; have hnb1 := NB1_2.out; have hnc1 := NB2_1.out; have hnb2 := NB1_3.out; have hnc2 := NB3_1.out; have hcz1 := z5_ BK1) | ((with_reducible refine gc_ (f := 33) rfl ?_); refine gl_ 8 Tryz.func33 #[.agg #[.int .i64 a0_0, .bool a0_1, .slice A0_2 l0_2.length c0_2, .slice A0_3 l0_3.length c0_3, .int .i64 a0_4]] ?_; (with_reducible refine (spec_l12Own.calls a0_0 a0_1 _ _ l0_2 _ _ l0_3 a0_4 t4 t5 t6 t7 t8 _ ?side1 ?side2 ?side3 ?side4 A2.out).mono ?_); (case side1 => exact b6n8_); (case side2 => exact HC0_2.out); (case side3 => exact bkan_); (case side4 => exact HC0_3.out); rintro e w4 ⟨v1, v4, rfl, ho0, ho1, hb⟩; refine ⟨_, rfl, ?_⟩; have HO1 := A0_ (Kd.R_lower ho0 (bz_ b850_)); have HO2 := A0_ (Kd.R_lower ho1 (bz_ b850_)); replace BK1 := k1_ BK1 hb; replace BK2 := k1_ BK2 hb; replace BK3 := k1_ BK3 hb; replace HB := hb_ hb b850_; (try clear hb); (try clear ho0); (try clear ho1)) | ((with_reducible refine gd_ (N := 5) rfl ?_); refine bx_ 5 #[.int .i64 0, .bool false, .slice none 0 0, .slice none 0 0, .int .i64 0] 32 ?_; intro gb4 hg w5 BK4 hb; replace HO1 := A0_ (Kd.R_below bsm5_ hb); replace HO2 := A0_ (Kd.R_below b9so_ hb); have GW4 := ge_ hg b850_; have GE4 := GW4; replace HB := hb_ hb b850_; have NB1_4 := nl_ hg BK1; have NB4_1 := ng_ hg BK1; replace BK1 := k1_ BK1 hb; have NB2_4 := nl_ hg BK2; have NB4_2 := ng_ hg BK2; replace BK2 := k1_ BK2 hb; have NB3_4 := nl_ hg BK3; have NB4_3 := ng_ hg BK3; replace BK3 := k1_ BK3 hb; clear hb hg; have hnb3 := NB4_1.out; have hnc3 := NB1_4.out; have hnb4 := NB4_2.out; have hnc4 := NB2_4.out; have hnb5 := NB4_3.out; have hnc5 := NB3_4.out; have hcz2 := z5_ BK4; obtain ⟨Ao1, co1, eo1⟩ := Kd.R_slice HO1.out; subst eo1; obtain ⟨Ao2, co2, eo2⟩ := Kd.R_slice HO2.out; subst eo2; have hnb6 := NB2_3.out; have hnc6 := NB3_2.out; have hcz3_0 : w5.cell? ⟨gb2, 0, none⟩ = some (.int .i64 a1_0) := (kc_ BK2.out 0).trans rfl; have hcz3_1 : w5.cell? ⟨gb2, 1, none⟩ = some (.int .i64 a1_1) := (kc_ BK2.out 1).trans rfl; have hcz3_2 : w5.cell? ⟨gb2, 2, none⟩ = some (.int .i64 a1_2) := (kc_ BK2.out 2).trans rfl; have hfz3_0 := kf_ BK2.out 0; have hfz3_1 := kf_ BK2.out 1; have hfz3_2 := kf_ BK2.out 2) | ((with_reducible refine gd_ (N := 73) rfl ?_); refine Kd.R_lit (Kd.int .i64) _ 3 ?hg (N := 73) ?hd (xs := ([] : List Int)) (inner := []) (ok := fun _ => True) (okp := fun _ => True) ?hr ?hp (fun _ hk => hk) trivial (Below.refl _ _) (Nat.le_refl _) bxka_ ?_; (case hd => rfl); (case hg => rfl); (case hr => go_simp; first | done | rfl); (case hp => exact (Reps.none _ _)); intro v5 w6 ho154 hb hg_ hnew_; clear hg_ hnew_; (first | rw [← Ny1.out] at ho154 | (simp only [Int.reduceToNat] at ho154; rw [← Ny1.out] at ho154)); have HO3 := A0_ (Kd.R_lower (Kd.R_new' (Kd.R_new' ho154 (Kd.R_lt bq0f_)) (Kd.R_lt bu3r_)) (bz_ b2i7_)); replace HO1 := A0_ (Kd.R_elder' bq0f_ (Kd.R_base ho154) hb); replace HO2 := A0_ (Kd.R_elder' bu3r_ (Kd.R_base ho154) hb); replace BK1 := k1_ BK1 hb; replace BK2 := k1_ BK2 hb; replace BK3 := k1_ BK3 hb; replace BK4 := k2_ (.cells #[.int .i64 t4, .bool t5, .slice Ao1 t6.length co1, .slice Ao2 t7.length co2, .int .i64 t8] 32 (0, 0)) BK4 hb; replace HB := hb_ hb b2i7_; clear hb ho154; obtain ⟨Ao3, co3, eo3⟩ := Kd.R_slice HO3.out; subst eo3; have hcz4 := z5_ BK4) | ((with_reducible refine gd_ (N := 76) rfl ?_); refine Kd.R_lit (Kd.int .i64) _ 3 ?hg (N := 76) ?hd (xs := ([] : List Int)) (inner := []) (ok := fun _ => True) (okp := fun _ => True) ?hr ?hp (fun _ hk => hk) trivial (Below.refl _ _) (Nat.le_refl _) bxka_ ?_; (case hd => rfl); (case hg => rfl); (case hr => go_simp; first | done | rfl); (case hp => exact (Reps.none _ _)); intro v6 w7 ho158 hb hg_ hnew_; clear hg_ hnew_; (first | rw [← Ny2.out] at ho158 | (simp only [Int.reduceToNat] at ho158; rw [← Ny2.out] at ho158)); have HO4 := A0_ (Kd.R_lower (Kd.R_new' (Kd.R_new' (Kd.R_new' ho158 (Kd.R_lt b2b7_)) (Kd.R_lt bl08_)) (Kd.R_lt b9vj_)) (bz_ b2i7_)); replace HO1 := A0_ (Kd.R_elder' b2b7_ (Kd.R_base ho158) hb); replace HO2 := A0_ (Kd.R_elder' bl08_ (Kd.R_base ho158) hb); replace HO3 := A0_ (Kd.R_elder' b9vj_ (Kd.R_base ho158) hb); replace BK1 := k1_ BK1 hb; replace BK2 := k1_ BK2 hb; replace BK3 := k1_ BK3 hb; replace BK4 := k2_ (.cells #[.int .i64 t4, .bool t5, .slice Ao3 y1.length co3, .slice Ao2 t7.length co2, .int .i64 t8] 32 (0, 0)) BK4 hb; replace HB := hb_ hb b2i7_; clear hb ho158; obtain ⟨Ao4, co4, eo4⟩ := Kd.R_slice HO4.out; subst eo4; have hcz5 := z5_ BK4; have hcz6 := z5_ BK3))
  refine bodyPost_ret (results_cell_row rfl _ _ gb3 32 #[.int .i64 t4, .bool t5, .slice Ao3 y1.length co3, .slice Ao4 y2.length co4, .int .i64 t8] (0, 0) _ rfl (u1_ BK3) Tryz.underlying32 rfl bfqv_) rfl ?_
  exact ⟨_, _, bnwh_, by (with_reducible repeat (first | apply ra_ | apply rn_ | apply rd_)); exact Kd.R_mono (rf_ (rf_ (rf_ (rf_ (rf_ (rf_ (Kd.R_types (Kd.R_types HO3.out BK4.out bi3y_) BK3.out bi3y_) (fun _ hk => hk.1.2) (.slice Ao4 y2.length co4)) k2_0 _) k2_0 _) k2_0 _) k2_0 _) k2_0 _) (fun _ hk => hk.1.1.2), by (with_reducible repeat (first | apply ra_ | apply rn_ | apply rd_)); exact Kd.R_mono (rf_ (rf_ (rf_ (rf_ (rf_ (rf_ (Kd.R_types (Kd.R_types HO4.out BK4.out bi3y_) BK3.out bi3y_) (fun _ hk => hk.1.2) (.slice Ao4 y2.length co4)) k2_0 _) k2_0 _) k2_0 _) k2_0 _) k2_0 _) (fun _ hk => hk.1.1.2), b2i7_⟩
 rw [if_pos c4] at H
 obtain ⟨c4b0, c4b1⟩ := et_ c4
 clear c4
 obtain ⟨⟨t9, t10, t11⟩, A4, H⟩ := o1_ H
 obtain ⟨⟨t12, t13, t14⟩, A6, H⟩ := o1_ H
 obtain ⟨t3, A8, H⟩ := o1_ H
 by_cases c5 : 0 ≤ t3
 case neg =>
  rw [if_neg c5] at H
  exact absurd H bxka_
 rw [if_pos c5] at H
 have c5b0 : decide (0 ≤ t3) = true := dt_ c5
 clear c5
 by_cases c6 : t3 < (t7.length : Int)
 case neg =>
  rw [if_neg c6] at H
  exact absurd H bxka_
 rw [if_pos c6] at H
 have c6b0 : decide (t3 < (t7.length : Int)) = true := dt_ c6
 clear c6
 obtain ⟨y1, hy1⟩ : ∃ y_ : List Int, y_ = (t7.set (t3 : Int).toNat a1_2) := ⟨_, rfl⟩
 replace H : (some (t12, t13, t14, y1, t8)) = some (r1, r2, r3, r4, r5) := bgiq_
 have Ny1 := A0_ hy1
 clear hy1
 simp only [sj_, pj_] at H
 obtain ⟨rfl, rfl, rfl, rfl, rfl⟩ := H
 go_enter Tryz.func69, Tryz.ntmps69
 try go_wp2_with (first | ((with_reducible refine gd_ (N := 2) rfl ?_); refine bx_ 2 #[.int .i64 a0_0, .bool a0_1, .slice A0_2 l0_2.length c0_2, .slice A0_3 l0_3.length c0_3, .int .i64 a0_4] 32 ?_; intro gb1 hg w1 BK1 hb; have GW1 := ge_ hg brt4_; have GE1 := GW1; replace HB := hb_ hb brt4_; clear hb hg) | ((with_reducible refine gd_ (N := 3) rfl ?_); refine bx_ 3 #[.int .i64 a1_0, .int .i64 a1_1, .int .i64 a1_2] 50 ?_; intro gb2 hg w2 BK2 hb; have GW2 := ge_ hg be6g_; have GE2 := GW2; replace HB := hb_ hb be6g_; have NB1_2 := nl_ hg BK1; have NB2_1 := ng_ hg BK1; replace BK1 := k1_ BK1 hb; clear hb hg) | ((with_reducible refine gd_ (N := 4) rfl ?_); refine bx_ 4 #[.int .i64 0, .bool false, .slice none 0 0, .slice none 0 0, .int .i64 0] 32 ?_; intro gb3 hg w3 BK3 hb; have GW3 := ge_ hg bfnq_; have GE3 := GW3; replace HB := hb_ hb bfnq_; have NB1_3 := nl_ hg BK1; have NB3_1 := ng_ hg BK1; replace BK1 := k1_ BK1 hb; have NB2_3 := nl_ hg BK2; have NB3_2 := ng_ hg BK2; replace BK2 := k1_ BK2 hb; clear hb hg; have hnb1 := NB1_2.out; have hnc1 := NB2_1.out; have hnb2 := NB1_3.out; have hnc2 := NB3_1.out; have hcz1 := z5_ BK1) | ((with_reducible refine gc_ (f := 33) rfl ?_); refine gl_ 8 Tryz.func33 #[.agg #[.int .i64 a0_0, .bool a0_1, .slice A0_2 l0_2.length c0_2, .slice A0_3 l0_3.length c0_3, .int .i64 a0_4]] ?_; (with_reducible refine (spec_l12Own.calls a0_0 a0_1 _ _ l0_2 _ _ l0_3 a0_4 t4 t5 t6 t7 t8 _ ?side1 ?side2 ?side3 ?side4 A2.out).mono ?_); (case side1 => exact b6n8_); (case side2 => exact HC0_2.out); (case side3 => exact bkan_); (case side4 => exact HC0_3.out); rintro e w4 ⟨v1, v4, rfl, ho0, ho1, hb⟩; refine ⟨_, rfl, ?_⟩; have HO1 := A0_ (Kd.R_lower ho0 (bz_ b850_)); have HO2 := A0_ (Kd.R_lower ho1 (bz_ b850_)); replace BK1 := k1_ BK1 hb; replace BK2 := k1_ BK2 hb; replace BK3 := k1_ BK3 hb; replace HB := hb_ hb b850_; (try clear hb); (try clear ho0); (try clear ho1)) | ((with_reducible refine gd_ (N := 5) rfl ?_); refine bx_ 5 #[.int .i64 0, .bool false, .slice none 0 0, .slice none 0 0, .int .i64 0] 32 ?_; intro gb4 hg w5 BK4 hb; replace HO1 := A0_ (Kd.R_below bsm5_ hb); replace HO2 := A0_ (Kd.R_below b9so_ hb); have GW4 := ge_ hg b850_; have GE4 := GW4; replace HB := hb_ hb b850_; have NB1_4 := nl_ hg BK1; have NB4_1 := ng_ hg BK1; replace BK1 := k1_ BK1 hb; have NB2_4 := nl_ hg BK2; have NB4_2 := ng_ hg BK2; replace BK2 := k1_ BK2 hb; have NB3_4 := nl_ hg BK3; have NB4_3 := ng_ hg BK3; replace BK3 := k1_ BK3 hb; clear hb hg; have hnb3 := NB4_1.out; have hnc3 := NB1_4.out; have hnb4 := NB4_2.out; have hnc4 := NB2_4.out; have hnb5 := NB4_3.out; have hnc5 := NB3_4.out; have hcz2 := z5_ BK4; obtain ⟨Ao1, co1, eo1⟩ := Kd.R_slice HO1.out; subst eo1; obtain ⟨Ao2, co2, eo2⟩ := Kd.R_slice HO2.out; subst eo2; have hnb6 := NB2_3.out; have hnc6 := NB3_2.out; have hcz3_0 : w5.cell? ⟨gb2, 0, none⟩ = some (.int .i64 a1_0) := (kc_ BK2.out 0).trans rfl; have hcz3_1 : w5.cell? ⟨gb2, 1, none⟩ = some (.int .i64 a1_1) := (kc_ BK2.out 1).trans rfl; have hcz3_2 : w5.cell? ⟨gb2, 2, none⟩ = some (.int .i64 a1_2) := (kc_ BK2.out 2).trans rfl; have hfz3_0 := kf_ BK2.out 0; have hfz3_1 := kf_ BK2.out 1; have hfz3_2 := kf_ BK2.out 2))
 have n0_ : Aside0 (Kd.R (Kd.int .i64) 3 (((((w5.setCell ⟨gb4, 0, none⟩ (.int .i64 t4)).setCell ⟨gb4, 1, none⟩ (.bool t5)).setCell ⟨gb4, 2, none⟩ (.slice Ao1 t6.length co1)).setCell ⟨gb4, 3, none⟩ (.slice Ao2 t7.length co2)).setCell ⟨gb4, 4, none⟩ (.int .i64 t8)) w.heap.size (fun k_ => no_ (.slice Ao2 t7.length co2) k_) (.slice Ao1 t6.length co1) t6) := ⟨bha5_⟩
 have n1_ : Aside0 (Kd.R (Kd.int .i64) 3 (((((w5.setCell ⟨gb4, 0, none⟩ (.int .i64 t4)).setCell ⟨gb4, 1, none⟩ (.bool t5)).setCell ⟨gb4, 2, none⟩ (.slice Ao1 t6.length co1)).setCell ⟨gb4, 3, none⟩ (.slice Ao2 t7.length co2)).setCell ⟨gb4, 4, none⟩ (.int .i64 t8)) w.heap.size (fun k_ => no_ (.slice Ao1 t6.length co1) k_) (.slice Ao2 t7.length co2) t7) := ⟨bk8z_⟩
 have n2_ : Aside0 ((((((w5.setCell ⟨gb4, 0, none⟩ (.int .i64 t4)).setCell ⟨gb4, 1, none⟩ (.bool t5)).setCell ⟨gb4, 2, none⟩ (.slice Ao1 t6.length co1)).setCell ⟨gb4, 3, none⟩ (.slice Ao2 t7.length co2)).setCell ⟨gb4, 4, none⟩ (.int .i64 t8)).heap[gb1]? = some (.cells #[.int .i64 a0_0, .bool a0_1, .slice A0_2 l0_2.length c0_2, .slice A0_3 l0_3.length c0_3, .int .i64 a0_4] 32 (0, 0))) := ⟨u1_ BK1⟩
 have n3_ : Aside0 ((((((w5.setCell ⟨gb4, 0, none⟩ (.int .i64 t4)).setCell ⟨gb4, 1, none⟩ (.bool t5)).setCell ⟨gb4, 2, none⟩ (.slice Ao1 t6.length co1)).setCell ⟨gb4, 3, none⟩ (.slice Ao2 t7.length co2)).setCell ⟨gb4, 4, none⟩ (.int .i64 t8)).heap[gb2]? = some (.cells #[.int .i64 a1_0, .int .i64 a1_1, .int .i64 a1_2] 50 (0, 0))) := ⟨u1_ BK2⟩
 have n4_ : Aside0 ((((((w5.setCell ⟨gb4, 0, none⟩ (.int .i64 t4)).setCell ⟨gb4, 1, none⟩ (.bool t5)).setCell ⟨gb4, 2, none⟩ (.slice Ao1 t6.length co1)).setCell ⟨gb4, 3, none⟩ (.slice Ao2 t7.length co2)).setCell ⟨gb4, 4, none⟩ (.int .i64 t8)).heap[gb3]? = some (.cells #[.int .i64 0, .bool false, .slice none 0 0, .slice none 0 0, .int .i64 0] 32 (0, 0))) := ⟨u1_ BK3⟩
 have n5_ : Aside0 ((((((w5.setCell ⟨gb4, 0, none⟩ (.int .i64 t4)).setCell ⟨gb4, 1, none⟩ (.bool t5)).setCell ⟨gb4, 2, none⟩ (.slice Ao1 t6.length co1)).setCell ⟨gb4, 3, none⟩ (.slice Ao2 t7.length co2)).setCell ⟨gb4, 4, none⟩ (.int .i64 t8)).heap[gb4]? = some (.cells #[.int .i64 t4, .bool t5, .slice Ao1 t6.length co1, .slice Ao2 t7.length co2, .int .i64 t8] 32 (0, 0))) := ⟨u1_ BK4⟩
 have n6_ : Aside0 (Below w.heap.size w (((((w5.setCell ⟨gb4, 0, none⟩ (.int .i64 t4)).setCell ⟨gb4, 1, none⟩ (.bool t5)).setCell ⟨gb4, 2, none⟩ (.slice Ao1 t6.length co1)).setCell ⟨gb4, 3, none⟩ (.slice Ao2 t7.length co2)).setCell ⟨gb4, 4, none⟩ (.int .i64 t8))) := ⟨b2i7_⟩
 (try clear HO1)
 (try clear HO2)
 (try clear BK1)
 (try clear BK2)
 (try clear BK3)
 (try clear BK4)
 (try clear HB)
 generalize (((((w5.setCell ⟨gb4, 0, none⟩ (.int .i64 t4)).setCell ⟨gb4, 1, none⟩ (.bool t5)).setCell ⟨gb4, 2, none⟩ (.slice Ao1 t6.length co1)).setCell ⟨gb4, 3, none⟩ (.slice Ao2 t7.length co2)).setCell ⟨gb4, 4, none⟩ (.int .i64 t8)) = w6 at n0_ n1_ n2_ n3_ n4_ n5_ n6_ ⊢
 have HO1 := n0_
 have HO2 := n1_
 have BK1 := n2_
 have BK2 := n3_
 have BK3 := n4_
 have BK4 := n5_
 have HB := n6_
 clear n0_ n1_ n2_ n3_ n4_ n5_ n6_
 replace HO1 := A0_ (rd_ HO1.out)
 replace HO2 := A0_ (rd_ HO2.out)
 replace BK1 := A0_ (kd_ BK1.out)
 replace BK2 := A0_ (kd_ BK2.out)
 replace BK3 := A0_ (kd_ BK3.out)
 replace BK4 := A0_ (kd_ BK4.out)
 replace HB := A0_ (bd_ HB.out)
 refine start_ (n := 10) (S := fun w' => w'.cell? ⟨gb4, 0, none⟩ = some (.int .i64 t4) ∧ w'.cell? ⟨gb4, 1, none⟩ = some (.bool t5) ∧ w'.cell? ⟨gb4, 2, none⟩ = some (.slice Ao1 t6.length co1) ∧ w'.cell? ⟨gb4, 3, none⟩ = some (.slice Ao2 t7.length co2) ∧ w'.cell? ⟨gb4, 4, none⟩ = some (.int .i64 t8) ∧ w'.cell? ⟨gb2, 0, none⟩ = some (.int .i64 a1_0) ∧ w'.cell? ⟨gb2, 1, none⟩ = some (.int .i64 a1_1) ∧ w'.cell? ⟨gb2, 2, none⟩ = some (.int .i64 a1_2)) (ds := [9]) #[false, false, false, false, false, false, false, false, false, false] bfqv_ rfl rfl ⟨(kc_ BK4.out 0).trans rfl, (kc_ BK4.out 1).trans rfl, (kc_ BK4.out 2).trans rfl, (kc_ BK4.out 3).trans rfl, (kc_ BK4.out 4).trans rfl, (kc_ BK2.out 0).trans rfl, (kc_ BK2.out 1).trans rfl, (kc_ BK2.out 2).trans rfl⟩ (fun hHeld => ?_); refine with_tabW spec_l12Make.tab12 spec_l12Make.bits12 (fun HT_ HW_ => ?_)
 generalize w6.drew = w7 at HO1 HO2 BK1 BK2 BK3 BK4 HB hHeld ⊢
 refine pu_ 0 52 ?_
 refine pu_ 2 54 ?_
 refine pu_ 5 57 ?_
 refine tk_ 1 53 hHeld ?_
 refine tk_ 3 55 hHeld ?_
 refine tk_ 6 58 hHeld ?_
 refine on_ 4 (some 56) (fun K hK => ?_)
 refine gs_ Tryz.func92 #[.agg #[.int .i64 t4, .bool t5, .slice Ao1 t6.length co1], .int .i64 a1_1] ?_
 with_reducible refine (spec_l2Without.calls k t4 t5 _ _ t6 a1_1 t9 t10 t11 _ ?side1 ?side2 A4.out).mono ?_
 (case side1 => exact bayy_)
 (case side2 => exact (rr_ HO1.out).2.1)
 rintro e w8 ⟨v5, rfl, ho0, hb⟩
 refine ⟨_, rfl, ?_⟩
 have HO3 := A0_ (Kd.R_lower (Kd.R_new' (Kd.R_new' ho0 (Kd.R_lt bsm5_)) (Kd.R_lt b9so_)) (bz_ b2i7_))
 replace HO1 := A0_ (Kd.R_elder' bsm5_ (Kd.R_base ho0) hb)
 replace HO2 := A0_ (Kd.R_elder' b9so_ (Kd.R_base ho0) hb)
 replace BK1 := k1_ BK1 hb
 replace BK2 := k1_ BK2 hb
 replace BK3 := k1_ BK3 hb
 replace BK4 := k1_ BK4 hb
 replace HB := hb_ hb b2i7_
 (try clear hb); (try clear ho0)
 obtain ⟨Ao3, co3, eo3⟩ := Kd.R_slice HO3.out
 (first | subst eo3 | (injection eo3 with f1_ f2_ f3_; have f4_ := f1_.symm; have f5_ := f3_.symm; clear f1_ f2_ f3_; subst f4_; subst f5_))
 refine hK.out _ _ ⟨(kc_ BK4.out 0).trans rfl, (kc_ BK4.out 1).trans rfl, (kc_ BK4.out 2).trans rfl, (kc_ BK4.out 3).trans rfl, (kc_ BK4.out 4).trans rfl, (kc_ BK2.out 0).trans rfl, (kc_ BK2.out 1).trans rfl, (kc_ BK2.out 2).trans rfl⟩ (fun hHeld => ?_)
 clear hK K
 refine nm_ 56 ?_
 refine on_ 7 (some 59) (fun K hK => ?_)
 refine gs_ Tryz.func93 #[.agg #[.int .i64 t9, .bool t10, .slice Ao3 t11.length co3], .int .i64 a1_2] ?_
 with_reducible refine (spec_l2With.calls k t9 t10 _ _ t11 a1_2 t12 t13 t14 _ ?side1 ?side2 A6.out).mono ?_
 (case side1 => exact be4z_)
 (case side2 => exact (rr_ HO3.out).2.1)
 rintro e w9 ⟨v6, rfl, ho0, hb⟩
 refine ⟨_, rfl, ?_⟩
 have HO4 := A0_ (Kd.R_lower (Kd.R_new' (Kd.R_new' (Kd.R_new' ho0 (Kd.R_lt bsm5_)) (Kd.R_lt b9so_)) (Kd.R_lt buiy_)) (bz_ b2i7_))
 replace HO1 := A0_ (Kd.R_elder' bsm5_ (Kd.R_base ho0) hb)
 replace HO2 := A0_ (Kd.R_elder' b9so_ (Kd.R_base ho0) hb)
 replace HO3 := A0_ (Kd.R_elder' buiy_ (Kd.R_base ho0) hb)
 replace BK1 := k1_ BK1 hb
 replace BK2 := k1_ BK2 hb
 replace BK3 := k1_ BK3 hb
 replace BK4 := k1_ BK4 hb
 replace HB := hb_ hb b2i7_
 (try clear hb); (try clear ho0)
 obtain ⟨Ao4, co4, eo4⟩ := Kd.R_slice HO4.out
 (first | subst eo4 | (injection eo4 with f1_ f2_ f3_; have f4_ := f1_.symm; have f5_ := f3_.symm; clear f1_ f2_ f3_; subst f4_; subst f5_))
 refine hK.out _ _ ⟨(kc_ BK4.out 0).trans rfl, (kc_ BK4.out 1).trans rfl, (kc_ BK4.out 2).trans rfl, (kc_ BK4.out 3).trans rfl, (kc_ BK4.out 4).trans rfl, (kc_ BK2.out 0).trans rfl, (kc_ BK2.out 1).trans rfl, (kc_ BK2.out 2).trans rfl⟩ (fun hHeld => ?_)
 clear hK K
 refine nm_ 59 ?_
 refine pu_ 8 60 ?_
 refine last_ (i := 9) (N := none) #[true, true, true, true, true, true, true, true, true, true] rfl rfl (one_of HT_.out bfqv_) bi3y_ (fun K hK => ?_)
 have hs126 : w9.cell? ⟨gb4, 0, none⟩ = some (.int .i64 t4) := (kc_ BK4.out 0).trans rfl
 have hfs126 := kf_ BK4.out 0
 have hns1_0 := NB1_4.out
 have hns1_1 := NB2_4.out
 have hns1_2 := NB3_4.out
 have hms1_0 := NB4_1.out
 have hms1_1 := NB4_2.out
 have hms1_2 := NB4_3.out
 have hs127 : w9.cell? ⟨gb4, 1, none⟩ = some (.bool t5) := (kc_ BK4.out 1).trans rfl
 have hfs127 := kf_ BK4.out 1
 have hns2_0 := NB1_4.out
 have hns2_1 := NB2_4.out
 have hns2_2 := NB3_4.out
 have hms2_0 := NB4_1.out
 have hms2_1 := NB4_2.out
 have hms2_2 := NB4_3.out
 have hs129 : w9.cell? ⟨gb4, 2, none⟩ = some (.slice Ao1 t6.length co1) := (kc_ BK4.out 2).trans rfl
 have hfs129 := kf_ BK4.out 2
 have hns3_0 := NB1_4.out
 have hns3_1 := NB2_4.out
 have hns3_2 := NB3_4.out
 have hms3_0 := NB4_1.out
 have hms3_1 := NB4_2.out
 have hms3_2 := NB4_3.out
 refine skip_ (w1 := ?_) (by rfl) rfl ?_ ?_
 rotate_left
 ·go_simp
  rfl
 refine hK.out _ _ ?_
 clear hK K
 refine dn_ ?_
 try go_wp2
 have n0_ : Aside0 (Kd.R (Kd.int .i64) 3 (((w9.setCell ⟨gb4, 0, none⟩ (.int .i64 t12)).setCell ⟨gb4, 1, none⟩ (.bool t13)).setCell ⟨gb4, 2, none⟩ (.slice Ao4 t14.length co4)) w.heap.size (fun k_ => no_ (.slice Ao2 t7.length co2) k_ ∧ no_ (.slice Ao3 t11.length co3) k_ ∧ no_ (.slice Ao4 t14.length co4) k_) (.slice Ao1 t6.length co1) t6) := ⟨by (with_reducible repeat (first | apply ra_ | apply rn_ | apply rd_)); exact Kd.R_mono (rf_ (rf_ (rf_ (Kd.R_types HO1.out BK4.out bi3y_) k2_0 _) k2_0 _) k2_0 _) (fun _ hk => ⟨hk.1.1.1, ⟨hk.1.1.2, hk.1.2⟩⟩)⟩
 have n1_ : Aside0 (Kd.R (Kd.int .i64) 3 (((w9.setCell ⟨gb4, 0, none⟩ (.int .i64 t12)).setCell ⟨gb4, 1, none⟩ (.bool t13)).setCell ⟨gb4, 2, none⟩ (.slice Ao4 t14.length co4)) w.heap.size (fun k_ => no_ (.slice Ao1 t6.length co1) k_ ∧ no_ (.slice Ao3 t11.length co3) k_ ∧ no_ (.slice Ao4 t14.length co4) k_) (.slice Ao2 t7.length co2) t7) := ⟨by (with_reducible repeat (first | apply ra_ | apply rn_ | apply rd_)); exact Kd.R_mono (rf_ (rf_ (rf_ (Kd.R_types HO2.out BK4.out bi3y_) k2_0 _) k2_0 _) k2_0 _) (fun _ hk => ⟨hk.1.1.1, ⟨hk.1.1.2, hk.1.2⟩⟩)⟩
 have n2_ : Aside0 (Kd.R (Kd.int .i64) 3 (((w9.setCell ⟨gb4, 0, none⟩ (.int .i64 t12)).setCell ⟨gb4, 1, none⟩ (.bool t13)).setCell ⟨gb4, 2, none⟩ (.slice Ao4 t14.length co4)) w.heap.size (fun k_ => no_ (.slice Ao1 t6.length co1) k_ ∧ no_ (.slice Ao2 t7.length co2) k_ ∧ no_ (.slice Ao4 t14.length co4) k_) (.slice Ao3 t11.length co3) t11) := ⟨by (with_reducible repeat (first | apply ra_ | apply rn_ | apply rd_)); exact Kd.R_mono (rf_ (rf_ (rf_ (Kd.R_types HO3.out BK4.out bi3y_) k2_0 _) k2_0 _) k2_0 _) (fun _ hk => ⟨hk.1.1.1.2, ⟨hk.1.1.2, hk.1.2⟩⟩)⟩
 have n3_ : Aside0 (Kd.R (Kd.int .i64) 3 (((w9.setCell ⟨gb4, 0, none⟩ (.int .i64 t12)).setCell ⟨gb4, 1, none⟩ (.bool t13)).setCell ⟨gb4, 2, none⟩ (.slice Ao4 t14.length co4)) w.heap.size (fun k_ => no_ (.slice Ao1 t6.length co1) k_ ∧ no_ (.slice Ao2 t7.length co2) k_ ∧ no_ (.slice Ao3 t11.length co3) k_) (.slice Ao4 t14.length co4) t14) := ⟨by (with_reducible repeat (first | apply ra_ | apply rn_ | apply rd_)); exact Kd.R_mono (rf_ (rf_ (rf_ (Kd.R_types HO4.out BK4.out bi3y_) k2_0 _) k2_0 _) k2_0 _) (fun _ hk => ⟨hk.1.1.1.2, ⟨hk.1.1.2, hk.1.2⟩⟩)⟩
 have n4_ : Aside0 ((((w9.setCell ⟨gb4, 0, none⟩ (.int .i64 t12)).setCell ⟨gb4, 1, none⟩ (.bool t13)).setCell ⟨gb4, 2, none⟩ (.slice Ao4 t14.length co4)).heap[gb1]? = some (.cells #[.int .i64 a0_0, .bool a0_1, .slice A0_2 l0_2.length c0_2, .slice A0_3 l0_3.length c0_3, .int .i64 a0_4] 32 (0, 0))) := ⟨u1_ BK1⟩
 have n5_ : Aside0 ((((w9.setCell ⟨gb4, 0, none⟩ (.int .i64 t12)).setCell ⟨gb4, 1, none⟩ (.bool t13)).setCell ⟨gb4, 2, none⟩ (.slice Ao4 t14.length co4)).heap[gb2]? = some (.cells #[.int .i64 a1_0, .int .i64 a1_1, .int .i64 a1_2] 50 (0, 0))) := ⟨u1_ BK2⟩
 have n6_ : Aside0 ((((w9.setCell ⟨gb4, 0, none⟩ (.int .i64 t12)).setCell ⟨gb4, 1, none⟩ (.bool t13)).setCell ⟨gb4, 2, none⟩ (.slice Ao4 t14.length co4)).heap[gb3]? = some (.cells #[.int .i64 0, .bool false, .slice none 0 0, .slice none 0 0, .int .i64 0] 32 (0, 0))) := ⟨u1_ BK3⟩
 have n7_ : Aside0 ((((w9.setCell ⟨gb4, 0, none⟩ (.int .i64 t12)).setCell ⟨gb4, 1, none⟩ (.bool t13)).setCell ⟨gb4, 2, none⟩ (.slice Ao4 t14.length co4)).heap[gb4]? = some (.cells #[.int .i64 t12, .bool t13, .slice Ao4 t14.length co4, .slice Ao2 t7.length co2, .int .i64 t8] 32 (0, 0))) := ⟨u1_ BK4⟩
 have n8_ : Aside0 (Below w.heap.size w (((w9.setCell ⟨gb4, 0, none⟩ (.int .i64 t12)).setCell ⟨gb4, 1, none⟩ (.bool t13)).setCell ⟨gb4, 2, none⟩ (.slice Ao4 t14.length co4))) := ⟨b2i7_⟩
 (try clear HO1)
 (try clear HO2)
 (try clear HO3)
 (try clear HO4)
 (try clear BK1)
 (try clear BK2)
 (try clear BK3)
 (try clear BK4)
 (try clear HB)
 generalize (((w9.setCell ⟨gb4, 0, none⟩ (.int .i64 t12)).setCell ⟨gb4, 1, none⟩ (.bool t13)).setCell ⟨gb4, 2, none⟩ (.slice Ao4 t14.length co4)) = w10 at n0_ n1_ n2_ n3_ n4_ n5_ n6_ n7_ n8_ ⊢
 have HO1 := n0_
 have HO2 := n1_
 have HO3 := n2_
 have HO4 := n3_
 have BK1 := n4_
 have BK2 := n5_
 have BK3 := n6_
 have BK4 := n7_
 have HB := n8_
 clear n0_ n1_ n2_ n3_ n4_ n5_ n6_ n7_ n8_
 replace HO1 := A0_ (rd_ HO1.out)
 replace HO2 := A0_ (rd_ HO2.out)
 replace HO3 := A0_ (rd_ HO3.out)
 replace HO4 := A0_ (rd_ HO4.out)
 replace BK1 := A0_ (kd_ BK1.out)
 replace BK2 := A0_ (kd_ BK2.out)
 replace BK3 := A0_ (kd_ BK3.out)
 replace BK4 := A0_ (kd_ BK4.out)
 replace HB := A0_ (bd_ HB.out)
 refine start_ (n := 11) (S := fun w' => w'.cell? ⟨gb4, 0, none⟩ = some (.int .i64 t12) ∧ w'.cell? ⟨gb4, 1, none⟩ = some (.bool t13) ∧ w'.cell? ⟨gb4, 2, none⟩ = some (.slice Ao4 t14.length co4) ∧ w'.cell? ⟨gb4, 3, none⟩ = some (.slice Ao2 t7.length co2) ∧ w'.cell? ⟨gb4, 4, none⟩ = some (.int .i64 t8) ∧ w'.cell? ⟨gb1, 0, none⟩ = some (.int .i64 a0_0) ∧ w'.cell? ⟨gb1, 1, none⟩ = some (.bool a0_1) ∧ w'.cell? ⟨gb1, 2, none⟩ = some (.slice A0_2 l0_2.length c0_2) ∧ w'.cell? ⟨gb1, 3, none⟩ = some (.slice A0_3 l0_3.length c0_3) ∧ w'.cell? ⟨gb1, 4, none⟩ = some (.int .i64 a0_4) ∧ w'.cell? ⟨gb2, 0, none⟩ = some (.int .i64 a1_0) ∧ w'.cell? ⟨gb2, 1, none⟩ = some (.int .i64 a1_1) ∧ w'.cell? ⟨gb2, 2, none⟩ = some (.int .i64 a1_2)) (ds := [10]) #[false, false, false, false, false, false, false, false, false, false, false] bfqv_ rfl rfl ⟨(kc_ BK4.out 0).trans rfl, (kc_ BK4.out 1).trans rfl, (kc_ BK4.out 2).trans rfl, (kc_ BK4.out 3).trans rfl, (kc_ BK4.out 4).trans rfl, (kc_ BK1.out 0).trans rfl, (kc_ BK1.out 1).trans rfl, (kc_ BK1.out 2).trans rfl, (kc_ BK1.out 3).trans rfl, (kc_ BK1.out 4).trans rfl, (kc_ BK2.out 0).trans rfl, (kc_ BK2.out 1).trans rfl, (kc_ BK2.out 2).trans rfl⟩ (fun hHeld => ?_); refine with_tabW spec_l12Make.tab13 spec_l12Make.bits13 (fun HT_ HW_ => ?_)
 generalize w10.drew = w11 at HO1 HO2 HO3 HO4 BK1 BK2 BK3 BK4 HB hHeld ⊢
 refine pu_ 0 61 ?_
 refine pu_ 2 63 ?_
 refine pu_ 4 65 ?_
 refine pu_ 7 68 ?_
 refine tk_ 1 62 hHeld ?_
 refine tk_ 3 64 hHeld ?_
 refine tk_ 5 66 hHeld ?_
 refine tk_ 8 69 hHeld ?_
 refine on_ 6 (some 67) (fun K hK => ?_)
 refine gs_ Tryz.func91 #[.slice A0_3 l0_3.length c0_3, .int .i64 a1_1] ?_
 with_reducible refine (spec_l12Place.calls k _ _ l0_3 a1_1 t3 _ ?side1 ?side2 A8.out).mono ?_
 (case side1 => exact bkan_)
 (case side2 => exact HC0_3.out)
 rintro e w' ⟨rfl, ⟨nd, rfl⟩⟩
 refine ⟨_, rfl, ?_⟩
 have m0_ := A0_ (rn_ HO1.out nd)
 have m1_ := A0_ (rn_ HO2.out nd)
 have m2_ := A0_ (rn_ HO3.out nd)
 have m3_ := A0_ (rn_ HO4.out nd)
 have m4_ := A0_ (kn_ BK1.out nd)
 have m5_ := A0_ (kn_ BK2.out nd)
 have m6_ := A0_ (kn_ BK3.out nd)
 have m7_ := A0_ (kn_ BK4.out nd)
 have m8_ := A0_ (bn_ HB.out nd)
 clear HO1
 clear HO2
 clear HO3
 clear HO4
 clear BK1
 clear BK2
 clear BK3
 clear BK4
 clear HB
 have HO1 := m0_
 have HO2 := m1_
 have HO3 := m2_
 have HO4 := m3_
 have BK1 := m4_
 have BK2 := m5_
 have BK3 := m6_
 have BK4 := m7_
 have HB := m8_
 clear m0_ m1_ m2_ m3_ m4_ m5_ m6_ m7_ m8_
 generalize World.drewN _ nd = wq1_ at HO1 HO2 HO3 HO4 BK1 BK2 BK3 BK4 HB ⊢
 have p1 : 0 ≤ (t3 : Int) := od_ bpil_
 have q1 : (t3 : Int) < ((t7.length : Int) : Int) := od_ bpil_
 obtain ⟨go104, co5, eo5, gb5, gl104, cl104, HG104⟩ := Kd.R_form HO2.out bh19_
 (first | cases eo5 | (injection eo5 with ea_ en_ ec_; (first | subst ea_ | (injection ea_ with ea_; subst ea_)); subst ec_; clear en_))
 have GB104 := A0_ gb5
 have GG104 := A0_ HG104
 clear gb5 gl104 HG104
 obtain ⟨hx1_0, hf1_0⟩ := Kd.R_celln 0 HO2.out (t3 : Int) p1 q1
 replace p1 := eq_true p1
 replace q1 := eq_true q1
 have HP1 := Kd.R_putn HO2.out (t3 : Int) a1_2
 rw [← Ny1.out] at HP1
 have HQ132 := A0_ HP1
 clear HP1
 refine hK.out _ _ ⟨(kc_ BK4.out 0).trans rfl, (kc_ BK4.out 1).trans rfl, (kc_ BK4.out 2).trans rfl, (kc_ BK4.out 3).trans rfl, (kc_ BK4.out 4).trans rfl, (kc_ BK1.out 0).trans rfl, (kc_ BK1.out 1).trans rfl, (kc_ BK1.out 2).trans rfl, (kc_ BK1.out 3).trans rfl, (kc_ BK1.out 4).trans rfl, (kc_ BK2.out 0).trans rfl, (kc_ BK2.out 1).trans rfl, (kc_ BK2.out 2).trans rfl⟩ (fun hHeld => ?_)
 clear hK K
 refine nm_ 67 ?_
 refine pu_ 9 70 ?_
 refine last_ (i := 10) (N := none) #[true, true, true, true, true, true, true, true, true, true, true] rfl rfl (one_of HT_.out bfqv_) bi3y_ (fun K hK => ?_)
 refine skip_ (w1 := ?_) (by rfl) rfl ?_ ?_
 rotate_left
 ·go_simp
  rfl
 refine hK.out _ _ ?_
 clear hK K
 refine dn_ ?_
 have n0_ : Aside0 (Kd.R (Kd.int .i64) 3 (wq1_.setCell ⟨go104, (t3 : Int).toNat, none⟩ (.int .i64 a1_2)) w.heap.size (fun k_ => some k_ ≠ (.slice (some ⟨go104, 0, none⟩) t7.length co2 : Value).ownBlock ∧ no_ (.slice Ao3 t11.length co3) k_ ∧ no_ (.slice Ao4 t14.length co4) k_) (.slice Ao1 t6.length co1) t6) := ⟨by (with_reducible repeat (first | apply ra_ | apply rn_ | apply rd_)); exact Kd.R_mono (Kd.R_far (p := ⟨go104, (t3 : Int).toNat, none⟩) (Kd.R_mono HO1.out (fun k_ hk => (⟨hk, fun e_ => hk.1 (by rw [e_]; rfl)⟩ : _ ∧ k_ ≠ go104))) k2_0 _) (fun _ hk => ⟨hk.1.1, ⟨hk.1.2.1, hk.1.2.2⟩⟩)⟩
 have n1_ : Aside0 (Kd.R (Kd.int .i64) 3 (wq1_.setCell ⟨go104, (t3 : Int).toNat, none⟩ (.int .i64 a1_2)) w.heap.size (fun k_ => no_ (.slice Ao1 t6.length co1) k_ ∧ no_ (.slice Ao3 t11.length co3) k_ ∧ no_ (.slice Ao4 t14.length co4) k_) (.slice (some ⟨go104, 0, none⟩) t7.length co2) y1) := ⟨by (with_reducible repeat (first | apply ra_ | apply rn_ | apply rd_)); exact HQ132.out⟩
 have n2_ : Aside0 (Kd.R (Kd.int .i64) 3 (wq1_.setCell ⟨go104, (t3 : Int).toNat, none⟩ (.int .i64 a1_2)) w.heap.size (fun k_ => no_ (.slice Ao1 t6.length co1) k_ ∧ some k_ ≠ (.slice (some ⟨go104, 0, none⟩) t7.length co2 : Value).ownBlock ∧ no_ (.slice Ao4 t14.length co4) k_) (.slice Ao3 t11.length co3) t11) := ⟨by (with_reducible repeat (first | apply ra_ | apply rn_ | apply rd_)); exact Kd.R_mono (Kd.R_far (p := ⟨go104, (t3 : Int).toNat, none⟩) (Kd.R_mono HO3.out (fun k_ hk => (⟨hk, fun e_ => hk.2.1 (by rw [e_]; rfl)⟩ : _ ∧ k_ ≠ go104))) k2_0 _) (fun _ hk => ⟨hk.1.1, ⟨hk.1.2.1, hk.1.2.2⟩⟩)⟩
 have n3_ : Aside0 (Kd.R (Kd.int .i64) 3 (wq1_.setCell ⟨go104, (t3 : Int).toNat, none⟩ (.int .i64 a1_2)) w.heap.size (fun k_ => no_ (.slice Ao1 t6.length co1) k_ ∧ some k_ ≠ (.slice (some ⟨go104, 0, none⟩) t7.length co2 : Value).ownBlock ∧ no_ (.slice Ao3 t11.length co3) k_) (.slice Ao4 t14.length co4) t14) := ⟨by (with_reducible repeat (first | apply ra_ | apply rn_ | apply rd_)); exact Kd.R_mono (Kd.R_far (p := ⟨go104, (t3 : Int).toNat, none⟩) (Kd.R_mono HO4.out (fun k_ hk => (⟨hk, fun e_ => hk.2.1 (by rw [e_]; rfl)⟩ : _ ∧ k_ ≠ go104))) k2_0 _) (fun _ hk => ⟨hk.1.1, ⟨hk.1.2.1, hk.1.2.2⟩⟩)⟩
 have n4_ : Aside0 ((wq1_.setCell ⟨go104, (t3 : Int).toNat, none⟩ (.int .i64 a1_2)).heap[gb1]? = some (.cells #[.int .i64 a0_0, .bool a0_1, .slice A0_2 l0_2.length c0_2, .slice A0_3 l0_3.length c0_3, .int .i64 a0_4] 32 (0, 0))) := ⟨by (with_reducible repeat (first | apply kn_ | apply kd_ | apply ka_)); refine blk_far ?_ (by have h_ := Kd.R_ne HO2.out BK1.out bi3y_; intro e_; exact h_ (by rw [e_]; rfl)) _; (with_reducible repeat (first | apply kn_ | apply kd_ | apply ka_)); exact BK1.out⟩
 have n5_ : Aside0 ((wq1_.setCell ⟨go104, (t3 : Int).toNat, none⟩ (.int .i64 a1_2)).heap[gb2]? = some (.cells #[.int .i64 a1_0, .int .i64 a1_1, .int .i64 a1_2] 50 (0, 0))) := ⟨by (with_reducible repeat (first | apply kn_ | apply kd_ | apply ka_)); refine blk_far ?_ (by have h_ := Kd.R_ne HO2.out BK2.out bi3y_; intro e_; exact h_ (by rw [e_]; rfl)) _; (with_reducible repeat (first | apply kn_ | apply kd_ | apply ka_)); exact BK2.out⟩
 have n6_ : Aside0 ((wq1_.setCell ⟨go104, (t3 : Int).toNat, none⟩ (.int .i64 a1_2)).heap[gb3]? = some (.cells #[.int .i64 0, .bool false, .slice none 0 0, .slice none 0 0, .int .i64 0] 32 (0, 0))) := ⟨by (with_reducible repeat (first | apply kn_ | apply kd_ | apply ka_)); refine blk_far ?_ (by have h_ := Kd.R_ne HO2.out BK3.out bi3y_; intro e_; exact h_ (by rw [e_]; rfl)) _; (with_reducible repeat (first | apply kn_ | apply kd_ | apply ka_)); exact BK3.out⟩
 have n7_ : Aside0 ((wq1_.setCell ⟨go104, (t3 : Int).toNat, none⟩ (.int .i64 a1_2)).heap[gb4]? = some (.cells #[.int .i64 t12, .bool t13, .slice Ao4 t14.length co4, .slice (some ⟨go104, 0, none⟩) t7.length co2, .int .i64 t8] 32 (0, 0))) := ⟨by (with_reducible repeat (first | apply kn_ | apply kd_ | apply ka_)); refine blk_far ?_ (by have h_ := Kd.R_ne HO2.out BK4.out bi3y_; intro e_; exact h_ (by rw [e_]; rfl)) _; (with_reducible repeat (first | apply kn_ | apply kd_ | apply ka_)); exact BK4.out⟩
 have n8_ : Aside0 (Below w.heap.size w (wq1_.setCell ⟨go104, (t3 : Int).toNat, none⟩ (.int .i64 a1_2))) := ⟨by repeat (with_reducible first | exact HB.out | apply ba_ | apply bn_ | apply bd_ | refine bs_ ?_ GB104.out | refine bs_ ?_ GE1.out | refine bs_ ?_ GE2.out | refine bs_ ?_ GE3.out | refine bs_ ?_ GE4.out)⟩
 (try clear HO1)
 (try clear HO2)
 (try clear HO3)
 (try clear HO4)
 (try clear BK1)
 (try clear BK2)
 (try clear BK3)
 (try clear BK4)
 (try clear HB)
 generalize (wq1_.setCell ⟨go104, (t3 : Int).toNat, none⟩ (.int .i64 a1_2)) = w12 at n0_ n1_ n2_ n3_ n4_ n5_ n6_ n7_ n8_ ⊢
 have HO1 := n0_
 have HO2 := n1_
 have HO3 := n2_
 have HO4 := n3_
 have BK1 := n4_
 have BK2 := n5_
 have BK3 := n6_
 have BK4 := n7_
 have HB := n8_
 clear n0_ n1_ n2_ n3_ n4_ n5_ n6_ n7_ n8_
 have hcz4 := z5_ BK4
 have hcz5 := z5_ BK3
 try go_wp2
 refine bodyPost_ret (results_cell_row rfl _ _ gb3 32 #[.int .i64 t12, .bool t13, .slice Ao4 t14.length co4, .slice (some ⟨go104, 0, none⟩) t7.length co2, .int .i64 t8] (0, 0) _ rfl (u1_ BK3) Tryz.underlying32 rfl bfqv_) rfl ?_
 exact ⟨_, _, bnwh_, by (with_reducible repeat (first | apply ra_ | apply rn_ | apply rd_)); exact Kd.R_mono (rf_ (rf_ (rf_ (rf_ (rf_ (Kd.R_types HO4.out BK3.out bi3y_) k2_0 _) k2_0 _) k2_0 _) k2_0 _) k2_0 _) (fun _ hk => hk.1.2.1), by (with_reducible repeat (first | apply ra_ | apply rn_ | apply rd_)); exact Kd.R_mono (rf_ (rf_ (rf_ (rf_ (rf_ (Kd.R_types HO2.out BK3.out bi3y_) k2_0 _) k2_0 _) k2_0 _) k2_0 _) k2_0 _) (fun _ hk => hk.1.2.2), b2i7_⟩

def spec_l12Do.f (k : Nat) (a0_0 : Int) (a0_1 : Bool) (l0_2 : List Int) (l0_3 : List Int) (a0_4 : Int) (a1_0 : Int) (a1_1 : Int) (a1_2 : Int) : Option (Int × Bool × List Int × List Int × Int × Bool) := (spec_l12May.f k a0_0 a0_1 l0_2 l0_3 a0_4 a1_0 a1_1 a1_2).bind fun t301 => (if t301 = true then ((spec_l12Make.f k a0_0 a0_1 l0_2 l0_3 a0_4 a1_0 a1_1 a1_2).bind fun bt302 => ((spec_l12Own.f bt302.1 bt302.2.1 bt302.2.2.1 bt302.2.2.2.1 bt302.2.2.2.2).bind fun bt311 => ((spec_l12Good.f k bt311.1 bt311.2.1 bt311.2.2.1 bt311.2.2.2.1 (wrap64 (a0_4 + 1))).bind fun t321 => (if t321 = true then (some (bt311.1, bt311.2.1, bt311.2.2.1, bt311.2.2.2.1, wrap64 (a0_4 + 1), true)) else (some (0, false, ([] : List Int), ([] : List Int), 0, false)))))) else (some (0, false, ([] : List Int), ([] : List Int), 0, false)))
theorem spec_l12Do.mono : ∀ a0 a1 a2 a3 a4 a5 a6 a7 k, LeO (spec_l12Do.f k a0 a1 a2 a3 a4 a5 a6 a7) (spec_l12Do.f (k + 1) a0 a1 a2 a3 a4 a5 a6 a7) := by
 intro a0 a1 a2 a3 a4 a5 a6 a7 k
 unfold spec_l12Do.f
 repeat' with_reducible first | exact spec_l12Good.mono .. | exact spec_l12Make.mono .. | exact spec_l12May.mono .. | exact LeO.refl .. | exact LeO.none .. | refine LeO.ite ?_ ?_ | refine LeO.bind ?_ (fun _ => ?_)
theorem spec_l12Do.nameW {P : Program} {ops : Array Oper} {Q : Exit → Act → World → Prop} {l : List Oper} {a : Act} {W : World} (o : Obj) (g : Nat) (hB : W.heap[g]? = some o) (h : ∀ W_ : World, Aside0 (W_ = W) → Aside0 (W_.heap[g]? = some o) → wpList P ops Q l a W_) : wpList P ops Q l a W := h W ⟨rfl⟩ ⟨hB⟩
theorem spec_l12Do.calls (k : Nat) (a0_0 : Int) (a0_1 : Bool) (A0_2 : Option Addr) (c0_2 : Nat) (l0_2 : List Int) (A0_3 : Option Addr) (c0_3 : Nat) (l0_3 : List Int) (a0_4 : Int) (a1_0 : Int) (a1_1 : Int) (a1_2 : Int) (r1 : Int) (r2 : Bool) (r3 : List Int) (r4 : List Int) (r5 : Int) (r6 : Bool) (w : World) (hr0_2 : Kd.C (Kd.int .i64) w A0_2 l0_2.length l0_2) (hc0_2 : l0_2.length ≤ c0_2) (hr0_3 : Kd.C (Kd.int .i64) w A0_3 l0_3.length l0_3) (hc0_3 : l0_3.length ≤ c0_3) (h : spec_l12Do.f k a0_0 a0_1 l0_2 l0_3 a0_4 a1_0 a1_1 a1_2 = some (r1, r2, r3, r4, r5, r6)) :
  Calls Tryz.prog 34 #[.agg #[.int .i64 a0_0, .bool a0_1, .slice A0_2 l0_2.length c0_2, .slice A0_3 l0_3.length c0_3, .int .i64 a0_4], .agg #[.int .i64 a1_0, .int .i64 a1_1, .int .i64 a1_2]] w fun e w' => ∃ v2_ v3_ : Value, e = .returned (.tuple #[.agg #[.int .i64 r1, .bool r2, v2_, v3_, .int .i64 r5], .bool r6]) ∧ Kd.R (Kd.int .i64) 3 w' w.heap.size (fun k_ => no_ v3_ k_) v2_ r3 ∧ Kd.R (Kd.int .i64) 3 w' w.heap.size (fun k_ => no_ v2_ k_) v3_ r4 ∧ Below w.heap.size w w' := by
 have hu32 := Tryz.underlying32
 have hu50 := Tryz.underlying50
 have HR0_2 := A0_ hr0_2
 have HC0_2 := A0_ hc0_2
 clear hr0_2 hc0_2
 have HR0_3 := A0_ hr0_3
 have HC0_3 := A0_ hc0_3
 clear hr0_3 hc0_3
 have HB := A0_ (Below.refl w.heap.size w)
 have H : ((spec_l12May.f k a0_0 a0_1 l0_2 l0_3 a0_4 a1_0 a1_1 a1_2).bind fun t1 => (if t1 = true then ((spec_l12Make.f k a0_0 a0_1 l0_2 l0_3 a0_4 a1_0 a1_1 a1_2).bind fun bt1 => ((spec_l12Own.f bt1.1 bt1.2.1 bt1.2.2.1 bt1.2.2.2.1 bt1.2.2.2.2).bind fun bt2 => ((spec_l12Good.f k bt2.1 bt2.2.1 bt2.2.2.1 bt2.2.2.2.1 (wrap64 (a0_4 + 1))).bind fun t2 => (if t2 = true then (some (bt2.1, bt2.2.1, bt2.2.2.1, bt2.2.2.2.1, wrap64 (a0_4 + 1), true)) else (some (0, false, ([] : List Int), ([] : List Int), 0, false)))))) else (some (0, false, ([] : List Int), ([] : List Int), 0, false)))) = some (r1, r2, r3, r4, r5, r6) := h
 clear h
 obtain ⟨t1, A2, H⟩ := o1_ H
 by_cases c1 : t1 = true
 case neg =>
  obtain rfl := bf_.mpr c1
  rw [if_neg ft_] at H
  simp only [sj_, pj_] at H
  obtain ⟨rfl, rfl, rfl, rfl, rfl, rfl⟩ := H
  go_enter Tryz.func34, Tryz.ntmps34
  go_wp2_with (first | ((with_reducible refine gd_ (N := 2) rfl ?_); refine bx_ 2 #[.int .i64 a0_0, .bool a0_1, .slice A0_2 l0_2.length c0_2, .slice A0_3 l0_3.length c0_3, .int .i64 a0_4] 32 ?_; intro gb1 hg w1 BK1 hb; have GW1 := ge_ hg brt4_; have GE1 := GW1; replace HB := hb_ hb brt4_; clear hb hg) | ((with_reducible refine gd_ (N := 3) rfl ?_); refine bx_ 3 #[.int .i64 a1_0, .int .i64 a1_1, .int .i64 a1_2] 50 ?_; intro gb2 hg w2 BK2 hb; have GW2 := ge_ hg be6g_; have GE2 := GW2; replace HB := hb_ hb be6g_; have NB1_2 := nl_ hg BK1; have NB2_1 := ng_ hg BK1; replace BK1 := k1_ BK1 hb; clear hb hg) | ((with_reducible refine gd_ (N := 4) rfl ?_); refine bx_ 4 #[.int .i64 0, .bool false, .slice none 0 0, .slice none 0 0, .int .i64 0] 32 ?_; intro gb3 hg w3 BK3 hb; have GW3 := ge_ hg bfnq_; have GE3 := GW3; replace HB := hb_ hb bfnq_; have NB1_3 := nl_ hg BK1; have NB3_1 := ng_ hg BK1; replace BK1 := k1_ BK1 hb; have NB2_3 := nl_ hg BK2; have NB3_2 := ng_ hg BK2; replace BK2 := k1_ BK2 hb; clear hb hg; have hnb1 := NB1_2.out; have hnc1 := NB2_1.out; have hnb2 := NB1_3.out; have hnc2 := NB3_1.out; have hcz1 := z5_ BK1; have hnb3 := NB2_3.out; have hnc3 := NB3_2.out; have hcz2_0 : w3.cell? ⟨gb2, 0, none⟩ = some (.int .i64 a1_0) := (kc_ BK2.out 0).trans rfl; have hcz2_1 : w3.cell? ⟨gb2, 1, none⟩ = some (.int .i64 a1_1) := (kc_ BK2.out 1).trans rfl; have hcz2_2 : w3.cell? ⟨gb2, 2, none⟩ = some (.int .i64 a1_2) := (kc_ BK2.out 2).trans rfl; have hfz2_0 := kf_ BK2.out 0; have hfz2_1 := kf_ BK2.out 1; have hfz2_2 := kf_ BK2.out 2) | ((with_reducible refine gc_ (f := 68) rfl ?_); refine gl_ 9 Tryz.func68 #[.agg #[.int .i64 a0_0, .bool a0_1, .slice A0_2 l0_2.length c0_2, .slice A0_3 l0_3.length c0_3, .int .i64 a0_4], .agg #[.int .i64 a1_0, .int .i64 a1_1, .int .i64 a1_2]] ?_; (with_reducible refine (spec_l12May.calls k a0_0 a0_1 _ _ l0_2 _ _ l0_3 a0_4 a1_0 a1_1 a1_2 false _ ?side1 ?side2 ?side3 ?side4 A2.out).mono ?_); (case side1 => exact b6n8_); (case side2 => exact HC0_2.out); (case side3 => exact bkan_); (case side4 => exact HC0_3.out); rintro e w4 ⟨rfl, hb⟩; refine ⟨_, rfl, ?_⟩; replace BK1 := k1_ BK1 hb; replace BK2 := k1_ BK2 hb; replace BK3 := k1_ BK3 hb; replace HB := hb_ hb b850_; (try clear hb); have hcz3 := z5_ BK3))
  refine bodyPost_ret (results_ct rfl _ _ gb3 32 #[.int .i64 0, .bool false, .slice none 0 0, .slice none 0 0, .int .i64 0] (0, 0) _ rfl (u1_ BK3) Tryz.underlying32 rfl bfqv_) rfl ?_
  exact ⟨_, _, bnwh_, bwfe_, bwfe_, b850_⟩
 subst c1
 rw [if_pos rfl] at H
 obtain ⟨⟨t3, t4, t5, t6, t7⟩, A4, H⟩ := o1_ H
 obtain ⟨⟨t8, t9, t10, t11, t12⟩, A6, H⟩ := o1_ H
 obtain ⟨t2, A8, H⟩ := o1_ H
 by_cases c2 : t2 = true
 case neg =>
  obtain rfl := bf_.mpr c2
  rw [if_neg ft_] at H
  simp only [sj_, pj_] at H
  obtain ⟨rfl, rfl, rfl, rfl, rfl, rfl⟩ := H
  go_enter Tryz.func34, Tryz.ntmps34
  go_wp2_with (first | ((with_reducible refine gd_ (N := 2) rfl ?_); refine bx_ 2 #[.int .i64 a0_0, .bool a0_1, .slice A0_2 l0_2.length c0_2, .slice A0_3 l0_3.length c0_3, .int .i64 a0_4] 32 ?_; intro gb1 hg w1 BK1 hb; have GW1 := ge_ hg brt4_; have GE1 := GW1; replace HB := hb_ hb brt4_; clear hb hg) | ((with_reducible refine gd_ (N := 3) rfl ?_); refine bx_ 3 #[.int .i64 a1_0, .int .i64 a1_1, .int .i64 a1_2] 50 ?_; intro gb2 hg w2 BK2 hb; have GW2 := ge_ hg be6g_; have GE2 := GW2; replace HB := hb_ hb be6g_; have NB1_2 := nl_ hg BK1; have NB2_1 := ng_ hg BK1; replace BK1 := k1_ BK1 hb; clear hb hg) | ((with_reducible refine gd_ (N := 4) rfl ?_); refine bx_ 4 #[.int .i64 0, .bool false, .slice none 0 0, .slice none 0 0, .int .i64 0] 32 ?_; intro gb3 hg w3 BK3 hb; have GW3 := ge_ hg bfnq_; have GE3 := GW3; replace HB := hb_ hb bfnq_; have NB1_3 := nl_ hg BK1; have NB3_1 := ng_ hg BK1; replace BK1 := k1_ BK1 hb; have NB2_3 := nl_ hg BK2; have NB3_2 := ng_ hg BK2; replace BK2 := k1_ BK2 hb; clear hb hg; have hnb1 := NB1_2.out; have hnc1 := NB2_1.out; have hnb2 := NB1_3.out; have hnc2 := NB3_1.out; have hcz1 := z5_ BK1; have hnb3 := NB2_3.out; have hnc3 := NB3_2.out; have hcz2_0 : w3.cell? ⟨gb2, 0, none⟩ = some (.int .i64 a1_0) := (kc_ BK2.out 0).trans rfl; have hcz2_1 : w3.cell? ⟨gb2, 1, none⟩ = some (.int .i64 a1_1) := (kc_ BK2.out 1).trans rfl; have hcz2_2 : w3.cell? ⟨gb2, 2, none⟩ = some (.int .i64 a1_2) := (kc_ BK2.out 2).trans rfl; have hfz2_0 := kf_ BK2.out 0; have hfz2_1 := kf_ BK2.out 1; have hfz2_2 := kf_ BK2.out 2) | ((with_reducible refine gc_ (f := 68) rfl ?_); refine gl_ 9 Tryz.func68 #[.agg #[.int .i64 a0_0, .bool a0_1, .slice A0_2 l0_2.length c0_2, .slice A0_3 l0_3.length c0_3, .int .i64 a0_4], .agg #[.int .i64 a1_0, .int .i64 a1_1, .int .i64 a1_2]] ?_; (with_reducible refine (spec_l12May.calls k a0_0 a0_1 _ _ l0_2 _ _ l0_3 a0_4 a1_0 a1_1 a1_2 true _ ?side1 ?side2 ?side3 ?side4 A2.out).mono ?_); (case side1 => exact b6n8_); (case side2 => exact HC0_2.out); (case side3 => exact bkan_); (case side4 => exact HC0_3.out); rintro e w4 ⟨rfl, hb⟩; refine ⟨_, rfl, ?_⟩; replace BK1 := k1_ BK1 hb; replace BK2 := k1_ BK2 hb; replace BK3 := k1_ BK3 hb; replace HB := hb_ hb b850_; (try clear hb); have hcz3 := z5_ BK1; have hcz4 := z3_ BK2) | ((with_reducible refine gc_ (f := 69) rfl ?_); refine gl_ 14 Tryz.func69 #[.agg #[.int .i64 a0_0, .bool a0_1, .slice A0_2 l0_2.length c0_2, .slice A0_3 l0_3.length c0_3, .int .i64 a0_4], .agg #[.int .i64 a1_0, .int .i64 a1_1, .int .i64 a1_2]] ?_; (with_reducible refine (spec_l12Make.calls k a0_0 a0_1 _ _ l0_2 _ _ l0_3 a0_4 a1_0 a1_1 a1_2 t3 t4 t5 t6 t7 _ ?side1 ?side2 ?side3 ?side4 A4.out).mono ?_); (case side1 => exact b6n8_); (case side2 => exact HC0_2.out); (case side3 => exact bkan_); (case side4 => exact HC0_3.out); rintro e w5 ⟨v1, v4, rfl, ho0, ho1, hb⟩; refine ⟨_, rfl, ?_⟩; have HO1 := A0_ (Kd.R_lower ho0 (bz_ b850_)); have HO2 := A0_ (Kd.R_lower ho1 (bz_ b850_)); replace BK1 := k1_ BK1 hb; replace BK2 := k1_ BK2 hb; replace BK3 := k1_ BK3 hb; replace HB := hb_ hb b850_; (try clear hb); (try clear ho0); (try clear ho1); obtain ⟨Ao1, co1, eo1⟩ := Kd.R_slice HO1.out; subst eo1; obtain ⟨Ao2, co2, eo2⟩ := Kd.R_slice HO2.out; subst eo2) | ((with_reducible refine gc_ (f := 33) rfl ?_); refine gl_ 15 Tryz.func33 #[.agg #[.int .i64 t3, .bool t4, .slice Ao1 t5.length co1, .slice Ao2 t6.length co2, .int .i64 t7]] ?_; (with_reducible refine (spec_l12Own.calls t3 t4 _ _ t5 _ _ t6 t7 t8 t9 t10 t11 t12 _ ?side1 ?side2 ?side3 ?side4 A6.out).mono ?_); (case side1 => exact bayy_); (case side2 => exact (rr_ HO1.out).2.1); (case side3 => exact ba04_); (case side4 => exact (rr_ HO2.out).2.1); rintro e w6 ⟨v5, v6, rfl, ho0, ho1, hb⟩; refine ⟨_, rfl, ?_⟩; have HO3 := A0_ (Kd.R_lower (Kd.R_new' (Kd.R_new' ho0 (Kd.R_lt bsm5_)) (Kd.R_lt b9so_)) (bz_ b850_)); have HO4 := A0_ (Kd.R_lower (Kd.R_new' (Kd.R_new' ho1 (Kd.R_lt bsm5_)) (Kd.R_lt b9so_)) (bz_ b850_)); replace HO1 := A0_ (Kd.R_mono (Kd.R_told (Kd.R_told (Kd.R_old bsm5_ hb) (Kd.R_base ho0)) (Kd.R_base ho1)) (fun _ h_ => h_.1)); replace HO2 := A0_ (Kd.R_mono (Kd.R_told (Kd.R_told (Kd.R_old b9so_ hb) (Kd.R_base ho0)) (Kd.R_base ho1)) (fun _ h_ => h_.1)); replace BK1 := k1_ BK1 hb; replace BK2 := k1_ BK2 hb; replace BK3 := k1_ BK3 hb; replace HB := hb_ hb b850_; (try clear hb); (try clear ho0); (try clear ho1)) | ((with_reducible refine gd_ (N := 6) rfl ?_); refine bx_ 6 #[.int .i64 0, .bool false, .slice none 0 0, .slice none 0 0, .int .i64 0] 32 ?_; intro gb4 hg w7 BK4 hb; replace HO1 := A0_ (Kd.R_below bsm5_ hb); replace HO2 := A0_ (Kd.R_below b9so_ hb); replace HO3 := A0_ (Kd.R_below buiy_ hb); replace HO4 := A0_ (Kd.R_below b6ip_ hb); have GW4 := ge_ hg b850_; have GE4 := GW4; replace HB := hb_ hb b850_; have NB1_4 := nl_ hg BK1; have NB4_1 := ng_ hg BK1; replace BK1 := k1_ BK1 hb; have NB2_4 := nl_ hg BK2; have NB4_2 := ng_ hg BK2; replace BK2 := k1_ BK2 hb; have NB3_4 := nl_ hg BK3; have NB4_3 := ng_ hg BK3; replace BK3 := k1_ BK3 hb; clear hb hg; have hnb4 := NB4_1.out; have hnc4 := NB1_4.out; have hnb5 := NB4_2.out; have hnc5 := NB2_4.out; have hnb6 := NB4_3.out; have hnc6 := NB3_4.out; have hcz5 := z5_ BK4; obtain ⟨Ao3, co3, eo3⟩ := Kd.R_slice HO3.out; subst eo3; obtain ⟨Ao4, co4, eo4⟩ := Kd.R_slice HO4.out; subst eo4; have hcz6_0 : w7.cell? ⟨gb1, 0, none⟩ = some (.int .i64 a0_0) := (kc_ BK1.out 0).trans rfl; have hcz6_1 : w7.cell? ⟨gb1, 1, none⟩ = some (.bool a0_1) := (kc_ BK1.out 1).trans rfl; have hcz6_2 : w7.cell? ⟨gb1, 2, none⟩ = some (.slice A0_2 l0_2.length c0_2) := (kc_ BK1.out 2).trans rfl; have hcz6_3 : w7.cell? ⟨gb1, 3, none⟩ = some (.slice A0_3 l0_3.length c0_3) := (kc_ BK1.out 3).trans rfl; have hcz6_4 : w7.cell? ⟨gb1, 4, none⟩ = some (.int .i64 a0_4) := (kc_ BK1.out 4).trans rfl; have hfz6_0 := kf_ BK1.out 0; have hfz6_1 := kf_ BK1.out 1; have hfz6_2 := kf_ BK1.out 2; have hfz6_3 := kf_ BK1.out 3; have hfz6_4 := kf_ BK1.out 4) | ((with_reducible refine gd_ (N := 20) rfl ?_); refine spec_l12Do.nameW (.cells #[.int .i64 t8, .bool t9, .slice Ao3 t10.length co3, .slice Ao4 t11.length co4, .int .i64 (wrap64 (a0_4 + 1))] 32 (0, 0)) gb4 (u1_ BK4) ?_; intro W_ hW2_ BKW_; have hczw_0 : W_.cell? ⟨gb4, 0, none⟩ = some (.int .i64 t8) := (kc_ BKW_.out 0).trans rfl; have hczw_1 : W_.cell? ⟨gb4, 1, none⟩ = some (.bool t9) := (kc_ BKW_.out 1).trans rfl; have hczw_2 : W_.cell? ⟨gb4, 2, none⟩ = some (.slice Ao3 t10.length co3) := (kc_ BKW_.out 2).trans rfl; have hczw_3 : W_.cell? ⟨gb4, 3, none⟩ = some (.slice Ao4 t11.length co4) := (kc_ BKW_.out 3).trans rfl; have hczw_4 : W_.cell? ⟨gb4, 4, none⟩ = some (.int .i64 (wrap64 (a0_4 + 1))) := (kc_ BKW_.out 4).trans rfl; go_step; go_step; clear hczw_0 hczw_1 hczw_2 hczw_3 hczw_4 BKW_; have hW_ := hW2_.out; clear hW2_; subst hW_) | ((with_reducible refine gc_ (f := 32) rfl ?_); refine gl_ 21 Tryz.func32 #[.agg #[.int .i64 t8, .bool t9, .slice Ao3 t10.length co3, .slice Ao4 t11.length co4, .int .i64 (wrap64 (a0_4 + 1))]] ?_; (with_reducible refine (spec_l12Good.calls k t8 t9 _ _ t10 _ _ t11 (wrap64 (a0_4 + 1)) false _ ?side1 ?side2 ?side3 ?side4 A8.out).mono ?_); (case side1 => refine (rr_ (e := 3) (base := w.heap.size) (ok := fun k_ => ((no_ (.slice Ao4 t11.length co4) k_ ∧ no_ (.slice Ao1 t5.length co1) k_) ∧ no_ (.slice Ao2 t6.length co2) k_)) (n := t10.length) (c := co3) ?_).2.2; exact b6o8_); (case side2 => exact (rr_ HO3.out).2.1); (case side3 => refine (rr_ (e := 3) (base := w.heap.size) (ok := fun k_ => ((no_ (.slice Ao3 t10.length co3) k_ ∧ no_ (.slice Ao1 t5.length co1) k_) ∧ no_ (.slice Ao2 t6.length co2) k_)) (n := t11.length) (c := co4) ?_).2.2; exact bth6_); (case side4 => exact (rr_ HO4.out).2.1); rintro e w8 ⟨rfl, hb⟩; refine ⟨_, rfl, ?_⟩; replace HO1 := A0_ (Kd.R_below bzqp_ hb); replace HO2 := A0_ (Kd.R_below byr6_ hb); replace HO3 := A0_ (Kd.R_below b6o8_ hb); replace HO4 := A0_ (Kd.R_below bth6_ hb); replace BK1 := k1_ BK1 hb; replace BK2 := k1_ BK2 hb; replace BK3 := k1_ BK3 hb; replace BK4 := k2_ (.cells #[.int .i64 t8, .bool t9, .slice Ao3 t10.length co3, .slice Ao4 t11.length co4, .int .i64 (wrap64 (a0_4 + 1))] 32 (0, 0)) BK4 hb; replace HB := hb_ hb b2i7_; (try clear hb); have hcz7 := z5_ BK3))
  refine bodyPost_ret (results_ct rfl _ _ gb3 32 #[.int .i64 0, .bool false, .slice none 0 0, .slice none 0 0, .int .i64 0] (0, 0) _ rfl (u1_ BK3) Tryz.underlying32 rfl bfqv_) rfl ?_
  exact ⟨_, _, bnwh_, bwfe_, bwfe_, b2i7_⟩
 subst c2
 rw [if_pos rfl] at H
 simp only [sj_, pj_] at H
 obtain ⟨rfl, rfl, rfl, rfl, rfl, rfl⟩ := H
 go_enter Tryz.func34, Tryz.ntmps34
 go_wp2_with (first | ((with_reducible refine gd_ (N := 2) rfl ?_); refine bx_ 2 #[.int .i64 a0_0, .bool a0_1, .slice A0_2 l0_2.length c0_2, .slice A0_3 l0_3.length c0_3, .int .i64 a0_4] 32 ?_; intro gb1 hg w1 BK1 hb; have GW1 := ge_ hg brt4_; have GE1 := GW1; replace HB := hb_ hb brt4_; clear hb hg) | ((with_reducible refine gd_ (N := 3) rfl ?_); refine bx_ 3 #[.int .i64 a1_0, .int .i64 a1_1, .int .i64 a1_2] 50 ?_; intro gb2 hg w2 BK2 hb; have GW2 := ge_ hg be6g_; have GE2 := GW2; replace HB := hb_ hb be6g_; have NB1_2 := nl_ hg BK1; have NB2_1 := ng_ hg BK1; replace BK1 := k1_ BK1 hb; clear hb hg) | ((with_reducible refine gd_ (N := 4) rfl ?_); refine bx_ 4 #[.int .i64 0, .bool false, .slice none 0 0, .slice none 0 0, .int .i64 0] 32 ?_; intro gb3 hg w3 BK3 hb; have GW3 := ge_ hg bfnq_; have GE3 := GW3; replace HB := hb_ hb bfnq_; have NB1_3 := nl_ hg BK1; have NB3_1 := ng_ hg BK1; replace BK1 := k1_ BK1 hb; have NB2_3 := nl_ hg BK2; have NB3_2 := ng_ hg BK2; replace BK2 := k1_ BK2 hb; clear hb hg; have hnb1 := NB1_2.out; have hnc1 := NB2_1.out; have hnb2 := NB1_3.out; have hnc2 := NB3_1.out; have hcz1 := z5_ BK1; have hnb3 := NB2_3.out; have hnc3 := NB3_2.out; have hcz2_0 : w3.cell? ⟨gb2, 0, none⟩ = some (.int .i64 a1_0) := (kc_ BK2.out 0).trans rfl; have hcz2_1 : w3.cell? ⟨gb2, 1, none⟩ = some (.int .i64 a1_1) := (kc_ BK2.out 1).trans rfl; have hcz2_2 : w3.cell? ⟨gb2, 2, none⟩ = some (.int .i64 a1_2) := (kc_ BK2.out 2).trans rfl; have hfz2_0 := kf_ BK2.out 0; have hfz2_1 := kf_ BK2.out 1; have hfz2_2 := kf_ BK2.out 2) | ((with_reducible refine gc_ (f := 68) rfl ?_); refine gl_ 9 Tryz.func68 #[.agg #[.int .i64 a0_0, .bool a0_1, .slice A0_2 l0_2.length c0_2, .slice A0_3 l0_3.length c0_3, .int .i64 a0_4], .agg #[.int .i64 a1_0, .int .i64 a1_1, .int .i64 a1_2]] ?_; (with_reducible refine (spec_l12May.calls k a0_0 a0_1 _ _ l0_2 _ _ l0_3 a0_4 a1_0 a1_1 a1_2 true _ ?side1 ?side2 ?side3 ?side4 A2.out).mono ?_); (case side1 => exact b6n8_); (case side2 => exact HC0_2.out); (case side3 => exact bkan_); (case side4 => exact HC0_3.out); rintro e w4 ⟨rfl, hb⟩; refine ⟨_, rfl, ?_⟩; replace BK1 := k1_ BK1 hb; replace BK2 := k1_ BK2 hb; replace BK3 := k1_ BK3 hb; replace HB := hb_ hb b850_; (try clear hb); have hcz3 := z5_ BK1; have hcz4 := z3_ BK2) | ((with_reducible refine gc_ (f := 69) rfl ?_); refine gl_ 14 Tryz.func69 #[.agg #[.int .i64 a0_0, .bool a0_1, .slice A0_2 l0_2.length c0_2, .slice A0_3 l0_3.length c0_3, .int .i64 a0_4], .agg #[.int .i64 a1_0, .int .i64 a1_1, .int .i64 a1_2]] ?_; (with_reducible refine (spec_l12Make.calls k a0_0 a0_1 _ _ l0_2 _ _ l0_3 a0_4 a1_0 a1_1 a1_2 t3 t4 t5 t6 t7 _ ?side1 ?side2 ?side3 ?side4 A4.out).mono ?_); (case side1 => exact b6n8_); (case side2 => exact HC0_2.out); (case side3 => exact bkan_); (case side4 => exact HC0_3.out); rintro e w5 ⟨v1, v4, rfl, ho0, ho1, hb⟩; refine ⟨_, rfl, ?_⟩; have HO1 := A0_ (Kd.R_lower ho0 (bz_ b850_)); have HO2 := A0_ (Kd.R_lower ho1 (bz_ b850_)); replace BK1 := k1_ BK1 hb; replace BK2 := k1_ BK2 hb; replace BK3 := k1_ BK3 hb; replace HB := hb_ hb b850_; (try clear hb); (try clear ho0); (try clear ho1); obtain ⟨Ao1, co1, eo1⟩ := Kd.R_slice HO1.out; subst eo1; obtain ⟨Ao2, co2, eo2⟩ := Kd.R_slice HO2.out; subst eo2) | ((with_reducible refine gc_ (f := 33) rfl ?_); refine gl_ 15 Tryz.func33 #[.agg #[.int .i64 t3, .bool t4, .slice Ao1 t5.length co1, .slice Ao2 t6.length co2, .int .i64 t7]] ?_; (with_reducible refine (spec_l12Own.calls t3 t4 _ _ t5 _ _ t6 t7 t8 t9 t10 t11 t12 _ ?side1 ?side2 ?side3 ?side4 A6.out).mono ?_); (case side1 => exact bayy_); (case side2 => exact (rr_ HO1.out).2.1); (case side3 => exact ba04_); (case side4 => exact (rr_ HO2.out).2.1); rintro e w6 ⟨v5, v6, rfl, ho0, ho1, hb⟩; refine ⟨_, rfl, ?_⟩; have HO3 := A0_ (Kd.R_lower (Kd.R_new' (Kd.R_new' ho0 (Kd.R_lt bsm5_)) (Kd.R_lt b9so_)) (bz_ b850_)); have HO4 := A0_ (Kd.R_lower (Kd.R_new' (Kd.R_new' ho1 (Kd.R_lt bsm5_)) (Kd.R_lt b9so_)) (bz_ b850_)); replace HO1 := A0_ (Kd.R_mono (Kd.R_told (Kd.R_told (Kd.R_old bsm5_ hb) (Kd.R_base ho0)) (Kd.R_base ho1)) (fun _ h_ => h_.1)); replace HO2 := A0_ (Kd.R_mono (Kd.R_told (Kd.R_told (Kd.R_old b9so_ hb) (Kd.R_base ho0)) (Kd.R_base ho1)) (fun _ h_ => h_.1)); replace BK1 := k1_ BK1 hb; replace BK2 := k1_ BK2 hb; replace BK3 := k1_ BK3 hb; replace HB := hb_ hb b850_; (try clear hb); (try clear ho0); (try clear ho1)) | ((with_reducible refine gd_ (N := 6) rfl ?_); refine bx_ 6 #[.int .i64 0, .bool false, .slice none 0 0, .slice none 0 0, .int .i64 0] 32 ?_; intro gb4 hg w7 BK4 hb; replace HO1 := A0_ (Kd.R_below bsm5_ hb); replace HO2 := A0_ (Kd.R_below b9so_ hb); replace HO3 := A0_ (Kd.R_below buiy_ hb); replace HO4 := A0_ (Kd.R_below b6ip_ hb); have GW4 := ge_ hg b850_; have GE4 := GW4; replace HB := hb_ hb b850_; have NB1_4 := nl_ hg BK1; have NB4_1 := ng_ hg BK1; replace BK1 := k1_ BK1 hb; have NB2_4 := nl_ hg BK2; have NB4_2 := ng_ hg BK2; replace BK2 := k1_ BK2 hb; have NB3_4 := nl_ hg BK3; have NB4_3 := ng_ hg BK3; replace BK3 := k1_ BK3 hb; clear hb hg; have hnb4 := NB4_1.out; have hnc4 := NB1_4.out; have hnb5 := NB4_2.out; have hnc5 := NB2_4.out; have hnb6 := NB4_3.out; have hnc6 := NB3_4.out; have hcz5 := z5_ BK4; obtain ⟨Ao3, co3, eo3⟩ := Kd.R_slice HO3.out; subst eo3; obtain ⟨Ao4, co4, eo4⟩ := Kd.R_slice HO4.out; subst eo4; have hcz6_0 : w7.cell? ⟨gb1, 0, none⟩ = some (.int .i64 a0_0) := (kc_ BK1.out 0).trans rfl; have hcz6_1 : w7.cell? ⟨gb1, 1, none⟩ = some (.bool a0_1) := (kc_ BK1.out 1).trans rfl; have hcz6_2 : w7.cell? ⟨gb1, 2, none⟩ = some (.slice A0_2 l0_2.length c0_2) := (kc_ BK1.out 2).trans rfl; have hcz6_3 : w7.cell? ⟨gb1, 3, none⟩ = some (.slice A0_3 l0_3.length c0_3) := (kc_ BK1.out 3).trans rfl; have hcz6_4 : w7.cell? ⟨gb1, 4, none⟩ = some (.int .i64 a0_4) := (kc_ BK1.out 4).trans rfl; have hfz6_0 := kf_ BK1.out 0; have hfz6_1 := kf_ BK1.out 1; have hfz6_2 := kf_ BK1.out 2; have hfz6_3 := kf_ BK1.out 3; have hfz6_4 := kf_ BK1.out 4) | ((with_reducible refine gd_ (N := 20) rfl ?_); refine spec_l12Do.nameW (.cells #[.int .i64 t8, .bool t9, .slice Ao3 t10.length co3, .slice Ao4 t11.length co4, .int .i64 (wrap64 (a0_4 + 1))] 32 (0, 0)) gb4 (u1_ BK4) ?_; intro W_ hW2_ BKW_; have hczw_0 : W_.cell? ⟨gb4, 0, none⟩ = some (.int .i64 t8) := (kc_ BKW_.out 0).trans rfl; have hczw_1 : W_.cell? ⟨gb4, 1, none⟩ = some (.bool t9) := (kc_ BKW_.out 1).trans rfl; have hczw_2 : W_.cell? ⟨gb4, 2, none⟩ = some (.slice Ao3 t10.length co3) := (kc_ BKW_.out 2).trans rfl; have hczw_3 : W_.cell? ⟨gb4, 3, none⟩ = some (.slice Ao4 t11.length co4) := (kc_ BKW_.out 3).trans rfl; have hczw_4 : W_.cell? ⟨gb4, 4, none⟩ = some (.int .i64 (wrap64 (a0_4 + 1))) := (kc_ BKW_.out 4).trans rfl; go_step; go_step; clear hczw_0 hczw_1 hczw_2 hczw_3 hczw_4 BKW_; have hW_ := hW2_.out; clear hW2_; subst hW_) | ((with_reducible refine gc_ (f := 32) rfl ?_); refine gl_ 21 Tryz.func32 #[.agg #[.int .i64 t8, .bool t9, .slice Ao3 t10.length co3, .slice Ao4 t11.length co4, .int .i64 (wrap64 (a0_4 + 1))]] ?_; (with_reducible refine (spec_l12Good.calls k t8 t9 _ _ t10 _ _ t11 (wrap64 (a0_4 + 1)) true _ ?side1 ?side2 ?side3 ?side4 A8.out).mono ?_); (case side1 => refine (rr_ (e := 3) (base := w.heap.size) (ok := fun k_ => ((no_ (.slice Ao4 t11.length co4) k_ ∧ no_ (.slice Ao1 t5.length co1) k_) ∧ no_ (.slice Ao2 t6.length co2) k_)) (n := t10.length) (c := co3) ?_).2.2; exact b6o8_); (case side2 => exact (rr_ HO3.out).2.1); (case side3 => refine (rr_ (e := 3) (base := w.heap.size) (ok := fun k_ => ((no_ (.slice Ao3 t10.length co3) k_ ∧ no_ (.slice Ao1 t5.length co1) k_) ∧ no_ (.slice Ao2 t6.length co2) k_)) (n := t11.length) (c := co4) ?_).2.2; exact bth6_); (case side4 => exact (rr_ HO4.out).2.1); rintro e w8 ⟨rfl, hb⟩; refine ⟨_, rfl, ?_⟩; replace HO1 := A0_ (Kd.R_below bzqp_ hb); replace HO2 := A0_ (Kd.R_below byr6_ hb); replace HO3 := A0_ (Kd.R_below b6o8_ hb); replace HO4 := A0_ (Kd.R_below bth6_ hb); replace BK1 := k1_ BK1 hb; replace BK2 := k1_ BK2 hb; replace BK3 := k1_ BK3 hb; replace BK4 := k2_ (.cells #[.int .i64 t8, .bool t9, .slice Ao3 t10.length co3, .slice Ao4 t11.length co4, .int .i64 (wrap64 (a0_4 + 1))] 32 (0, 0)) BK4 hb; replace HB := hb_ hb b2i7_; (try clear hb); have hcz7 := z5_ BK4; have hcz8 := z5_ BK3))
 refine bodyPost_ret (results_ct rfl _ _ gb3 32 #[.int .i64 t8, .bool t9, .slice Ao3 t10.length co3, .slice Ao4 t11.length co4, .int .i64 (wrap64 (a0_4 + 1))] (0, 0) _ rfl (u1_ BK3) Tryz.underlying32 rfl bfqv_) rfl ?_
 exact ⟨_, _, bnwh_, by (with_reducible repeat (first | apply ra_ | apply rn_ | apply rd_)); exact Kd.R_mono (rf_ (rf_ (rf_ (rf_ (rf_ (Kd.R_types HO3.out BK3.out bi3y_) k2_0 _) k2_0 _) k2_0 _) k2_0 _) (fun _ hk => hk.2) (.int .i64 (wrap64 (a0_4 + 1)))) (fun _ hk => hk.1.1.1), by (with_reducible repeat (first | apply ra_ | apply rn_ | apply rd_)); exact Kd.R_mono (rf_ (rf_ (rf_ (rf_ (rf_ (Kd.R_types HO4.out BK3.out bi3y_) k2_0 _) k2_0 _) k2_0 _) k2_0 _) (fun _ hk => hk.2) (.int .i64 (wrap64 (a0_4 + 1)))) (fun _ hk => hk.1.1.1), b2i7_⟩

def spec_DoWorks.l0 : Nat → List (S50) → Int → Int → Bool → List Int → List Int → Int → Option (Int × Bool × List Int × List Int × Int × Int × Bool)
 | 0, _, _, _, _, _, _, _ => none
 | k + 1, x1, x8, x335000, x335001, x335002, x335003, x335004 => if x8 < (x1.length : Int) then (if 0 ≤ x8 then ((spec_l12Do.f k x335000 x335001 x335002 x335003 x335004 ((rd_T50 x1 x8).f0) ((rd_T50 x1 x8).f1) ((rd_T50 x1 x8).f2)).bind fun bt336 => (if bt336.2.2.2.2.2 = true then (spec_DoWorks.l0 k x1 (wrap64 (x8 + 1)) bt336.1 bt336.2.1 bt336.2.2.1 bt336.2.2.2.1 bt336.2.2.2.2.1) else (some (x335000, x335001, x335002, x335003, x335004, x8, true)))) else (none)) else (some (x335000, x335001, x335002, x335003, x335004, (x1.length : Int), true))
def spec_DoWorks.f (k : Nat) (a0_0 : Int) (a0_1 : Bool) (l0_2 : List Int) (l0_3 : List Int) (a0_4 : Int) (l1 : List (S50)) : Option (Int × Bool × List Int × List Int × Int × Int × Bool) := (spec_l12Good.f k a0_0 a0_1 l0_2 l0_3 a0_4).bind fun t324 => (if t324 = true then ((spec_l12Own.f a0_0 a0_1 l0_2 l0_3 a0_4).bind fun bt325 => (spec_DoWorks.l0 k l1 0 bt325.1 bt325.2.1 bt325.2.2.1 bt325.2.2.2.1 bt325.2.2.2.2)) else (some (0, false, ([] : List Int), ([] : List Int), 0, 0, false)))
theorem spec_DoWorks.mono_l : ∀ k, (∀ y0 y1 y2 y3 y4 y5 y6, LeO (spec_DoWorks.l0 k y0 y1 y2 y3 y4 y5 y6) (spec_DoWorks.l0 (k + 1) y0 y1 y2 y3 y4 y5 y6))
 | 0 => fun _ _ _ _ _ _ _ r h => by simp [spec_DoWorks.l0] at h
 | k + 1 => by
  have ih0 := spec_DoWorks.mono_l k
  ·intro y0 y1 y2 y3 y4 y5 y6
   unfold spec_DoWorks.l0
   repeat' with_reducible first | exact ih0 .. | exact spec_l12Do.mono .. | exact spec_l12Good.mono .. | exact LeO.refl .. | exact LeO.none .. | refine LeO.ite ?_ ?_ | refine LeO.bind ?_ (fun _ => ?_)
theorem spec_DoWorks.mono : ∀ a0 a1 a2 a3 a4 a5 k, LeO (spec_DoWorks.f k a0 a1 a2 a3 a4 a5) (spec_DoWorks.f (k + 1) a0 a1 a2 a3 a4 a5) := by
 intro a0 a1 a2 a3 a4 a5 k
 have ih0 := spec_DoWorks.mono_l k
 unfold spec_DoWorks.f
 repeat' with_reducible first | exact ih0 .. | exact spec_l12Do.mono .. | exact spec_l12Good.mono .. | exact LeO.refl .. | exact LeO.none .. | refine LeO.ite ?_ ?_ | refine LeO.bind ?_ (fun _ => ?_)
def spec_DoWorks.T7 : Bool × List (List Nat × List Nat) := (true, [([], []), ([], []), ([], []), ([1, 2], [1, 2]), ([3], [3]), ([0, 4], [0, 4]), ([5], [5]), ([6], [6]), ([6], [6]), ([], []), ([9, 7, 5, 0, 1, 2, 3, 4, 5, 6, 7, 9], [7, 9]), ([8, 10, 0, 1, 2, 3, 4, 5, 6, 7, 8, 9, 10], [8])])
def spec_DoWorks.B7 : List Nat := [0, 0, 0, 6, 14, 31, 63, 127, 127, 0, 767, 2047]
theorem spec_DoWorks.tab7 : rtab .any (opsOf Tryz.f7 7) = spec_DoWorks.T7 := by kernel_rfl
theorem spec_DoWorks.bits7 : waitsOk spec_DoWorks.T7.2 spec_DoWorks.B7 = true := by kernel_rfl
theorem spec_DoWorks.calls (k : Nat) (a0_0 : Int) (a0_1 : Bool) (A0_2 : Option Addr) (c0_2 : Nat) (l0_2 : List Int) (A0_3 : Option Addr) (c0_3 : Nat) (l0_3 : List Int) (a0_4 : Int) (A1 : Option Addr) (c1 : Nat) (l1 : List (S50)) (r1 : Int) (r2 : Bool) (r3 : List Int) (r4 : List Int) (r5 : Int) (r6 : Int) (r7 : Bool) (w : World) (hr0_2 : Kd.C (Kd.int .i64) w A0_2 l0_2.length l0_2) (hc0_2 : l0_2.length ≤ c0_2) (hr0_3 : Kd.C (Kd.int .i64) w A0_3 l0_3.length l0_3) (hc0_3 : l0_3.length ≤ c0_3) (hr1 : Kd.C k50 w A1 l1.length l1) (hc1 : l1.length ≤ c1) (h : spec_DoWorks.f k a0_0 a0_1 l0_2 l0_3 a0_4 l1 = some (r1, r2, r3, r4, r5, r6, r7)) :
  Calls Tryz.prog 7 #[.agg #[.int .i64 a0_0, .bool a0_1, .slice A0_2 l0_2.length c0_2, .slice A0_3 l0_3.length c0_3, .int .i64 a0_4], .slice A1 l1.length c1] w fun e w' => ∃ v2_ v3_ : Value, e = .returned (.tuple #[.agg #[.int .i64 r1, .bool r2, v2_, v3_, .int .i64 r5], .int .i64 r6, .bool r7]) ∧ Kd.R (Kd.int .i64) 3 w' w.heap.size (fun k_ => no_ v3_ k_) v2_ r3 ∧ Kd.R (Kd.int .i64) 3 w' w.heap.size (fun k_ => no_ v2_ k_) v3_ r4 ∧ Below w.heap.size w w' := by
 have hu32 := Tryz.underlying32
 have hu50 := Tryz.underlying50
 have HR0_2 := A0_ hr0_2
 have HC0_2 := A0_ hc0_2
 clear hr0_2 hc0_2
 have HR0_3 := A0_ hr0_3
 have HC0_3 := A0_ hc0_3
 clear hr0_3 hc0_3
 have HR1 := A0_ hr1
 have HC1 := A0_ hc1
 clear hr1 hc1
 have HB := A0_ (Below.refl w.heap.size w)
 have H : ((spec_l12Good.f k a0_0 a0_1 l0_2 l0_3 a0_4).bind fun t1 => (if t1 = true then ((spec_l12Own.f a0_0 a0_1 l0_2 l0_3 a0_4).bind fun bt1 => (spec_DoWorks.l0 k l1 0 bt1.1 bt1.2.1 bt1.2.2.1 bt1.2.2.2.1 bt1.2.2.2.2)) else (some (0, false, ([] : List Int), ([] : List Int), 0, 0, false)))) = some (r1, r2, r3, r4, r5, r6, r7) := h
 clear h
 obtain ⟨t1, A3, H⟩ := o1_ H
 by_cases c2 : t1 = true
 case neg =>
  obtain rfl := bf_.mpr c2
  rw [if_neg ft_] at H
  simp only [sj_, pj_] at H
  obtain ⟨rfl, rfl, rfl, rfl, rfl, rfl, rfl⟩ := H
  go_enter Tryz.func7, Tryz.ntmps7
  go_wp2_with (first | ((with_reducible refine gd_ (N := 2) rfl ?_); refine bx_ 2 #[.int .i64 a0_0, .bool a0_1, .slice A0_2 l0_2.length c0_2, .slice A0_3 l0_3.length c0_3, .int .i64 a0_4] 32 ?_; intro gb1 hg w1 BK1 hb; have GW1 := ge_ hg brt4_; have GE1 := GW1; replace HB := hb_ hb brt4_; clear hb hg) | ((with_reducible refine gd_ (N := 4) rfl ?_); refine bx_ 4 #[.int .i64 0, .bool false, .slice none 0 0, .slice none 0 0, .int .i64 0] 32 ?_; intro gb2 hg w2 BK2 hb; have GW2 := ge_ hg be6g_; have GE2 := GW2; replace HB := hb_ hb be6g_; have NB1_2 := nl_ hg BK1; have NB2_1 := ng_ hg BK1; replace BK1 := k1_ BK1 hb; clear hb hg; have hnb1 := NB1_2.out; have hnc1 := NB2_1.out; have hcz1 := z5_ BK1) | ((with_reducible refine gc_ (f := 32) rfl ?_); refine gl_ 12 Tryz.func32 #[.agg #[.int .i64 a0_0, .bool a0_1, .slice A0_2 l0_2.length c0_2, .slice A0_3 l0_3.length c0_3, .int .i64 a0_4]] ?_; (with_reducible refine (spec_l12Good.calls k a0_0 a0_1 _ _ l0_2 _ _ l0_3 a0_4 false _ ?side1 ?side2 ?side3 ?side4 A3.out).mono ?_); (case side1 => exact b6n8_); (case side2 => exact HC0_2.out); (case side3 => exact bkan_); (case side4 => exact HC0_3.out); rintro e w3 ⟨rfl, hb⟩; refine ⟨_, rfl, ?_⟩; replace BK1 := k1_ BK1 hb; replace BK2 := k1_ BK2 hb; replace HB := hb_ hb bfnq_; (try clear hb); have hcz2 := z5_ BK2))
  refine bodyPost_ret (results_ctt rfl _ _ gb2 32 #[.int .i64 0, .bool false, .slice none 0 0, .slice none 0 0, .int .i64 0] (0, 0) _ rfl (u1_ BK2) Tryz.underlying32 rfl bfqv_) rfl ?_
  exact ⟨_, _, bnwh_, bwfe_, bwfe_, bfnq_⟩
 subst c2
 rw [if_pos rfl] at H
 obtain ⟨⟨t2, t3, t4, t5, t6⟩, A5, H⟩ := o1_ H
 have H' := A0_ H
 clear H
 go_enter Tryz.func7, Tryz.ntmps7
 go_wp2_with (first | ((with_reducible refine gd_ (N := 2) rfl ?_); refine bx_ 2 #[.int .i64 a0_0, .bool a0_1, .slice A0_2 l0_2.length c0_2, .slice A0_3 l0_3.length c0_3, .int .i64 a0_4] 32 ?_; intro gb1 hg w1 BK1 hb; have GW1 := ge_ hg brt4_; have GE1 := GW1; replace HB := hb_ hb brt4_; clear hb hg) | ((with_reducible refine gd_ (N := 4) rfl ?_); refine bx_ 4 #[.int .i64 0, .bool false, .slice none 0 0, .slice none 0 0, .int .i64 0] 32 ?_; intro gb2 hg w2 BK2 hb; have GW2 := ge_ hg be6g_; have GE2 := GW2; replace HB := hb_ hb be6g_; have NB1_2 := nl_ hg BK1; have NB2_1 := ng_ hg BK1; replace BK1 := k1_ BK1 hb; clear hb hg; have hnb1 := NB1_2.out; have hnc1 := NB2_1.out; have hcz1 := z5_ BK1) | ((with_reducible refine gc_ (f := 32) rfl ?_); refine gl_ 12 Tryz.func32 #[.agg #[.int .i64 a0_0, .bool a0_1, .slice A0_2 l0_2.length c0_2, .slice A0_3 l0_3.length c0_3, .int .i64 a0_4]] ?_; (with_reducible refine (spec_l12Good.calls k a0_0 a0_1 _ _ l0_2 _ _ l0_3 a0_4 true _ ?side1 ?side2 ?side3 ?side4 A3.out).mono ?_); (case side1 => exact b6n8_); (case side2 => exact HC0_2.out); (case side3 => exact bkan_); (case side4 => exact HC0_3.out); rintro e w3 ⟨rfl, hb⟩; refine ⟨_, rfl, ?_⟩; replace BK1 := k1_ BK1 hb; replace BK2 := k1_ BK2 hb; replace HB := hb_ hb bfnq_; (try clear hb); have hcz2 := z5_ BK1) | ((with_reducible refine gc_ (f := 33) rfl ?_); refine gl_ 16 Tryz.func33 #[.agg #[.int .i64 a0_0, .bool a0_1, .slice A0_2 l0_2.length c0_2, .slice A0_3 l0_3.length c0_3, .int .i64 a0_4]] ?_; (with_reducible refine (spec_l12Own.calls a0_0 a0_1 _ _ l0_2 _ _ l0_3 a0_4 t2 t3 t4 t5 t6 _ ?side1 ?side2 ?side3 ?side4 A5.out).mono ?_); (case side1 => exact b6n8_); (case side2 => exact HC0_2.out); (case side3 => exact bkan_); (case side4 => exact HC0_3.out); rintro e w4 ⟨v1, v4, rfl, ho0, ho1, hb⟩; refine ⟨_, rfl, ?_⟩; have HO1 := A0_ (Kd.R_lower ho0 (bz_ bfnq_)); have HO2 := A0_ (Kd.R_lower ho1 (bz_ bfnq_)); replace BK1 := k1_ BK1 hb; replace BK2 := k1_ BK2 hb; replace HB := hb_ hb bfnq_; (try clear hb); (try clear ho0); (try clear ho1)) | ((with_reducible refine gd_ (N := 7) rfl ?_); refine bx_ 7 #[.int .i64 0, .bool false, .slice none 0 0, .slice none 0 0, .int .i64 0] 32 ?_; intro gb3 hg w5 BK3 hb; replace HO1 := A0_ (Kd.R_below bsm5_ hb); replace HO2 := A0_ (Kd.R_below b9so_ hb); have GW3 := ge_ hg bfnq_; have GE3 := GW3; replace HB := hb_ hb bfnq_; have NB1_3 := nl_ hg BK1; have NB3_1 := ng_ hg BK1; replace BK1 := k1_ BK1 hb; have NB2_3 := nl_ hg BK2; have NB3_2 := ng_ hg BK2; replace BK2 := k1_ BK2 hb; clear hb hg; have hnb2 := NB3_1.out; have hnc2 := NB1_3.out; have hnb3 := NB3_2.out; have hnc3 := NB2_3.out; have hcz3 := z5_ BK3; obtain ⟨Ao1, co1, eo1⟩ := Kd.R_slice HO1.out; subst eo1; obtain ⟨Ao2, co2, eo2⟩ := Kd.R_slice HO2.out; subst eo2))
 go_loopg [8] k (fun kq v5 w' => ∃ (x8_1 : Int) (x324000_1 : Int) (x324001_1 : Bool) (x324004_1 : Int) (x335000_1 : Int) (x335001_1 : Bool) (x335002_1 : List Int) (x335003_1 : List Int) (x335004_1 : Int) (u335002 : Value) (u335003 : Value), v5 = .int .i64 x8_1 ∧ Aside0 (spec_DoWorks.l0 kq l1 x8_1 x335000_1 x335001_1 x335002_1 x335003_1 x335004_1 = some (r1, r2, r3, r4, r5, r6, r7)) ∧ Aside0 (kq ≤ k) ∧ Aside0 (Kd.R (Kd.int .i64) 3 w' w.heap.size (fun k_ => no_ u335003 k_) u335002 x335002_1) ∧ Aside0 (Kd.R (Kd.int .i64) 3 w' w.heap.size (fun k_ => no_ u335002 k_) u335003 x335003_1) ∧ Aside0 (w'.heap[gb1]? = some (.cells #[.int .i64 a0_0, .bool a0_1, (.slice A0_2 l0_2.length c0_2), (.slice A0_3 l0_3.length c0_3), .int .i64 a0_4] 32 (0, 0))) ∧ Aside0 (w'.heap[gb2]? = some (.cells #[.int .i64 x324000_1, .bool x324001_1, (.slice none 0 0), (.slice none 0 0), .int .i64 x324004_1] 32 (0, 0))) ∧ Aside0 (w'.heap[gb3]? = some (.cells #[.int .i64 x335000_1, .bool x335001_1, u335002, u335003, .int .i64 x335004_1] 32 (0, 0))) ∧ Aside0 (Below w.heap.size w w'))
 case atStart => exact ⟨(0), (0), (false), (0), (t2), (t3), (t4), (t5), (t6), (.slice Ao1 t4.length co1), (.slice Ao2 t5.length co2), b2ew_, H', ⟨Nat.le_refl _⟩, ⟨by (with_reducible repeat (first | apply ra_ | apply rn_ | apply rd_)); exact Kd.R_mono (rf_ (rf_ (rf_ (rf_ (rf_ (Kd.R_types HO1.out BK3.out bi3y_) k2_0 _) k2_0 _) k2_0 _) k2_0 _) k2_0 _) (fun _ hk => hk.1)⟩, ⟨by (with_reducible repeat (first | apply ra_ | apply rn_ | apply rd_)); exact Kd.R_mono (rf_ (rf_ (rf_ (rf_ (rf_ (Kd.R_types HO2.out BK3.out bi3y_) k2_0 _) k2_0 _) k2_0 _) k2_0 _) k2_0 _) (fun _ hk => hk.1)⟩, ⟨u1_ BK1⟩, ⟨u1_ BK2⟩, ⟨u1_ BK3⟩, ⟨b850_⟩⟩
 clear H'
 try clear c1
 try clear c2
 (try clear hcz2); (try clear hcz3); (try clear hcz1); (try clear hfz2); (try clear hfz3); (try clear hfz1)
 obtain ⟨x8_1, x324000_1, x324001_1, x324004_1, x335000_1, x335001_1, x335002_1, x335003_1, x335004_1, u335002, u335003, rfl, HA, HK1, HO_1, HO_2, BK1, BK2, BK3, HB⟩ := hrel
 cases gk with | zero => exact absurd HA.out (by simp [spec_DoWorks.l0]) | succ k1 => ?_
 have H := HA.out
 clear HA
 simp only [spec_DoWorks.l0] at H
 by_cases c3 : x8_1 < (l1.length : Int)
 case neg =>
  rw [if_neg c3] at H
  have c3b0 : decide (x8_1 < (l1.length : Int)) = false := decide_eq_false c3
  clear c3
  simp only [sj_, pj_] at H
  obtain ⟨rfl, rfl, rfl, rfl, rfl, rfl, rfl⟩ := H
  have hnb4 := NB3_1.out
  have hnc4 := NB1_3.out
  have hnb5 := NB3_2.out
  have hnc5 := NB2_3.out
  have hcz4 := z5_ BK3
  have hnb6 := NB2_1.out
  have hnc6 := NB1_2.out
  have hcz5 := z5_ BK2
  obtain ⟨Ao3, co3, eo3⟩ := Kd.R_slice HO_1.out
  subst eo3
  obtain ⟨Ao4, co4, eo4⟩ := Kd.R_slice HO_2.out
  subst eo4
  go_wp2
  refine bodyPost_ret (results_ctt rfl _ _ gb2 32 #[.int .i64 x335000_1, .bool x335001_1, .slice Ao3 x335002_1.length co3, .slice Ao4 x335003_1.length co4, .int .i64 x335004_1] (0, 0) _ rfl (u1_ BK2) Tryz.underlying32 rfl bfqv_) rfl ?_
  exact ⟨_, _, bnwh_, bula_, bd5x_, b850_⟩
 rw [if_pos c3] at H
 have c3b0 : decide (x8_1 < (l1.length : Int)) = true := dt_ c3
 clear c3
 by_cases c4 : 0 ≤ x8_1
 case neg =>
  rw [if_neg c4] at H
  exact absurd H bxka_
 rw [if_pos c4] at H
 have c4b0 : decide (0 ≤ x8_1) = true := dt_ c4
 clear c4
 obtain ⟨⟨t7, t8, t9, t10, t11, t12⟩, A7, H⟩ := o1_ H
 by_cases c5 : t12 = true
 ·subst c5
  rw [if_pos rfl] at H
  have H' := A0_ H
  clear H
  obtain ⟨Ao3, co3, eo3⟩ := Kd.R_slice HO_1.out
  subst eo3
  obtain ⟨Ao4, co4, eo4⟩ := Kd.R_slice HO_2.out
  subst eo4
  try go_wp2
  replace HO_1 := A0_ (rd_ HO_1.out)
  replace HO_2 := A0_ (rd_ HO_2.out)
  replace BK1 := A0_ (kd_ BK1.out)
  replace BK2 := A0_ (kd_ BK2.out)
  replace BK3 := A0_ (kd_ BK3.out)
  replace HB := A0_ (bd_ HB.out)
  have p1 : 0 ≤ (x8_1 : Int) := od_ bpil_
  have q1 : x8_1 < (l1.length : Int) := od_ bpil_
  obtain ⟨ad1, e1, hx1_0, hx1_1, hx1_2⟩ := at_T50 HR1.out x8_1 p1 q1
  have hw335_2 := hx1_2
  have hw335_1 := hx1_1
  have hw335_0 := hx1_0
  cases e1
  replace hx1_0 := (HB.out.cell (World.block_lt_of_cell? w _ hx1_0)).trans hx1_0
  replace hx1_1 := (HB.out.cell (World.block_lt_of_cell? w _ hx1_1)).trans hx1_1
  replace hx1_2 := (HB.out.cell (World.block_lt_of_cell? w _ hx1_2)).trans hx1_2
  replace p1 := eq_true p1
  replace q1 := eq_true q1
  refine start_ (n := 12) (S := fun w' => w'.cell? ⟨gb3, 0, none⟩ = some (.int .i64 x335000_1) ∧ w'.cell? ⟨gb3, 1, none⟩ = some (.bool x335001_1) ∧ w'.cell? ⟨gb3, 2, none⟩ = some (.slice Ao3 x335002_1.length co3) ∧ w'.cell? ⟨gb3, 3, none⟩ = some (.slice Ao4 x335003_1.length co4) ∧ w'.cell? ⟨gb3, 4, none⟩ = some (.int .i64 x335004_1) ∧ w'.cell? (ad1.add ((x8_1).toNat * 3)) = some (.int .i64 ((rd_T50 l1 x8_1).f0)) ∧ w'.cell? ⟨(ad1.add ((x8_1).toNat * 3)).block, (ad1.add ((x8_1).toNat * 3)).off + 1, none⟩ = some (.int .i64 ((rd_T50 l1 x8_1).f1)) ∧ w'.cell? ⟨(ad1.add ((x8_1).toNat * 3)).block, (ad1.add ((x8_1).toNat * 3)).off + 2, none⟩ = some (.int .i64 ((rd_T50 l1 x8_1).f2))) (ds := []) #[false, false, false, false, false, false, false, false, false, false, false, false] bfqv_ rfl rfl ⟨(kc_ BK3.out 0).trans rfl, (kc_ BK3.out 1).trans rfl, (kc_ BK3.out 2).trans rfl, (kc_ BK3.out 3).trans rfl, (kc_ BK3.out 4).trans rfl, ((HB.out.cell (World.block_lt_of_cell? w _ hw335_0)).trans hw335_0), ((HB.out.cell (World.block_lt_of_cell? w _ hw335_1)).trans hw335_1), ((HB.out.cell (World.block_lt_of_cell? w _ hw335_2)).trans hw335_2)⟩ (fun hHeld => ?_); refine with_tabW spec_DoWorks.tab7 spec_DoWorks.bits7 (fun HT_ HW_ => ?_)
  generalize wr.drew = w6 at HO_1 HO_2 BK1 BK2 BK3 HB hx1_0 hx1_1 hx1_2 hHeld ⊢
  refine pu_ 1 25 ?_
  refine pu_ 2 26 ?_
  refine pu_ 3 27 ?_
  refine tk_ 0 24 hHeld ?_
  refine tk_ 4 28 hHeld ?_
  refine join_ (σ := Value × Value × Nat) 2 #[true, true, true, true, true, true, true, true, true, true, false, false] (fun s_ => [(29, .tuple #[.agg #[.int .i64 t7, .bool t8, s_.1, s_.2.1, .int .i64 t11], .bool true]), (9, .pointer (some ⟨s_.2.2, 0, none⟩)), (23, .tuple #[.agg #[.int .i64 t7, .bool t8, s_.1, s_.2.1, .int .i64 t11], .bool true]), (30, .agg #[.int .i64 t7, .bool t8, s_.1, s_.2.1, .int .i64 t11]), (31, .bool true)]) (fun s_ w' => (w'.cell? ⟨gb3, 0, none⟩ = some (.int .i64 x335000_1) ∧ w'.cell? ⟨gb3, 1, none⟩ = some (.bool x335001_1) ∧ w'.cell? ⟨gb3, 2, none⟩ = some (.slice Ao3 x335002_1.length co3) ∧ w'.cell? ⟨gb3, 3, none⟩ = some (.slice Ao4 x335003_1.length co4) ∧ w'.cell? ⟨gb3, 4, none⟩ = some (.int .i64 x335004_1) ∧ w'.cell? (ad1.add ((x8_1).toNat * 3)) = some (.int .i64 ((rd_T50 l1 x8_1).f0)) ∧ w'.cell? ⟨(ad1.add ((x8_1).toNat * 3)).block, (ad1.add ((x8_1).toNat * 3)).off + 1, none⟩ = some (.int .i64 ((rd_T50 l1 x8_1).f1)) ∧ w'.cell? ⟨(ad1.add ((x8_1).toNat * 3)).block, (ad1.add ((x8_1).toNat * 3)).off + 2, none⟩ = some (.int .i64 ((rd_T50 l1 x8_1).f2))) ∧ (Kd.R (Kd.int .i64) 3 w' w.heap.size (fun k_ => some k_ ≠ (s_.2.1 : Value).ownBlock ∧ no_ (.slice Ao3 x335002_1.length co3) k_ ∧ no_ (.slice Ao4 x335003_1.length co4) k_) s_.1 t9) ∧ (Kd.R (Kd.int .i64) 3 w' w.heap.size (fun k_ => some k_ ≠ (s_.1 : Value).ownBlock ∧ no_ (.slice Ao3 x335002_1.length co3) k_ ∧ no_ (.slice Ao4 x335003_1.length co4) k_) s_.2.1 t10) ∧ (Kd.R (Kd.int .i64) 3 w' w.heap.size (fun k_ => some k_ ≠ (s_.1 : Value).ownBlock ∧ some k_ ≠ (s_.2.1 : Value).ownBlock ∧ no_ (.slice Ao4 x335003_1.length co4) k_) (.slice Ao3 x335002_1.length co3) x335002_1) ∧ (Kd.R (Kd.int .i64) 3 w' w.heap.size (fun k_ => some k_ ≠ (s_.1 : Value).ownBlock ∧ some k_ ≠ (s_.2.1 : Value).ownBlock ∧ no_ (.slice Ao3 x335002_1.length co3) k_) (.slice Ao4 x335003_1.length co4) x335003_1) ∧ (w'.heap[gb1]? = some (.cells #[.int .i64 a0_0, .bool a0_1, .slice A0_2 l0_2.length c0_2, .slice A0_3 l0_3.length c0_3, .int .i64 a0_4] 32 (0, 0))) ∧ (w'.heap[gb2]? = some (.cells #[.int .i64 x324000_1, .bool x324001_1, .slice none 0 0, .slice none 0 0, .int .i64 x324004_1] 32 (0, 0))) ∧ (w'.heap[gb3]? = some (.cells #[.int .i64 x335000_1, .bool x335001_1, .slice Ao3 x335002_1.length co3, .slice Ao4 x335003_1.length co4, .int .i64 x335004_1] 32 (0, 0))) ∧ (w'.heap[s_.2.2]? = some (.cells #[.int .i64 0, .bool false, .slice none 0 0, .slice none 0 0, .int .i64 0] 32 (0, 0))) ∧ (w.heap.size ≤ s_.2.2) ∧ (w.heap.size ≤ s_.2.2) ∧ (gb1 ≠ s_.2.2) ∧ (s_.2.2 ≠ gb1) ∧ (gb2 ≠ s_.2.2) ∧ (s_.2.2 ≠ gb2) ∧ (gb3 ≠ s_.2.2) ∧ (s_.2.2 ≠ gb3) ∧ (Below w.heap.size w w')) ?_ ?_
  rotate_left
  ·intro hCont
   refine two_ (i := 5) (j := 9) (Ni := some 29) (Nj := some 9) #[true, true, true, true, true, true, false, false, false, false, false, false] #[true, true, true, true, true, false, false, false, false, true, false, false] rfl rfl rfl rfl (two_of HT_.out bfqv_) bi3y_ bi3y_ (fun K hK => ?_) (fun K hK => ?_)
   ·refine gs_ Tryz.func34 #[.agg #[.int .i64 x335000_1, .bool x335001_1, .slice Ao3 x335002_1.length co3, .slice Ao4 x335003_1.length co4, .int .i64 x335004_1], .agg #[.int .i64 ((rd_T50 l1 x8_1).f0), .int .i64 ((rd_T50 l1 x8_1).f1), .int .i64 ((rd_T50 l1 x8_1).f2)]] ?_
    with_reducible refine (spec_l12Do.calls k1 x335000_1 x335001_1 _ _ x335002_1 _ _ x335003_1 x335004_1 ((rd_T50 l1 x8_1).f0) ((rd_T50 l1 x8_1).f1) ((rd_T50 l1 x8_1).f2) t7 t8 t9 t10 t11 true _ ?side1 ?side2 ?side3 ?side4 A7.out).mono ?_
    (case side1 => exact btcf_)
    (case side2 => exact (rr_ HO_1.out).2.1)
    (case side3 => exact bqlu_)
    (case side4 => exact (rr_ HO_2.out).2.1)
    rintro e w7 ⟨v6, v7, rfl, ho0, ho1, hb⟩
    refine ⟨_, rfl, ?_⟩
    have HO3 := A0_ (Kd.R_lower (Kd.R_new' (Kd.R_new' ho0 (Kd.R_lt bwik_)) (Kd.R_lt b7sq_)) (bz_ b850_))
    have HO4 := A0_ (Kd.R_lower (Kd.R_new' (Kd.R_new' ho1 (Kd.R_lt bwik_)) (Kd.R_lt b7sq_)) (bz_ b850_))
    replace HO_1 := A0_ (Kd.R_mono (Kd.R_told (Kd.R_told (Kd.R_old bwik_ hb) (Kd.R_base ho0)) (Kd.R_base ho1)) (fun _ h_ => h_.1))
    replace HO_2 := A0_ (Kd.R_mono (Kd.R_told (Kd.R_told (Kd.R_old b7sq_ hb) (Kd.R_base ho0)) (Kd.R_base ho1)) (fun _ h_ => h_.1))
    replace BK1 := k1_ BK1 hb
    replace BK2 := k1_ BK2 hb
    replace BK3 := k1_ BK3 hb
    replace HB := hb_ hb b850_
    (try clear hb); (try clear ho0); (try clear ho1)
    refine hK.out _ _ ⟨(kc_ BK3.out 0).trans rfl, (kc_ BK3.out 1).trans rfl, (kc_ BK3.out 2).trans rfl, (kc_ BK3.out 3).trans rfl, (kc_ BK3.out 4).trans rfl, ((HB.out.cell (World.block_lt_of_cell? w _ hw335_0)).trans hw335_0), ((HB.out.cell (World.block_lt_of_cell? w _ hw335_1)).trans hw335_1), ((HB.out.cell (World.block_lt_of_cell? w _ hw335_2)).trans hw335_2)⟩ (fun hHeld => ?_)
    clear hK K
    refine nm_ 29 ?_
    refine pu_ 6 23 ?_
    refine pu_ 7 30 ?_
    refine pu_ 8 31 ?_
    refine on_ 9 (some 9) (fun K hK => ?_)
    refine bp_ 9 #[.int .i64 0, .bool false, .slice none 0 0, .slice none 0 0, .int .i64 0] 32 ?_
    intro gb4 hg w8 hbox hb
    replace HO_1 := A0_ (Kd.R_below bwik_ hb)
    replace HO_2 := A0_ (Kd.R_below b7sq_ hb)
    replace HO3 := A0_ (Kd.R_below buiy_ hb)
    replace HO4 := A0_ (Kd.R_below b6ip_ hb)
    have BK4 := A0_ (hbox)
    have GW4 := ge_ hg b850_
    have GE4 := ge_ hg b850_
    replace HB := hb_ hb b850_
    have NB1_4 := nl_ hg BK1
    have NB4_1 := ng_ hg BK1
    replace BK1 := k1_ BK1 hb
    have NB2_4 := nl_ hg BK2
    have NB4_2 := ng_ hg BK2
    replace BK2 := k1_ BK2 hb
    have NB3_4 := nl_ hg BK3
    have NB4_3 := ng_ hg BK3
    replace BK3 := k1_ BK3 hb
    clear hb hbox hg
    refine hK.out _ _ ⟨(kc_ BK3.out 0).trans rfl, (kc_ BK3.out 1).trans rfl, (kc_ BK3.out 2).trans rfl, (kc_ BK3.out 3).trans rfl, (kc_ BK3.out 4).trans rfl, ((HB.out.cell (World.block_lt_of_cell? w _ hw335_0)).trans hw335_0), ((HB.out.cell (World.block_lt_of_cell? w _ hw335_1)).trans hw335_1), ((HB.out.cell (World.block_lt_of_cell? w _ hw335_2)).trans hw335_2)⟩ (fun hHeld => ?_)
    clear hK K
    refine nm_ 9 ?_
    exact norm_ bh00_ (hCont (v6, v7, gb4) _ ⟨hHeld, bjvg_, b3bh_, bjg6_, bnfj_, (u1_ BK1), (u1_ BK2), (u1_ BK3), (u1_ BK4), GW4.out, GE4.out, NB1_4.out, NB4_1.out, NB2_4.out, NB4_2.out, NB3_4.out, NB4_3.out, b2i7_⟩)
   refine bp_ 9 #[.int .i64 0, .bool false, .slice none 0 0, .slice none 0 0, .int .i64 0] 32 ?_
   intro gb4 hg w7 hbox hb
   replace HO_1 := A0_ (Kd.R_below bwik_ hb)
   replace HO_2 := A0_ (Kd.R_below b7sq_ hb)
   have BK4 := A0_ (hbox)
   have GW4 := ge_ hg b850_
   have GE4 := ge_ hg b850_
   replace HB := hb_ hb b850_
   have NB1_4 := nl_ hg BK1
   have NB4_1 := ng_ hg BK1
   replace BK1 := k1_ BK1 hb
   have NB2_4 := nl_ hg BK2
   have NB4_2 := ng_ hg BK2
   replace BK2 := k1_ BK2 hb
   have NB3_4 := nl_ hg BK3
   have NB4_3 := ng_ hg BK3
   replace BK3 := k1_ BK3 hb
   clear hb hbox hg
   refine hK.out _ _ ⟨(kc_ BK3.out 0).trans rfl, (kc_ BK3.out 1).trans rfl, (kc_ BK3.out 2).trans rfl, (kc_ BK3.out 3).trans rfl, (kc_ BK3.out 4).trans rfl, ((HB.out.cell (World.block_lt_of_cell? w _ hw335_0)).trans hw335_0), ((HB.out.cell (World.block_lt_of_cell? w _ hw335_1)).trans hw335_1), ((HB.out.cell (World.block_lt_of_cell? w _ hw335_2)).trans hw335_2)⟩ (fun hHeld => ?_)
   clear hK K
   refine nm_ 9 ?_
   refine on_ 5 (some 29) (fun K hK => ?_)
   refine gs_ Tryz.func34 #[.agg #[.int .i64 x335000_1, .bool x335001_1, .slice Ao3 x335002_1.length co3, .slice Ao4 x335003_1.length co4, .int .i64 x335004_1], .agg #[.int .i64 ((rd_T50 l1 x8_1).f0), .int .i64 ((rd_T50 l1 x8_1).f1), .int .i64 ((rd_T50 l1 x8_1).f2)]] ?_
   with_reducible refine (spec_l12Do.calls k1 x335000_1 x335001_1 _ _ x335002_1 _ _ x335003_1 x335004_1 ((rd_T50 l1 x8_1).f0) ((rd_T50 l1 x8_1).f1) ((rd_T50 l1 x8_1).f2) t7 t8 t9 t10 t11 true _ ?side1 ?side2 ?side3 ?side4 A7.out).mono ?_
   (case side1 => exact btcf_)
   (case side2 => exact (rr_ HO_1.out).2.1)
   (case side3 => exact bqlu_)
   (case side4 => exact (rr_ HO_2.out).2.1)
   rintro e w8 ⟨v6, v7, rfl, ho0, ho1, hb⟩
   refine ⟨_, rfl, ?_⟩
   have HO3 := A0_ (Kd.R_lower (Kd.R_new' (Kd.R_new' ho0 (Kd.R_lt bwik_)) (Kd.R_lt b7sq_)) (bz_ b2i7_))
   have HO4 := A0_ (Kd.R_lower (Kd.R_new' (Kd.R_new' ho1 (Kd.R_lt bwik_)) (Kd.R_lt b7sq_)) (bz_ b2i7_))
   replace HO_1 := A0_ (Kd.R_mono (Kd.R_told (Kd.R_told (Kd.R_old bwik_ hb) (Kd.R_base ho0)) (Kd.R_base ho1)) (fun _ h_ => h_.1))
   replace HO_2 := A0_ (Kd.R_mono (Kd.R_told (Kd.R_told (Kd.R_old b7sq_ hb) (Kd.R_base ho0)) (Kd.R_base ho1)) (fun _ h_ => h_.1))
   replace BK1 := k1_ BK1 hb
   replace BK2 := k1_ BK2 hb
   replace BK3 := k1_ BK3 hb
   replace BK4 := k1_ BK4 hb
   replace HB := hb_ hb b2i7_
   (try clear hb); (try clear ho0); (try clear ho1)
   refine hK.out _ _ ⟨(kc_ BK3.out 0).trans rfl, (kc_ BK3.out 1).trans rfl, (kc_ BK3.out 2).trans rfl, (kc_ BK3.out 3).trans rfl, (kc_ BK3.out 4).trans rfl, ((HB.out.cell (World.block_lt_of_cell? w _ hw335_0)).trans hw335_0), ((HB.out.cell (World.block_lt_of_cell? w _ hw335_1)).trans hw335_1), ((HB.out.cell (World.block_lt_of_cell? w _ hw335_2)).trans hw335_2)⟩ (fun hHeld => ?_)
   clear hK K
   refine nm_ 29 ?_
   refine pu_ 6 23 ?_
   refine pu_ 7 30 ?_
   refine pu_ 8 31 ?_
   exact norm_ bh00_ (hCont (v6, v7, gb4) _ ⟨hHeld, bjvg_, b3bh_, bjg6_, bnfj_, (u1_ BK1), (u1_ BK2), (u1_ BK3), (u1_ BK4), GW4.out, GE4.out, NB1_4.out, NB4_1.out, NB2_4.out, NB4_2.out, NB3_4.out, NB4_3.out, b2i7_⟩)
  rintro ⟨v6, v7, gb4⟩ w7 ⟨hS_, h0_, h1_, h2_, h3_, h4_, h5_, h6_, h7_, h8_, h9_, h10_, h11_, h12_, h13_, h14_, h15_, h16_⟩
  try dsimp only at h0_ h1_ h2_ h3_ h4_ h5_ h6_ h7_ h8_ h9_ h10_ h11_ h12_ h13_ h14_ h15_ h16_
  have HO3 := A0_ h0_
  have HO4 := A0_ h1_
  replace HO_1 := A0_ h2_
  replace HO_2 := A0_ h3_
  replace BK1 := A0_ h4_
  replace BK2 := A0_ h5_
  replace BK3 := A0_ h6_
  have BK4 := A0_ h7_
  have GW4 := A0_ h8_
  have GE4 := A0_ h9_
  have NB1_4 := A0_ h10_
  have NB4_1 := A0_ h11_
  have NB2_4 := A0_ h12_
  have NB4_2 := A0_ h13_
  have NB3_4 := A0_ h14_
  have NB4_3 := A0_ h15_
  replace HB := A0_ h16_
  clear h0_ h1_ h2_ h3_ h4_ h5_ h6_ h7_ h8_ h9_ h10_ h11_ h12_ h13_ h14_ h15_ h16_
  have hHeld : w7.cell? ⟨gb3, 0, none⟩ = some (.int .i64 x335000_1) ∧ w7.cell? ⟨gb3, 1, none⟩ = some (.bool x335001_1) ∧ w7.cell? ⟨gb3, 2, none⟩ = some (.slice Ao3 x335002_1.length co3) ∧ w7.cell? ⟨gb3, 3, none⟩ = some (.slice Ao4 x335003_1.length co4) ∧ w7.cell? ⟨gb3, 4, none⟩ = some (.int .i64 x335004_1) ∧ w7.cell? (ad1.add ((x8_1).toNat * 3)) = some (.int .i64 ((rd_T50 l1 x8_1).f0)) ∧ w7.cell? ⟨(ad1.add ((x8_1).toNat * 3)).block, (ad1.add ((x8_1).toNat * 3)).off + 1, none⟩ = some (.int .i64 ((rd_T50 l1 x8_1).f1)) ∧ w7.cell? ⟨(ad1.add ((x8_1).toNat * 3)).block, (ad1.add ((x8_1).toNat * 3)).off + 2, none⟩ = some (.int .i64 ((rd_T50 l1 x8_1).f2)) := hS_
  obtain ⟨Ao5, co5, eo5⟩ := Kd.R_slice HO3.out
  (first | subst eo5 | (injection eo5 with f1_ f2_ f3_; have f4_ := f1_.symm; have f5_ := f3_.symm; clear f1_ f2_ f3_; subst f4_; subst f5_))
  obtain ⟨Ao6, co6, eo6⟩ := Kd.R_slice HO4.out
  (first | subst eo6 | (injection eo6 with f1_ f2_ f3_; have f4_ := f1_.symm; have f5_ := f3_.symm; clear f1_ f2_ f3_; subst f4_; subst f5_))
  refine nq_ ?_
  refine on_ 10 none (fun K hK => ?_)
  have hs29 : w7.cell? ⟨gb4, 0, none⟩ = some (.int .i64 0) := (kc_ BK4.out 0).trans rfl
  have hfs29 := kf_ BK4.out 0
  have hns1_0 := NB1_4.out
  have hns1_1 := NB2_4.out
  have hns1_2 := NB3_4.out
  have hms1_0 := NB4_1.out
  have hms1_1 := NB4_2.out
  have hms1_2 := NB4_3.out
  have hs30 : w7.cell? ⟨gb4, 1, none⟩ = some (.bool false) := (kc_ BK4.out 1).trans rfl
  have hfs30 := kf_ BK4.out 1
  have hns2_0 := NB1_4.out
  have hns2_1 := NB2_4.out
  have hns2_2 := NB3_4.out
  have hms2_0 := NB4_1.out
  have hms2_1 := NB4_2.out
  have hms2_2 := NB4_3.out
  have hs32 : w7.cell? ⟨gb4, 2, none⟩ = some (.slice none 0 0) := (kc_ BK4.out 2).trans rfl
  have hfs32 := kf_ BK4.out 2
  have hns3_0 := NB1_4.out
  have hns3_1 := NB2_4.out
  have hns3_2 := NB3_4.out
  have hms3_0 := NB4_1.out
  have hms3_1 := NB4_2.out
  have hms3_2 := NB4_3.out
  have hs34 : w7.cell? ⟨gb4, 3, none⟩ = some (.slice none 0 0) := (kc_ BK4.out 3).trans rfl
  have hfs34 := kf_ BK4.out 3
  have hns4_0 := NB1_4.out
  have hns4_1 := NB2_4.out
  have hns4_2 := NB3_4.out
  have hms4_0 := NB4_1.out
  have hms4_1 := NB4_2.out
  have hms4_2 := NB4_3.out
  have hs35 : w7.cell? ⟨gb4, 4, none⟩ = some (.int .i64 0) := (kc_ BK4.out 4).trans rfl
  have hfs35 := kf_ BK4.out 4
  have hns5_0 := NB1_4.out
  have hns5_1 := NB2_4.out
  have hns5_2 := NB3_4.out
  have hms5_0 := NB4_1.out
  have hms5_1 := NB4_2.out
  have hms5_2 := NB4_3.out
  refine skip_ (w1 := ?_) (by rfl) rfl ?_ ?_
  rotate_left
  ·go_simp
   rfl
  refine hK.out _ _ ⟨((cell_far (p := ⟨gb4, _, none⟩) NB3_4.out _).trans (((cell_far (p := ⟨gb4, _, none⟩) NB3_4.out _).trans (((cell_far (p := ⟨gb4, _, none⟩) NB3_4.out _).trans (((cell_far (p := ⟨gb4, _, none⟩) NB3_4.out _).trans (((cell_far (p := ⟨gb4, _, none⟩) NB3_4.out _).trans (hHeld.1)))))))))), ((cell_far (p := ⟨gb4, _, none⟩) NB3_4.out _).trans (((cell_far (p := ⟨gb4, _, none⟩) NB3_4.out _).trans (((cell_far (p := ⟨gb4, _, none⟩) NB3_4.out _).trans (((cell_far (p := ⟨gb4, _, none⟩) NB3_4.out _).trans (((cell_far (p := ⟨gb4, _, none⟩) NB3_4.out _).trans (hHeld.2.1)))))))))), ((cell_far (p := ⟨gb4, _, none⟩) NB3_4.out _).trans (((cell_far (p := ⟨gb4, _, none⟩) NB3_4.out _).trans (((cell_far (p := ⟨gb4, _, none⟩) NB3_4.out _).trans (((cell_far (p := ⟨gb4, _, none⟩) NB3_4.out _).trans (((cell_far (p := ⟨gb4, _, none⟩) NB3_4.out _).trans (hHeld.2.2.1)))))))))), ((cell_far (p := ⟨gb4, _, none⟩) NB3_4.out _).trans (((cell_far (p := ⟨gb4, _, none⟩) NB3_4.out _).trans (((cell_far (p := ⟨gb4, _, none⟩) NB3_4.out _).trans (((cell_far (p := ⟨gb4, _, none⟩) NB3_4.out _).trans (((cell_far (p := ⟨gb4, _, none⟩) NB3_4.out _).trans (hHeld.2.2.2.1)))))))))), ((cell_far (p := ⟨gb4, _, none⟩) NB3_4.out _).trans (((cell_far (p := ⟨gb4, _, none⟩) NB3_4.out _).trans (((cell_far (p := ⟨gb4, _, none⟩) NB3_4.out _).trans (((cell_far (p := ⟨gb4, _, none⟩) NB3_4.out _).trans (((cell_far (p := ⟨gb4, _, none⟩) NB3_4.out _).trans (hHeld.2.2.2.2.1)))))))))), ((cell_far (p := ⟨gb4, _, none⟩) b5ip_ _).trans (((cell_far (p := ⟨gb4, _, none⟩) b5ip_ _).trans (((cell_far (p := ⟨gb4, _, none⟩) b5ip_ _).trans (((cell_far (p := ⟨gb4, _, none⟩) b5ip_ _).trans (((cell_far (p := ⟨gb4, _, none⟩) b5ip_ _).trans (hHeld.2.2.2.2.2.1)))))))))), ((cell_far (p := ⟨gb4, _, none⟩) bjso_ _).trans (((cell_far (p := ⟨gb4, _, none⟩) bjso_ _).trans (((cell_far (p := ⟨gb4, _, none⟩) bjso_ _).trans (((cell_far (p := ⟨gb4, _, none⟩) bjso_ _).trans (((cell_far (p := ⟨gb4, _, none⟩) bjso_ _).trans (hHeld.2.2.2.2.2.2.1)))))))))), ((cell_far (p := ⟨gb4, _, none⟩) bsxq_ _).trans (((cell_far (p := ⟨gb4, _, none⟩) bsxq_ _).trans (((cell_far (p := ⟨gb4, _, none⟩) bsxq_ _).trans (((cell_far (p := ⟨gb4, _, none⟩) bsxq_ _).trans (((cell_far (p := ⟨gb4, _, none⟩) bsxq_ _).trans (hHeld.2.2.2.2.2.2.2))))))))))⟩ (fun hHeld => ?_)
  clear hK K
  refine pu_ 11 10 ?_
  refine dn_ ?_
  have hnb4 := NB4_1.out
  have hnc4 := NB1_4.out
  have hnb5 := NB4_2.out
  have hnc5 := NB2_4.out
  have hnb6 := NB4_3.out
  have hnc6 := NB3_4.out
  have hcz4 := z5_ BK4
  have hnb7 := NB3_1.out
  have hnc7 := NB1_3.out
  have hnb8 := NB3_2.out
  have hnc8 := NB2_3.out
  have hcz5 := z5_ BK3
  try go_wp2
  go_roundg k1
  case measure => have := HK1.out; omega
  exact ⟨(wrap64 (x8_1 + 1)), (x324000_1), (x324001_1), (x324004_1), (t7), (t8), (t9), (t10), (t11), (.slice Ao5 t9.length co5), (.slice Ao6 t10.length co6), b2ew_, H', ⟨bxjq_⟩, ⟨by (with_reducible repeat (first | apply ra_ | apply rn_ | apply rd_)); exact Kd.R_mono (rf_ (rf_ (rf_ (rf_ (rf_ (rf_ (rf_ (rf_ (rf_ (rf_ (Kd.R_types (Kd.R_types HO3.out BK4.out bi3y_) BK3.out bi3y_) (fun _ hk => hk.1.2) (.int .i64 t7)) (fun _ hk => hk.1.2) (.bool t8)) (fun _ hk => hk.1.2) (.slice Ao5 t9.length co5)) (fun _ hk => hk.1.2) (.slice Ao6 t10.length co6)) (fun _ hk => hk.1.2) (.int .i64 t11)) k2_0 _) k2_0 _) k2_0 _) k2_0 _) k2_0 _) (fun _ hk => hk.1.1.1)⟩, ⟨by (with_reducible repeat (first | apply ra_ | apply rn_ | apply rd_)); exact Kd.R_mono (rf_ (rf_ (rf_ (rf_ (rf_ (rf_ (rf_ (rf_ (rf_ (rf_ (Kd.R_types (Kd.R_types HO4.out BK4.out bi3y_) BK3.out bi3y_) (fun _ hk => hk.1.2) (.int .i64 t7)) (fun _ hk => hk.1.2) (.bool t8)) (fun _ hk => hk.1.2) (.slice Ao5 t9.length co5)) (fun _ hk => hk.1.2) (.slice Ao6 t10.length co6)) (fun _ hk => hk.1.2) (.int .i64 t11)) k2_0 _) k2_0 _) k2_0 _) k2_0 _) k2_0 _) (fun _ hk => hk.1.1.1)⟩, ⟨u1_ BK1⟩, ⟨u1_ BK2⟩, ⟨u1_ BK3⟩, ⟨b2i7_⟩⟩
 obtain rfl := bf_.mpr c5
 rw [if_neg ft_] at H
 simp only [sj_, pj_] at H
 obtain ⟨rfl, rfl, rfl, rfl, rfl, rfl, rfl⟩ := H
 obtain ⟨Ao3, co3, eo3⟩ := Kd.R_slice HO_1.out
 subst eo3
 obtain ⟨Ao4, co4, eo4⟩ := Kd.R_slice HO_2.out
 subst eo4
 try go_wp2
 replace HO_1 := A0_ (rd_ HO_1.out)
 replace HO_2 := A0_ (rd_ HO_2.out)
 replace BK1 := A0_ (kd_ BK1.out)
 replace BK2 := A0_ (kd_ BK2.out)
 replace BK3 := A0_ (kd_ BK3.out)
 replace HB := A0_ (bd_ HB.out)
 have p1 : 0 ≤ (x8_1 : Int) := od_ bpil_
 have q1 : x8_1 < (l1.length : Int) := od_ bpil_
 obtain ⟨ad1, e1, hx1_0, hx1_1, hx1_2⟩ := at_T50 HR1.out x8_1 p1 q1
 have hw335_2 := hx1_2
 have hw335_1 := hx1_1
 have hw335_0 := hx1_0
 cases e1
 replace hx1_0 := (HB.out.cell (World.block_lt_of_cell? w _ hx1_0)).trans hx1_0
 replace hx1_1 := (HB.out.cell (World.block_lt_of_cell? w _ hx1_1)).trans hx1_1
 replace hx1_2 := (HB.out.cell (World.block_lt_of_cell? w _ hx1_2)).trans hx1_2
 replace p1 := eq_true p1
 replace q1 := eq_true q1
 refine start_ (n := 12) (S := fun w' => w'.cell? ⟨gb3, 0, none⟩ = some (.int .i64 x335000_1) ∧ w'.cell? ⟨gb3, 1, none⟩ = some (.bool x335001_1) ∧ w'.cell? ⟨gb3, 2, none⟩ = some (.slice Ao3 x335002_1.length co3) ∧ w'.cell? ⟨gb3, 3, none⟩ = some (.slice Ao4 x335003_1.length co4) ∧ w'.cell? ⟨gb3, 4, none⟩ = some (.int .i64 x335004_1) ∧ w'.cell? (ad1.add ((x8_1).toNat * 3)) = some (.int .i64 ((rd_T50 l1 x8_1).f0)) ∧ w'.cell? ⟨(ad1.add ((x8_1).toNat * 3)).block, (ad1.add ((x8_1).toNat * 3)).off + 1, none⟩ = some (.int .i64 ((rd_T50 l1 x8_1).f1)) ∧ w'.cell? ⟨(ad1.add ((x8_1).toNat * 3)).block, (ad1.add ((x8_1).toNat * 3)).off + 2, none⟩ = some (.int .i64 ((rd_T50 l1 x8_1).f2))) (ds := []) #[false, false, false, false, false, false, false, false, false, false, false, false] bfqv_ rfl rfl ⟨(kc_ BK3.out 0).trans rfl, (kc_ BK3.out 1).trans rfl, (kc_ BK3.out 2).trans rfl, (kc_ BK3.out 3).trans rfl, (kc_ BK3.out 4).trans rfl, ((HB.out.cell (World.block_lt_of_cell? w _ hw335_0)).trans hw335_0), ((HB.out.cell (World.block_lt_of_cell? w _ hw335_1)).trans hw335_1), ((HB.out.cell (World.block_lt_of_cell? w _ hw335_2)).trans hw335_2)⟩ (fun hHeld => ?_); refine with_tabW spec_DoWorks.tab7 spec_DoWorks.bits7 (fun HT_ HW_ => ?_)
 generalize wr.drew = w6 at HO_1 HO_2 BK1 BK2 BK3 HB hx1_0 hx1_1 hx1_2 hHeld ⊢
 refine pu_ 1 25 ?_
 refine pu_ 2 26 ?_
 refine pu_ 3 27 ?_
 refine tk_ 0 24 hHeld ?_
 refine tk_ 4 28 hHeld ?_
 refine join_ (σ := Value × Value × Nat) 2 #[true, true, true, true, true, true, true, true, true, true, false, false] (fun s_ => [(29, .tuple #[.agg #[.int .i64 t7, .bool t8, s_.1, s_.2.1, .int .i64 t11], .bool false]), (9, .pointer (some ⟨s_.2.2, 0, none⟩)), (23, .tuple #[.agg #[.int .i64 t7, .bool t8, s_.1, s_.2.1, .int .i64 t11], .bool false]), (30, .agg #[.int .i64 t7, .bool t8, s_.1, s_.2.1, .int .i64 t11]), (31, .bool false)]) (fun s_ w' => (w'.cell? ⟨gb3, 0, none⟩ = some (.int .i64 x335000_1) ∧ w'.cell? ⟨gb3, 1, none⟩ = some (.bool x335001_1) ∧ w'.cell? ⟨gb3, 2, none⟩ = some (.slice Ao3 x335002_1.length co3) ∧ w'.cell? ⟨gb3, 3, none⟩ = some (.slice Ao4 x335003_1.length co4) ∧ w'.cell? ⟨gb3, 4, none⟩ = some (.int .i64 x335004_1) ∧ w'.cell? (ad1.add ((x8_1).toNat * 3)) = some (.int .i64 ((rd_T50 l1 x8_1).f0)) ∧ w'.cell? ⟨(ad1.add ((x8_1).toNat * 3)).block, (ad1.add ((x8_1).toNat * 3)).off + 1, none⟩ = some (.int .i64 ((rd_T50 l1 x8_1).f1)) ∧ w'.cell? ⟨(ad1.add ((x8_1).toNat * 3)).block, (ad1.add ((x8_1).toNat * 3)).off + 2, none⟩ = some (.int .i64 ((rd_T50 l1 x8_1).f2))) ∧ (Kd.R (Kd.int .i64) 3 w' w.heap.size (fun k_ => some k_ ≠ (s_.2.1 : Value).ownBlock ∧ no_ (.slice Ao3 x335002_1.length co3) k_ ∧ no_ (.slice Ao4 x335003_1.length co4) k_) s_.1 t9) ∧ (Kd.R (Kd.int .i64) 3 w' w.heap.size (fun k_ => some k_ ≠ (s_.1 : Value).ownBlock ∧ no_ (.slice Ao3 x335002_1.length co3) k_ ∧ no_ (.slice Ao4 x335003_1.length co4) k_) s_.2.1 t10) ∧ (Kd.R (Kd.int .i64) 3 w' w.heap.size (fun k_ => some k_ ≠ (s_.1 : Value).ownBlock ∧ some k_ ≠ (s_.2.1 : Value).ownBlock ∧ no_ (.slice Ao4 x335003_1.length co4) k_) (.slice Ao3 x335002_1.length co3) x335002_1) ∧ (Kd.R (Kd.int .i64) 3 w' w.heap.size (fun k_ => some k_ ≠ (s_.1 : Value).ownBlock ∧ some k_ ≠ (s_.2.1 : Value).ownBlock ∧ no_ (.slice Ao3 x335002_1.length co3) k_) (.slice Ao4 x335003_1.length co4) x335003_1) ∧ (w'.heap[gb1]? = some (.cells #[.int .i64 a0_0, .bool a0_1, .slice A0_2 l0_2.length c0_2, .slice A0_3 l0_3.length c0_3, .int .i64 a0_4] 32 (0, 0))) ∧ (w'.heap[gb2]? = some (.cells #[.int .i64 x324000_1, .bool x324001_1, .slice none 0 0, .slice none 0 0, .int .i64 x324004_1] 32 (0, 0))) ∧ (w'.heap[gb3]? = some (.cells #[.int .i64 x335000_1, .bool x335001_1, .slice Ao3 x335002_1.length co3, .slice Ao4 x335003_1.length co4, .int .i64 x335004_1] 32 (0, 0))) ∧ (w'.heap[s_.2.2]? = some (.cells #[.int .i64 0, .bool false, .slice none 0 0, .slice none 0 0, .int .i64 0] 32 (0, 0))) ∧ (w.heap.size ≤ s_.2.2) ∧ (w.heap.size ≤ s_.2.2) ∧ (gb1 ≠ s_.2.2) ∧ (s_.2.2 ≠ gb1) ∧ (gb2 ≠ s_.2.2) ∧ (s_.2.2 ≠ gb2) ∧ (gb3 ≠ s_.2.2) ∧ (s_.2.2 ≠ gb3) ∧ (Below w.heap.size w w')) ?_ ?_
 rotate_left
 ·intro hCont
  refine two_ (i := 5) (j := 9) (Ni := some 29) (Nj := some 9) #[true, true, true, true, true, true, false, false, false, false, false, false] #[true, true, true, true, true, false, false, false, false, true, false, false] rfl rfl rfl rfl (two_of HT_.out bfqv_) bi3y_ bi3y_ (fun K hK => ?_) (fun K hK => ?_)
  ·refine gs_ Tryz.func34 #[.agg #[.int .i64 x335000_1, .bool x335001_1, .slice Ao3 x335002_1.length co3, .slice Ao4 x335003_1.length co4, .int .i64 x335004_1], .agg #[.int .i64 ((rd_T50 l1 x8_1).f0), .int .i64 ((rd_T50 l1 x8_1).f1), .int .i64 ((rd_T50 l1 x8_1).f2)]] ?_
   with_reducible refine (spec_l12Do.calls k1 x335000_1 x335001_1 _ _ x335002_1 _ _ x335003_1 x335004_1 ((rd_T50 l1 x8_1).f0) ((rd_T50 l1 x8_1).f1) ((rd_T50 l1 x8_1).f2) t7 t8 t9 t10 t11 false _ ?side1 ?side2 ?side3 ?side4 A7.out).mono ?_
   (case side1 => exact btcf_)
   (case side2 => exact (rr_ HO_1.out).2.1)
   (case side3 => exact bqlu_)
   (case side4 => exact (rr_ HO_2.out).2.1)
   rintro e w7 ⟨v6, v7, rfl, ho0, ho1, hb⟩
   refine ⟨_, rfl, ?_⟩
   have HO3 := A0_ (Kd.R_lower (Kd.R_new' (Kd.R_new' ho0 (Kd.R_lt bwik_)) (Kd.R_lt b7sq_)) (bz_ b850_))
   have HO4 := A0_ (Kd.R_lower (Kd.R_new' (Kd.R_new' ho1 (Kd.R_lt bwik_)) (Kd.R_lt b7sq_)) (bz_ b850_))
   replace HO_1 := A0_ (Kd.R_mono (Kd.R_told (Kd.R_told (Kd.R_old bwik_ hb) (Kd.R_base ho0)) (Kd.R_base ho1)) (fun _ h_ => h_.1))
   replace HO_2 := A0_ (Kd.R_mono (Kd.R_told (Kd.R_told (Kd.R_old b7sq_ hb) (Kd.R_base ho0)) (Kd.R_base ho1)) (fun _ h_ => h_.1))
   replace BK1 := k1_ BK1 hb
   replace BK2 := k1_ BK2 hb
   replace BK3 := k1_ BK3 hb
   replace HB := hb_ hb b850_
   (try clear hb); (try clear ho0); (try clear ho1)
   refine hK.out _ _ ⟨(kc_ BK3.out 0).trans rfl, (kc_ BK3.out 1).trans rfl, (kc_ BK3.out 2).trans rfl, (kc_ BK3.out 3).trans rfl, (kc_ BK3.out 4).trans rfl, ((HB.out.cell (World.block_lt_of_cell? w _ hw335_0)).trans hw335_0), ((HB.out.cell (World.block_lt_of_cell? w _ hw335_1)).trans hw335_1), ((HB.out.cell (World.block_lt_of_cell? w _ hw335_2)).trans hw335_2)⟩ (fun hHeld => ?_)
   clear hK K
   refine nm_ 29 ?_
   refine pu_ 6 23 ?_
   refine pu_ 7 30 ?_
   refine pu_ 8 31 ?_
   refine on_ 9 (some 9) (fun K hK => ?_)
   refine bp_ 9 #[.int .i64 0, .bool false, .slice none 0 0, .slice none 0 0, .int .i64 0] 32 ?_
   intro gb4 hg w8 hbox hb
   replace HO_1 := A0_ (Kd.R_below bwik_ hb)
   replace HO_2 := A0_ (Kd.R_below b7sq_ hb)
   replace HO3 := A0_ (Kd.R_below buiy_ hb)
   replace HO4 := A0_ (Kd.R_below b6ip_ hb)
   have BK4 := A0_ (hbox)
   have GW4 := ge_ hg b850_
   have GE4 := ge_ hg b850_
   replace HB := hb_ hb b850_
   have NB1_4 := nl_ hg BK1
   have NB4_1 := ng_ hg BK1
   replace BK1 := k1_ BK1 hb
   have NB2_4 := nl_ hg BK2
   have NB4_2 := ng_ hg BK2
   replace BK2 := k1_ BK2 hb
   have NB3_4 := nl_ hg BK3
   have NB4_3 := ng_ hg BK3
   replace BK3 := k1_ BK3 hb
   clear hb hbox hg
   refine hK.out _ _ ⟨(kc_ BK3.out 0).trans rfl, (kc_ BK3.out 1).trans rfl, (kc_ BK3.out 2).trans rfl, (kc_ BK3.out 3).trans rfl, (kc_ BK3.out 4).trans rfl, ((HB.out.cell (World.block_lt_of_cell? w _ hw335_0)).trans hw335_0), ((HB.out.cell (World.block_lt_of_cell? w _ hw335_1)).trans hw335_1), ((HB.out.cell (World.block_lt_of_cell? w _ hw335_2)).trans hw335_2)⟩ (fun hHeld => ?_)
   clear hK K
   refine nm_ 9 ?_
   exact norm_ bh00_ (hCont (v6, v7, gb4) _ ⟨hHeld, bjvg_, b3bh_, bjg6_, bnfj_, (u1_ BK1), (u1_ BK2), (u1_ BK3), (u1_ BK4), GW4.out, GE4.out, NB1_4.out, NB4_1.out, NB2_4.out, NB4_2.out, NB3_4.out, NB4_3.out, b2i7_⟩)
  refine bp_ 9 #[.int .i64 0, .bool false, .slice none 0 0, .slice none 0 0, .int .i64 0] 32 ?_
  intro gb4 hg w7 hbox hb
  replace HO_1 := A0_ (Kd.R_below bwik_ hb)
  replace HO_2 := A0_ (Kd.R_below b7sq_ hb)
  have BK4 := A0_ (hbox)
  have GW4 := ge_ hg b850_
  have GE4 := ge_ hg b850_
  replace HB := hb_ hb b850_
  have NB1_4 := nl_ hg BK1
  have NB4_1 := ng_ hg BK1
  replace BK1 := k1_ BK1 hb
  have NB2_4 := nl_ hg BK2
  have NB4_2 := ng_ hg BK2
  replace BK2 := k1_ BK2 hb
  have NB3_4 := nl_ hg BK3
  have NB4_3 := ng_ hg BK3
  replace BK3 := k1_ BK3 hb
  clear hb hbox hg
  refine hK.out _ _ ⟨(kc_ BK3.out 0).trans rfl, (kc_ BK3.out 1).trans rfl, (kc_ BK3.out 2).trans rfl, (kc_ BK3.out 3).trans rfl, (kc_ BK3.out 4).trans rfl, ((HB.out.cell (World.block_lt_of_cell? w _ hw335_0)).trans hw335_0), ((HB.out.cell (World.block_lt_of_cell? w _ hw335_1)).trans hw335_1), ((HB.out.cell (World.block_lt_of_cell? w _ hw335_2)).trans hw335_2)⟩ (fun hHeld => ?_)
  clear hK K
  refine nm_ 9 ?_
  refine on_ 5 (some 29) (fun K hK => ?_)
  refine gs_ Tryz.func34 #[.agg #[.int .i64 x335000_1, .bool x335001_1, .slice Ao3 x335002_1.length co3, .slice Ao4 x335003_1.length co4, .int .i64 x335004_1], .agg #[.int .i64 ((rd_T50 l1 x8_1).f0), .int .i64 ((rd_T50 l1 x8_1).f1), .int .i64 ((rd_T50 l1 x8_1).f2)]] ?_
  with_reducible refine (spec_l12Do.calls k1 x335000_1 x335001_1 _ _ x335002_1 _ _ x335003_1 x335004_1 ((rd_T50 l1 x8_1).f0) ((rd_T50 l1 x8_1).f1) ((rd_T50 l1 x8_1).f2) t7 t8 t9 t10 t11 false _ ?side1 ?side2 ?side3 ?side4 A7.out).mono ?_
  (case side1 => exact btcf_)
  (case side2 => exact (rr_ HO_1.out).2.1)
  (case side3 => exact bqlu_)
  (case side4 => exact (rr_ HO_2.out).2.1)
  rintro e w8 ⟨v6, v7, rfl, ho0, ho1, hb⟩
  refine ⟨_, rfl, ?_⟩
  have HO3 := A0_ (Kd.R_lower (Kd.R_new' (Kd.R_new' ho0 (Kd.R_lt bwik_)) (Kd.R_lt b7sq_)) (bz_ b2i7_))
  have HO4 := A0_ (Kd.R_lower (Kd.R_new' (Kd.R_new' ho1 (Kd.R_lt bwik_)) (Kd.R_lt b7sq_)) (bz_ b2i7_))
  replace HO_1 := A0_ (Kd.R_mono (Kd.R_told (Kd.R_told (Kd.R_old bwik_ hb) (Kd.R_base ho0)) (Kd.R_base ho1)) (fun _ h_ => h_.1))
  replace HO_2 := A0_ (Kd.R_mono (Kd.R_told (Kd.R_told (Kd.R_old b7sq_ hb) (Kd.R_base ho0)) (Kd.R_base ho1)) (fun _ h_ => h_.1))
  replace BK1 := k1_ BK1 hb
  replace BK2 := k1_ BK2 hb
  replace BK3 := k1_ BK3 hb
  replace BK4 := k1_ BK4 hb
  replace HB := hb_ hb b2i7_
  (try clear hb); (try clear ho0); (try clear ho1)
  refine hK.out _ _ ⟨(kc_ BK3.out 0).trans rfl, (kc_ BK3.out 1).trans rfl, (kc_ BK3.out 2).trans rfl, (kc_ BK3.out 3).trans rfl, (kc_ BK3.out 4).trans rfl, ((HB.out.cell (World.block_lt_of_cell? w _ hw335_0)).trans hw335_0), ((HB.out.cell (World.block_lt_of_cell? w _ hw335_1)).trans hw335_1), ((HB.out.cell (World.block_lt_of_cell? w _ hw335_2)).trans hw335_2)⟩ (fun hHeld => ?_)
  clear hK K
  refine nm_ 29 ?_
  refine pu_ 6 23 ?_
  refine pu_ 7 30 ?_
  refine pu_ 8 31 ?_
  exact norm_ bh00_ (hCont (v6, v7, gb4) _ ⟨hHeld, bjvg_, b3bh_, bjg6_, bnfj_, (u1_ BK1), (u1_ BK2), (u1_ BK3), (u1_ BK4), GW4.out, GE4.out, NB1_4.out, NB4_1.out, NB2_4.out, NB4_2.out, NB3_4.out, NB4_3.out, b2i7_⟩)
 rintro ⟨v6, v7, gb4⟩ w7 ⟨hS_, h0_, h1_, h2_, h3_, h4_, h5_, h6_, h7_, h8_, h9_, h10_, h11_, h12_, h13_, h14_, h15_, h16_⟩
 try dsimp only at h0_ h1_ h2_ h3_ h4_ h5_ h6_ h7_ h8_ h9_ h10_ h11_ h12_ h13_ h14_ h15_ h16_
 have HO3 := A0_ h0_
 have HO4 := A0_ h1_
 replace HO_1 := A0_ h2_
 replace HO_2 := A0_ h3_
 replace BK1 := A0_ h4_
 replace BK2 := A0_ h5_
 replace BK3 := A0_ h6_
 have BK4 := A0_ h7_
 have GW4 := A0_ h8_
 have GE4 := A0_ h9_
 have NB1_4 := A0_ h10_
 have NB4_1 := A0_ h11_
 have NB2_4 := A0_ h12_
 have NB4_2 := A0_ h13_
 have NB3_4 := A0_ h14_
 have NB4_3 := A0_ h15_
 replace HB := A0_ h16_
 clear h0_ h1_ h2_ h3_ h4_ h5_ h6_ h7_ h8_ h9_ h10_ h11_ h12_ h13_ h14_ h15_ h16_
 have hHeld : w7.cell? ⟨gb3, 0, none⟩ = some (.int .i64 x335000_1) ∧ w7.cell? ⟨gb3, 1, none⟩ = some (.bool x335001_1) ∧ w7.cell? ⟨gb3, 2, none⟩ = some (.slice Ao3 x335002_1.length co3) ∧ w7.cell? ⟨gb3, 3, none⟩ = some (.slice Ao4 x335003_1.length co4) ∧ w7.cell? ⟨gb3, 4, none⟩ = some (.int .i64 x335004_1) ∧ w7.cell? (ad1.add ((x8_1).toNat * 3)) = some (.int .i64 ((rd_T50 l1 x8_1).f0)) ∧ w7.cell? ⟨(ad1.add ((x8_1).toNat * 3)).block, (ad1.add ((x8_1).toNat * 3)).off + 1, none⟩ = some (.int .i64 ((rd_T50 l1 x8_1).f1)) ∧ w7.cell? ⟨(ad1.add ((x8_1).toNat * 3)).block, (ad1.add ((x8_1).toNat * 3)).off + 2, none⟩ = some (.int .i64 ((rd_T50 l1 x8_1).f2)) := hS_
 obtain ⟨Ao5, co5, eo5⟩ := Kd.R_slice HO3.out
 (first | subst eo5 | (injection eo5 with f1_ f2_ f3_; have f4_ := f1_.symm; have f5_ := f3_.symm; clear f1_ f2_ f3_; subst f4_; subst f5_))
 obtain ⟨Ao6, co6, eo6⟩ := Kd.R_slice HO4.out
 (first | subst eo6 | (injection eo6 with f1_ f2_ f3_; have f4_ := f1_.symm; have f5_ := f3_.symm; clear f1_ f2_ f3_; subst f4_; subst f5_))
 refine nq_ ?_
 refine on_ 10 none (fun K hK => ?_)
 have hs49 : w7.cell? ⟨gb4, 0, none⟩ = some (.int .i64 0) := (kc_ BK4.out 0).trans rfl
 have hfs49 := kf_ BK4.out 0
 have hns1_0 := NB1_4.out
 have hns1_1 := NB2_4.out
 have hns1_2 := NB3_4.out
 have hms1_0 := NB4_1.out
 have hms1_1 := NB4_2.out
 have hms1_2 := NB4_3.out
 have hs50 : w7.cell? ⟨gb4, 1, none⟩ = some (.bool false) := (kc_ BK4.out 1).trans rfl
 have hfs50 := kf_ BK4.out 1
 have hns2_0 := NB1_4.out
 have hns2_1 := NB2_4.out
 have hns2_2 := NB3_4.out
 have hms2_0 := NB4_1.out
 have hms2_1 := NB4_2.out
 have hms2_2 := NB4_3.out
 have hs52 : w7.cell? ⟨gb4, 2, none⟩ = some (.slice none 0 0) := (kc_ BK4.out 2).trans rfl
 have hfs52 := kf_ BK4.out 2
 have hns3_0 := NB1_4.out
 have hns3_1 := NB2_4.out
 have hns3_2 := NB3_4.out
 have hms3_0 := NB4_1.out
 have hms3_1 := NB4_2.out
 have hms3_2 := NB4_3.out
 have hs54 : w7.cell? ⟨gb4, 3, none⟩ = some (.slice none 0 0) := (kc_ BK4.out 3).trans rfl
 have hfs54 := kf_ BK4.out 3
 have hns4_0 := NB1_4.out
 have hns4_1 := NB2_4.out
 have hns4_2 := NB3_4.out
 have hms4_0 := NB4_1.out
 have hms4_1 := NB4_2.out
 have hms4_2 := NB4_3.out
 have hs55 : w7.cell? ⟨gb4, 4, none⟩ = some (.int .i64 0) := (kc_ BK4.out 4).trans rfl
 have hfs55 := kf_ BK4.out 4
 have hns5_0 := NB1_4.out
 have hns5_1 := NB2_4.out
 have hns5_2 := NB3_4.out
 have hms5_0 := NB4_1.out
 have hms5_1 := NB4_2.out
 have hms5_2 := NB4_3.out
 refine skip_ (w1 := ?_) (by rfl) rfl ?_ ?_
 rotate_left
 ·go_simp
  rfl
 refine hK.out _ _ ⟨((cell_far (p := ⟨gb4, _, none⟩) NB3_4.out _).trans (((cell_far (p := ⟨gb4, _, none⟩) NB3_4.out _).trans (((cell_far (p := ⟨gb4, _, none⟩) NB3_4.out _).trans (((cell_far (p := ⟨gb4, _, none⟩) NB3_4.out _).trans (((cell_far (p := ⟨gb4, _, none⟩) NB3_4.out _).trans (hHeld.1)))))))))), ((cell_far (p := ⟨gb4, _, none⟩) NB3_4.out _).trans (((cell_far (p := ⟨gb4, _, none⟩) NB3_4.out _).trans (((cell_far (p := ⟨gb4, _, none⟩) NB3_4.out _).trans (((cell_far (p := ⟨gb4, _, none⟩) NB3_4.out _).trans (((cell_far (p := ⟨gb4, _, none⟩) NB3_4.out _).trans (hHeld.2.1)))))))))), ((cell_far (p := ⟨gb4, _, none⟩) NB3_4.out _).trans (((cell_far (p := ⟨gb4, _, none⟩) NB3_4.out _).trans (((cell_far (p := ⟨gb4, _, none⟩) NB3_4.out _).trans (((cell_far (p := ⟨gb4, _, none⟩) NB3_4.out _).trans (((cell_far (p := ⟨gb4, _, none⟩) NB3_4.out _).trans (hHeld.2.2.1)))))))))), ((cell_far (p := ⟨gb4, _, none⟩) NB3_4.out _).trans (((cell_far (p := ⟨gb4, _, none⟩) NB3_4.out _).trans (((cell_far (p := ⟨gb4, _, none⟩) NB3_4.out _).trans (((cell_far (p := ⟨gb4, _, none⟩) NB3_4.out _).trans (((cell_far (p := ⟨gb4, _, none⟩) NB3_4.out _).trans (hHeld.2.2.2.1)))))))))), ((cell_far (p := ⟨gb4, _, none⟩) NB3_4.out _).trans (((cell_far (p := ⟨gb4, _, none⟩) NB3_4.out _).trans (((cell_far (p := ⟨gb4, _, none⟩) NB3_4.out _).trans (((cell_far (p := ⟨gb4, _, none⟩) NB3_4.out _).trans (((cell_far (p := ⟨gb4, _, none⟩) NB3_4.out _).trans (hHeld.2.2.2.2.1)))))))))), ((cell_far (p := ⟨gb4, _, none⟩) b5ip_ _).trans (((cell_far (p := ⟨gb4, _, none⟩) b5ip_ _).trans (((cell_far (p := ⟨gb4, _, none⟩) b5ip_ _).trans (((cell_far (p := ⟨gb4, _, none⟩) b5ip_ _).trans (((cell_far (p := ⟨gb4, _, none⟩) b5ip_ _).trans (hHeld.2.2.2.2.2.1)))))))))), ((cell_far (p := ⟨gb4, _, none⟩) bjso_ _).trans (((cell_far (p := ⟨gb4, _, none⟩) bjso_ _).trans (((cell_far (p := ⟨gb4, _, none⟩) bjso_ _).trans (((cell_far (p := ⟨gb4, _, none⟩) bjso_ _).trans (((cell_far (p := ⟨gb4, _, none⟩) bjso_ _).trans (hHeld.2.2.2.2.2.2.1)))))))))), ((cell_far (p := ⟨gb4, _, none⟩) bsxq_ _).trans (((cell_far (p := ⟨gb4, _, none⟩) bsxq_ _).trans (((cell_far (p := ⟨gb4, _, none⟩) bsxq_ _).trans (((cell_far (p := ⟨gb4, _, none⟩) bsxq_ _).trans (((cell_far (p := ⟨gb4, _, none⟩) bsxq_ _).trans (hHeld.2.2.2.2.2.2.2))))))))))⟩ (fun hHeld => ?_)
 clear hK K
 refine pu_ 11 10 ?_
 refine dn_ ?_
 have hnb4 := NB3_1.out
 have hnc4 := NB1_3.out
 have hnb5 := NB3_2.out
 have hnc5 := NB2_3.out
 have hnb6 := NB3_4.out
 have hnc6 := NB4_3.out
 have hcz4 := z5_ BK3
 have hnb7 := NB2_1.out
 have hnc7 := NB1_2.out
 have hnb8 := NB2_4.out
 have hnc8 := NB4_2.out
 have hcz5 := z5_ BK2
 try go_wp2
 refine bodyPost_ret (results_ctt rfl _ _ gb2 32 #[.int .i64 x335000_1, .bool x335001_1, .slice Ao3 x335002_1.length co3, .slice Ao4 x335003_1.length co4, .int .i64 x335004_1] (0, 0) _ rfl (u1_ BK2) Tryz.underlying32 rfl bfqv_) rfl ?_
 exact ⟨_, _, bnwh_, by (with_reducible repeat (first | apply ra_ | apply rn_ | apply rd_)); exact Kd.R_mono (rf_ (rf_ (rf_ (rf_ (rf_ (rf_ (rf_ (rf_ (rf_ (rf_ (Kd.R_types (Kd.R_types HO_1.out BK4.out bi3y_) BK2.out bi3y_) (fun _ hk => hk.1.2) (.int .i64 t7)) (fun _ hk => hk.1.2) (.bool t8)) (fun _ hk => hk.1.2) (.slice Ao5 t9.length co5)) (fun _ hk => hk.1.2) (.slice Ao6 t10.length co6)) (fun _ hk => hk.1.2) (.int .i64 t11)) k2_0 _) k2_0 _) k2_0 _) k2_0 _) k2_0 _) (fun _ hk => hk.1.1.2.2), by (with_reducible repeat (first | apply ra_ | apply rn_ | apply rd_)); exact Kd.R_mono (rf_ (rf_ (rf_ (rf_ (rf_ (rf_ (rf_ (rf_ (rf_ (rf_ (Kd.R_types (Kd.R_types HO_2.out BK4.out bi3y_) BK2.out bi3y_) (fun _ hk => hk.1.2) (.int .i64 t7)) (fun _ hk => hk.1.2) (.bool t8)) (fun _ hk => hk.1.2) (.slice Ao5 t9.length co5)) (fun _ hk => hk.1.2) (.slice Ao6 t10.length co6)) (fun _ hk => hk.1.2) (.int .i64 t11)) k2_0 _) k2_0 _) k2_0 _) k2_0 _) k2_0 _) (fun _ hk => hk.1.1.2.2), b2i7_⟩

def laws_toIntS.l0 : Nat → List Int → List Int → Int → Option (List Int)
 | 0, _, _, _ => none
 | k + 1, x0, x3, x4 => if x4 < (x0.length : Int) then (if 0 ≤ x4 then (if x4 < (x3.length : Int) then (laws_toIntS.l0 k x0 (x3.set (x4 : Int).toNat (rd x0 x4)) (wrap64 (x4 + 1))) else (none)) else (none)) else (some x3)
def laws_toIntS.f (k : Nat) (l0 : List Int) : Option (List Int) := if 0 ≤ (l0.length : Int) then (if ((l0.length : Int) : Int).toNat ≤ 35184372088832 then (laws_toIntS.l0 k l0 (List.replicate ((l0.length : Int) : Int).toNat 0) 0) else (none)) else (none)
theorem laws_toIntS.mono_l : ∀ k, (∀ y0 y1 y2, LeO (laws_toIntS.l0 k y0 y1 y2) (laws_toIntS.l0 (k + 1) y0 y1 y2))
 | 0 => fun _ _ _ r h => by simp [laws_toIntS.l0] at h
 | k + 1 => by
  have ih0 := laws_toIntS.mono_l k
  ·intro y0 y1 y2
   unfold laws_toIntS.l0
   repeat' with_reducible first | exact ih0 .. | exact LeO.refl .. | exact LeO.none .. | refine LeO.ite ?_ ?_ | refine LeO.bind ?_ (fun _ => ?_)
theorem laws_toIntS.mono : ∀ a0 k, LeO (laws_toIntS.f k a0) (laws_toIntS.f (k + 1) a0) := by
 intro a0 k
 have ih0 := laws_toIntS.mono_l k
 unfold laws_toIntS.f
 repeat' with_reducible first | exact ih0 .. | exact LeO.refl .. | exact LeO.none .. | refine LeO.ite ?_ ?_ | refine LeO.bind ?_ (fun _ => ?_)
theorem laws_toIntS.calls (k : Nat) (A0 : Option Addr) (c0 : Nat) (l0 : List Int) (r : List Int) (w : World) (hr0 : Kd.C (Kd.int .i64) w A0 l0.length l0) (hc0 : l0.length ≤ c0) (h : laws_toIntS.f k l0 = some r) :
  Calls Tryz.prog 36 #[.slice A0 l0.length c0] w fun e w' => ∃ v0_ : Value, e = .returned (v0_) ∧ Kd.R (Kd.int .i64) 3 w' w.heap.size (fun _ => True) v0_ r ∧ Below w.heap.size w w' := by
 have HR0 := A0_ hr0
 have HC0 := A0_ hc0
 clear hr0 hc0
 have HB := A0_ (Below.refl w.heap.size w)
 have H : (if 0 ≤ (l0.length : Int) then (if ((l0.length : Int) : Int).toNat ≤ 35184372088832 then (laws_toIntS.l0 k l0 (List.replicate ((l0.length : Int) : Int).toNat 0) 0) else (none)) else (none)) = some r := h
 clear h
 by_cases c1 : 0 ≤ (l0.length : Int)
 case neg =>
  rw [if_neg c1] at H
  exact absurd H bxka_
 rw [if_pos c1] at H
 have c1b0 := eq_true c1
 have c1b1 : decide (0 ≤ (l0.length : Int)) = true := dt_ c1
 clear c1
 by_cases c2 : ((l0.length : Int) : Int).toNat ≤ 35184372088832
 case neg =>
  rw [if_neg c2] at H
  exact absurd H bxka_
 rw [if_pos c2] at H
 have c2b0 := eq_true c2
 have c2b1 : decide (((l0.length : Int) : Int).toNat ≤ 35184372088832) = true := dt_ c2
 clear c2
 obtain ⟨y1, hy1⟩ : ∃ y_ : List Int, y_ = (List.replicate ((l0.length : Int) : Int).toNat 0) := ⟨_, rfl⟩
 replace H : (laws_toIntS.l0 k l0 y1 0) = some r := bgiq_
 have Ny1 := A0_ hy1
 clear hy1
 have H' := A0_ H
 clear H
 go_enter Tryz.func36, Tryz.ntmps36
 go_wp2_with (first | ((with_reducible refine gd_ (N := 7) rfl ?_); refine Kd.R_make (Kd.int .i64) _ 3 rfl (N := 7) rfl 22 _ _ rfl (l0.length : Int) rfl rfl Tryz.underlying22 (.int .i64 0) 8 info3 rfl bi3y_ bh19_ 0 (ok := fun _ => True) (okp := fun _ => True) rfl (fun _ hk => hk) trivial (od_ bpil_) (Nat.le_trans (Nat.mul_le_mul_right _ (od_ bpil_ : (l0.length : Int).toNat ≤ 35184372088832)) bh19_) (Below.refl _ _) (Nat.le_refl _) ?_; intro v1 w1 ho5 hb hg_ hnew_; clear hg_ hnew_; (first | rw [← Ny1.out] at ho5 | (simp only [Int.reduceToNat] at ho5; rw [← Ny1.out] at ho5)); have HO1 := A0_ (Kd.R_lower ho5 (bz_ brt4_)); replace HB := hb_ hb brt4_; clear hb ho5))
 go_loopg [4] k (fun kq v2 w' => ∃ (x3_1 : List Int) (x4_1 : Int), v2 = .int .i64 x4_1 ∧ Aside0 (laws_toIntS.l0 kq l0 x3_1 x4_1 = some r) ∧ Aside0 (kq ≤ k) ∧ Aside0 (Kd.R (Kd.int .i64) 3 w' w.heap.size (fun _ => True) v1 x3_1) ∧ Aside0 (Below w.heap.size w w'))
 case atStart => exact ⟨(y1), (0), b2ew_, H', ⟨Nat.le_refl _⟩, ⟨bsm5_⟩, ⟨brt4_⟩⟩
 clear H'
 try clear c1
 try clear c1b0
 try clear c1b1
 try clear c2
 try clear c2b0
 try clear c2b1
 obtain ⟨x3_1, x4_1, rfl, HA, HK1, HO_1, HB⟩ := hrel
 cases gk with | zero => exact absurd HA.out (by simp [laws_toIntS.l0]) | succ k1 => ?_
 have H := HA.out
 clear HA
 simp only [laws_toIntS.l0] at H
 by_cases c3 : x4_1 < (l0.length : Int)
 case neg =>
  rw [if_neg c3] at H
  have c3b0 : decide (x4_1 < (l0.length : Int)) = false := decide_eq_false c3
  clear c3
  obtain rfl := si_ H
  go_wp2
  go_ret
  exact ⟨_, bnwh_, bwik_, brt4_⟩
 rw [if_pos c3] at H
 have c3b0 : decide (x4_1 < (l0.length : Int)) = true := dt_ c3
 clear c3
 by_cases c4 : 0 ≤ x4_1
 case neg =>
  rw [if_neg c4] at H
  exact absurd H bxka_
 rw [if_pos c4] at H
 have c4b0 : decide (0 ≤ x4_1) = true := dt_ c4
 clear c4
 by_cases c5 : x4_1 < (x3_1.length : Int)
 case neg =>
  rw [if_neg c5] at H
  exact absurd H bxka_
 rw [if_pos c5] at H
 have c5b0 : decide (x4_1 < (x3_1.length : Int)) = true := dt_ c5
 clear c5
 obtain ⟨y2, hy2⟩ : ∃ y_ : List Int, y_ = (x3_1.set (x4_1 : Int).toNat (rd l0 x4_1)) := ⟨_, rfl⟩
 replace H : (laws_toIntS.l0 k1 l0 y2 (wrap64 (x4_1 + 1))) = some r := bscs_
 have Ny2 := A0_ hy2
 clear hy2
 have H' := A0_ H
 clear H
 have p1 : 0 ≤ (x4_1 : Int) := od_ bpil_
 have q1 : x4_1 < (l0.length : Int) := od_ bpil_
 obtain ⟨ad1, e1, hx1_0⟩ := Kd.at_int HR0.out x4_1 p1 q1
 cases e1
 replace hx1_0 := (HB.out.cell (World.block_lt_of_cell? w _ hx1_0)).trans hx1_0
 replace p1 := eq_true p1
 replace q1 := eq_true q1
 have p2 : 0 ≤ (x4_1 : Int) := od_ bpil_
 have q2 : (x4_1 : Int) < ((x3_1.length : Int) : Int) := od_ bpil_
 obtain ⟨go9, co1, eo1, gb1, gl9, cl9, HG9⟩ := Kd.R_form HO_1.out bh19_
 (first | cases eo1 | (injection eo1 with ea_ en_ ec_; (first | subst ea_ | (injection ea_ with ea_; subst ea_)); subst ec_; clear en_))
 have GB9 := A0_ gb1
 have GG9 := A0_ HG9
 clear gb1 gl9 HG9
 obtain ⟨hx2_0, hf1_0⟩ := Kd.R_celln 0 HO_1.out (x4_1 : Int) p2 q2
 replace p2 := eq_true p2
 replace q2 := eq_true q2
 have HP1 := Kd.R_putg HO_1.out (x4_1 : Int) (rd l0 x4_1)
 go_wp2_with (first | ((with_reducible refine gate_store (t := 3) (p := 20) rfl ?_); refine store_event (t := 3) (p := 20) (v := ?vo_w11) (w1 := (wr.setCell ⟨go9, (x4_1 : Int).toNat, none⟩ (.int .i64 (rd l0 x4_1)))) ?hg ?ho ?hn ?hr ?_; (case ho => rfl); (case hg => rfl); (case hn => rfl); (case hr => go_simp; first | done | rfl); intro w2 hw; have hg : wr.grownBy w2 (some go9) := (by rw [hw]; exact HP1.2); have hp_ : Kd.R (Kd.int .i64) 3 w2 w.heap.size (fun _ => True) (.slice (some ⟨go9, 0, none⟩) x3_1.length co1) y2 := (by rw [hw, Ny2.out]; exact HP1.1); clear HP1; replace HO_1 := A0_ (hp_); replace HB := A0_ ((by rw [hw]; exact bs_ (HB.out) GB9.out : Below w.heap.size w w2)); clear hg hw hp_))
 go_roundg k1
 case measure => have := HK1.out; omega
 exact ⟨(y2), (wrap64 (x4_1 + 1)), b2ew_, H', ⟨bxjq_⟩, ⟨bwik_⟩, ⟨brt4_⟩⟩

def laws_toRow.f (k : Nat) (a0_0 : Int) (a0_1 : Bool) (l0_2 : List Int) : Option (Int × Bool × List Int) := (laws_toIntS.f k l0_2).bind fun t355 => (some (a0_0, a0_1, t355))
theorem laws_toRow.mono : ∀ a0 a1 a2 k, LeO (laws_toRow.f k a0 a1 a2) (laws_toRow.f (k + 1) a0 a1 a2) := by
 intro a0 a1 a2 k
 unfold laws_toRow.f
 repeat' with_reducible first | exact laws_toIntS.mono .. | exact LeO.refl .. | exact LeO.none .. | refine LeO.ite ?_ ?_ | refine LeO.bind ?_ (fun _ => ?_)
theorem laws_toRow.calls (k : Nat) (a0_0 : Int) (a0_1 : Bool) (A0_2 : Option Addr) (c0_2 : Nat) (l0_2 : List Int) (r1 : Int) (r2 : Bool) (r3 : List Int) (w : World) (hr0_2 : Kd.C (Kd.int .i64) w A0_2 l0_2.length l0_2) (hc0_2 : l0_2.length ≤ c0_2) (h : laws_toRow.f k a0_0 a0_1 l0_2 = some (r1, r2, r3)) :
  Calls Tryz.prog 35 #[.agg #[.int .i64 a0_0, .bool a0_1, .slice A0_2 l0_2.length c0_2]] w fun e w' => ∃ v2_ : Value, e = .returned (.agg #[.int .i64 r1, .bool r2, v2_]) ∧ Kd.R (Kd.int .i64) 3 w' w.heap.size (fun _ => True) v2_ r3 ∧ Below w.heap.size w w' := by
 have hu24 := Tryz.underlying24
 have hu30 := Tryz.underlying30
 have HR0_2 := A0_ hr0_2
 have HC0_2 := A0_ hc0_2
 clear hr0_2 hc0_2
 have HB := A0_ (Below.refl w.heap.size w)
 have H : ((laws_toIntS.f k l0_2).bind fun t1 => (some (a0_0, a0_1, t1))) = some (r1, r2, r3) := h
 clear h
 obtain ⟨t1, A2, H⟩ := o1_ H
 replace H : (some (a0_0, a0_1, t1)) = some (r1, r2, r3) := H
 simp only [sj_, pj_] at H
 obtain ⟨rfl, rfl, rfl⟩ := H
 go_enter Tryz.func35, Tryz.ntmps35
 go_wp2_with (first | ((with_reducible refine gd_ (N := 1) rfl ?_); refine bx_ 1 #[.int .i64 a0_0, .bool a0_1, .slice A0_2 l0_2.length c0_2] 24 ?_; intro gb1 hg w1 BK1 hb; have GW1 := ge_ hg brt4_; have GE1 := GW1; replace HB := hb_ hb brt4_; clear hb hg) | ((with_reducible refine gd_ (N := 2) rfl ?_); refine bx_ 2 #[.int .i64 0, .bool false, .slice none 0 0] 30 ?_; intro gb2 hg w2 BK2 hb; have GW2 := ge_ hg be6g_; have GE2 := GW2; replace HB := hb_ hb be6g_; have NB1_2 := nl_ hg BK1; have NB2_1 := ng_ hg BK1; replace BK1 := k1_ BK1 hb; clear hb hg) | ((with_reducible refine gd_ (N := 3) rfl ?_); refine bx_ 3 #[.int .i64 0, .bool false, .slice none 0 0] 30 ?_; intro gb3 hg w3 BK3 hb; have GW3 := ge_ hg bfnq_; have GE3 := GW3; replace HB := hb_ hb bfnq_; have NB1_3 := nl_ hg BK1; have NB3_1 := ng_ hg BK1; replace BK1 := k1_ BK1 hb; have NB2_3 := nl_ hg BK2; have NB3_2 := ng_ hg BK2; replace BK2 := k1_ BK2 hb; clear hb hg; have hnb1 := NB1_2.out; have hnc1 := NB2_1.out; have hnb2 := NB1_3.out; have hnc2 := NB3_1.out; have hcz1 := z3_ BK1; have hnb3 := NB3_2.out; have hnc3 := NB2_3.out; have hcz2_0 : w3.cell? ⟨gb3, 0, none⟩ = some (.int .i64 0) := (kc_ BK3.out 0).trans rfl; have hcz2_1 : w3.cell? ⟨gb3, 1, none⟩ = some (.bool false) := (kc_ BK3.out 1).trans rfl; have hcz2_2 : w3.cell? ⟨gb3, 2, none⟩ = some (.slice none 0 0) := (kc_ BK3.out 2).trans rfl; have hfz2_0 := kf_ BK3.out 0; have hfz2_1 := kf_ BK3.out 1; have hfz2_2 := kf_ BK3.out 2) | ((with_reducible refine gc_ (f := 36) rfl ?_); refine gl_ 12 Tryz.func36 #[.slice A0_2 l0_2.length c0_2] ?_; (with_reducible refine (laws_toIntS.calls k _ _ l0_2 t1 _ ?side1 ?side2 A2.out).mono ?_); (case side1 => exact cb_ HR0_2.out b850_); (case side2 => exact HC0_2.out); rintro e w4 ⟨v1, rfl, ho0, hb⟩; refine ⟨_, rfl, ?_⟩; have HO1 := A0_ (Kd.R_lower ho0 (bz_ b850_)); replace BK1 := k1_ BK1 hb; replace BK2 := k1_ BK2 hb; replace BK3 := k2_ (.cells #[.int .i64 a0_0, .bool a0_1, .slice none 0 0] 30 (0, 0)) BK3 hb; replace HB := hb_ hb b850_; (try clear hb); (try clear ho0); obtain ⟨Ao1, co1, eo1⟩ := Kd.R_slice HO1.out; subst eo1; have hcz3 := z3_ BK3; have hcz4 := z3_ BK2))
 refine bodyPost_ret (results_cell_row rfl _ _ gb2 30 #[.int .i64 a0_0, .bool a0_1, .slice Ao1 t1.length co1] (0, 0) _ rfl (u1_ BK2) Tryz.underlying30 rfl bfqv_) rfl ?_
 exact ⟨_, bnwh_, by (with_reducible repeat (first | apply ra_ | apply rn_ | apply rd_)); exact Kd.R_mono (rf_ (rf_ (rf_ (rf_ (Kd.R_types (Kd.R_types HO1.out BK3.out bi3y_) BK2.out bi3y_) (fun _ hk => hk.1.2) (.slice Ao1 t1.length co1)) k2_0 _) k2_0 _) k2_0 _) (fun _ hk => trivial), b850_⟩

def laws_toHouse.f (k : Nat) (a0_0 : Int) (a0_1 : Bool) (l0_2 : List Int) (l0_3 : List Int) (a0_4 : Int) : Option (Int × Bool × List Int × List Int × Int) := (laws_toRow.f k a0_0 a0_1 l0_2).bind fun bt361 => ((laws_toIntS.f k l0_3).bind fun t366 => (some (bt361.1, bt361.2.1, bt361.2.2, t366, a0_4)))
theorem laws_toHouse.mono : ∀ a0 a1 a2 a3 a4 k, LeO (laws_toHouse.f k a0 a1 a2 a3 a4) (laws_toHouse.f (k + 1) a0 a1 a2 a3 a4) := by
 intro a0 a1 a2 a3 a4 k
 unfold laws_toHouse.f
 repeat' with_reducible first | exact laws_toIntS.mono .. | exact laws_toRow.mono .. | exact LeO.refl .. | exact LeO.none .. | refine LeO.ite ?_ ?_ | refine LeO.bind ?_ (fun _ => ?_)
theorem laws_toHouse.calls (k : Nat) (a0_0 : Int) (a0_1 : Bool) (A0_2 : Option Addr) (c0_2 : Nat) (l0_2 : List Int) (A0_3 : Option Addr) (c0_3 : Nat) (l0_3 : List Int) (a0_4 : Int) (r1 : Int) (r2 : Bool) (r3 : List Int) (r4 : List Int) (r5 : Int) (w : World) (hr0_2 : Kd.C (Kd.int .i64) w A0_2 l0_2.length l0_2) (hc0_2 : l0_2.length ≤ c0_2) (hr0_3 : Kd.C (Kd.int .i64) w A0_3 l0_3.length l0_3) (hc0_3 : l0_3.length ≤ c0_3) (h : laws_toHouse.f k a0_0 a0_1 l0_2 l0_3 a0_4 = some (r1, r2, r3, r4, r5)) :
  Calls Tryz.prog 8 #[.agg #[.int .i64 a0_0, .bool a0_1, .slice A0_2 l0_2.length c0_2, .slice A0_3 l0_3.length c0_3, .int .i64 a0_4]] w fun e w' => ∃ v2_ v3_ : Value, e = .returned (.agg #[.int .i64 r1, .bool r2, v2_, v3_, .int .i64 r5]) ∧ Kd.R (Kd.int .i64) 3 w' w.heap.size (fun k_ => no_ v3_ k_) v2_ r3 ∧ Kd.R (Kd.int .i64) 3 w' w.heap.size (fun k_ => no_ v2_ k_) v3_ r4 ∧ Below w.heap.size w w' := by
 have hu26 := Tryz.underlying26
 have hu32 := Tryz.underlying32
 have hu24 := Tryz.underlying24
 have hu30 := Tryz.underlying30
 have HR0_2 := A0_ hr0_2
 have HC0_2 := A0_ hc0_2
 clear hr0_2 hc0_2
 have HR0_3 := A0_ hr0_3
 have HC0_3 := A0_ hc0_3
 clear hr0_3 hc0_3
 have HB := A0_ (Below.refl w.heap.size w)
 have H : ((laws_toRow.f k a0_0 a0_1 l0_2).bind fun bt1 => ((laws_toIntS.f k l0_3).bind fun t1 => (some (bt1.1, bt1.2.1, bt1.2.2, t1, a0_4)))) = some (r1, r2, r3, r4, r5) := h
 clear h
 obtain ⟨⟨t2, t3, t4⟩, A2, H⟩ := o1_ H
 obtain ⟨t1, A4, H⟩ := o1_ H
 replace H : (some (t2, t3, t4, t1, a0_4)) = some (r1, r2, r3, r4, r5) := H
 simp only [sj_, pj_] at H
 obtain ⟨rfl, rfl, rfl, rfl, rfl⟩ := H
 go_enter Tryz.func8, Tryz.ntmps8
 go_wp2_with (first | ((with_reducible refine gd_ (N := 1) rfl ?_); refine bx_ 1 #[.int .i64 a0_0, .bool a0_1, .slice A0_2 l0_2.length c0_2, .slice A0_3 l0_3.length c0_3, .int .i64 a0_4] 26 ?_; intro gb1 hg w1 BK1 hb; have GW1 := ge_ hg brt4_; have GE1 := GW1; replace HB := hb_ hb brt4_; clear hb hg) | ((with_reducible refine gd_ (N := 2) rfl ?_); refine bx_ 2 #[.int .i64 0, .bool false, .slice none 0 0, .slice none 0 0, .int .i64 0] 32 ?_; intro gb2 hg w2 BK2 hb; have GW2 := ge_ hg be6g_; have GE2 := GW2; replace HB := hb_ hb be6g_; have NB1_2 := nl_ hg BK1; have NB2_1 := ng_ hg BK1; replace BK1 := k1_ BK1 hb; clear hb hg) | ((with_reducible refine gd_ (N := 3) rfl ?_); refine bx_ 3 #[.int .i64 0, .bool false, .slice none 0 0, .slice none 0 0, .int .i64 0] 32 ?_; intro gb3 hg w3 BK3 hb; have GW3 := ge_ hg bfnq_; have GE3 := GW3; replace HB := hb_ hb bfnq_; have NB1_3 := nl_ hg BK1; have NB3_1 := ng_ hg BK1; replace BK1 := k1_ BK1 hb; have NB2_3 := nl_ hg BK2; have NB3_2 := ng_ hg BK2; replace BK2 := k1_ BK2 hb; clear hb hg; have hnb1 := NB1_2.out; have hnc1 := NB2_1.out; have hnb2 := NB1_3.out; have hnc2 := NB3_1.out; have hcz1 := z5_ BK1) | ((with_reducible refine gc_ (f := 35) rfl ?_); refine gl_ 6 Tryz.func35 #[.agg #[.int .i64 a0_0, .bool a0_1, .slice A0_2 l0_2.length c0_2]] ?_; (with_reducible refine (laws_toRow.calls k a0_0 a0_1 _ _ l0_2 t2 t3 t4 _ ?side1 ?side2 A2.out).mono ?_); (case side1 => exact b6n8_); (case side2 => exact HC0_2.out); rintro e w4 ⟨v1, rfl, ho0, hb⟩; refine ⟨_, rfl, ?_⟩; have HO1 := A0_ (Kd.R_lower ho0 (bz_ b850_)); replace BK1 := k1_ BK1 hb; replace BK2 := k1_ BK2 hb; replace BK3 := k1_ BK3 hb; replace HB := hb_ hb b850_; (try clear hb); (try clear ho0); have hnb3 := NB3_2.out; have hnc3 := NB2_3.out; have hcz2 := z5_ BK3; obtain ⟨Ao1, co1, eo1⟩ := Kd.R_slice HO1.out; subst eo1; have hcz3_0 : w4.cell? ⟨gb1, 0, none⟩ = some (.int .i64 a0_0) := (kc_ BK1.out 0).trans rfl; have hcz3_1 : w4.cell? ⟨gb1, 1, none⟩ = some (.bool a0_1) := (kc_ BK1.out 1).trans rfl; have hcz3_2 : w4.cell? ⟨gb1, 2, none⟩ = some (.slice A0_2 l0_2.length c0_2) := (kc_ BK1.out 2).trans rfl; have hcz3_3 : w4.cell? ⟨gb1, 3, none⟩ = some (.slice A0_3 l0_3.length c0_3) := (kc_ BK1.out 3).trans rfl; have hcz3_4 : w4.cell? ⟨gb1, 4, none⟩ = some (.int .i64 a0_4) := (kc_ BK1.out 4).trans rfl; have hfz3_0 := kf_ BK1.out 0; have hfz3_1 := kf_ BK1.out 1; have hfz3_2 := kf_ BK1.out 2; have hfz3_3 := kf_ BK1.out 3; have hfz3_4 := kf_ BK1.out 4) | ((with_reducible refine gc_ (f := 36) rfl ?_); refine gl_ 10 Tryz.func36 #[.slice A0_3 l0_3.length c0_3] ?_; (with_reducible refine (laws_toIntS.calls k _ _ l0_3 t1 _ ?side1 ?side2 A4.out).mono ?_); (case side1 => exact cb_ HR0_3.out b850_); (case side2 => exact HC0_3.out); rintro e w5 ⟨v4, rfl, ho0, hb⟩; refine ⟨_, rfl, ?_⟩; have HO2 := A0_ (Kd.R_lower (Kd.R_new' ho0 (Kd.R_lt boj0_)) (bz_ b850_)); replace HO1 := A0_ (Kd.R_elder' boj0_ (Kd.R_base ho0) hb); replace BK1 := k1_ BK1 hb; replace BK2 := k1_ BK2 hb; replace BK3 := k2_ (.cells #[.int .i64 t2, .bool t3, .slice Ao1 t4.length co1, .slice none 0 0, .int .i64 0] 32 (0, 0)) BK3 hb; replace HB := hb_ hb b850_; (try clear hb); (try clear ho0); obtain ⟨Ao2, co2, eo2⟩ := Kd.R_slice HO2.out; subst eo2; have hcz4 := z5_ BK3; have hcz5 := z5_ BK1; have hcz6 := z5_ BK2))
 refine bodyPost_ret (results_cell_row rfl _ _ gb2 32 #[.int .i64 t2, .bool t3, .slice Ao1 t4.length co1, .slice Ao2 t1.length co2, .int .i64 a0_4] (0, 0) _ rfl (u1_ BK2) Tryz.underlying32 rfl bfqv_) rfl ?_
 exact ⟨_, _, bnwh_, by (with_reducible repeat (first | apply ra_ | apply rn_ | apply rd_)); exact Kd.R_mono (rf_ (rf_ (rf_ (rf_ (rf_ (rf_ (rf_ (Kd.R_types (Kd.R_types HO1.out BK3.out bi3y_) BK2.out bi3y_) (fun _ hk => hk.1.2) (.slice Ao2 t1.length co2)) (fun _ hk => hk.1.2) (.int .i64 a0_4)) k2_0 _) k2_0 _) k2_0 _) k2_0 _) k2_0 _) (fun _ hk => hk.1.1.2), by (with_reducible repeat (first | apply ra_ | apply rn_ | apply rd_)); exact Kd.R_mono (rf_ (rf_ (rf_ (rf_ (rf_ (rf_ (rf_ (Kd.R_types (Kd.R_types HO2.out BK3.out bi3y_) BK2.out bi3y_) (fun _ hk => hk.1.2) (.slice Ao2 t1.length co2)) (fun _ hk => hk.1.2) (.int .i64 a0_4)) k2_0 _) k2_0 _) k2_0 _) k2_0 _) k2_0 _) (fun _ hk => hk.1.1.2), b850_⟩

def laws_toWork.f (a0_0 : Int) (a0_1 : Int) (a0_2 : Int) : Option (Int × Int × Int) := some (a0_0, a0_1, a0_2)
theorem laws_toWork.calls (a0_0 : Int) (a0_1 : Int) (a0_2 : Int) (r1 : Int) (r2 : Int) (r3 : Int) (w : World) (h : laws_toWork.f a0_0 a0_1 a0_2 = some (r1, r2, r3)) :
  Calls Tryz.prog 37 #[.agg #[.int .i64 a0_0, .int .i64 a0_1, .int .i64 a0_2]] w fun e w' => e = .returned (.agg #[.int .i64 r1, .int .i64 r2, .int .i64 r3]) ∧ Below w.heap.size w w' := by
 have hu66 := Tryz.underlying66
 have hu50 := Tryz.underlying50
 have HB := A0_ (Below.refl w.heap.size w)
 have H : (some (a0_0, a0_1, a0_2)) = some (r1, r2, r3) := h
 clear h
 simp only [sj_, pj_] at H
 obtain ⟨rfl, rfl, rfl⟩ := H
 go_enter Tryz.func37, Tryz.ntmps37
 go_wp2_with (first | ((with_reducible refine gd_ (N := 1) rfl ?_); refine bx_ 1 #[.int .i64 a0_0, .int .i64 a0_1, .int .i64 a0_2] 66 ?_; intro gb1 hg w1 BK1 hb; have GW1 := ge_ hg brt4_; have GE1 := GW1; replace HB := hb_ hb brt4_; clear hb hg) | ((with_reducible refine gd_ (N := 2) rfl ?_); refine bx_ 2 #[.int .i64 0, .int .i64 0, .int .i64 0] 50 ?_; intro gb2 hg w2 BK2 hb; have GW2 := ge_ hg be6g_; have GE2 := GW2; replace HB := hb_ hb be6g_; have NB1_2 := nl_ hg BK1; have NB2_1 := ng_ hg BK1; replace BK1 := k1_ BK1 hb; clear hb hg) | ((with_reducible refine gd_ (N := 3) rfl ?_); refine bx_ 3 #[.int .i64 0, .int .i64 0, .int .i64 0] 50 ?_; intro gb3 hg w3 BK3 hb; have GW3 := ge_ hg bfnq_; have GE3 := GW3; replace HB := hb_ hb bfnq_; have NB1_3 := nl_ hg BK1; have NB3_1 := ng_ hg BK1; replace BK1 := k1_ BK1 hb; have NB2_3 := nl_ hg BK2; have NB3_2 := ng_ hg BK2; replace BK2 := k1_ BK2 hb; clear hb hg; have hnb1 := NB1_2.out; have hnc1 := NB2_1.out; have hnb2 := NB1_3.out; have hnc2 := NB3_1.out; have hcz1 := z3_ BK1; have hnb3 := NB3_2.out; have hnc3 := NB2_3.out; have hcz2_0 : w3.cell? ⟨gb3, 0, none⟩ = some (.int .i64 0) := (kc_ BK3.out 0).trans rfl; have hcz2_1 : w3.cell? ⟨gb3, 1, none⟩ = some (.int .i64 0) := (kc_ BK3.out 1).trans rfl; have hcz2_2 : w3.cell? ⟨gb3, 2, none⟩ = some (.int .i64 0) := (kc_ BK3.out 2).trans rfl; have hfz2_0 := kf_ BK3.out 0; have hfz2_1 := kf_ BK3.out 1; have hfz2_2 := kf_ BK3.out 2; have hcz3_0 : w3.cell? ⟨gb2, 0, none⟩ = some (.int .i64 0) := (kc_ BK2.out 0).trans rfl; have hcz3_1 : w3.cell? ⟨gb2, 1, none⟩ = some (.int .i64 0) := (kc_ BK2.out 1).trans rfl; have hcz3_2 : w3.cell? ⟨gb2, 2, none⟩ = some (.int .i64 0) := (kc_ BK2.out 2).trans rfl; have hfz3_0 := kf_ BK2.out 0; have hfz3_1 := kf_ BK2.out 1; have hfz3_2 := kf_ BK2.out 2))
 refine bodyPost_ret (results_cell_row rfl _ _ gb2 50 #[.int .i64 a0_0, .int .i64 a0_1, .int .i64 a0_2] (0, 0) _ rfl (u1_ BK2) Tryz.underlying50 rfl bfqv_) rfl ?_
 exact ⟨bnwh_, b850_⟩

def laws_toWorkS.l0 : Nat → List (S66) → List (S50) → Int → Option ((List (S50)))
 | 0, _, _, _ => none
 | k + 1, x0, x3, x4 => if x4 < (x0.length : Int) then (if 0 ≤ x4 then ((laws_toWork.f ((rd_T66 x0 x4).f0) ((rd_T66 x0 x4).f1) ((rd_T66 x0 x4).f2)).bind fun bt376 => (if x4 < (x3.length : Int) then (laws_toWorkS.l0 k x0 (x3.set (x4 : Int).toNat (⟨bt376.1, bt376.2.1, bt376.2.2⟩ : S50)) (wrap64 (x4 + 1))) else (none))) else (none)) else (some x3)
def laws_toWorkS.f (k : Nat) (l0 : List (S66)) : Option ((List (S50))) := if 0 ≤ (l0.length : Int) then (if ((l0.length : Int) : Int).toNat ≤ 11728124029610 then (laws_toWorkS.l0 k l0 (List.replicate ((l0.length : Int) : Int).toNat z50) 0) else (none)) else (none)
theorem laws_toWorkS.mono_l : ∀ k, (∀ y0 y1 y2, LeO (laws_toWorkS.l0 k y0 y1 y2) (laws_toWorkS.l0 (k + 1) y0 y1 y2))
 | 0 => fun _ _ _ r h => by simp [laws_toWorkS.l0] at h
 | k + 1 => by
  have ih0 := laws_toWorkS.mono_l k
  ·intro y0 y1 y2
   unfold laws_toWorkS.l0
   repeat' with_reducible first | exact ih0 .. | exact LeO.refl .. | exact LeO.none .. | refine LeO.ite ?_ ?_ | refine LeO.bind ?_ (fun _ => ?_)
theorem laws_toWorkS.mono : ∀ a0 k, LeO (laws_toWorkS.f k a0) (laws_toWorkS.f (k + 1) a0) := by
 intro a0 k
 have ih0 := laws_toWorkS.mono_l k
 unfold laws_toWorkS.f
 repeat' with_reducible first | exact ih0 .. | exact LeO.refl .. | exact LeO.none .. | refine LeO.ite ?_ ?_ | refine LeO.bind ?_ (fun _ => ?_)
theorem laws_toWorkS.calls (k : Nat) (A0 : Option Addr) (c0 : Nat) (l0 : List (S66)) (r : List (S50)) (w : World) (hr0 : Kd.C k66 w A0 l0.length l0) (hc0 : l0.length ≤ c0) (h : laws_toWorkS.f k l0 = some r) :
  Calls Tryz.prog 9 #[.slice A0 l0.length c0] w fun e w' => ∃ v0_ : Value, e = .returned (v0_) ∧ Kd.R k50 50 w' w.heap.size (fun _ => True) v0_ r ∧ Below w.heap.size w w' := by
 have hu66 := Tryz.underlying66
 have hu50 := Tryz.underlying50
 have HR0 := A0_ hr0
 have HC0 := A0_ hc0
 clear hr0 hc0
 have HB := A0_ (Below.refl w.heap.size w)
 have H : (if 0 ≤ (l0.length : Int) then (if ((l0.length : Int) : Int).toNat ≤ 11728124029610 then (laws_toWorkS.l0 k l0 (List.replicate ((l0.length : Int) : Int).toNat z50) 0) else (none)) else (none)) = some r := h
 clear h
 by_cases c1 : 0 ≤ (l0.length : Int)
 case neg =>
  rw [if_neg c1] at H
  exact absurd H bxka_
 rw [if_pos c1] at H
 have c1b0 := eq_true c1
 have c1b1 : decide (0 ≤ (l0.length : Int)) = true := dt_ c1
 clear c1
 by_cases c2 : ((l0.length : Int) : Int).toNat ≤ 11728124029610
 case neg =>
  rw [if_neg c2] at H
  exact absurd H bxka_
 rw [if_pos c2] at H
 have c2b0 := eq_true c2
 have c2b1 : decide (((l0.length : Int) : Int).toNat ≤ 11728124029610) = true := dt_ c2
 clear c2
 obtain ⟨y1, hy1⟩ : ∃ y_ : List (S50), y_ = (List.replicate ((l0.length : Int) : Int).toNat z50) := ⟨_, rfl⟩
 replace H : (laws_toWorkS.l0 k l0 y1 0) = some r := bgiq_
 have Ny1 := A0_ hy1
 clear hy1
 have H' := A0_ H
 clear H
 go_enter Tryz.func9, Tryz.ntmps9
 go_wp2_with (first | ((with_reducible refine gd_ (N := 7) rfl ?_); refine Kd.R_make k50 _ 50 rfl (N := 7) rfl 36 _ _ rfl (l0.length : Int) rfl rfl Tryz.underlying36 (.agg #[(.int .i64 0), (.int .i64 0), (.int .i64 0)]) 24 info50 rfl bi3y_ bh19_ z50 (ok := fun _ => True) (okp := fun _ => True) (k50_mkM _ _ _ z50 ) (fun _ hk => hk) trivial (od_ bpil_) (Nat.le_trans (Nat.mul_le_mul_right _ (od_ bpil_ : (l0.length : Int).toNat ≤ 11728124029610)) bh19_) (Below.refl _ _) (Nat.le_refl _) ?_; intro v1 w1 ho5 hb hg_ hnew_; clear hg_ hnew_; (first | rw [← Ny1.out] at ho5 | (simp only [Int.reduceToNat] at ho5; rw [← Ny1.out] at ho5)); have HO1 := A0_ (Kd.R_lower ho5 (bz_ brt4_)); replace HB := hb_ hb brt4_; clear hb ho5))
 go_loopg [4] k (fun kq v2 w' => ∃ (x3_1 : List (S50)) (x4_1 : Int), v2 = .int .i64 x4_1 ∧ Aside0 (laws_toWorkS.l0 kq l0 x3_1 x4_1 = some r) ∧ Aside0 (kq ≤ k) ∧ Aside0 (Kd.R k50 50 w' w.heap.size (fun _ => True) v1 x3_1) ∧ Aside0 (Below w.heap.size w w'))
 case atStart => exact ⟨(y1), (0), b2ew_, H', ⟨Nat.le_refl _⟩, ⟨bsm5_⟩, ⟨brt4_⟩⟩
 clear H'
 try clear c1
 try clear c1b0
 try clear c1b1
 try clear c2
 try clear c2b0
 try clear c2b1
 obtain ⟨x3_1, x4_1, rfl, HA, HK1, HO_1, HB⟩ := hrel
 cases gk with | zero => exact absurd HA.out (by simp [laws_toWorkS.l0]) | succ k1 => ?_
 have H := HA.out
 clear HA
 simp only [laws_toWorkS.l0] at H
 by_cases c3 : x4_1 < (l0.length : Int)
 case neg =>
  rw [if_neg c3] at H
  have c3b0 : decide (x4_1 < (l0.length : Int)) = false := decide_eq_false c3
  clear c3
  obtain rfl := si_ H
  go_wp2
  go_ret
  exact ⟨_, bnwh_, bwik_, brt4_⟩
 rw [if_pos c3] at H
 have c3b0 : decide (x4_1 < (l0.length : Int)) = true := dt_ c3
 clear c3
 by_cases c4 : 0 ≤ x4_1
 case neg =>
  rw [if_neg c4] at H
  exact absurd H bxka_
 rw [if_pos c4] at H
 have c4b0 : decide (0 ≤ x4_1) = true := dt_ c4
 clear c4
 obtain ⟨⟨t1, t2, t3⟩, A2, H⟩ := o1_ H
 by_cases c5 : x4_1 < (x3_1.length : Int)
 case neg =>
  rw [if_neg c5] at H
  exact absurd H bxka_
 rw [if_pos c5] at H
 have c5b0 : decide (x4_1 < (x3_1.length : Int)) = true := dt_ c5
 clear c5
 obtain ⟨y2, hy2⟩ : ∃ y_ : List (S50), y_ = (x3_1.set (x4_1 : Int).toNat (⟨t1, t2, t3⟩ : S50)) := ⟨_, rfl⟩
 replace H : (laws_toWorkS.l0 k1 l0 y2 (wrap64 (x4_1 + 1))) = some r := bscs_
 have Ny2 := A0_ hy2
 clear hy2
 have H' := A0_ H
 clear H
 have p1 : 0 ≤ (x4_1 : Int) := od_ bpil_
 have q1 : x4_1 < (l0.length : Int) := od_ bpil_
 obtain ⟨ad1, e1, hx1_0, hx1_1, hx1_2⟩ := at_T66 HR0.out x4_1 p1 q1
 cases e1
 replace hx1_0 := (HB.out.cell (World.block_lt_of_cell? w _ hx1_0)).trans hx1_0
 replace hx1_1 := (HB.out.cell (World.block_lt_of_cell? w _ hx1_1)).trans hx1_1
 replace hx1_2 := (HB.out.cell (World.block_lt_of_cell? w _ hx1_2)).trans hx1_2
 replace p1 := eq_true p1
 replace q1 := eq_true q1
 go_wp2_with (first | ((with_reducible refine gc_ (f := 37) rfl ?_); refine gl_ 20 Tryz.func37 #[.agg #[.int .i64 ((rd_T66 l0 x4_1).f0), .int .i64 ((rd_T66 l0 x4_1).f1), .int .i64 ((rd_T66 l0 x4_1).f2)]] ?_; (with_reducible refine (laws_toWork.calls ((rd_T66 l0 x4_1).f0) ((rd_T66 l0 x4_1).f1) ((rd_T66 l0 x4_1).f2) t1 t2 t3 _ A2.out).mono ?_); rintro e w2 ⟨rfl, hb⟩; refine ⟨_, rfl, ?_⟩; replace HO_1 := A0_ (Kd.R_below bwik_ hb); replace HB := hb_ hb brt4_; (try clear hb); have p2 : 0 ≤ (x4_1 : Int) := od_ bpil_; have q2 : (x4_1 : Int) < ((x3_1.length : Int) : Int) := od_ bpil_; obtain ⟨go10, co1, eo1, gb1, gl10, cl10, HG10⟩ := Kd.R_form HO_1.out bh19_; (first | cases eo1 | (injection eo1 with ea_ en_ ec_; (first | subst ea_ | (injection ea_ with ea_; subst ea_)); subst ec_; clear en_)); have GB10 := A0_ gb1; have GG10 := A0_ HG10; clear gb1 gl10 HG10; obtain ⟨ce10, hcl10, hM10, hcc10, hfr10⟩ := Kd.R_elem HO_1.out z50 (x4_1 : Int) p2 q2; obtain rfl := k50_openM hM10; have hx2_0 : w2.cell? ⟨go10, (x4_1 : Int).toNat * 3, none⟩ = some (.int .i64 ((rd_T50 x3_1 x4_1).f0)) := hcc10 0 _ rfl; have hx2_1 : w2.cell? ⟨go10, (x4_1 : Int).toNat * 3 + 1, none⟩ = some (.int .i64 ((rd_T50 x3_1 x4_1).f1)) := hcc10 1 _ rfl; have hx2_2 : w2.cell? ⟨go10, (x4_1 : Int).toNat * 3 + 2, none⟩ = some (.int .i64 ((rd_T50 x3_1 x4_1).f2)) := hcc10 2 _ rfl; have hf1_0 : w2.frozen? ⟨go10, (x4_1 : Int).toNat * 3, none⟩ = false := hfr10 0; have hf1_1 : w2.frozen? ⟨go10, (x4_1 : Int).toNat * 3 + 1, none⟩ = false := hfr10 1; have hf1_2 : w2.frozen? ⟨go10, (x4_1 : Int).toNat * 3 + 2, none⟩ = false := hfr10 2; clear hcl10 hcc10 hfr10 hM10; replace p2 := eq_true p2; replace q2 := eq_true q2; have HX12 := A0_ (show Kd.R k50 50 w2 w.heap.size (fun _ => True) (.slice (some ⟨go10, 0, none⟩) x3_1.length co1) x3_1 from bwik_); obtain ⟨ce12, hcl12, hM12, hcc12, hfr12⟩ := Kd.R_elem HX12.out z50 (x4_1 : Int) (od_ bpil_) bn0f_; obtain rfl := k50_openM hM12; have HP1 := Kd.R_seg HX12.out (x4_1 : Int) (od_ bpil_) bn0f_ (seg := [.int .i64 t1, .int .i64 t2, .int .i64 t3]) (j := 0) hcl12 hcc12 (show 3 ≤ 3 from bi3y_) (x' := (⟨t1, t2, t3⟩ : S50)) (k50_mkM _ _ _ (⟨t1, t2, t3⟩ : S50) ) (fun _ hk => hk); have hx3_0 := hcc12 0 _ rfl; (try simp only [show (k50).sz = 3 from rfl, Nat.mul_one, Nat.add_zero] at hx3_0); have hf2_0 := hfr12 0; (try simp only [show (k50).sz = 3 from rfl, Nat.mul_one, Nat.add_zero] at hf2_0); have hx3_1 := hcc12 1 _ rfl; (try simp only [show (k50).sz = 3 from rfl, Nat.mul_one, Nat.add_zero] at hx3_1); have hf2_1 := hfr12 1; (try simp only [show (k50).sz = 3 from rfl, Nat.mul_one, Nat.add_zero] at hf2_1); have hx3_2 := hcc12 2 _ rfl; (try simp only [show (k50).sz = 3 from rfl, Nat.mul_one, Nat.add_zero] at hx3_2); have hf2_2 := hfr12 2; (try simp only [show (k50).sz = 3 from rfl, Nat.mul_one, Nat.add_zero] at hf2_2); clear hcl12 hcc12 hfr12 hM12) | ((with_reducible refine gate_store (t := 50) (p := 21) rfl ?_); refine store_event (t := 50) (p := 21) (v := ?vo_w13) (w1 := (((w2.setCell ⟨go10, (x4_1 : Int).toNat * 3, none⟩ (.int .i64 t1)).setCell ⟨go10, (x4_1 : Int).toNat * 3 + 1, none⟩ (.int .i64 t2)).setCell ⟨go10, (x4_1 : Int).toNat * 3 + 2, none⟩ (.int .i64 t3))) ?hg ?ho ?hn ?hr ?_; (case ho => rfl); (case hg => rfl); (case hn => rfl); (case hr => go_simp; first | done | rfl); intro w3 hw; have hg : w2.grownBy w3 (some go10) := (by rw [hw]; exact HP1.2); have hp_ : Kd.R k50 50 w3 w.heap.size (fun _ => True) (.slice (some ⟨go10, 0, none⟩) x3_1.length co1) y2 := (by rw [hw, Ny2.out]; exact HP1.1); clear HP1; replace HO_1 := A0_ (hp_); replace HB := A0_ ((by rw [hw]; exact bs_ (bs_ (bs_ (HB.out) GB10.out) GB10.out) GB10.out : Below w.heap.size w w3)); clear hg hw hp_))
 go_roundg k1
 case measure => have := HK1.out; omega
 exact ⟨(y2), (wrap64 (x4_1 + 1)), b2ew_, H', ⟨bxjq_⟩, ⟨bwik_⟩, ⟨brt4_⟩⟩

def impl_within.f (a0 : Int) (a1 : Int) (a2 : Int) : Option (Bool) := if a0 ≥ a1 then (some (decide (a0 ≤ a2))) else (some false)
theorem impl_within.calls (a0 : Int) (a1 : Int) (a2 : Int) (r : Bool) (w : World) (h : impl_within.f a0 a1 a2 = some r) :
  Calls Tryz.prog 62 #[.int .i64 a0, .int .i64 a1, .int .i64 a2] w fun e w' => e = .returned (.bool r) ∧ Drawn0 w w' := by
 have H : (if a0 ≥ a1 then (some (decide (a0 ≤ a2))) else (some false)) = some r := h
 clear h
 by_cases c1 : a0 ≥ a1
 ·rw [if_pos c1] at H
  have c1b0 : decide (a1 ≤ a0) = true := dt_ c1
  clear c1
  obtain rfl := si_ H
  go_enter Tryz.func62, Tryz.ntmps62
  go_wp2
  go_ret
  exact ⟨b04z_, boaj_⟩
 rw [if_neg c1] at H
 have c1b0 : decide (a1 ≤ a0) = false := decide_eq_false c1
 clear c1
 obtain rfl := si_ H
 go_enter Tryz.func62, Tryz.ntmps62
 go_wp2
 go_ret
 exact ⟨b04z_, boaj_⟩

def impl_bench_valid.f (a0_0 : Int) (a0_1 : Bool) : Option (Bool) := (impl_within.f a0_0 2 24).bind fun t381 => (if t381 = true then (if a0_1 = true then (some (decide (a0_0 ≥ 3))) else (some true)) else (some false))
theorem impl_bench_valid.calls (a0_0 : Int) (a0_1 : Bool) (r : Bool) (w : World) (h : impl_bench_valid.f a0_0 a0_1 = some r) :
  Calls Tryz.prog 48 #[.agg #[.int .i64 a0_0, .bool a0_1]] w fun e w' => e = .returned (.bool r) ∧ Below w.heap.size w w' := by
 have hu79 := Tryz.underlying79
 have HB := A0_ (Below.refl w.heap.size w)
 have H : ((impl_within.f a0_0 2 24).bind fun t1 => (if t1 = true then (if a0_1 = true then (some (decide (a0_0 ≥ 3))) else (some true)) else (some false))) = some r := h
 clear h
 obtain ⟨t1, A2, H⟩ := o1_ H
 by_cases c1 : t1 = true
 case neg =>
  obtain rfl := bf_.mpr c1
  rw [if_neg ft_] at H
  obtain rfl := si_ H
  go_enter Tryz.func48, Tryz.ntmps48
  go_wp2_with (first | ((with_reducible refine gd_ (N := 1) rfl ?_); refine bx_ 1 #[.int .i64 a0_0, .bool a0_1] 79 ?_; intro gb1 hg w1 BK1 hb; have GW1 := ge_ hg brt4_; have GE1 := GW1; replace HB := hb_ hb brt4_; clear hb hg; have hcz1 := c2_ BK1) | ((with_reducible refine gc_ (f := 62) rfl ?_); refine gl_ 5 Tryz.func62 #[.int .i64 a0_0, .int .i64 2, .int .i64 24] ?_; (with_reducible refine (impl_within.calls a0_0 2 24 false _ A2.out).mono ?_); rintro e w' ⟨rfl, ⟨nd, rfl⟩⟩; refine ⟨_, rfl, ?_⟩))
  go_ret
  exact ⟨bnwh_, be6g_⟩
 subst c1
 rw [if_pos rfl] at H
 by_cases c2 : a0_1 = true
 ·subst c2
  rw [if_pos rfl] at H
  obtain rfl := si_ H
  go_enter Tryz.func48, Tryz.ntmps48
  go_wp2_with (first | ((with_reducible refine gd_ (N := 1) rfl ?_); refine bx_ 1 #[.int .i64 a0_0, .bool true] 79 ?_; intro gb1 hg w1 BK1 hb; have GW1 := ge_ hg brt4_; have GE1 := GW1; replace HB := hb_ hb brt4_; clear hb hg; have hcz1 := c2_ BK1) | ((with_reducible refine gc_ (f := 62) rfl ?_); refine gl_ 5 Tryz.func62 #[.int .i64 a0_0, .int .i64 2, .int .i64 24] ?_; (with_reducible refine (impl_within.calls a0_0 2 24 true _ A2.out).mono ?_); rintro e w' ⟨rfl, ⟨nd, rfl⟩⟩; refine ⟨_, rfl, ?_⟩))
  go_ret
  exact ⟨bnwh_, be6g_⟩
 obtain rfl := bf_.mpr c2
 rw [if_neg ft_] at H
 obtain rfl := si_ H
 go_enter Tryz.func48, Tryz.ntmps48
 go_wp2_with (first | ((with_reducible refine gd_ (N := 1) rfl ?_); refine bx_ 1 #[.int .i64 a0_0, .bool false] 79 ?_; intro gb1 hg w1 BK1 hb; have GW1 := ge_ hg brt4_; have GE1 := GW1; replace HB := hb_ hb brt4_; clear hb hg; have hcz1 := c2_ BK1) | ((with_reducible refine gc_ (f := 62) rfl ?_); refine gl_ 5 Tryz.func62 #[.int .i64 a0_0, .int .i64 2, .int .i64 24] ?_; (with_reducible refine (impl_within.calls a0_0 2 24 true _ A2.out).mono ?_); rintro e w' ⟨rfl, ⟨nd, rfl⟩⟩; refine ⟨_, rfl, ?_⟩))
 go_ret
 exact ⟨bnwh_, be6g_⟩

def impl_Row_bench.f (a0_0 : Int) (a0_1 : Bool) (l0_2 : List Int) : Option (Int × Bool) := some (a0_0, a0_1)
theorem impl_Row_bench.calls (a0_0 : Int) (a0_1 : Bool) (A0_2 : Option Addr) (c0_2 : Nat) (l0_2 : List Int) (r1 : Int) (r2 : Bool) (w : World) (hr0_2 : Kd.C (Kd.int .i64) w A0_2 l0_2.length l0_2) (hc0_2 : l0_2.length ≤ c0_2) (h : impl_Row_bench.f a0_0 a0_1 l0_2 = some (r1, r2)) :
  Calls Tryz.prog 53 #[.agg #[.int .i64 a0_0, .bool a0_1, .slice A0_2 l0_2.length c0_2]] w fun e w' => e = .returned (.agg #[.int .i64 r1, .bool r2]) ∧ Below w.heap.size w w' := by
 have hu30 := Tryz.underlying30
 have hu79 := Tryz.underlying79
 have HR0_2 := A0_ hr0_2
 have HC0_2 := A0_ hc0_2
 clear hr0_2 hc0_2
 have HB := A0_ (Below.refl w.heap.size w)
 have H : (some (a0_0, a0_1)) = some (r1, r2) := h
 clear h
 simp only [sj_, pj_] at H
 obtain ⟨rfl, rfl⟩ := H
 go_enter Tryz.func53, Tryz.ntmps53
 go_wp2_with (first | ((with_reducible refine gd_ (N := 1) rfl ?_); refine bx_ 1 #[.int .i64 a0_0, .bool a0_1, .slice A0_2 l0_2.length c0_2] 30 ?_; intro gb1 hg w1 BK1 hb; have GW1 := ge_ hg brt4_; have GE1 := GW1; replace HB := hb_ hb brt4_; clear hb hg) | ((with_reducible refine gd_ (N := 2) rfl ?_); refine bx_ 2 #[.int .i64 0, .bool false] 79 ?_; intro gb2 hg w2 BK2 hb; have GW2 := ge_ hg be6g_; have GE2 := GW2; replace HB := hb_ hb be6g_; have NB1_2 := nl_ hg BK1; have NB2_1 := ng_ hg BK1; replace BK1 := k1_ BK1 hb; clear hb hg; have hnb1 := NB1_2.out; have hnc1 := NB2_1.out; have hcz1 := z3_ BK1; have hcz2 := z2_ BK2))
 refine bodyPost_ret (results_cell_row rfl _ _ gb2 79 #[.int .i64 a0_0, .bool a0_1] (0, 0) _ rfl (u1_ BK2) Tryz.underlying79 rfl bfqv_) rfl ?_
 exact ⟨bnwh_, bfnq_⟩

def impl_allWithin.l0 : Nat → Int → Int → List Int → Int → Int → Option (Bool)
 | 0, _, _, _, _, _ => none
 | k + 1, x1, x2, x9, x10, x11 => if x11 < x10 then (if 0 ≤ x11 then (if x11 < (x9.length : Int) then ((impl_within.f (rd x9 x11) x1 x2).bind fun t385 => (if t385 = true then (impl_allWithin.l0 k x1 x2 x9 x10 (wrap64 (x11 + 1))) else (some false))) else (none)) else (none)) else (some true)
def impl_allWithin.f (k : Nat) (l0 : List Int) (a1 : Int) (a2 : Int) : Option (Bool) := impl_allWithin.l0 k a1 a2 l0 (l0.length : Int) 0
theorem impl_allWithin.mono_l : ∀ k, (∀ y0 y1 y2 y3 y4, LeO (impl_allWithin.l0 k y0 y1 y2 y3 y4) (impl_allWithin.l0 (k + 1) y0 y1 y2 y3 y4))
 | 0 => fun _ _ _ _ _ r h => by simp [impl_allWithin.l0] at h
 | k + 1 => by
  have ih0 := impl_allWithin.mono_l k
  ·intro y0 y1 y2 y3 y4
   unfold impl_allWithin.l0
   repeat' with_reducible first | exact ih0 .. | exact LeO.refl .. | exact LeO.none .. | refine LeO.ite ?_ ?_ | refine LeO.bind ?_ (fun _ => ?_)
theorem impl_allWithin.mono : ∀ a0 a1 a2 k, LeO (impl_allWithin.f k a0 a1 a2) (impl_allWithin.f (k + 1) a0 a1 a2) := by
 intro a0 a1 a2 k
 have ih0 := impl_allWithin.mono_l k
 unfold impl_allWithin.f
 repeat' with_reducible first | exact ih0 .. | exact LeO.refl .. | exact LeO.none .. | refine LeO.ite ?_ ?_ | refine LeO.bind ?_ (fun _ => ?_)
theorem impl_allWithin.calls (k : Nat) (A0 : Option Addr) (c0 : Nat) (l0 : List Int) (a1 : Int) (a2 : Int) (r : Bool) (w : World) (hr0 : Kd.C (Kd.int .i64) w A0 l0.length l0) (hc0 : l0.length ≤ c0) (h : impl_allWithin.f k l0 a1 a2 = some r) :
  Calls Tryz.prog 98 #[.slice A0 l0.length c0, .int .i64 a1, .int .i64 a2] w fun e w' => e = .returned (.bool r) ∧ Drawn0 w w' := by
 have HR0 := A0_ hr0
 have HC0 := A0_ hc0
 clear hr0 hc0
 have H : (impl_allWithin.l0 k a1 a2 l0 (l0.length : Int) 0) = some r := h
 clear h
 have H' := A0_ H
 clear H
 go_enter Tryz.func98, Tryz.ntmps98
 go_wp2
 go_loopg [11] k (fun kq v1 w' => ∃ (x11_1 : Int), v1 = .int .i64 x11_1 ∧ Aside0 (impl_allWithin.l0 kq a1 a2 l0 (l0.length : Int) x11_1 = some r) ∧ Aside0 (kq ≤ k) ∧ Drawn0 w w')
 case atStart => exact ⟨(0), b2ew_, H', ⟨Nat.le_refl _⟩, boaj_⟩
 clear H'
 obtain ⟨x11_1, rfl, HA, HK1, ⟨m1, rfl⟩⟩ := hrel
 cases gk with | zero => exact absurd HA.out (by simp [impl_allWithin.l0]) | succ k1 => ?_
 have H := HA.out
 clear HA
 simp only [impl_allWithin.l0] at H
 by_cases c1 : x11_1 < (l0.length : Int)
 case neg =>
  rw [if_neg c1] at H
  have c1b0 : decide (x11_1 < (l0.length : Int)) = false := decide_eq_false c1
  clear c1
  obtain rfl := si_ H
  go_wp2
  go_ret
  exact ⟨b04z_, boaj_⟩
 rw [if_pos c1] at H
 have c1b0 : decide (x11_1 < (l0.length : Int)) = true := dt_ c1
 clear c1
 by_cases c2 : 0 ≤ x11_1
 case neg =>
  rw [if_neg c2] at H
  exact absurd H bxka_
 rw [if_pos c2] at H
 have c2b0 : decide (0 ≤ x11_1) = true := dt_ c2
 clear c2
 by_cases c3 : x11_1 < (l0.length : Int)
 case neg =>
  rw [if_neg c3] at H
  exact absurd H bxka_
 rw [if_pos c3] at H
 have c3b0 : decide (x11_1 < (l0.length : Int)) = true := dt_ c3
 clear c3
 obtain ⟨t1, A2, H⟩ := o1_ H
 by_cases c4 : t1 = true
 case neg =>
  obtain rfl := bf_.mpr c4
  rw [if_neg ft_] at H
  obtain rfl := si_ H
  have p1 : 0 ≤ (x11_1 : Int) := od_ bpil_
  have q1 : x11_1 < (l0.length : Int) := od_ bpil_
  obtain ⟨ad1, e1, hx1_0⟩ := Kd.at_int HR0.out x11_1 p1 q1
  cases e1
  replace p1 := eq_true p1
  replace q1 := eq_true q1
  go_wp2_with (first | ((with_reducible refine gc_ (f := 62) rfl ?_); refine gl_ 18 Tryz.func62 #[.int .i64 (rd l0 x11_1), .int .i64 a1, .int .i64 a2] ?_; (with_reducible refine (impl_within.calls (rd l0 x11_1) a1 a2 false _ A2.out).mono ?_); rintro e w' ⟨rfl, ⟨nd, rfl⟩⟩; refine ⟨_, rfl, ?_⟩))
  go_ret
  exact ⟨b04z_, boaj_⟩
 subst c4
 rw [if_pos rfl] at H
 have H' := A0_ H
 clear H
 have p1 : 0 ≤ (x11_1 : Int) := od_ bpil_
 have q1 : x11_1 < (l0.length : Int) := od_ bpil_
 obtain ⟨ad1, e1, hx1_0⟩ := Kd.at_int HR0.out x11_1 p1 q1
 cases e1
 replace p1 := eq_true p1
 replace q1 := eq_true q1
 go_wp2_with (first | ((with_reducible refine gc_ (f := 62) rfl ?_); refine gl_ 18 Tryz.func62 #[.int .i64 (rd l0 x11_1), .int .i64 a1, .int .i64 a2] ?_; (with_reducible refine (impl_within.calls (rd l0 x11_1) a1 a2 true _ A2.out).mono ?_); rintro e w' ⟨rfl, ⟨nd, rfl⟩⟩; refine ⟨_, rfl, ?_⟩))
 go_roundg k1
 case measure => have := HK1.out; omega
 exact ⟨(wrap64 (x11_1 + 1)), b2ew_, H', ⟨bxjq_⟩, boaj_⟩

def impl_bench_has.f (k : Nat) (a0_0 : Int) (a0_1 : Bool) (l1 : List Int) : Option (Bool) := (impl_allWithin.f k l1 0 (wrap64 (a0_0 - 1))).bind fun t387 => (some t387)
theorem impl_bench_has.mono : ∀ a0 a1 a2 k, LeO (impl_bench_has.f k a0 a1 a2) (impl_bench_has.f (k + 1) a0 a1 a2) := by
 intro a0 a1 a2 k
 unfold impl_bench_has.f
 repeat' with_reducible first | exact impl_allWithin.mono .. | exact LeO.refl .. | exact LeO.none .. | refine LeO.ite ?_ ?_ | refine LeO.bind ?_ (fun _ => ?_)
theorem impl_bench_has.calls (k : Nat) (a0_0 : Int) (a0_1 : Bool) (A1 : Option Addr) (c1 : Nat) (l1 : List Int) (r : Bool) (w : World) (hr1 : Kd.C (Kd.int .i64) w A1 l1.length l1) (hc1 : l1.length ≤ c1) (h : impl_bench_has.f k a0_0 a0_1 l1 = some r) :
  Calls Tryz.prog 76 #[.agg #[.int .i64 a0_0, .bool a0_1], .slice A1 l1.length c1] w fun e w' => e = .returned (.bool r) ∧ Below w.heap.size w w' := by
 have hu79 := Tryz.underlying79
 have HR1 := A0_ hr1
 have HC1 := A0_ hc1
 clear hr1 hc1
 have HB := A0_ (Below.refl w.heap.size w)
 have H : ((impl_allWithin.f k l1 0 (wrap64 (a0_0 - 1))).bind fun t1 => (some t1)) = some r := h
 clear h
 obtain ⟨t1, A3, H⟩ := o1_ H
 replace H : (some t1) = some r := H
 obtain rfl := si_ H
 go_enter Tryz.func76, Tryz.ntmps76
 go_wp2_with (first | ((with_reducible refine gd_ (N := 2) rfl ?_); refine bx_ 2 #[.int .i64 a0_0, .bool a0_1] 79 ?_; intro gb1 hg w1 BK1 hb; have GW1 := ge_ hg brt4_; have GE1 := GW1; replace HB := hb_ hb brt4_; clear hb hg; have hcz1 := c2_ BK1) | ((with_reducible refine gc_ (f := 98) rfl ?_); refine gl_ 9 Tryz.func98 #[.slice A1 l1.length c1, .int .i64 0, .int .i64 (wrap64 (a0_0 - 1))] ?_; (with_reducible refine (impl_allWithin.calls k _ _ l1 0 (wrap64 (a0_0 - 1)) t1 _ ?side1 ?side2 A3.out).mono ?_); (case side1 => exact b3d8_); (case side2 => exact HC1.out); rintro e w' ⟨rfl, ⟨nd, rfl⟩⟩; refine ⟨_, rfl, ?_⟩))
 go_ret
 exact ⟨bnwh_, be6g_⟩

def impl_IsRow.l0 : Nat → List Int → Int → Int → Int → Bool → List Int → Option (Bool)
 | 0, _, _, _, _, _, _ => none
 | k + 1, x6, x7, x8, x389000, x389001, x389002 => if x8 < x7 then (if 0 ≤ x8 then (if x8 < (x6.length : Int) then ((impl_Row_bench.f x389000 x389001 x389002).bind fun bt393 => ((impl_bench_has.f k bt393.1 bt393.2 (([rd x6 x8] : List Int))).bind fun t398 => (if t398 = true then (if x8 > 0 then (if 0 ≤ (wrap64 (x8 - 1)) then (if (wrap64 (x8 - 1)) < (x389002.length : Int) then (if (rd x389002 (wrap64 (x8 - 1))) ≥ (rd x6 x8) then (some false) else (impl_IsRow.l0 k x6 x7 (wrap64 (x8 + 1)) x389000 x389001 x389002)) else (none)) else (none)) else (impl_IsRow.l0 k x6 x7 (wrap64 (x8 + 1)) x389000 x389001 x389002)) else (some false)))) else (none)) else (none)) else ((impl_Row_bench.f x389000 x389001 x389002).bind fun bt389 => ((impl_bench_valid.f bt389.1 bt389.2).bind fun t391 => (some t391)))
def impl_IsRow.f (k : Nat) (a0_0 : Int) (a0_1 : Bool) (l0_2 : List Int) : Option (Bool) := impl_IsRow.l0 k l0_2 (l0_2.length : Int) 0 a0_0 a0_1 l0_2
theorem impl_IsRow.mono_l : ∀ k, (∀ y0 y1 y2 y3 y4 y5, LeO (impl_IsRow.l0 k y0 y1 y2 y3 y4 y5) (impl_IsRow.l0 (k + 1) y0 y1 y2 y3 y4 y5))
 | 0 => fun _ _ _ _ _ _ r h => by simp [impl_IsRow.l0] at h
 | k + 1 => by
  have ih0 := impl_IsRow.mono_l k
  ·intro y0 y1 y2 y3 y4 y5
   unfold impl_IsRow.l0
   repeat' with_reducible first | exact ih0 .. | exact impl_bench_has.mono .. | exact LeO.refl .. | exact LeO.none .. | refine LeO.ite ?_ ?_ | refine LeO.bind ?_ (fun _ => ?_)
theorem impl_IsRow.mono : ∀ a0 a1 a2 k, LeO (impl_IsRow.f k a0 a1 a2) (impl_IsRow.f (k + 1) a0 a1 a2) := by
 intro a0 a1 a2 k
 have ih0 := impl_IsRow.mono_l k
 unfold impl_IsRow.f
 repeat' with_reducible first | exact ih0 .. | exact impl_bench_has.mono .. | exact LeO.refl .. | exact LeO.none .. | refine LeO.ite ?_ ?_ | refine LeO.bind ?_ (fun _ => ?_)
theorem impl_IsRow.calls (k : Nat) (a0_0 : Int) (a0_1 : Bool) (A0_2 : Option Addr) (c0_2 : Nat) (l0_2 : List Int) (r : Bool) (w : World) (hr0_2 : Kd.C (Kd.int .i64) w A0_2 l0_2.length l0_2) (hc0_2 : l0_2.length ≤ c0_2) (h : impl_IsRow.f k a0_0 a0_1 l0_2 = some r) :
  Calls Tryz.prog 58 #[.agg #[.int .i64 a0_0, .bool a0_1, .slice A0_2 l0_2.length c0_2]] w fun e w' => e = .returned (.bool r) ∧ Below w.heap.size w w' := by
 have hu30 := Tryz.underlying30
 have HR0_2 := A0_ hr0_2
 have HC0_2 := A0_ hc0_2
 clear hr0_2 hc0_2
 have HB := A0_ (Below.refl w.heap.size w)
 have H : (impl_IsRow.l0 k l0_2 (l0_2.length : Int) 0 a0_0 a0_1 l0_2) = some r := h
 clear h
 have H' := A0_ H
 clear H
 go_enter Tryz.func58, Tryz.ntmps58
 go_wp2_with (first | ((with_reducible refine gd_ (N := 1) rfl ?_); refine bx_ 1 #[.int .i64 a0_0, .bool a0_1, .slice A0_2 l0_2.length c0_2] 30 ?_; intro gb1 hg w1 BK1 hb; have GW1 := ge_ hg brt4_; have GE1 := GW1; replace HB := hb_ hb brt4_; clear hb hg; have hcz1 := c3_ BK1))
 go_loopg [8] k (fun kq v1 w' => ∃ (x8_1 : Int), v1 = .int .i64 x8_1 ∧ Aside0 (impl_IsRow.l0 kq l0_2 (l0_2.length : Int) x8_1 a0_0 a0_1 l0_2 = some r) ∧ Aside0 (kq ≤ k) ∧ Aside0 (w'.heap[gb1]? = some (.cells #[.int .i64 a0_0, .bool a0_1, (.slice A0_2 l0_2.length c0_2)] 30 (0, 0))) ∧ Aside0 (Below w.heap.size w w'))
 case atStart => exact ⟨(0), b2ew_, H', ⟨Nat.le_refl _⟩, ⟨u1_ BK1⟩, ⟨be6g_⟩⟩
 clear H'
 (try clear hcz1)
 obtain ⟨x8_1, rfl, HA, HK1, BK1, HB⟩ := hrel
 cases gk with | zero => exact absurd HA.out (by simp [impl_IsRow.l0]) | succ k1 => ?_
 have H := HA.out
 clear HA
 simp only [impl_IsRow.l0] at H
 by_cases c1 : x8_1 < (l0_2.length : Int)
 case neg =>
  rw [if_neg c1] at H
  have c1b0 : decide (x8_1 < (l0_2.length : Int)) = false := decide_eq_false c1
  clear c1
  obtain ⟨⟨t1, t2⟩, A2, H⟩ := o1_ H
  obtain ⟨t3, A4, H⟩ := o1_ H
  replace H : (some t3) = some r := H
  obtain rfl := si_ H
  have hcz2 := c3_ BK1
  go_wp2_with (first | ((with_reducible refine gc_ (f := 53) rfl ?_); refine gl_ 35 Tryz.func53 #[.agg #[.int .i64 a0_0, .bool a0_1, .slice A0_2 l0_2.length c0_2]] ?_; (with_reducible refine (impl_Row_bench.calls a0_0 a0_1 _ _ l0_2 t1 t2 _ ?side1 ?side2 A2.out).mono ?_); (case side1 => exact b6n8_); (case side2 => exact HC0_2.out); rintro e w2 ⟨rfl, hb⟩; refine ⟨_, rfl, ?_⟩; replace BK1 := k1_ BK1 hb; replace HB := hb_ hb be6g_; (try clear hb)) | ((with_reducible refine gc_ (f := 48) rfl ?_); refine gl_ 36 Tryz.func48 #[.agg #[.int .i64 t1, .bool t2]] ?_; (with_reducible refine (impl_bench_valid.calls t1 t2 t3 _ A4.out).mono ?_); rintro e w3 ⟨rfl, hb⟩; refine ⟨_, rfl, ?_⟩; replace BK1 := k1_ BK1 hb; replace HB := hb_ hb be6g_; (try clear hb)))
  go_ret
  exact ⟨bnwh_, be6g_⟩
 rw [if_pos c1] at H
 have c1b0 : decide (x8_1 < (l0_2.length : Int)) = true := dt_ c1
 clear c1
 by_cases c2 : 0 ≤ x8_1
 case neg =>
  rw [if_neg c2] at H
  exact absurd H bxka_
 rw [if_pos c2] at H
 have c2b0 : decide (0 ≤ x8_1) = true := dt_ c2
 clear c2
 by_cases c3 : x8_1 < (l0_2.length : Int)
 case neg =>
  rw [if_neg c3] at H
  exact absurd H bxka_
 rw [if_pos c3] at H
 have c3b0 : decide (x8_1 < (l0_2.length : Int)) = true := dt_ c3
 clear c3
 obtain ⟨⟨t1, t2⟩, A2, H⟩ := o1_ H
 obtain ⟨y1, hy1⟩ : ∃ y_ : List Int, y_ = (([rd l0_2 x8_1] : List Int)) := ⟨_, rfl⟩
 replace H : ((impl_bench_has.f k1 t1 t2 y1).bind fun t3 => (if t3 = true then (if x8_1 > 0 then (if 0 ≤ (wrap64 (x8_1 - 1)) then (if (wrap64 (x8_1 - 1)) < (l0_2.length : Int) then (if (rd l0_2 (wrap64 (x8_1 - 1))) ≥ (rd l0_2 x8_1) then (some false) else (impl_IsRow.l0 k1 l0_2 (l0_2.length : Int) (wrap64 (x8_1 + 1)) a0_0 a0_1 l0_2)) else (none)) else (none)) else (impl_IsRow.l0 k1 l0_2 (l0_2.length : Int) (wrap64 (x8_1 + 1)) a0_0 a0_1 l0_2)) else (some false))) = some r := bgiq_
 have Ny1 := A0_ hy1
 clear hy1
 obtain ⟨t3, A4, H⟩ := o1_ H
 by_cases c4 : t3 = true
 case neg =>
  obtain rfl := bf_.mpr c4
  rw [if_neg ft_] at H
  obtain rfl := si_ H
  have p1 : 0 ≤ (x8_1 : Int) := od_ bpil_
  have q1 : x8_1 < (l0_2.length : Int) := od_ bpil_
  obtain ⟨ad1, e1, hx1_0⟩ := Kd.at_int HR0_2.out x8_1 p1 q1
  cases e1
  replace hx1_0 := (HB.out.cell (World.block_lt_of_cell? w _ hx1_0)).trans hx1_0
  replace p1 := eq_true p1
  replace q1 := eq_true q1
  have hcz2 := c3_ BK1
  go_wp2_with (first | ((with_reducible refine gc_ (f := 53) rfl ?_); refine gl_ 14 Tryz.func53 #[.agg #[.int .i64 a0_0, .bool a0_1, .slice (some ad1) l0_2.length c0_2]] ?_; (with_reducible refine (impl_Row_bench.calls a0_0 a0_1 _ _ l0_2 t1 t2 _ ?side1 ?side2 A2.out).mono ?_); (case side1 => exact b6n8_); (case side2 => exact HC0_2.out); rintro e w2 ⟨rfl, hb⟩; refine ⟨_, rfl, ?_⟩; replace BK1 := k1_ BK1 hb; replace HB := hb_ hb be6g_; (try clear hb)) | ((with_reducible refine gd_ (N := 16) rfl ?_); refine Kd.R_lit (Kd.int .i64) _ 3 ?hg (N := 16) ?hd (xs := ([rd l0_2 x8_1] : List Int)) (inner := [.int .i64 (rd l0_2 x8_1)]) (ok := fun _ => True) (okp := fun _ => True) ?hr ?hp (fun _ hk => hk) trivial (Below.refl _ _) (Nat.le_refl _) bxka_ ?_; (case hd => rfl); (case hg => rfl); (case hr => go_simp; first | done | rfl); (case hp => exact (Reps.one (show Kd.M (Kd.int .i64) _ _ _ (rd l0_2 x8_1) [.int .i64 (rd l0_2 x8_1)] from rfl) (Reps.none _ _))); intro v2 w3 ho38 hb hg_ hnew_; clear hg_ hnew_; (first | rw [← Ny1.out] at ho38 | (simp only [Int.reduceToNat] at ho38; rw [← Ny1.out] at ho38)); have HO1 := A0_ (Kd.R_lower ho38 (bz_ be6g_)); replace BK1 := k1_ BK1 hb; replace HB := hb_ hb be6g_; clear hb ho38; obtain ⟨Ao1, co1, eo1⟩ := Kd.R_slice HO1.out; subst eo1) | ((with_reducible refine gc_ (f := 76) rfl ?_); refine gl_ 17 Tryz.func76 #[.agg #[.int .i64 t1, .bool t2], .slice Ao1 y1.length co1] ?_; (with_reducible refine (impl_bench_has.calls k1 t1 t2 _ _ y1 false _ ?side1 ?side2 A4.out).mono ?_); (case side1 => exact bayy_); (case side2 => exact (rr_ HO1.out).2.1); rintro e w4 ⟨rfl, hb⟩; refine ⟨_, rfl, ?_⟩; replace HO1 := A0_ (Kd.R_below bsm5_ hb); replace BK1 := k1_ BK1 hb; replace HB := hb_ hb be6g_; (try clear hb)))
  go_ret
  exact ⟨bnwh_, be6g_⟩
 subst c4
 rw [if_pos rfl] at H
 by_cases c5 : x8_1 > 0
 case neg =>
  rw [if_neg c5] at H
  have c5b0 : decide (0 < x8_1) = false := decide_eq_false c5
  clear c5
  have H' := A0_ H
  clear H
  have p1 : 0 ≤ (x8_1 : Int) := od_ bpil_
  have q1 : x8_1 < (l0_2.length : Int) := od_ bpil_
  obtain ⟨ad1, e1, hx1_0⟩ := Kd.at_int HR0_2.out x8_1 p1 q1
  cases e1
  replace hx1_0 := (HB.out.cell (World.block_lt_of_cell? w _ hx1_0)).trans hx1_0
  replace p1 := eq_true p1
  replace q1 := eq_true q1
  have hcz2 := c3_ BK1
  go_wp2_with (first | ((with_reducible refine gc_ (f := 53) rfl ?_); refine gl_ 14 Tryz.func53 #[.agg #[.int .i64 a0_0, .bool a0_1, .slice (some ad1) l0_2.length c0_2]] ?_; (with_reducible refine (impl_Row_bench.calls a0_0 a0_1 _ _ l0_2 t1 t2 _ ?side1 ?side2 A2.out).mono ?_); (case side1 => exact b6n8_); (case side2 => exact HC0_2.out); rintro e w2 ⟨rfl, hb⟩; refine ⟨_, rfl, ?_⟩; replace BK1 := k1_ BK1 hb; replace HB := hb_ hb be6g_; (try clear hb)) | ((with_reducible refine gd_ (N := 16) rfl ?_); refine Kd.R_lit (Kd.int .i64) _ 3 ?hg (N := 16) ?hd (xs := ([rd l0_2 x8_1] : List Int)) (inner := [.int .i64 (rd l0_2 x8_1)]) (ok := fun _ => True) (okp := fun _ => True) ?hr ?hp (fun _ hk => hk) trivial (Below.refl _ _) (Nat.le_refl _) bxka_ ?_; (case hd => rfl); (case hg => rfl); (case hr => go_simp; first | done | rfl); (case hp => exact (Reps.one (show Kd.M (Kd.int .i64) _ _ _ (rd l0_2 x8_1) [.int .i64 (rd l0_2 x8_1)] from rfl) (Reps.none _ _))); intro v2 w3 ho32 hb hg_ hnew_; clear hg_ hnew_; (first | rw [← Ny1.out] at ho32 | (simp only [Int.reduceToNat] at ho32; rw [← Ny1.out] at ho32)); have HO1 := A0_ (Kd.R_lower ho32 (bz_ be6g_)); replace BK1 := k1_ BK1 hb; replace HB := hb_ hb be6g_; clear hb ho32; obtain ⟨Ao1, co1, eo1⟩ := Kd.R_slice HO1.out; subst eo1) | ((with_reducible refine gc_ (f := 76) rfl ?_); refine gl_ 17 Tryz.func76 #[.agg #[.int .i64 t1, .bool t2], .slice Ao1 y1.length co1] ?_; (with_reducible refine (impl_bench_has.calls k1 t1 t2 _ _ y1 true _ ?side1 ?side2 A4.out).mono ?_); (case side1 => exact bayy_); (case side2 => exact (rr_ HO1.out).2.1); rintro e w4 ⟨rfl, hb⟩; refine ⟨_, rfl, ?_⟩; replace HO1 := A0_ (Kd.R_below bsm5_ hb); replace BK1 := k1_ BK1 hb; replace HB := hb_ hb be6g_; (try clear hb)))
  go_roundg k1
  case measure => have := HK1.out; omega
  exact ⟨(wrap64 (x8_1 + 1)), b2ew_, H', ⟨bxjq_⟩, ⟨u1_ BK1⟩, ⟨be6g_⟩⟩
 rw [if_pos c5] at H
 have c5b0 : decide (0 < x8_1) = true := dt_ c5
 clear c5
 obtain ⟨ji1, hji1⟩ : ∃ j_ : Int, (wrap64 (x8_1 - 1)) = j_ := ⟨_, rfl⟩
 replace H : (if 0 ≤ (ji1) then (if (ji1) < (l0_2.length : Int) then (if (rd l0_2 (ji1)) ≥ (rd l0_2 x8_1) then (some false) else (impl_IsRow.l0 k1 l0_2 (l0_2.length : Int) (wrap64 (x8_1 + 1)) a0_0 a0_1 l0_2)) else (none)) else (none)) = some r := bmns_
 (try rw [hji1] at A2)
 (try rw [hji1] at A4)
 have hji11w : (IntKind.i64.wrap (x8_1 - 1)) = ji1 := (i64_w _).trans hji1
 by_cases c6 : 0 ≤ (ji1)
 case neg =>
  rw [if_neg c6] at H
  exact absurd H bxka_
 rw [if_pos c6] at H
 have c6b0 : decide (0 ≤ (ji1)) = true := dt_ c6
 clear c6
 by_cases c7 : (ji1) < (l0_2.length : Int)
 case neg =>
  rw [if_neg c7] at H
  exact absurd H bxka_
 rw [if_pos c7] at H
 have c7b0 : decide ((ji1) < (l0_2.length : Int)) = true := dt_ c7
 clear c7
 by_cases c8 : (rd l0_2 (ji1)) ≥ (rd l0_2 x8_1)
 case neg =>
  rw [if_neg c8] at H
  have c8b0 : decide ((rd l0_2 x8_1) ≤ (rd l0_2 (ji1))) = false := decide_eq_false c8
  clear c8
  have H' := A0_ H
  clear H
  have p1 : 0 ≤ (x8_1 : Int) := od_ bpil_
  have q1 : x8_1 < (l0_2.length : Int) := od_ bpil_
  obtain ⟨ad1, e1, hx1_0⟩ := Kd.at_int HR0_2.out x8_1 p1 q1
  cases e1
  replace hx1_0 := (HB.out.cell (World.block_lt_of_cell? w _ hx1_0)).trans hx1_0
  replace p1 := eq_true p1
  replace q1 := eq_true q1
  have hcz2 := c3_ BK1
  go_wp2_with (first | ((with_reducible refine gc_ (f := 53) rfl ?_); refine gl_ 14 Tryz.func53 #[.agg #[.int .i64 a0_0, .bool a0_1, .slice (some ad1) l0_2.length c0_2]] ?_; (with_reducible refine (impl_Row_bench.calls a0_0 a0_1 _ _ l0_2 t1 t2 _ ?side1 ?side2 A2.out).mono ?_); (case side1 => exact b6n8_); (case side2 => exact HC0_2.out); rintro e w2 ⟨rfl, hb⟩; refine ⟨_, rfl, ?_⟩; replace BK1 := k1_ BK1 hb; replace HB := hb_ hb be6g_; (try clear hb)) | ((with_reducible refine gd_ (N := 16) rfl ?_); refine Kd.R_lit (Kd.int .i64) _ 3 ?hg (N := 16) ?hd (xs := ([rd l0_2 x8_1] : List Int)) (inner := [.int .i64 (rd l0_2 x8_1)]) (ok := fun _ => True) (okp := fun _ => True) ?hr ?hp (fun _ hk => hk) trivial (Below.refl _ _) (Nat.le_refl _) bxka_ ?_; (case hd => rfl); (case hg => rfl); (case hr => go_simp; first | done | rfl); (case hp => exact (Reps.one (show Kd.M (Kd.int .i64) _ _ _ (rd l0_2 x8_1) [.int .i64 (rd l0_2 x8_1)] from rfl) (Reps.none _ _))); intro v2 w3 ho25 hb hg_ hnew_; clear hg_ hnew_; (first | rw [← Ny1.out] at ho25 | (simp only [Int.reduceToNat] at ho25; rw [← Ny1.out] at ho25)); have HO1 := A0_ (Kd.R_lower ho25 (bz_ be6g_)); replace BK1 := k1_ BK1 hb; replace HB := hb_ hb be6g_; clear hb ho25; obtain ⟨Ao1, co1, eo1⟩ := Kd.R_slice HO1.out; subst eo1) | ((with_reducible refine gc_ (f := 76) rfl ?_); refine gl_ 17 Tryz.func76 #[.agg #[.int .i64 t1, .bool t2], .slice Ao1 y1.length co1] ?_; (with_reducible refine (impl_bench_has.calls k1 t1 t2 _ _ y1 true _ ?side1 ?side2 A4.out).mono ?_); (case side1 => exact bayy_); (case side2 => exact (rr_ HO1.out).2.1); rintro e w4 ⟨rfl, hb⟩; refine ⟨_, rfl, ?_⟩; replace HO1 := A0_ (Kd.R_below bsm5_ hb); replace BK1 := k1_ BK1 hb; replace HB := hb_ hb be6g_; (try clear hb); have hcz3 := c3_ BK1; have p2 : 0 ≤ ((ji1) : Int) := od_ bpil_; have q2 : (ji1) < (l0_2.length : Int) := od_ bpil_; obtain ⟨ad2, e2, hx2_0⟩ := Kd.at_int HR0_2.out (ji1) p2 q2; obtain rfl : ad1 = ad2 := bs6y_; replace hx2_0 := (HB.out.cell (World.block_lt_of_cell? w _ hx2_0)).trans hx2_0; replace p2 := eq_true p2; replace q2 := eq_true q2))
  go_roundg k1
  case measure => have := HK1.out; omega
  exact ⟨(wrap64 (x8_1 + 1)), b2ew_, H', ⟨bxjq_⟩, ⟨u1_ BK1⟩, ⟨be6g_⟩⟩
 rw [if_pos c8] at H
 have c8b0 : decide ((rd l0_2 x8_1) ≤ (rd l0_2 (ji1))) = true := dt_ c8
 clear c8
 obtain rfl := si_ H
 have p1 : 0 ≤ (x8_1 : Int) := od_ bpil_
 have q1 : x8_1 < (l0_2.length : Int) := od_ bpil_
 obtain ⟨ad1, e1, hx1_0⟩ := Kd.at_int HR0_2.out x8_1 p1 q1
 cases e1
 replace hx1_0 := (HB.out.cell (World.block_lt_of_cell? w _ hx1_0)).trans hx1_0
 replace p1 := eq_true p1
 replace q1 := eq_true q1
 have hcz2 := c3_ BK1
 go_wp2_with (first | ((with_reducible refine gc_ (f := 53) rfl ?_); refine gl_ 14 Tryz.func53 #[.agg #[.int .i64 a0_0, .bool a0_1, .slice (some ad1) l0_2.length c0_2]] ?_; (with_reducible refine (impl_Row_bench.calls a0_0 a0_1 _ _ l0_2 t1 t2 _ ?side1 ?side2 A2.out).mono ?_); (case side1 => exact b6n8_); (case side2 => exact HC0_2.out); rintro e w2 ⟨rfl, hb⟩; refine ⟨_, rfl, ?_⟩; replace BK1 := k1_ BK1 hb; replace HB := hb_ hb be6g_; (try clear hb)) | ((with_reducible refine gd_ (N := 16) rfl ?_); refine Kd.R_lit (Kd.int .i64) _ 3 ?hg (N := 16) ?hd (xs := ([rd l0_2 x8_1] : List Int)) (inner := [.int .i64 (rd l0_2 x8_1)]) (ok := fun _ => True) (okp := fun _ => True) ?hr ?hp (fun _ hk => hk) trivial (Below.refl _ _) (Nat.le_refl _) bxka_ ?_; (case hd => rfl); (case hg => rfl); (case hr => go_simp; first | done | rfl); (case hp => exact (Reps.one (show Kd.M (Kd.int .i64) _ _ _ (rd l0_2 x8_1) [.int .i64 (rd l0_2 x8_1)] from rfl) (Reps.none _ _))); intro v2 w3 ho18 hb hg_ hnew_; clear hg_ hnew_; (first | rw [← Ny1.out] at ho18 | (simp only [Int.reduceToNat] at ho18; rw [← Ny1.out] at ho18)); have HO1 := A0_ (Kd.R_lower ho18 (bz_ be6g_)); replace BK1 := k1_ BK1 hb; replace HB := hb_ hb be6g_; clear hb ho18; obtain ⟨Ao1, co1, eo1⟩ := Kd.R_slice HO1.out; subst eo1) | ((with_reducible refine gc_ (f := 76) rfl ?_); refine gl_ 17 Tryz.func76 #[.agg #[.int .i64 t1, .bool t2], .slice Ao1 y1.length co1] ?_; (with_reducible refine (impl_bench_has.calls k1 t1 t2 _ _ y1 true _ ?side1 ?side2 A4.out).mono ?_); (case side1 => exact bayy_); (case side2 => exact (rr_ HO1.out).2.1); rintro e w4 ⟨rfl, hb⟩; refine ⟨_, rfl, ?_⟩; replace HO1 := A0_ (Kd.R_below bsm5_ hb); replace BK1 := k1_ BK1 hb; replace HB := hb_ hb be6g_; (try clear hb); have hcz3 := c3_ BK1; have p2 : 0 ≤ ((ji1) : Int) := od_ bpil_; have q2 : (ji1) < (l0_2.length : Int) := od_ bpil_; obtain ⟨ad2, e2, hx2_0⟩ := Kd.at_int HR0_2.out (ji1) p2 q2; obtain rfl : ad1 = ad2 := bs6y_; replace hx2_0 := (HB.out.cell (World.block_lt_of_cell? w _ hx2_0)).trans hx2_0; replace p2 := eq_true p2; replace q2 := eq_true q2))
 go_ret
 exact ⟨bfw0_, be6g_⟩

end Go.Proofs.YtbohmfnjgjijdaaGreatDoor.QFnExactDoWorks
-- packed
-- squeezed
