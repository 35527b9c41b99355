-- Written by px.py, a program of this session, over the kit's printer: some functions have a definition and a proof of this session's own.
import Derived.Test.YtbohmfnjgjijdaaDoorQFnGuestsx0
import Derived.Test.YtbohmfnjgjijdaaDoorQFnGuestsx1
import Derived.Test.YtbohmfnjgjijdaaDoorQFnGuestsx4
namespace Go.Proofs.YtbohmfnjgjijdaaDoor.QFnGuests
open Go.RowKit Go.Proofs.YtbohmfnjgjijdaaDoorW.PrintWords Go.Proofs.YtbohmfnjgjijdaaDoorW.PrintLast Go.Proofs.YtbohmfnjgjijdaaDoorW.PrintMore
attribute [local go_sem] max2_int min2_int max_two min_two max_three min_three max_four min_four   -- for this text's walks alone
set_option linter.unusedVariables false
set_option linter.unusedSimpArgs false
set_option maxHeartbeats 8000000
set_option maxRecDepth 100000

mutual
def laws_FnGuests.j0 : Nat → List Int → Bool → List Int → Bool → Int → Bool → List Int → List Int → Int → Option (Bool)
 | 0, _, _, _, _, _, _, _, _, _ => none
 | k + 1, x4, x5, x8, x68, x665000, x665001, x665002, x665003, x665004 => if x68 = true then (some false) else (if x5 = true then (if (x4.length : Int) = (x665002.length : Int) then (laws_FnGuests.l0 k x4 x8 0 x665000 x665001 x665002 x665003 x665004) else (some false)) else ((spec_IsHouse.f k x665000 x665001 x665002 x665003 x665004).bind fun t683 => (some (!t683))))
def laws_FnGuests.l0 : Nat → List Int → List Int → Int → Int → Bool → List Int → List Int → Int → Option (Bool)
 | 0, _, _, _, _, _, _, _, _ => none
 | k + 1, x4, x8, x12, x665000, x665001, x665002, x665003, x665004 => if x12 < (x4.length : Int) then (if 0 ≤ x12 then (if (rd x4 x12) < 0 then (some false) else (if (rd x4 x12) ≥ (x665003.length : Int) then (some false) else (if 0 ≤ (rd x4 x12) then (if (rd x4 x12) < (x665003.length : Int) then (if x12 < (x665002.length : Int) then (if (rd x665003 (rd x4 x12)) = (rd x665002 x12) then (laws_FnGuests.l0 k x4 x8 (wrap64 (x12 + 1)) x665000 x665001 x665002 x665003 x665004) else (some false)) else (none)) else (none)) else (none)))) else (none)) else (laws_FnGuests.l1 k x4 x8 0 x665000 x665001 x665002 x665003 x665004)
def laws_FnGuests.l1 : Nat → List Int → List Int → Int → Int → Bool → List Int → List Int → Int → Option (Bool)
 | 0, _, _, _, _, _, _, _, _ => none
 | k + 1, x4, x8, x13, x665000, x665001, x665002, x665003, x665004 => if x13 < (x4.length : Int) then (laws_FnGuests.l2 k x4 x8 x13 false 0 x665000 x665001 x665002 x665003 x665004) else ((impl_TouchingPairs.f k x665000 x665001 x665002).bind fun bt689 => (if bt689.2 = true then (if ((bt689.1 == 0) == ((x8.length : Int) == 0)) = true then (some (decide ((x8.length : Int) ≤ bt689.1))) else (some false)) else (some false)))
def laws_FnGuests.l2 : Nat → List Int → List Int → Int → Bool → Int → Int → Bool → List Int → List Int → Int → Option (Bool)
 | 0, _, _, _, _, _, _, _, _, _, _ => none
 | k + 1, x4, x8, x13, x14, x15, x665000, x665001, x665002, x665003, x665004 => if x15 < (x4.length : Int) then (if 0 ≤ x13 then (if x13 < (x665002.length : Int) then (if 0 ≤ x15 then (if x15 < (x665002.length : Int) then ((impl_SeatGap.f k x665000 x665001 x665002 (rd x665002 x13) (rd x665002 x15)).bind fun bt693 => (if x14 = true then (laws_FnGuests.l2 k x4 x8 x13 true (wrap64 (x15 + 1)) x665000 x665001 x665002 x665003 x665004) else (if bt693.2 = true then (if bt693.1 = 1 then (if x13 < (x4.length : Int) then (laws_FnGuests.l2 k x4 x8 x13 (decide ((rd x4 x15) > (rd x4 x13))) (wrap64 (x15 + 1)) x665000 x665001 x665002 x665003 x665004) else (none)) else (laws_FnGuests.l2 k x4 x8 x13 false (wrap64 (x15 + 1)) x665000 x665001 x665002 x665003 x665004)) else (laws_FnGuests.l2 k x4 x8 x13 false (wrap64 (x15 + 1)) x665000 x665001 x665002 x665003 x665004)))) else (none)) else (none)) else (none)) else (none)) else (if 0 ≤ x13 then (if x13 < (x665002.length : Int) then ((laws_vHas.f k x8 (rd x665002 x13)).bind fun t698 => (if (x14 != t698) = true then (some false) else (laws_FnGuests.l1 k x4 x8 (wrap64 (x13 + 1)) x665000 x665001 x665002 x665003 x665004))) else (none)) else (none))
end
def laws_FnGuests.f (k : Nat) (l0 : List Int) : Option (Bool) := (laws_vBig.f l0).bind fun t654 => (if t654 = true then (some true) else ((spec_DrawGuestOrder.f k l0).bind fun bt655 => ((impl_GuestOrder.f k bt655.1 bt655.2.1 bt655.2.2.1 bt655.2.2.2.1 bt655.2.2.2.2).bind fun bt665 => ((spec_GuestOrder.f k bt655.1 bt655.2.1 bt655.2.2.1 bt655.2.2.2.1 bt655.2.2.2.2).bind fun bt669 => ((impl_CrowdedGuests.f k bt655.1 bt655.2.1 bt655.2.2.1 bt655.2.2.2.1 bt655.2.2.2.2).bind fun bt673 => ((spec_CrowdedGuests.f k bt655.1 bt655.2.1 bt655.2.2.1 bt655.2.2.2.1 bt655.2.2.2.2).bind fun bt677 => (if (bt665.2 != bt669.2) = true then (laws_FnGuests.j0 k bt665.1 bt665.2 bt673.1 true bt655.1 bt655.2.1 bt655.2.2.1 bt655.2.2.2.1 bt655.2.2.2.2) else ((laws_vInts.f k bt665.1 bt669.1).bind fun t681 => (if t681 = true then (if (bt673.2 != bt677.2) = true then (laws_FnGuests.j0 k bt665.1 bt665.2 bt673.1 true bt655.1 bt655.2.1 bt655.2.2.1 bt655.2.2.2.1 bt655.2.2.2.2) else ((laws_vInts.f k bt673.1 bt677.1).bind fun t682 => (if t682 = true then (laws_FnGuests.j0 k bt665.1 bt665.2 bt673.1 (bt665.2 != bt673.2) bt655.1 bt655.2.1 bt655.2.2.1 bt655.2.2.2.1 bt655.2.2.2.2) else (laws_FnGuests.j0 k bt665.1 bt665.2 bt673.1 true bt655.1 bt655.2.1 bt655.2.2.1 bt655.2.2.2.1 bt655.2.2.2.2)))) else (laws_FnGuests.j0 k bt665.1 bt665.2 bt673.1 true bt655.1 bt655.2.1 bt655.2.2.1 bt655.2.2.2.1 bt655.2.2.2.2))))))))))
theorem laws_FnGuests.mono_l : ∀ k, (∀ y0 y1 y2 y3 y4 y5 y6 y7 y8, LeO (laws_FnGuests.j0 k y0 y1 y2 y3 y4 y5 y6 y7 y8) (laws_FnGuests.j0 (k + 1) y0 y1 y2 y3 y4 y5 y6 y7 y8)) ∧ (∀ y0 y1 y2 y3 y4 y5 y6 y7, LeO (laws_FnGuests.l0 k y0 y1 y2 y3 y4 y5 y6 y7) (laws_FnGuests.l0 (k + 1) y0 y1 y2 y3 y4 y5 y6 y7)) ∧ (∀ y0 y1 y2 y3 y4 y5 y6 y7, LeO (laws_FnGuests.l1 k y0 y1 y2 y3 y4 y5 y6 y7) (laws_FnGuests.l1 (k + 1) y0 y1 y2 y3 y4 y5 y6 y7)) ∧ (∀ y0 y1 y2 y3 y4 y5 y6 y7 y8 y9, LeO (laws_FnGuests.l2 k y0 y1 y2 y3 y4 y5 y6 y7 y8 y9) (laws_FnGuests.l2 (k + 1) y0 y1 y2 y3 y4 y5 y6 y7 y8 y9))
 | 0 => ⟨fun _ _ _ _ _ _ _ _ _ r h => by simp [laws_FnGuests.j0] at h, fun _ _ _ _ _ _ _ _ r h => by simp [laws_FnGuests.l0] at h, fun _ _ _ _ _ _ _ _ r h => by simp [laws_FnGuests.l1] at h, fun _ _ _ _ _ _ _ _ _ _ r h => by simp [laws_FnGuests.l2] at h⟩
 | k + 1 => by
  obtain ⟨ih0, ih1, ih2, ih3⟩ := laws_FnGuests.mono_l k
  refine ⟨?_, ?_, ?_, ?_⟩
  ·intro y0 y1 y2 y3 y4 y5 y6 y7 y8
   unfold laws_FnGuests.j0
   repeat' with_reducible first | exact ih0 .. | exact ih1 .. | exact ih2 .. | exact ih3 .. | exact impl_CrowdedGuests.mono .. | exact impl_GuestOrder.mono .. | exact impl_SeatGap.mono .. | exact impl_TouchingPairs.mono .. | exact laws_vHas.mono .. | exact laws_vInts.mono .. | exact spec_CrowdedGuests.mono .. | exact spec_DrawGuestOrder.mono .. | exact spec_GuestOrder.mono .. | exact spec_IsHouse.mono .. | exact LeO.refl .. | exact LeO.none .. | refine LeO.ite ?_ ?_ | refine LeO.bind ?_ (fun _ => ?_)
  ·intro y0 y1 y2 y3 y4 y5 y6 y7
   unfold laws_FnGuests.l0
   repeat' with_reducible first | exact ih0 .. | exact ih1 .. | exact ih2 .. | exact ih3 .. | exact impl_CrowdedGuests.mono .. | exact impl_GuestOrder.mono .. | exact impl_SeatGap.mono .. | exact impl_TouchingPairs.mono .. | exact laws_vHas.mono .. | exact laws_vInts.mono .. | exact spec_CrowdedGuests.mono .. | exact spec_DrawGuestOrder.mono .. | exact spec_GuestOrder.mono .. | exact spec_IsHouse.mono .. | exact LeO.refl .. | exact LeO.none .. | refine LeO.ite ?_ ?_ | refine LeO.bind ?_ (fun _ => ?_)
  ·intro y0 y1 y2 y3 y4 y5 y6 y7
   unfold laws_FnGuests.l1
   repeat' with_reducible first | exact ih0 .. | exact ih1 .. | exact ih2 .. | exact ih3 .. | exact impl_CrowdedGuests.mono .. | exact impl_GuestOrder.mono .. | exact impl_SeatGap.mono .. | exact impl_TouchingPairs.mono .. | exact laws_vHas.mono .. | exact laws_vInts.mono .. | exact spec_CrowdedGuests.mono .. | exact spec_DrawGuestOrder.mono .. | exact spec_GuestOrder.mono .. | exact spec_IsHouse.mono .. | exact LeO.refl .. | exact LeO.none .. | refine LeO.ite ?_ ?_ | refine LeO.bind ?_ (fun _ => ?_)
  ·intro y0 y1 y2 y3 y4 y5 y6 y7 y8 y9
   unfold laws_FnGuests.l2
   repeat' with_reducible first | exact ih0 .. | exact ih1 .. | exact ih2 .. | exact ih3 .. | exact impl_CrowdedGuests.mono .. | exact impl_GuestOrder.mono .. | exact impl_SeatGap.mono .. | exact impl_TouchingPairs.mono .. | exact laws_vHas.mono .. | exact laws_vInts.mono .. | exact spec_CrowdedGuests.mono .. | exact spec_DrawGuestOrder.mono .. | exact spec_GuestOrder.mono .. | exact spec_IsHouse.mono .. | exact LeO.refl .. | exact LeO.none .. | refine LeO.ite ?_ ?_ | refine LeO.bind ?_ (fun _ => ?_)
theorem laws_FnGuests.mono : ∀ a0 k, LeO (laws_FnGuests.f k a0) (laws_FnGuests.f (k + 1) a0) := by
 intro a0 k
 obtain ⟨ih0, ih1, ih2, ih3⟩ := laws_FnGuests.mono_l k
 unfold laws_FnGuests.f
 repeat' with_reducible first | exact ih0 .. | exact ih1 .. | exact ih2 .. | exact ih3 .. | exact impl_CrowdedGuests.mono .. | exact impl_GuestOrder.mono .. | exact impl_SeatGap.mono .. | exact impl_TouchingPairs.mono .. | exact laws_vHas.mono .. | exact laws_vInts.mono .. | exact spec_CrowdedGuests.mono .. | exact spec_DrawGuestOrder.mono .. | exact spec_GuestOrder.mono .. | exact spec_IsHouse.mono .. | exact LeO.refl .. | exact LeO.none .. | refine LeO.ite ?_ ?_ | refine LeO.bind ?_ (fun _ => ?_)
def laws_FnGuests.T17 : Bool × List (List Nat × List Nat) := (true, [([], []), ([], []), ([0, 1], [0, 1]), ([2], [2]), ([3], [3]), ([4], [4]), ([5], [5]), ([5], [5]), ([6, 7, 5], [5, 6, 7]), ([8, 5], [5, 8]), ([5], [5]), ([10, 5], [5, 10]), ([11, 5], [5, 11]), ([9, 12, 5], [5, 9, 12]), ([5, 13], [5, 13]), ([14, 5], [14]), ([15], [15]), ([16, 15], [15, 16]), ([15], [15]), ([15], [15]), ([18, 19, 15], [15, 18, 19]), ([20, 15], [15, 20]), ([17, 21, 15], [15, 17, 21]), ([22, 15], [15, 22]), ([15], [15]), ([24, 15], [15, 24]), ([25, 15], [15, 25]), ([15], [15]), ([26, 27, 15], [15, 26, 27]), ([28, 15], [15, 28]), ([23, 29, 15], [15, 23, 29]), ([15, 30], [15, 30])])
def laws_FnGuests.B17 : List Nat := [0, 0, 3, 7, 15, 31, 63, 63, 255, 511, 63, 1087, 3135, 8191, 16383, 32767, 65535, 131071, 65535, 65535, 851967, 1900543, 4194303, 8388607, 65535, 16842751, 50397183, 65535, 251723775, 520159231, 1073741823, 2147483647]
theorem laws_FnGuests.tab17 : rtab .any (opsOf Tryd.f6 17) = laws_FnGuests.T17 := by kernel_rfl
theorem laws_FnGuests.bits17 : waitsOk laws_FnGuests.T17.2 laws_FnGuests.B17 = true := by kernel_rfl
def laws_FnGuests.T26 : Bool × List (List Nat × List Nat) := (true, [([], []), ([0], [0]), ([], []), ([2], [2]), ([3], [3]), ([], []), ([4, 5], [4, 5]), ([6], [6]), ([], []), ([8], [8]), ([9], [9]), ([], []), ([10, 11], [10, 11]), ([12], [12]), ([1, 7, 13], [1, 7, 13]), ([14], [14]), ([15], [15]), ([15], [15]), ([16, 14, 0, 1, 2, 3, 4, 5, 6, 7, 8, 9, 10, 11, 12, 13, 14, 15, 16], [16]), ([17, 18, 0, 1, 2, 3, 4, 5, 6, 7, 8, 9, 10, 11, 12, 13, 14, 15, 16, 17, 18], [17])])
def laws_FnGuests.B26 : List Nat := [0, 1, 0, 4, 12, 0, 60, 124, 0, 256, 768, 0, 3840, 7936, 16383, 32767, 65535, 65535, 131071, 524287]
theorem laws_FnGuests.tab26 : rtab .any (opsOf Tryd.f6 26) = laws_FnGuests.T26 := by kernel_rfl
theorem laws_FnGuests.bits26 : waitsOk laws_FnGuests.T26.2 laws_FnGuests.B26 = true := by kernel_rfl
def laws_FnGuests.T27 : Bool × List (List Nat × List Nat) := (true, [([], []), ([0], [0]), ([1], [1]), ([2, 1, 1], [1, 2]), ([3], [3]), ([4, 3], [3, 4]), ([3, 5, 1], [1, 3, 5]), ([6, 3, 1], [1, 6]), ([7], [7]), ([7], [7]), ([8, 9, 7], [7, 8, 9]), ([10, 7], [7, 10]), ([7], [7]), ([7], [7]), ([12, 13, 7], [7, 12, 13]), ([14, 7], [7, 14]), ([11, 15, 7], [7, 11, 15]), ([7, 16, 1], [1, 7, 16]), ([1, 17], [1, 17]), ([18, 7, 0, 1, 2, 3, 4, 5, 6, 7, 8, 9, 10, 11, 12, 13, 14, 15, 16, 17, 18], [0, 18])])
def laws_FnGuests.B27 : List Nat := [0, 1, 3, 7, 15, 31, 63, 127, 255, 255, 1023, 2047, 255, 255, 12543, 28927, 65535, 131071, 262143, 524287]
theorem laws_FnGuests.tab27 : rtab .any (opsOf Tryd.f6 27) = laws_FnGuests.T27 := by kernel_rfl
theorem laws_FnGuests.bits27 : waitsOk laws_FnGuests.T27.2 laws_FnGuests.B27 = true := by kernel_rfl
theorem laws_FnGuests.calls (k : Nat) (A0 : Option Addr) (c0 : Nat) (l0 : List Int) (r : Bool) (w : World) (hr0 : Kd.C (Kd.int .u8) w A0 l0.length l0) (hc0 : l0.length ≤ c0) (hG : TabOK w) (h : laws_FnGuests.f k l0 = some r) :
  Calls Tryd.prog 6 #[.slice A0 l0.length c0] w fun e w' => e = .returned (.bool r) ∧ Below w.heap.size w w' := by
 have HG0 := A0_ hG
 clear hG
 have hu26 := Tryd.underlying26
 have hu24 := Tryd.underlying24
 have HR0 := A0_ hr0
 have HC0 := A0_ hc0
 clear hr0 hc0
 have HB := A0_ (Below.refl w.heap.size w)
 have H : ((laws_vBig.f l0).bind fun t1 => (if t1 = true then (some true) else ((spec_DrawGuestOrder.f k l0).bind fun bt1 => ((impl_GuestOrder.f k bt1.1 bt1.2.1 bt1.2.2.1 bt1.2.2.2.1 bt1.2.2.2.2).bind fun bt2 => ((spec_GuestOrder.f k bt1.1 bt1.2.1 bt1.2.2.1 bt1.2.2.2.1 bt1.2.2.2.2).bind fun bt3 => ((impl_CrowdedGuests.f k bt1.1 bt1.2.1 bt1.2.2.1 bt1.2.2.2.1 bt1.2.2.2.2).bind fun bt4 => ((spec_CrowdedGuests.f k bt1.1 bt1.2.1 bt1.2.2.1 bt1.2.2.2.1 bt1.2.2.2.2).bind fun bt5 => (if (bt2.2 != bt3.2) = true then (laws_FnGuests.j0 k bt2.1 bt2.2 bt4.1 true bt1.1 bt1.2.1 bt1.2.2.1 bt1.2.2.2.1 bt1.2.2.2.2) else ((laws_vInts.f k bt2.1 bt3.1).bind fun t2 => (if t2 = true then (if (bt4.2 != bt5.2) = true then (laws_FnGuests.j0 k bt2.1 bt2.2 bt4.1 true bt1.1 bt1.2.1 bt1.2.2.1 bt1.2.2.2.1 bt1.2.2.2.2) else ((laws_vInts.f k bt4.1 bt5.1).bind fun t3 => (if t3 = true then (laws_FnGuests.j0 k bt2.1 bt2.2 bt4.1 (bt2.2 != bt4.2) bt1.1 bt1.2.1 bt1.2.2.1 bt1.2.2.2.1 bt1.2.2.2.2) else (laws_FnGuests.j0 k bt2.1 bt2.2 bt4.1 true bt1.1 bt1.2.1 bt1.2.2.1 bt1.2.2.2.1 bt1.2.2.2.2)))) else (laws_FnGuests.j0 k bt2.1 bt2.2 bt4.1 true bt1.1 bt1.2.1 bt1.2.2.1 bt1.2.2.2.1 bt1.2.2.2.2))))))))))) = some r := h
 clear h
 obtain ⟨t1, A2, H⟩ := o1_ H
 by_cases c1 : t1 = true
 ·subst c1
  rw [if_pos rfl] at H
  obtain rfl := si_ H
  go_enter Tryd.func6, Tryd.ntmps6
  go_wp2_with (first | ((with_reducible refine gc_ (f := 22) rfl ?_); refine gl_ 21 Tryd.func22 #[.slice A0 l0.length c0] ?_; (with_reducible refine (laws_vBig.calls _ _ l0 true _ ?side1 ?side2 A2.out).mono ?_); (case side1 => exact b9lq_); (case side2 => exact HC0.out); rintro e w' ⟨rfl, ⟨nd, rfl⟩⟩; refine ⟨_, rfl, ?_⟩))
  go_ret
  exact ⟨bnwh_, brt4_⟩
 ·obtain rfl := bf_.mpr c1
  rw [if_neg ft_] at H
  obtain ⟨⟨t4, t5, t6, t7, t8⟩, A4, H⟩ := o1_ H
  obtain ⟨⟨t9, t10⟩, A6, H⟩ := o1_ H
  obtain ⟨⟨t11, t12⟩, A8, H⟩ := o1_ H
  obtain ⟨⟨t13, t14⟩, A10, H⟩ := o1_ H
  obtain ⟨⟨t15, t16⟩, A12, H⟩ := o1_ H
  have HC9 := A0_ H
  clear H
  go_enter Tryd.func6, Tryd.ntmps6
  go_upto_region 8 with (first | ((with_reducible refine gc_ (f := 22) rfl ?_); refine gl_ 21 Tryd.func22 #[.slice A0 l0.length c0] ?_; (with_reducible refine (laws_vBig.calls _ _ l0 false _ ?side1 ?side2 A2.out).mono ?_); (case side1 => exact b9lq_); (case side2 => exact HC0.out); rintro e w' ⟨rfl, ⟨nd, rfl⟩⟩; refine ⟨_, rfl, ?_⟩) | ((with_reducible refine gc_ (f := 23) rfl ?_); refine gl_ 23 Tryd.func23 #[.slice A0 l0.length c0] ?_; (with_reducible refine (spec_DrawGuestOrder.calls k _ _ l0 t4 t5 t6 t7 t8 _ ?side1 ?side2 A4.out).mono ?_); (case side1 => exact b9lq_); (case side2 => exact HC0.out); rintro e w1 ⟨v1, v2, rfl, ho0, ho1, hb⟩; refine ⟨_, rfl, ?_⟩; have HO1 := A0_ (Kd.R_lower ho0 (bz_ brt4_)); have HO2 := A0_ (Kd.R_lower ho1 (bz_ brt4_)); replace HB := hb_ hb brt4_; (try clear hb); (try clear ho0); (try clear ho1)) | ((with_reducible refine gd_ (N := 3) rfl ?_); (try (refine gate_guard (by rfl) ?_; dsimp only)); refine bx_ 3 #[.int .i64 0, .bool false, .slice none 0 0, .slice none 0 0, .int .i64 0] 26 ?_; intro gb1 hg w2 BK1 hb; replace HO1 := A0_ (Kd.R_below bsm5_ hb); replace HO2 := A0_ (Kd.R_below b9so_ hb); have GW1 := ge_ hg brt4_; have GE1 := GW1; replace HB := hb_ hb brt4_; clear hb hg; have hcz1 := z5_ BK1; obtain ⟨Ao1, co1, eo1⟩ := Kd.R_slice HO1.out; subst eo1; obtain ⟨Ao2, co2, eo2⟩ := Kd.R_slice HO2.out; subst eo2) | ((with_reducible refine gc_ (f := 24) rfl ?_); refine gl_ 26 Tryd.func24 #[.agg #[.int .i64 t4, .bool t5, .slice Ao1 t6.length co1, .slice Ao2 t7.length co2, .int .i64 t8]] ?_; (with_reducible refine (impl_GuestOrder.calls k t4 t5 _ _ t6 _ _ t7 t8 t9 t10 _ ?side1 ?side2 ?side3 ?side4 A6.out).mono ?_); (case side1 => refine (rr_ (e := 3) (base := w.heap.size) (ok := fun k_ => no_ (.slice Ao2 t7.length co2) k_) (n := t6.length) (c := co1) ?_).2.2; exact bwap_); (case side2 => exact (rr_ HO1.out).2.1); (case side3 => refine (rr_ (e := 3) (base := w.heap.size) (ok := fun k_ => no_ (.slice Ao1 t6.length co1) k_) (n := t7.length) (c := co2) ?_).2.2; exact bgoh_); (case side4 => exact (rr_ HO2.out).2.1); rintro e w3 ⟨v3, rfl, ho0, hb⟩; refine ⟨_, rfl, ?_⟩; have HO3 := A0_ (Kd.R_lower (Kd.R_new' (Kd.R_new' ho0 (Kd.R_lt bwap_)) (Kd.R_lt bgoh_)) (bz_ be6g_)); replace HO1 := A0_ (Kd.R_elder' bwap_ (Kd.R_base ho0) hb); replace HO2 := A0_ (Kd.R_elder' bgoh_ (Kd.R_base ho0) hb); replace BK1 := k2_ (.cells #[.int .i64 t4, .bool t5, .slice Ao1 t6.length co1, .slice Ao2 t7.length co2, .int .i64 t8] 26 (0, 0)) BK1 hb; replace HB := hb_ hb be6g_; (try clear hb); (try clear ho0); have hcz2 := z5_ BK1) | ((with_reducible refine gc_ (f := 25) rfl ?_); refine gl_ 31 Tryd.func25 #[.agg #[.int .i64 t4, .bool t5, .slice Ao1 t6.length co1, .slice Ao2 t7.length co2, .int .i64 t8]] ?_; (with_reducible refine (spec_GuestOrder.calls k t4 t5 _ _ t6 _ _ t7 t8 t11 t12 _ ?side1 ?side2 ?side3 ?side4 A8.out).mono ?_); (case side1 => exact bayy_); (case side2 => exact (rr_ HO1.out).2.1); (case side3 => exact ba04_); (case side4 => exact (rr_ HO2.out).2.1); rintro e w4 ⟨v4, rfl, ho0, hb⟩; refine ⟨_, rfl, ?_⟩; have HO4 := A0_ (Kd.R_lower (Kd.R_new' (Kd.R_new' (Kd.R_new' ho0 (Kd.R_lt bsm5_)) (Kd.R_lt b9so_)) (Kd.R_lt buiy_)) (bz_ be6g_)); replace HO1 := A0_ (Kd.R_elder' bsm5_ (Kd.R_base ho0) hb); replace HO2 := A0_ (Kd.R_elder' b9so_ (Kd.R_base ho0) hb); replace HO3 := A0_ (Kd.R_elder' buiy_ (Kd.R_base ho0) hb); replace BK1 := k1_ BK1 hb; replace HB := hb_ hb be6g_; (try clear hb); (try clear ho0); have hcz3 := z5_ BK1) | ((with_reducible refine gc_ (f := 15) rfl ?_); refine gl_ 36 Tryd.func15 #[.agg #[.int .i64 t4, .bool t5, .slice Ao1 t6.length co1, .slice Ao2 t7.length co2, .int .i64 t8]] ?_; (with_reducible refine (impl_CrowdedGuests.calls k t4 t5 _ _ t6 _ _ t7 t8 t13 t14 _ ?side1 ?side2 ?side3 ?side4 bko1_ A10.out).mono ?_); (case side1 => exact bayy_); (case side2 => exact (rr_ HO1.out).2.1); (case side3 => exact ba04_); (case side4 => exact (rr_ HO2.out).2.1); rintro e w5 ⟨v5, rfl, ho0, hb⟩; refine ⟨_, rfl, ?_⟩; have HO5 := A0_ (Kd.R_lower (Kd.R_new' (Kd.R_new' (Kd.R_new' (Kd.R_new' ho0 (Kd.R_lt bsm5_)) (Kd.R_lt b9so_)) (Kd.R_lt buiy_)) (Kd.R_lt b6ip_)) (bz_ be6g_)); replace HO1 := A0_ (Kd.R_elder' bsm5_ (Kd.R_base ho0) hb); replace HO2 := A0_ (Kd.R_elder' b9so_ (Kd.R_base ho0) hb); replace HO3 := A0_ (Kd.R_elder' buiy_ (Kd.R_base ho0) hb); replace HO4 := A0_ (Kd.R_elder' b6ip_ (Kd.R_base ho0) hb); replace BK1 := k1_ BK1 hb; replace HB := hb_ hb be6g_; (try clear hb); (try clear ho0); have hcz4 := z5_ BK1) | ((with_reducible refine gc_ (f := 13) rfl ?_); refine gl_ 41 Tryd.func13 #[.agg #[.int .i64 t4, .bool t5, .slice Ao1 t6.length co1, .slice Ao2 t7.length co2, .int .i64 t8]] ?_; (with_reducible refine (spec_CrowdedGuests.calls k t4 t5 _ _ t6 _ _ t7 t8 t15 t16 _ ?side1 ?side2 ?side3 ?side4 A12.out).mono ?_); (case side1 => exact bayy_); (case side2 => exact (rr_ HO1.out).2.1); (case side3 => exact ba04_); (case side4 => exact (rr_ HO2.out).2.1); rintro e w6 ⟨v6, rfl, ho0, hb⟩; refine ⟨_, rfl, ?_⟩; have HO6 := A0_ (Kd.R_lower (Kd.R_new' (Kd.R_new' (Kd.R_new' (Kd.R_new' (Kd.R_new' ho0 (Kd.R_lt bsm5_)) (Kd.R_lt b9so_)) (Kd.R_lt buiy_)) (Kd.R_lt b6ip_)) (Kd.R_lt bzg4_)) (bz_ be6g_)); replace HO1 := A0_ (Kd.R_elder' bsm5_ (Kd.R_base ho0) hb); replace HO2 := A0_ (Kd.R_elder' b9so_ (Kd.R_base ho0) hb); replace HO3 := A0_ (Kd.R_elder' buiy_ (Kd.R_base ho0) hb); replace HO4 := A0_ (Kd.R_elder' b6ip_ (Kd.R_base ho0) hb); replace HO5 := A0_ (Kd.R_elder' bzg4_ (Kd.R_base ho0) hb); replace BK1 := k1_ BK1 hb; replace HB := hb_ hb be6g_; (try clear hb); (try clear ho0)))
  (try simp only [Act.put, sa_, sz_, ss_])
  go_cut [68] from 20 to 68 (fun v7 wc => ∃ (kq : Nat) (x68_8 : Bool), v7 = .bool x68_8 ∧ Aside0 (laws_FnGuests.j0 kq t9 t10 t13 x68_8 t4 t5 t6 t7 t8 = some r) ∧ Aside0 (kq ≤ k) ∧ Aside0 (Kd.R (Kd.int .i64) 3 wc w.heap.size (fun k_ => no_ v5 k_ ∧ no_ (.slice Ao1 t6.length co1) k_ ∧ no_ (.slice Ao2 t7.length co2) k_) v3 t9) ∧ Aside0 (Kd.R (Kd.int .i64) 3 wc w.heap.size (fun k_ => no_ v3 k_ ∧ no_ (.slice Ao1 t6.length co1) k_ ∧ no_ (.slice Ao2 t7.length co2) k_) v5 t13) ∧ Aside0 (Kd.R (Kd.int .i64) 3 wc w.heap.size (fun k_ => no_ v3 k_ ∧ no_ v5 k_ ∧ no_ (.slice Ao2 t7.length co2) k_) (.slice Ao1 t6.length co1) t6) ∧ Aside0 (Kd.R (Kd.int .i64) 3 wc w.heap.size (fun k_ => no_ v3 k_ ∧ no_ v5 k_ ∧ no_ (.slice Ao1 t6.length co1) k_) (.slice Ao2 t7.length co2) t7) ∧ Aside0 (wc.heap[gb1]? = some (.cells #[.int .i64 t4, .bool t5, (.slice Ao1 t6.length co1), (.slice Ao2 t7.length co2), .int .i64 t8] 26 (0, 0))) ∧ Aside0 (Below w.heap.size w wc))
  case first =>
   have H := HC9.out
   clear HC9
   by_cases c2 : (t10 != t12) = true
   ·rw [if_pos c2] at H
    have c2b0 : (t10 != t12) = true := c2
    (try (have c2b1 : decide (t10 = t12) = false := by simpa using c2))
    (try (have c2b2 : (t10 == t12) = false := by simpa using c2))
    (try (have c2b3 : ¬ (t10 = t12) := by simpa using c2))
    clear c2
    (first | rw [c2b0] | (simp only [i64_w, i32_w]; rw [c2b0]) | skip)
    have H' := A0_ H
    clear H
    go_wp2
    go_meet
    exact ⟨_, (true), b2ew_, H', ⟨bbn0_⟩, ⟨b1m5_⟩, ⟨beey_⟩, ⟨bqed_⟩, ⟨bvhu_⟩, ⟨u1_ BK1⟩, ⟨be6g_⟩⟩
   rw [if_neg c2] at H
   have c2b0 : (t10 != t12) = false := by simpa using c2
   (try (have c2b1 : decide (t10 = t12) = true := by simpa using c2))
   (try (have c2b2 : (t10 == t12) = true := by simpa using c2))
   clear c2
   (first | rw [c2b0] | (simp only [i64_w, i32_w]; rw [c2b0]) | skip)
   obtain ⟨t2, A14, H⟩ := o1_ H
   by_cases c3 : t2 = true
   case neg =>
    obtain rfl := bf_.mpr c3
    rw [if_neg ft_] at H
    have H' := A0_ H
    clear H
    obtain ⟨Ao3, co3, eo3⟩ := Kd.R_slice HO3.out
    subst eo3
    obtain ⟨Ao4, co4, eo4⟩ := Kd.R_slice HO4.out
    subst eo4
    go_wp2_with (first | (go_at_call 26; (with_reducible refine (laws_vInts.calls k _ _ t9 _ _ t11 false _ ?side1 ?side2 ?side3 ?side4 A14.out).mono ?_); (case side1 => exact be4z_); (case side2 => exact (rr_ HO3.out).2.1); (case side3 => exact byjq_); (case side4 => exact (rr_ HO4.out).2.1); rintro e w' ⟨rfl, ⟨nd, rfl⟩⟩))
    go_meet
    exact ⟨_, (true), b2ew_, H', ⟨bbn0_⟩, ⟨b1m5_⟩, ⟨beey_⟩, ⟨bqed_⟩, ⟨bvhu_⟩, ⟨u1_ BK1⟩, ⟨be6g_⟩⟩
   subst c3
   rw [if_pos rfl] at H
   by_cases c4 : (t14 != t16) = true
   ·rw [if_pos c4] at H
    have c4b0 : (t14 != t16) = true := c4
    (try (have c4b1 : decide (t14 = t16) = false := by simpa using c4))
    (try (have c4b2 : (t14 == t16) = false := by simpa using c4))
    (try (have c4b3 : ¬ (t14 = t16) := by simpa using c4))
    clear c4
    have H' := A0_ H
    clear H
    obtain ⟨Ao3, co3, eo3⟩ := Kd.R_slice HO3.out
    subst eo3
    obtain ⟨Ao4, co4, eo4⟩ := Kd.R_slice HO4.out
    subst eo4
    go_wp2_with (first | (go_at_call 26; (with_reducible refine (laws_vInts.calls k _ _ t9 _ _ t11 true _ ?side1 ?side2 ?side3 ?side4 A14.out).mono ?_); (case side1 => exact be4z_); (case side2 => exact (rr_ HO3.out).2.1); (case side3 => exact byjq_); (case side4 => exact (rr_ HO4.out).2.1); rintro e w' ⟨rfl, ⟨nd, rfl⟩⟩))
    go_meet
    exact ⟨_, (true), b2ew_, H', ⟨bbn0_⟩, ⟨b1m5_⟩, ⟨beey_⟩, ⟨bqed_⟩, ⟨bvhu_⟩, ⟨u1_ BK1⟩, ⟨be6g_⟩⟩
   rw [if_neg c4] at H
   have c4b0 : (t14 != t16) = false := by simpa using c4
   (try (have c4b1 : decide (t14 = t16) = true := by simpa using c4))
   (try (have c4b2 : (t14 == t16) = true := by simpa using c4))
   clear c4
   obtain ⟨t3, A16, H⟩ := o1_ H
   by_cases c5 : t3 = true
   ·subst c5
    rw [if_pos rfl] at H
    have H' := A0_ H
    clear H
    obtain ⟨Ao3, co3, eo3⟩ := Kd.R_slice HO3.out
    subst eo3
    obtain ⟨Ao4, co4, eo4⟩ := Kd.R_slice HO4.out
    subst eo4
    go_wp2_with (first | (go_at_call 26; (with_reducible refine (laws_vInts.calls k _ _ t9 _ _ t11 true _ ?side1 ?side2 ?side3 ?side4 A14.out).mono ?_); (case side1 => exact be4z_); (case side2 => exact (rr_ HO3.out).2.1); (case side3 => exact byjq_); (case side4 => exact (rr_ HO4.out).2.1); rintro e w' ⟨rfl, ⟨nd, rfl⟩⟩; obtain ⟨Ao5, co5, eo5⟩ := Kd.R_slice HO5.out; subst eo5; obtain ⟨Ao6, co6, eo6⟩ := Kd.R_slice HO6.out; subst eo6) | (go_at_call 26; (with_reducible refine (laws_vInts.calls k _ _ t13 _ _ t15 true _ ?side1 ?side2 ?side3 ?side4 A16.out).mono ?_); (case side1 => exact beqy_); (case side2 => exact (rr_ HO5.out).2.1); (case side3 => exact b80k_); (case side4 => exact (rr_ HO6.out).2.1); rintro e w' ⟨rfl, ⟨nd, rfl⟩⟩))
    go_meet
    exact ⟨_, ((t10 != t14)), b2ew_, H', ⟨bbn0_⟩, ⟨b1m5_⟩, ⟨beey_⟩, ⟨bqed_⟩, ⟨bvhu_⟩, ⟨u1_ BK1⟩, ⟨be6g_⟩⟩
   obtain rfl := bf_.mpr c5
   rw [if_neg ft_] at H
   have H' := A0_ H
   clear H
   obtain ⟨Ao3, co3, eo3⟩ := Kd.R_slice HO3.out
   subst eo3
   obtain ⟨Ao4, co4, eo4⟩ := Kd.R_slice HO4.out
   subst eo4
   go_wp2_with (first | (go_at_call 26; (with_reducible refine (laws_vInts.calls k _ _ t9 _ _ t11 true _ ?side1 ?side2 ?side3 ?side4 A14.out).mono ?_); (case side1 => exact be4z_); (case side2 => exact (rr_ HO3.out).2.1); (case side3 => exact byjq_); (case side4 => exact (rr_ HO4.out).2.1); rintro e w' ⟨rfl, ⟨nd, rfl⟩⟩; obtain ⟨Ao5, co5, eo5⟩ := Kd.R_slice HO5.out; subst eo5; obtain ⟨Ao6, co6, eo6⟩ := Kd.R_slice HO6.out; subst eo6) | (go_at_call 26; (with_reducible refine (laws_vInts.calls k _ _ t13 _ _ t15 false _ ?side1 ?side2 ?side3 ?side4 A16.out).mono ?_); (case side1 => exact beqy_); (case side2 => exact (rr_ HO5.out).2.1); (case side3 => exact b80k_); (case side4 => exact (rr_ HO6.out).2.1); rintro e w' ⟨rfl, ⟨nd, rfl⟩⟩))
   go_meet
   exact ⟨_, (true), b2ew_, H', ⟨bbn0_⟩, ⟨b1m5_⟩, ⟨beey_⟩, ⟨bqed_⟩, ⟨bvhu_⟩, ⟨u1_ BK1⟩, ⟨be6g_⟩⟩
  clear HC9
  try clear c1
  (try clear hcz1); (try clear hcz2); (try clear hcz3); (try clear hcz4); (try clear hfz1); (try clear hfz2); (try clear hfz3); (try clear hfz4)
  obtain ⟨kq, x68_8, rfl, HA, HJ1, HO_1, HO_2, HO_3, HO_4, BK1, HB⟩ := hcut
  cases kq with | zero => exact absurd HA.out (by simp [laws_FnGuests.j0]) | succ kj1 => ?_
  have H := HA.out
  clear HA
  simp only [laws_FnGuests.j0] at H
  by_cases c2 : x68_8 = true
  ·subst c2
   rw [if_pos rfl] at H
   obtain rfl := si_ H
   go_wp2
   go_ret
   exact ⟨bnwh_, be6g_⟩
  obtain rfl := bf_.mpr c2
  rw [if_neg ft_] at H
  by_cases c3 : t10 = true
  case neg =>
   obtain rfl := bf_.mpr c3
   rw [if_neg ft_] at H
   obtain ⟨t17, A14, H⟩ := o1_ H
   replace H : (some (!t17)) = some r := H
   obtain rfl := si_ H
   have hcz5 := z5_ BK1
   go_wp2_with (first | ((with_reducible refine gc_ (f := 27) rfl ?_); refine gl_ 72 Tryd.func27 #[.agg #[.int .i64 t4, .bool t5, .slice Ao1 t6.length co1, .slice Ao2 t7.length co2, .int .i64 t8]] ?_; (with_reducible refine (spec_IsHouse.calls kj1 t4 t5 _ _ t6 _ _ t7 t8 t17 _ ?side1 ?side2 ?side3 ?side4 A14.out).mono ?_); (case side1 => exact b1kt_); (case side2 => exact (rr_ HO_3.out).2.1); (case side3 => exact (by repeat (first | exact (rr_ HO_4.out).2.2 | (with_reducible refine ca_ ?_ _) | (with_reducible refine cn_ ?_ _) | (with_reducible refine cd_ ?_)))); (case side4 => exact (rr_ HO_4.out).2.1); rintro e w7 ⟨rfl, hb⟩; refine ⟨_, rfl, ?_⟩; replace HO_1 := A0_ (Kd.R_below bwik_ hb); replace HO_2 := A0_ (Kd.R_below b7sq_ hb); replace HO_3 := A0_ (Kd.R_below bzfm_ hb); replace HO_4 := A0_ (Kd.R_below b0mw_ hb); replace BK1 := k1_ BK1 hb; replace HB := hb_ hb be6g_; (try clear hb)))
   go_ret
   exact ⟨bnwh_, be6g_⟩
  subst c3
  rw [if_pos rfl] at H
  by_cases c4 : (t9.length : Int) = (t6.length : Int)
  case neg =>
   rw [if_neg c4] at H
   obtain ⟨c4b0, c4b1⟩ := ef_ c4
   have c4b2 : (t9.length == t6.length) = false := by first | simpa using c4 | (simp at c4 ⊢; omega)
   obtain rfl := si_ H
   obtain ⟨Ao3, co3, eo3⟩ := Kd.R_slice HO_1.out
   subst eo3
   have hcz5 := z5_ BK1
   go_wp2
   go_ret
   exact ⟨bnwh_, be6g_⟩
  rw [if_pos c4] at H
  obtain ⟨c4b0, c4b1⟩ := et_ c4
  have c4b2 : (t9.length == t6.length) = true := by first | simpa using c4 | (simp at c4 ⊢; omega)
  clear c4
  have H' := A0_ H
  clear H
  obtain ⟨Ao3, co3, eo3⟩ := Kd.R_slice HO_1.out
  subst eo3
  have hcz5 := z5_ BK1
  go_wp2
  go_loopg [12] kj1 (fun kq v8 w' => ∃ (x12_2 : Int), v8 = .int .i64 x12_2 ∧ Aside0 (laws_FnGuests.l0 kq t9 t13 x12_2 t4 t5 t6 t7 t8 = some r) ∧ Aside0 (kq ≤ kj1) ∧ Aside0 (Kd.R (Kd.int .i64) 3 w' w.heap.size (fun k_ => no_ v5 k_ ∧ no_ (.slice Ao1 t6.length co1) k_ ∧ no_ (.slice Ao2 t7.length co2) k_) (.slice Ao3 t9.length co3) t9) ∧ Aside0 (Kd.R (Kd.int .i64) 3 w' w.heap.size (fun k_ => no_ (.slice Ao3 t9.length co3) k_ ∧ no_ (.slice Ao1 t6.length co1) k_ ∧ no_ (.slice Ao2 t7.length co2) k_) v5 t13) ∧ Aside0 (Kd.R (Kd.int .i64) 3 w' w.heap.size (fun k_ => no_ (.slice Ao3 t9.length co3) k_ ∧ no_ v5 k_ ∧ no_ (.slice Ao2 t7.length co2) k_) (.slice Ao1 t6.length co1) t6) ∧ Aside0 (Kd.R (Kd.int .i64) 3 w' w.heap.size (fun k_ => no_ (.slice Ao3 t9.length co3) k_ ∧ no_ v5 k_ ∧ no_ (.slice Ao1 t6.length co1) k_) (.slice Ao2 t7.length co2) t7) ∧ Aside0 (w'.heap[gb1]? = some (.cells #[.int .i64 t4, .bool t5, (.slice Ao1 t6.length co1), (.slice Ao2 t7.length co2), .int .i64 t8] 26 (0, 0))) ∧ Aside0 (Below w.heap.size w w'))
  case atStart => exact ⟨(0), b2ew_, H', ⟨Nat.le_refl _⟩, ⟨bwik_⟩, ⟨b7sq_⟩, ⟨bzfm_⟩, ⟨b0mw_⟩, ⟨u1_ BK1⟩, ⟨be6g_⟩⟩
  clear H'
  try clear c1
  try clear c2
  try clear c3
  try clear c4
  try clear c4b0
  try clear c4b1
  try clear c4b2
  (try clear hcz1); (try clear hcz2); (try clear hcz3); (try clear hcz4); (try clear hcz5); (try clear hfz1); (try clear hfz2); (try clear hfz3); (try clear hfz4); (try clear hfz5)
  obtain ⟨x12_2, rfl, HA, HK1, HO_1, HO_2, HO_3, HO_4, BK1, HB⟩ := hrel
  cases gk with | zero => exact absurd HA.out (by simp [laws_FnGuests.l0]) | succ k2 => ?_
  have H := HA.out
  clear HA
  simp only [laws_FnGuests.l0] at H
  by_cases c5 : x12_2 < (t9.length : Int)
  ·rw [if_pos c5] at H
   have c5b0 : decide (x12_2 < (t9.length : Int)) = true := dt_ c5
   clear c5
   by_cases c6 : 0 ≤ x12_2
   case neg =>
    rw [if_neg c6] at H
    exact absurd H bxka_
   rw [if_pos c6] at H
   have c6b0 : decide (0 ≤ x12_2) = true := dt_ c6
   clear c6
   by_cases c7 : (rd t9 x12_2) < 0
   ·rw [if_pos c7] at H
    have c7b0 : decide ((rd t9 x12_2) < 0) = true := dt_ c7
    clear c7
    obtain rfl := si_ H
    try go_wp2
    replace HO_1 := A0_ (rd_ HO_1.out)
    replace HO_2 := A0_ (rd_ HO_2.out)
    replace HO_3 := A0_ (rd_ HO_3.out)
    replace HO_4 := A0_ (rd_ HO_4.out)
    replace BK1 := A0_ (kd_ BK1.out)
    replace HB := A0_ (bd_ HB.out)
    have p1 : 0 ≤ (x12_2 : Int) := od_ bpil_
    have q1 : x12_2 < (t9.length : Int) := od_ bpil_
    obtain ⟨ad1, e1, hx1_0⟩ := Kd.at_int (rr_ HO_1.out).2.2 x12_2 p1 q1
    cases e1
    replace p1 := eq_true p1
    replace q1 := eq_true q1
    refine start_ (n := 32) (S := fun w' => w'.cell? (ad1.add (x12_2).toNat) = some (.int .i64 (rd t9 x12_2))) (ds := []) #[false, false, false, false, false, false, false, false, false, false, false, false, false, false, false, false, false, false, false, false, false, false, false, false, false, false, false, false, false, false, false, false] bfqv_ rfl rfl (hx1_0) (fun hHeld => ?_); refine with_tabW laws_FnGuests.tab17 laws_FnGuests.bits17 (fun HT_ HW_ => ?_)
    generalize wr.drew = w7 at HO_1 HO_2 HO_3 HO_4 BK1 HB hx1_0 hHeld ⊢
    refine pu_ 0 87 ?_
    refine pu_ 1 88 ?_
    refine pu_ 2 89 ?_
    refine tk_ 3 90 hHeld ?_
    refine pu_ 4 91 ?_
    refine pu_ 5 92 ?_
    refine pv_ 6 93 ?_
    refine pv_ 7 94 ?_
    refine pv_ 8 95 ?_
    refine pv_ 9 96 ?_
    refine pv_ 10 97 ?_
    refine pv_ 11 98 ?_
    refine pv_ 12 99 ?_
    refine pv_ 13 100 ?_
    refine pu_ 14 101 ?_
    refine pu_ 15 102 ?_
    refine pv_ 16 103 ?_
    refine pv_ 17 104 ?_
    refine pv_ 18 105 ?_
    refine pv_ 19 106 ?_
    refine pv_ 20 107 ?_
    refine pv_ 21 108 ?_
    refine pv_ 22 109 ?_
    refine pv_ 23 110 ?_
    refine pv_ 24 111 ?_
    refine pv_ 25 112 ?_
    refine pv_ 26 113 ?_
    refine pv_ 27 114 ?_
    refine pv_ 28 115 ?_
    refine pv_ 29 116 ?_
    refine pv_ 30 117 ?_
    refine pu_ 31 118 ?_
    refine dn_ ?_
    try go_wp2
    go_ret
    exact ⟨bnwh_, be6g_⟩
   rw [if_neg c7] at H
   have c7b0 : decide ((rd t9 x12_2) < 0) = false := decide_eq_false c7
   clear c7
   by_cases c8 : (rd t9 x12_2) ≥ (t7.length : Int)
   ·rw [if_pos c8] at H
    have c8b0 : decide ((t7.length : Int) ≤ (rd t9 x12_2)) = true := dt_ c8
    clear c8
    obtain rfl := si_ H
    try go_wp2
    replace HO_1 := A0_ (rd_ HO_1.out)
    replace HO_2 := A0_ (rd_ HO_2.out)
    replace HO_3 := A0_ (rd_ HO_3.out)
    replace HO_4 := A0_ (rd_ HO_4.out)
    replace BK1 := A0_ (kd_ BK1.out)
    replace HB := A0_ (bd_ HB.out)
    have p1 : 0 ≤ (x12_2 : Int) := od_ bpil_
    have q1 : x12_2 < (t9.length : Int) := od_ bpil_
    obtain ⟨ad1, e1, hx1_0⟩ := Kd.at_int (rr_ HO_1.out).2.2 x12_2 p1 q1
    cases e1
    replace p1 := eq_true p1
    replace q1 := eq_true q1
    have p2 : 0 ≤ (x12_2 : Int) := od_ bpil_
    have q2 : x12_2 < (t9.length : Int) := od_ bpil_
    obtain ⟨ad2, e2, hx2_0⟩ := Kd.at_int (rr_ HO_1.out).2.2 x12_2 p2 q2
    obtain rfl : ad1 = ad2 := bs6y_
    replace p2 := eq_true p2
    replace q2 := eq_true q2
    refine start_ (n := 32) (S := fun w' => w'.cell? ⟨gb1, 0, none⟩ = some (.int .i64 t4) ∧ w'.cell? ⟨gb1, 1, none⟩ = some (.bool t5) ∧ w'.cell? ⟨gb1, 2, none⟩ = some (.slice Ao1 t6.length co1) ∧ w'.cell? ⟨gb1, 3, none⟩ = some (.slice Ao2 t7.length co2) ∧ w'.cell? ⟨gb1, 4, none⟩ = some (.int .i64 t8) ∧ w'.cell? (ad1.add (x12_2).toNat) = some (.int .i64 (rd t9 x12_2)) ∧ w'.cell? (ad1.add (x12_2).toNat) = some (.int .i64 (rd t9 x12_2))) (ds := []) #[false, false, false, false, false, false, false, false, false, false, false, false, false, false, false, false, false, false, false, false, false, false, false, false, false, false, false, false, false, false, false, false] bfqv_ rfl rfl ⟨(kc_ BK1.out 0).trans rfl, (kc_ BK1.out 1).trans rfl, (kc_ BK1.out 2).trans rfl, (kc_ BK1.out 3).trans rfl, (kc_ BK1.out 4).trans rfl, hx1_0, hx2_0⟩ (fun hHeld => ?_); refine with_tabW laws_FnGuests.tab17 laws_FnGuests.bits17 (fun HT_ HW_ => ?_)
    generalize wr.drew = w7 at HO_1 HO_2 HO_3 HO_4 BK1 HB hx1_0 hx2_0 hHeld ⊢
    refine pu_ 0 87 ?_
    refine pu_ 1 88 ?_
    refine pu_ 2 89 ?_
    refine tk_ 3 90 hHeld ?_
    refine pu_ 4 91 ?_
    refine pu_ 5 92 ?_
    refine pu_ 6 93 ?_
    refine pu_ 7 94 ?_
    refine pu_ 8 95 ?_
    refine pu_ 10 97 ?_
    refine tk_ 9 96 hHeld ?_
    refine tk_ 11 98 hHeld ?_
    refine pu_ 12 99 ?_
    refine pu_ 13 100 ?_
    refine pu_ 14 101 ?_
    refine pu_ 15 102 ?_
    refine pv_ 16 103 ?_
    refine pv_ 17 104 ?_
    refine pv_ 18 105 ?_
    refine pv_ 19 106 ?_
    refine pv_ 20 107 ?_
    refine pv_ 21 108 ?_
    refine pv_ 22 109 ?_
    refine pv_ 23 110 ?_
    refine pv_ 24 111 ?_
    refine pv_ 25 112 ?_
    refine pv_ 26 113 ?_
    refine pv_ 27 114 ?_
    refine pv_ 28 115 ?_
    refine pv_ 29 116 ?_
    refine pv_ 30 117 ?_
    refine pu_ 31 118 ?_
    refine dn_ ?_
    try go_wp2
    go_ret
    exact ⟨bnwh_, be6g_⟩
   rw [if_neg c8] at H
   have c8b0 : decide ((t7.length : Int) ≤ (rd t9 x12_2)) = false := decide_eq_false c8
   clear c8
   by_cases c9 : 0 ≤ (rd t9 x12_2)
   case neg =>
    rw [if_neg c9] at H
    exact absurd H bxka_
   rw [if_pos c9] at H
   have c9b0 : decide (0 ≤ (rd t9 x12_2)) = true := dt_ c9
   clear c9
   by_cases c10 : (rd t9 x12_2) < (t7.length : Int)
   case neg =>
    rw [if_neg c10] at H
    exact absurd H bxka_
   rw [if_pos c10] at H
   have c10b0 : decide ((rd t9 x12_2) < (t7.length : Int)) = true := dt_ c10
   clear c10
   by_cases c11 : x12_2 < (t6.length : Int)
   case neg =>
    rw [if_neg c11] at H
    exact absurd H bxka_
   rw [if_pos c11] at H
   have c11b0 : decide (x12_2 < (t6.length : Int)) = true := dt_ c11
   clear c11
   by_cases c12 : (rd t7 (rd t9 x12_2)) = (rd t6 x12_2)
   case neg =>
    rw [if_neg c12] at H
    obtain ⟨c12b0, c12b1⟩ := ef_ c12
    obtain rfl := si_ H
    try go_wp2
    replace HO_1 := A0_ (rd_ HO_1.out)
    replace HO_2 := A0_ (rd_ HO_2.out)
    replace HO_3 := A0_ (rd_ HO_3.out)
    replace HO_4 := A0_ (rd_ HO_4.out)
    replace BK1 := A0_ (kd_ BK1.out)
    replace HB := A0_ (bd_ HB.out)
    have p1 : 0 ≤ (x12_2 : Int) := od_ bpil_
    have q1 : x12_2 < (t9.length : Int) := od_ bpil_
    obtain ⟨ad1, e1, hx1_0⟩ := Kd.at_int (rr_ HO_1.out).2.2 x12_2 p1 q1
    cases e1
    replace p1 := eq_true p1
    replace q1 := eq_true q1
    have p2 : 0 ≤ (x12_2 : Int) := od_ bpil_
    have q2 : x12_2 < (t9.length : Int) := od_ bpil_
    obtain ⟨ad2, e2, hx2_0⟩ := Kd.at_int (rr_ HO_1.out).2.2 x12_2 p2 q2
    obtain rfl : ad1 = ad2 := bs6y_
    replace p2 := eq_true p2
    replace q2 := eq_true q2
    have p3 : 0 ≤ (x12_2 : Int) := od_ bpil_
    have q3 : x12_2 < (t9.length : Int) := od_ bpil_
    obtain ⟨ad3, e3, hx3_0⟩ := Kd.at_int (rr_ HO_1.out).2.2 x12_2 p3 q3
    obtain rfl : ad1 = ad3 := (by injection e3)
    replace p3 := eq_true p3
    replace q3 := eq_true q3
    have p4 : 0 ≤ ((rd t9 x12_2) : Int) := od_ bpil_
    have q4 : (rd t9 x12_2) < (t7.length : Int) := od_ bpil_
    obtain ⟨ad4, e4, hx4_0⟩ := Kd.at_int (rr_ HO_4.out).2.2 (rd t9 x12_2) p4 q4
    cases e4
    replace p4 := eq_true p4
    replace q4 := eq_true q4
    have p5 : 0 ≤ (x12_2 : Int) := od_ bpil_
    have q5 : x12_2 < (t6.length : Int) := od_ bpil_
    obtain ⟨ad5, e5, hx5_0⟩ := Kd.at_int (rr_ HO_3.out).2.2 x12_2 p5 q5
    cases e5
    replace p5 := eq_true p5
    replace q5 := eq_true q5
    refine start_ (n := 32) (S := fun w' => w'.cell? ⟨gb1, 0, none⟩ = some (.int .i64 t4) ∧ w'.cell? ⟨gb1, 1, none⟩ = some (.bool t5) ∧ w'.cell? ⟨gb1, 2, none⟩ = some (.slice (some ad5) t6.length co1) ∧ w'.cell? ⟨gb1, 3, none⟩ = some (.slice (some ad4) t7.length co2) ∧ w'.cell? ⟨gb1, 4, none⟩ = some (.int .i64 t8) ∧ w'.cell? (ad1.add (x12_2).toNat) = some (.int .i64 (rd t9 x12_2)) ∧ w'.cell? (ad1.add (x12_2).toNat) = some (.int .i64 (rd t9 x12_2)) ∧ w'.cell? (ad1.add (x12_2).toNat) = some (.int .i64 (rd t9 x12_2)) ∧ w'.cell? (ad4.add ((rd t9 x12_2)).toNat) = some (.int .i64 (rd t7 (rd t9 x12_2))) ∧ w'.cell? (ad5.add (x12_2).toNat) = some (.int .i64 (rd t6 x12_2))) (ds := []) #[false, false, false, false, false, false, false, false, false, false, false, false, false, false, false, false, false, false, false, false, false, false, false, false, false, false, false, false, false, false, false, false] bfqv_ rfl rfl ⟨(kc_ BK1.out 0).trans rfl, (kc_ BK1.out 1).trans rfl, (kc_ BK1.out 2).trans rfl, (kc_ BK1.out 3).trans rfl, (kc_ BK1.out 4).trans rfl, hx1_0, hx2_0, hx3_0, hx4_0, hx5_0⟩ (fun hHeld => ?_); refine with_tabW laws_FnGuests.tab17 laws_FnGuests.bits17 (fun HT_ HW_ => ?_)
    generalize wr.drew = w7 at HO_1 HO_2 HO_3 HO_4 BK1 HB hx1_0 hx2_0 hx3_0 hx4_0 hx5_0 hHeld ⊢
    refine pu_ 0 87 ?_
    refine pu_ 1 88 ?_
    refine pu_ 2 89 ?_
    refine tk_ 3 90 hHeld ?_
    refine pu_ 4 91 ?_
    refine pu_ 5 92 ?_
    refine pu_ 6 93 ?_
    refine pu_ 7 94 ?_
    refine pu_ 8 95 ?_
    refine pu_ 10 97 ?_
    refine tk_ 9 96 hHeld ?_
    refine tk_ 11 98 hHeld ?_
    refine pu_ 12 99 ?_
    refine pu_ 13 100 ?_
    refine pu_ 14 101 ?_
    refine pu_ 15 102 ?_
    refine pu_ 16 103 ?_
    refine pu_ 18 105 ?_
    refine pu_ 19 106 ?_
    refine pu_ 20 107 ?_
    refine pu_ 24 111 ?_
    refine pu_ 25 112 ?_
    refine pu_ 27 114 ?_
    refine tk_ 17 104 hHeld ?_
    refine tk_ 21 108 hHeld ?_
    refine pu_ 22 109 ?_
    refine tk_ 23 110 hHeld ?_
    refine tk_ 26 113 hHeld ?_
    refine pu_ 28 115 ?_
    refine tk_ 29 116 hHeld ?_
    refine pu_ 30 117 ?_
    refine pu_ 31 118 ?_
    refine dn_ ?_
    try go_wp2
    go_ret
    exact ⟨bnwh_, be6g_⟩
   rw [if_pos c12] at H
   obtain ⟨c12b0, c12b1⟩ := et_ c12
   clear c12
   have H' := A0_ H
   clear H
   try go_wp2
   replace HO_1 := A0_ (rd_ HO_1.out)
   replace HO_2 := A0_ (rd_ HO_2.out)
   replace HO_3 := A0_ (rd_ HO_3.out)
   replace HO_4 := A0_ (rd_ HO_4.out)
   replace BK1 := A0_ (kd_ BK1.out)
   replace HB := A0_ (bd_ HB.out)
   have p1 : 0 ≤ (x12_2 : Int) := od_ bpil_
   have q1 : x12_2 < (t9.length : Int) := od_ bpil_
   obtain ⟨ad1, e1, hx1_0⟩ := Kd.at_int (rr_ HO_1.out).2.2 x12_2 p1 q1
   cases e1
   replace p1 := eq_true p1
   replace q1 := eq_true q1
   have p2 : 0 ≤ (x12_2 : Int) := od_ bpil_
   have q2 : x12_2 < (t9.length : Int) := od_ bpil_
   obtain ⟨ad2, e2, hx2_0⟩ := Kd.at_int (rr_ HO_1.out).2.2 x12_2 p2 q2
   obtain rfl : ad1 = ad2 := bs6y_
   replace p2 := eq_true p2
   replace q2 := eq_true q2
   have p3 : 0 ≤ (x12_2 : Int) := od_ bpil_
   have q3 : x12_2 < (t9.length : Int) := od_ bpil_
   obtain ⟨ad3, e3, hx3_0⟩ := Kd.at_int (rr_ HO_1.out).2.2 x12_2 p3 q3
   obtain rfl : ad1 = ad3 := (by injection e3)
   replace p3 := eq_true p3
   replace q3 := eq_true q3
   have p4 : 0 ≤ ((rd t9 x12_2) : Int) := od_ bpil_
   have q4 : (rd t9 x12_2) < (t7.length : Int) := od_ bpil_
   obtain ⟨ad4, e4, hx4_0⟩ := Kd.at_int (rr_ HO_4.out).2.2 (rd t9 x12_2) p4 q4
   cases e4
   replace p4 := eq_true p4
   replace q4 := eq_true q4
   have p5 : 0 ≤ (x12_2 : Int) := od_ bpil_
   have q5 : x12_2 < (t6.length : Int) := od_ bpil_
   obtain ⟨ad5, e5, hx5_0⟩ := Kd.at_int (rr_ HO_3.out).2.2 x12_2 p5 q5
   cases e5
   replace p5 := eq_true p5
   replace q5 := eq_true q5
   refine start_ (n := 32) (S := fun w' => w'.cell? ⟨gb1, 0, none⟩ = some (.int .i64 t4) ∧ w'.cell? ⟨gb1, 1, none⟩ = some (.bool t5) ∧ w'.cell? ⟨gb1, 2, none⟩ = some (.slice (some ad5) t6.length co1) ∧ w'.cell? ⟨gb1, 3, none⟩ = some (.slice (some ad4) t7.length co2) ∧ w'.cell? ⟨gb1, 4, none⟩ = some (.int .i64 t8) ∧ w'.cell? (ad1.add (x12_2).toNat) = some (.int .i64 (rd t9 x12_2)) ∧ w'.cell? (ad1.add (x12_2).toNat) = some (.int .i64 (rd t9 x12_2)) ∧ w'.cell? (ad1.add (x12_2).toNat) = some (.int .i64 (rd t9 x12_2)) ∧ w'.cell? (ad4.add ((rd t9 x12_2)).toNat) = some (.int .i64 (rd t7 (rd t9 x12_2))) ∧ w'.cell? (ad5.add (x12_2).toNat) = some (.int .i64 (rd t6 x12_2))) (ds := []) #[false, false, false, false, false, false, false, false, false, false, false, false, false, false, false, false, false, false, false, false, false, false, false, false, false, false, false, false, false, false, false, false] bfqv_ rfl rfl ⟨(kc_ BK1.out 0).trans rfl, (kc_ BK1.out 1).trans rfl, (kc_ BK1.out 2).trans rfl, (kc_ BK1.out 3).trans rfl, (kc_ BK1.out 4).trans rfl, hx1_0, hx2_0, hx3_0, hx4_0, hx5_0⟩ (fun hHeld => ?_); refine with_tabW laws_FnGuests.tab17 laws_FnGuests.bits17 (fun HT_ HW_ => ?_)
   generalize wr.drew = w7 at HO_1 HO_2 HO_3 HO_4 BK1 HB hx1_0 hx2_0 hx3_0 hx4_0 hx5_0 hHeld ⊢
   refine pu_ 0 87 ?_
   refine pu_ 1 88 ?_
   refine pu_ 2 89 ?_
   refine tk_ 3 90 hHeld ?_
   refine pu_ 4 91 ?_
   refine pu_ 5 92 ?_
   refine pu_ 6 93 ?_
   refine pu_ 7 94 ?_
   refine pu_ 8 95 ?_
   refine pu_ 10 97 ?_
   refine tk_ 9 96 hHeld ?_
   refine tk_ 11 98 hHeld ?_
   refine pu_ 12 99 ?_
   refine pu_ 13 100 ?_
   refine pu_ 14 101 ?_
   refine pu_ 15 102 ?_
   refine pu_ 16 103 ?_
   refine pu_ 18 105 ?_
   refine pu_ 19 106 ?_
   refine pu_ 20 107 ?_
   refine pu_ 24 111 ?_
   refine pu_ 25 112 ?_
   refine pu_ 27 114 ?_
   refine tk_ 17 104 hHeld ?_
   refine tk_ 21 108 hHeld ?_
   refine pu_ 22 109 ?_
   refine tk_ 23 110 hHeld ?_
   refine tk_ 26 113 hHeld ?_
   refine pu_ 28 115 ?_
   refine tk_ 29 116 hHeld ?_
   refine pu_ 30 117 ?_
   refine pu_ 31 118 ?_
   refine dn_ ?_
   try go_wp2
   go_roundg k2
   case measure => have := HJ1.out; have := HK1.out; omega
   exact ⟨(wrap64 (x12_2 + 1)), b2ew_, H', ⟨by have := HJ1.out; have := HK1.out; omega⟩, ⟨bwik_⟩, ⟨b7sq_⟩, ⟨bzfm_⟩, ⟨b0mw_⟩, ⟨u1_ BK1⟩, ⟨be6g_⟩⟩
  rw [if_neg c5] at H
  have c5b0 : decide (x12_2 < (t9.length : Int)) = false := decide_eq_false c5
  clear c5
  have H' := A0_ H
  clear H
  go_wp2
  go_loopg [13] k2 (fun kq v9 w' => ∃ (x13_3 : Int), v9 = .int .i64 x13_3 ∧ Aside0 (laws_FnGuests.l1 kq t9 t13 x13_3 t4 t5 t6 t7 t8 = some r) ∧ Aside0 (kq ≤ k2) ∧ Aside0 (Kd.R (Kd.int .i64) 3 w' w.heap.size (fun k_ => no_ v5 k_ ∧ no_ (.slice Ao1 t6.length co1) k_ ∧ no_ (.slice Ao2 t7.length co2) k_) (.slice Ao3 t9.length co3) t9) ∧ Aside0 (Kd.R (Kd.int .i64) 3 w' w.heap.size (fun k_ => no_ (.slice Ao3 t9.length co3) k_ ∧ no_ (.slice Ao1 t6.length co1) k_ ∧ no_ (.slice Ao2 t7.length co2) k_) v5 t13) ∧ Aside0 (Kd.R (Kd.int .i64) 3 w' w.heap.size (fun k_ => no_ (.slice Ao3 t9.length co3) k_ ∧ no_ v5 k_ ∧ no_ (.slice Ao2 t7.length co2) k_) (.slice Ao1 t6.length co1) t6) ∧ Aside0 (Kd.R (Kd.int .i64) 3 w' w.heap.size (fun k_ => no_ (.slice Ao3 t9.length co3) k_ ∧ no_ v5 k_ ∧ no_ (.slice Ao1 t6.length co1) k_) (.slice Ao2 t7.length co2) t7) ∧ Aside0 (w'.heap[gb1]? = some (.cells #[.int .i64 t4, .bool t5, (.slice Ao1 t6.length co1), (.slice Ao2 t7.length co2), .int .i64 t8] 26 (0, 0))) ∧ Aside0 (Below w.heap.size w w'))
  case atStart => exact ⟨(0), b2ew_, H', ⟨Nat.le_refl _⟩, ⟨bwik_⟩, ⟨b7sq_⟩, ⟨bzfm_⟩, ⟨b0mw_⟩, ⟨u1_ BK1⟩, ⟨be6g_⟩⟩
  clear H'
  try clear c5
  try clear c5b0
  obtain ⟨x13_3, rfl, HA, HK2, HO_1, HO_2, HO_3, HO_4, BK1, HB⟩ := hrel
  cases gk with | zero => exact absurd HA.out (by simp [laws_FnGuests.l1]) | succ k3 => ?_
  have H := HA.out
  clear HA
  simp only [laws_FnGuests.l1] at H
  by_cases c6 : x13_3 < (t9.length : Int)
  case neg =>
   rw [if_neg c6] at H
   have c6b0 : decide (x13_3 < (t9.length : Int)) = false := decide_eq_false c6
   clear c6
   obtain ⟨⟨t17, t18⟩, A14, H⟩ := o1_ H
   by_cases c7 : t18 = true
   case neg =>
    obtain rfl := bf_.mpr c7
    rw [if_neg ft_] at H
    obtain rfl := si_ H
    have hcz6 := z5_ BK1
    go_wp2_with (first | ((with_reducible refine gc_ (f := 30) rfl ?_); refine gl_ 181 Tryd.func30 #[.agg #[.int .i64 t4, .bool t5, .slice Ao1 t6.length co1]] ?_; (with_reducible refine (impl_TouchingPairs.calls k3 t4 t5 _ _ t6 t17 false _ ?side1 ?side2 A14.out).mono ?_); (case side1 => exact b1kt_); (case side2 => exact (rr_ HO_3.out).2.1); rintro e w7 ⟨rfl, hb⟩; refine ⟨_, rfl, ?_⟩; replace HO_1 := A0_ (Kd.R_below bwik_ hb); replace HO_2 := A0_ (Kd.R_below b7sq_ hb); replace HO_3 := A0_ (Kd.R_below bzfm_ hb); replace HO_4 := A0_ (Kd.R_below b0mw_ hb); replace BK1 := k1_ BK1 hb; replace HB := hb_ hb be6g_; (try clear hb)))
    go_ret
    exact ⟨bnwh_, be6g_⟩
   subst c7
   rw [if_pos rfl] at H
   by_cases c8 : ((t17 == 0) == ((t13.length : Int) == 0)) = true
   ·rw [if_pos c8] at H
    have c8b0 : ((t17 == 0) == ((t13.length : Int) == 0)) = true := c8
    (try (have c8b1 : decide ((t17 == 0) = ((t13.length : Int) == 0)) = true := by simpa using c8))
    (try (have c8b2 : ((t17 == 0) == ((t13.length : Int) == 0)) = true := by simpa using c8))
    clear c8
    obtain rfl := si_ H
    have hcz6 := z5_ BK1
    go_wp2_with (first | ((with_reducible refine gc_ (f := 30) rfl ?_); refine gl_ 181 Tryd.func30 #[.agg #[.int .i64 t4, .bool t5, .slice Ao1 t6.length co1]] ?_; (with_reducible refine (impl_TouchingPairs.calls k3 t4 t5 _ _ t6 t17 true _ ?side1 ?side2 A14.out).mono ?_); (case side1 => exact b1kt_); (case side2 => exact (rr_ HO_3.out).2.1); rintro e w7 ⟨rfl, hb⟩; refine ⟨_, rfl, ?_⟩; replace HO_1 := A0_ (Kd.R_below bwik_ hb); replace HO_2 := A0_ (Kd.R_below b7sq_ hb); replace HO_3 := A0_ (Kd.R_below bzfm_ hb); replace HO_4 := A0_ (Kd.R_below b0mw_ hb); replace BK1 := k1_ BK1 hb; replace HB := hb_ hb be6g_; (try clear hb); obtain ⟨Ao4, co4, eo4⟩ := Kd.R_slice HO_2.out; subst eo4))
    go_ret
    exact ⟨bnwh_, be6g_⟩
   rw [if_neg c8] at H
   have c8b0 : ((t17 == 0) == ((t13.length : Int) == 0)) = false := by simpa using c8
   (try (have c8b1 : decide ((t17 == 0) = ((t13.length : Int) == 0)) = false := by simpa using c8))
   (try (have c8b2 : ((t17 == 0) == ((t13.length : Int) == 0)) = false := by simpa using c8))
   (try (have c8b3 : ¬ ((t17 == 0) = ((t13.length : Int) == 0)) := by simpa using c8))
   clear c8
   obtain rfl := si_ H
   have hcz6 := z5_ BK1
   go_wp2_with (first | ((with_reducible refine gc_ (f := 30) rfl ?_); refine gl_ 181 Tryd.func30 #[.agg #[.int .i64 t4, .bool t5, .slice Ao1 t6.length co1]] ?_; (with_reducible refine (impl_TouchingPairs.calls k3 t4 t5 _ _ t6 t17 true _ ?side1 ?side2 A14.out).mono ?_); (case side1 => exact b1kt_); (case side2 => exact (rr_ HO_3.out).2.1); rintro e w7 ⟨rfl, hb⟩; refine ⟨_, rfl, ?_⟩; replace HO_1 := A0_ (Kd.R_below bwik_ hb); replace HO_2 := A0_ (Kd.R_below b7sq_ hb); replace HO_3 := A0_ (Kd.R_below bzfm_ hb); replace HO_4 := A0_ (Kd.R_below b0mw_ hb); replace BK1 := k1_ BK1 hb; replace HB := hb_ hb be6g_; (try clear hb); obtain ⟨Ao4, co4, eo4⟩ := Kd.R_slice HO_2.out; subst eo4))
   go_ret
   exact ⟨bnwh_, be6g_⟩
  rw [if_pos c6] at H
  have c6b0 : decide (x13_3 < (t9.length : Int)) = true := dt_ c6
  clear c6
  have H' := A0_ H
  clear H
  go_wp2
  go_loopg [14, 15] k3 (fun kq v10 v11 w' => ∃ (x14_4 : Bool) (x15_4 : Int), v10 = .bool x14_4 ∧ v11 = .int .i64 x15_4 ∧ Aside0 (laws_FnGuests.l2 kq t9 t13 x13_3 x14_4 x15_4 t4 t5 t6 t7 t8 = some r) ∧ Aside0 (kq ≤ k3) ∧ Aside0 (Kd.R (Kd.int .i64) 3 w' w.heap.size (fun k_ => no_ v5 k_ ∧ no_ (.slice Ao1 t6.length co1) k_ ∧ no_ (.slice Ao2 t7.length co2) k_) (.slice Ao3 t9.length co3) t9) ∧ Aside0 (Kd.R (Kd.int .i64) 3 w' w.heap.size (fun k_ => no_ (.slice Ao3 t9.length co3) k_ ∧ no_ (.slice Ao1 t6.length co1) k_ ∧ no_ (.slice Ao2 t7.length co2) k_) v5 t13) ∧ Aside0 (Kd.R (Kd.int .i64) 3 w' w.heap.size (fun k_ => no_ (.slice Ao3 t9.length co3) k_ ∧ no_ v5 k_ ∧ no_ (.slice Ao2 t7.length co2) k_) (.slice Ao1 t6.length co1) t6) ∧ Aside0 (Kd.R (Kd.int .i64) 3 w' w.heap.size (fun k_ => no_ (.slice Ao3 t9.length co3) k_ ∧ no_ v5 k_ ∧ no_ (.slice Ao1 t6.length co1) k_) (.slice Ao2 t7.length co2) t7) ∧ Aside0 (w'.heap[gb1]? = some (.cells #[.int .i64 t4, .bool t5, (.slice Ao1 t6.length co1), (.slice Ao2 t7.length co2), .int .i64 t8] 26 (0, 0))) ∧ Aside0 (Below w.heap.size w w'))
  case atStart => exact ⟨(false), (0), b2ew_, b2ew_, H', ⟨Nat.le_refl _⟩, ⟨bwik_⟩, ⟨b7sq_⟩, ⟨bzfm_⟩, ⟨b0mw_⟩, ⟨u1_ BK1⟩, ⟨be6g_⟩⟩
  clear H'
  try clear c5
  try clear c5b0
  try clear c6
  try clear c6b0
  obtain ⟨x14_4, x15_4, rfl, rfl, HA, HK3, HO_1, HO_2, HO_3, HO_4, BK1, HB⟩ := hrel
  cases gk with | zero => exact absurd HA.out (by simp [laws_FnGuests.l2]) | succ k4 => ?_
  have H := HA.out
  clear HA
  simp only [laws_FnGuests.l2] at H
  by_cases c7 : x15_4 < (t9.length : Int)
  case neg =>
   rw [if_neg c7] at H
   have c7b0 : decide (x15_4 < (t9.length : Int)) = false := decide_eq_false c7
   clear c7
   by_cases c8 : 0 ≤ x13_3
   case neg =>
    rw [if_neg c8] at H
    exact absurd H bxka_
   rw [if_pos c8] at H
   have c8b0 : decide (0 ≤ x13_3) = true := dt_ c8
   clear c8
   by_cases c9 : x13_3 < (t6.length : Int)
   case neg =>
    rw [if_neg c9] at H
    exact absurd H bxka_
   rw [if_pos c9] at H
   have c9b0 : decide (x13_3 < (t6.length : Int)) = true := dt_ c9
   clear c9
   obtain ⟨t17, A14, H⟩ := o1_ H
   by_cases c10 : (x14_4 != t17) = true
   ·rw [if_pos c10] at H
    have c10b0 : (x14_4 != t17) = true := c10
    (try (have c10b1 : decide (x14_4 = t17) = false := by simpa using c10))
    (try (have c10b2 : (x14_4 == t17) = false := by simpa using c10))
    (try (have c10b3 : ¬ (x14_4 = t17) := by simpa using c10))
    clear c10
    obtain rfl := si_ H
    have hcz6 := z5_ BK1
    have p1 : 0 ≤ (x13_3 : Int) := od_ bpil_
    have q1 : x13_3 < (t6.length : Int) := od_ bpil_
    obtain ⟨ad1, e1, hx1_0⟩ := Kd.at_int (rr_ HO_3.out).2.2 x13_3 p1 q1
    cases e1
    replace p1 := eq_true p1
    replace q1 := eq_true q1
    obtain ⟨Ao4, co4, eo4⟩ := Kd.R_slice HO_2.out
    subst eo4
    go_wp2_with (first | ((with_reducible refine gc_ (f := 29) rfl ?_); refine gl_ 176 Tryd.func29 #[.slice Ao4 t13.length co4, .int .i64 (rd t6 x13_3)] ?_; (with_reducible refine (laws_vHas.calls k4 _ _ t13 (rd t6 x13_3) t17 _ ?side1 ?side2 A14.out).mono ?_); (case side1 => exact bqlu_); (case side2 => exact (rr_ HO_2.out).2.1); rintro e w' ⟨rfl, ⟨nd, rfl⟩⟩; refine ⟨_, rfl, ?_⟩))
    go_ret
    exact ⟨bnwh_, be6g_⟩
   rw [if_neg c10] at H
   have c10b0 : (x14_4 != t17) = false := by simpa using c10
   (try (have c10b1 : decide (x14_4 = t17) = true := by simpa using c10))
   (try (have c10b2 : (x14_4 == t17) = true := by simpa using c10))
   clear c10
   have H' := A0_ H
   clear H
   have hcz6 := z5_ BK1
   have p1 : 0 ≤ (x13_3 : Int) := od_ bpil_
   have q1 : x13_3 < (t6.length : Int) := od_ bpil_
   obtain ⟨ad1, e1, hx1_0⟩ := Kd.at_int (rr_ HO_3.out).2.2 x13_3 p1 q1
   cases e1
   replace p1 := eq_true p1
   replace q1 := eq_true q1
   obtain ⟨Ao4, co4, eo4⟩ := Kd.R_slice HO_2.out
   subst eo4
   go_wp2_with (first | ((with_reducible refine gc_ (f := 29) rfl ?_); refine gl_ 176 Tryd.func29 #[.slice Ao4 t13.length co4, .int .i64 (rd t6 x13_3)] ?_; (with_reducible refine (laws_vHas.calls k4 _ _ t13 (rd t6 x13_3) t17 _ ?side1 ?side2 A14.out).mono ?_); (case side1 => exact bqlu_); (case side2 => exact (rr_ HO_2.out).2.1); rintro e w' ⟨rfl, ⟨nd, rfl⟩⟩; refine ⟨_, rfl, ?_⟩))
   go_roundg k4
   case measure => have := HJ1.out; have := HK1.out; have := HK2.out; have := HK3.out; omega
   exact ⟨(wrap64 (x13_3 + 1)), b2ew_, H', ⟨b7zj_⟩, ⟨bwik_⟩, ⟨b7sq_⟩, ⟨bzfm_⟩, ⟨b0mw_⟩, ⟨u1_ BK1⟩, ⟨be6g_⟩⟩
  rw [if_pos c7] at H
  have c7b0 : decide (x15_4 < (t9.length : Int)) = true := dt_ c7
  clear c7
  by_cases c8 : 0 ≤ x13_3
  case neg =>
   rw [if_neg c8] at H
   exact absurd H bxka_
  rw [if_pos c8] at H
  have c8b0 : decide (0 ≤ x13_3) = true := dt_ c8
  clear c8
  by_cases c9 : x13_3 < (t6.length : Int)
  case neg =>
   rw [if_neg c9] at H
   exact absurd H bxka_
  rw [if_pos c9] at H
  have c9b0 : decide (x13_3 < (t6.length : Int)) = true := dt_ c9
  clear c9
  by_cases c10 : 0 ≤ x15_4
  case neg =>
   rw [if_neg c10] at H
   exact absurd H bxka_
  rw [if_pos c10] at H
  have c10b0 : decide (0 ≤ x15_4) = true := dt_ c10
  clear c10
  by_cases c11 : x15_4 < (t6.length : Int)
  case neg =>
   rw [if_neg c11] at H
   exact absurd H bxka_
  rw [if_pos c11] at H
  have c11b0 : decide (x15_4 < (t6.length : Int)) = true := dt_ c11
  clear c11
  obtain ⟨⟨t17, t18⟩, A14, H⟩ := o1_ H
  by_cases c12 : x14_4 = true
  ·subst c12
   rw [if_pos rfl] at H
   have H' := A0_ H
   clear H
   try go_wp2
   replace HO_1 := A0_ (rd_ HO_1.out)
   replace HO_2 := A0_ (rd_ HO_2.out)
   replace HO_3 := A0_ (rd_ HO_3.out)
   replace HO_4 := A0_ (rd_ HO_4.out)
   replace BK1 := A0_ (kd_ BK1.out)
   replace HB := A0_ (bd_ HB.out)
   have p1 : 0 ≤ (x13_3 : Int) := od_ bpil_
   have q1 : x13_3 < (t6.length : Int) := od_ bpil_
   obtain ⟨ad1, e1, hx1_0⟩ := Kd.at_int (rr_ HO_3.out).2.2 x13_3 p1 q1
   cases e1
   replace p1 := eq_true p1
   replace q1 := eq_true q1
   have p2 : 0 ≤ (x15_4 : Int) := od_ bpil_
   have q2 : x15_4 < (t6.length : Int) := od_ bpil_
   obtain ⟨ad2, e2, hx2_0⟩ := Kd.at_int (rr_ HO_3.out).2.2 x15_4 p2 q2
   obtain rfl : ad1 = ad2 := bs6y_
   replace p2 := eq_true p2
   replace q2 := eq_true q2
   refine start_ (n := 20) (S := fun w' => w'.cell? ⟨gb1, 0, none⟩ = some (.int .i64 t4) ∧ w'.cell? ⟨gb1, 1, none⟩ = some (.bool t5) ∧ w'.cell? ⟨gb1, 2, none⟩ = some (.slice (some ad1) t6.length co1) ∧ w'.cell? ⟨gb1, 3, none⟩ = some (.slice Ao2 t7.length co2) ∧ w'.cell? ⟨gb1, 4, none⟩ = some (.int .i64 t8) ∧ w'.cell? (ad1.add (x13_3).toNat) = some (.int .i64 (rd t6 x13_3)) ∧ w'.cell? (ad1.add (x15_4).toNat) = some (.int .i64 (rd t6 x15_4))) (ds := []) #[false, false, false, false, false, false, false, false, false, false, false, false, false, false, false, false, false, false, false, false] bfqv_ rfl rfl ⟨(kc_ BK1.out 0).trans rfl, (kc_ BK1.out 1).trans rfl, (kc_ BK1.out 2).trans rfl, (kc_ BK1.out 3).trans rfl, (kc_ BK1.out 4).trans rfl, hx1_0, hx2_0⟩ (fun hHeld => ?_); refine with_tabW laws_FnGuests.tab26 laws_FnGuests.bits26 (fun HT_ HW_ => ?_)
   generalize wr.drew = w7 at HO_1 HO_2 HO_3 HO_4 BK1 HB hx1_0 hx2_0 hHeld ⊢
   refine pu_ 0 132 ?_
   refine pu_ 2 134 ?_
   refine pu_ 3 135 ?_
   refine pu_ 5 137 ?_
   refine pu_ 8 140 ?_
   refine pu_ 9 141 ?_
   refine pu_ 11 143 ?_
   refine tk_ 1 133 hHeld ?_
   refine tk_ 4 136 hHeld ?_
   refine pu_ 6 138 ?_
   refine tk_ 7 139 hHeld ?_
   refine tk_ 10 142 hHeld ?_
   refine pu_ 12 144 ?_
   refine tk_ 13 145 hHeld ?_
   refine on_ 14 (some 146) (fun K hK => ?_)
   refine gs_ Tryd.func28 #[.agg #[.int .i64 t4, .bool t5, .slice (some ad1) t6.length co1], .int .i64 (rd t6 x13_3), .int .i64 (rd t6 x15_4)] ?_
   with_reducible refine (impl_SeatGap.calls k4 t4 t5 _ _ t6 (rd t6 x13_3) (rd t6 x15_4) t17 t18 _ ?side1 ?side2 A14.out).mono ?_
   (case side1 => exact b1kt_)
   (case side2 => exact (rr_ HO_3.out).2.1)
   rintro e w8 ⟨rfl, hb⟩
   have HS5_ := (hb.cell (World.block_lt_of_cell? _ _ (hHeld.2.2.2.2.2.1))).trans (hHeld.2.2.2.2.2.1)
   have HS6_ := (hb.cell (World.block_lt_of_cell? _ _ (hHeld.2.2.2.2.2.2))).trans (hHeld.2.2.2.2.2.2)
   refine ⟨_, rfl, ?_⟩
   replace HO_1 := A0_ (Kd.R_below bwik_ hb)
   replace HO_2 := A0_ (Kd.R_below b7sq_ hb)
   replace HO_3 := A0_ (Kd.R_below bzfm_ hb)
   replace HO_4 := A0_ (Kd.R_below b0mw_ hb)
   replace BK1 := k1_ BK1 hb
   replace HB := hb_ hb be6g_
   (try clear hb)
   refine hK.out _ _ ⟨(kc_ BK1.out 0).trans rfl, (kc_ BK1.out 1).trans rfl, (kc_ BK1.out 2).trans rfl, (kc_ BK1.out 3).trans rfl, (kc_ BK1.out 4).trans rfl, HS5_, HS6_⟩ (fun hHeld => ?_)
   clear hK K
   refine nm_ 146 ?_
   refine pu_ 15 131 ?_
   refine pu_ 16 147 ?_
   refine pu_ 17 148 ?_
   refine pu_ 18 16 ?_
   refine pu_ 19 17 ?_
   refine dn_ ?_
   try go_wp2
   replace HO_1 := A0_ (rd_ HO_1.out)
   replace HO_2 := A0_ (rd_ HO_2.out)
   replace HO_3 := A0_ (rd_ HO_3.out)
   replace HO_4 := A0_ (rd_ HO_4.out)
   replace BK1 := A0_ (kd_ BK1.out)
   replace HB := A0_ (bd_ HB.out)
   refine start_ (n := 20) (S := fun w' => True) (ds := []) #[false, false, false, false, false, false, false, false, false, false, false, false, false, false, false, false, false, false, false, false] bfqv_ rfl rfl trivial (fun hHeld => ?_); refine with_tabW laws_FnGuests.tab27 laws_FnGuests.bits27 (fun HT_ HW_ => ?_)
   generalize w8.drew = w9 at HO_1 HO_2 HO_3 HO_4 BK1 HB hHeld ⊢
   refine pu_ 0 149 ?_
   refine pu_ 1 150 ?_
   refine pv_ 2 151 ?_
   refine pv_ 3 152 ?_
   refine pv_ 4 153 ?_
   refine pv_ 5 154 ?_
   refine pv_ 6 155 ?_
   refine pv_ 7 156 ?_
   refine pv_ 8 157 ?_
   refine pv_ 9 158 ?_
   refine pv_ 10 159 ?_
   refine pv_ 11 160 ?_
   refine pv_ 12 161 ?_
   refine pv_ 13 162 ?_
   refine pv_ 14 163 ?_
   refine pv_ 15 164 ?_
   refine pv_ 16 165 ?_
   refine pv_ 17 166 ?_
   refine pu_ 18 167 ?_
   refine pu_ 19 14 ?_
   refine dn_ ?_
   try go_wp2
   go_roundg k4
   case measure => have := HJ1.out; have := HK1.out; have := HK2.out; have := HK3.out; omega
   exact ⟨(true), (wrap64 (x15_4 + 1)), b2ew_, b2ew_, H', ⟨b7zj_⟩, ⟨bwik_⟩, ⟨b7sq_⟩, ⟨bzfm_⟩, ⟨b0mw_⟩, ⟨u1_ BK1⟩, ⟨be6g_⟩⟩
  obtain rfl := bf_.mpr c12
  rw [if_neg ft_] at H
  by_cases c13 : t18 = true
  case neg =>
   obtain rfl := bf_.mpr c13
   rw [if_neg ft_] at H
   have H' := A0_ H
   clear H
   try go_wp2
   replace HO_1 := A0_ (rd_ HO_1.out)
   replace HO_2 := A0_ (rd_ HO_2.out)
   replace HO_3 := A0_ (rd_ HO_3.out)
   replace HO_4 := A0_ (rd_ HO_4.out)
   replace BK1 := A0_ (kd_ BK1.out)
   replace HB := A0_ (bd_ HB.out)
   have p1 : 0 ≤ (x13_3 : Int) := od_ bpil_
   have q1 : x13_3 < (t6.length : Int) := od_ bpil_
   obtain ⟨ad1, e1, hx1_0⟩ := Kd.at_int (rr_ HO_3.out).2.2 x13_3 p1 q1
   cases e1
   replace p1 := eq_true p1
   replace q1 := eq_true q1
   have p2 : 0 ≤ (x15_4 : Int) := od_ bpil_
   have q2 : x15_4 < (t6.length : Int) := od_ bpil_
   obtain ⟨ad2, e2, hx2_0⟩ := Kd.at_int (rr_ HO_3.out).2.2 x15_4 p2 q2
   obtain rfl : ad1 = ad2 := bs6y_
   replace p2 := eq_true p2
   replace q2 := eq_true q2
   refine start_ (n := 20) (S := fun w' => w'.cell? ⟨gb1, 0, none⟩ = some (.int .i64 t4) ∧ w'.cell? ⟨gb1, 1, none⟩ = some (.bool t5) ∧ w'.cell? ⟨gb1, 2, none⟩ = some (.slice (some ad1) t6.length co1) ∧ w'.cell? ⟨gb1, 3, none⟩ = some (.slice Ao2 t7.length co2) ∧ w'.cell? ⟨gb1, 4, none⟩ = some (.int .i64 t8) ∧ w'.cell? (ad1.add (x13_3).toNat) = some (.int .i64 (rd t6 x13_3)) ∧ w'.cell? (ad1.add (x15_4).toNat) = some (.int .i64 (rd t6 x15_4))) (ds := []) #[false, false, false, false, false, false, false, false, false, false, false, false, false, false, false, false, false, false, false, false] bfqv_ rfl rfl ⟨(kc_ BK1.out 0).trans rfl, (kc_ BK1.out 1).trans rfl, (kc_ BK1.out 2).trans rfl, (kc_ BK1.out 3).trans rfl, (kc_ BK1.out 4).trans rfl, hx1_0, hx2_0⟩ (fun hHeld => ?_); refine with_tabW laws_FnGuests.tab26 laws_FnGuests.bits26 (fun HT_ HW_ => ?_)
   generalize wr.drew = w7 at HO_1 HO_2 HO_3 HO_4 BK1 HB hx1_0 hx2_0 hHeld ⊢
   refine pu_ 0 132 ?_
   refine pu_ 2 134 ?_
   refine pu_ 3 135 ?_
   refine pu_ 5 137 ?_
   refine pu_ 8 140 ?_
   refine pu_ 9 141 ?_
   refine pu_ 11 143 ?_
   refine tk_ 1 133 hHeld ?_
   refine tk_ 4 136 hHeld ?_
   refine pu_ 6 138 ?_
   refine tk_ 7 139 hHeld ?_
   refine tk_ 10 142 hHeld ?_
   refine pu_ 12 144 ?_
   refine tk_ 13 145 hHeld ?_
   refine on_ 14 (some 146) (fun K hK => ?_)
   refine gs_ Tryd.func28 #[.agg #[.int .i64 t4, .bool t5, .slice (some ad1) t6.length co1], .int .i64 (rd t6 x13_3), .int .i64 (rd t6 x15_4)] ?_
   with_reducible refine (impl_SeatGap.calls k4 t4 t5 _ _ t6 (rd t6 x13_3) (rd t6 x15_4) t17 false _ ?side1 ?side2 A14.out).mono ?_
   (case side1 => exact b1kt_)
   (case side2 => exact (rr_ HO_3.out).2.1)
   rintro e w8 ⟨rfl, hb⟩
   have HS5_ := (hb.cell (World.block_lt_of_cell? _ _ (hHeld.2.2.2.2.2.1))).trans (hHeld.2.2.2.2.2.1)
   have HS6_ := (hb.cell (World.block_lt_of_cell? _ _ (hHeld.2.2.2.2.2.2))).trans (hHeld.2.2.2.2.2.2)
   refine ⟨_, rfl, ?_⟩
   replace HO_1 := A0_ (Kd.R_below bwik_ hb)
   replace HO_2 := A0_ (Kd.R_below b7sq_ hb)
   replace HO_3 := A0_ (Kd.R_below bzfm_ hb)
   replace HO_4 := A0_ (Kd.R_below b0mw_ hb)
   replace BK1 := k1_ BK1 hb
   replace HB := hb_ hb be6g_
   (try clear hb)
   refine hK.out _ _ ⟨(kc_ BK1.out 0).trans rfl, (kc_ BK1.out 1).trans rfl, (kc_ BK1.out 2).trans rfl, (kc_ BK1.out 3).trans rfl, (kc_ BK1.out 4).trans rfl, HS5_, HS6_⟩ (fun hHeld => ?_)
   clear hK K
   refine nm_ 146 ?_
   refine pu_ 15 131 ?_
   refine pu_ 16 147 ?_
   refine pu_ 17 148 ?_
   refine pu_ 18 16 ?_
   refine pu_ 19 17 ?_
   refine dn_ ?_
   try go_wp2
   replace HO_1 := A0_ (rd_ HO_1.out)
   replace HO_2 := A0_ (rd_ HO_2.out)
   replace HO_3 := A0_ (rd_ HO_3.out)
   replace HO_4 := A0_ (rd_ HO_4.out)
   replace BK1 := A0_ (kd_ BK1.out)
   replace HB := A0_ (bd_ HB.out)
   refine start_ (n := 20) (S := fun w' => True) (ds := []) #[false, false, false, false, false, false, false, false, false, false, false, false, false, false, false, false, false, false, false, false] bfqv_ rfl rfl trivial (fun hHeld => ?_); refine with_tabW laws_FnGuests.tab27 laws_FnGuests.bits27 (fun HT_ HW_ => ?_)
   generalize w8.drew = w9 at HO_1 HO_2 HO_3 HO_4 BK1 HB hHeld ⊢
   refine pu_ 0 149 ?_
   refine pu_ 1 150 ?_
   refine pu_ 2 151 ?_
   refine pu_ 3 152 ?_
   refine pv_ 4 153 ?_
   refine pv_ 5 154 ?_
   refine pu_ 6 155 ?_
   refine pu_ 7 156 ?_
   refine pv_ 8 157 ?_
   refine pv_ 9 158 ?_
   refine pv_ 10 159 ?_
   refine pv_ 11 160 ?_
   refine pv_ 12 161 ?_
   refine pv_ 13 162 ?_
   refine pv_ 14 163 ?_
   refine pv_ 15 164 ?_
   refine pv_ 16 165 ?_
   refine pu_ 17 166 ?_
   refine pu_ 18 167 ?_
   refine pu_ 19 14 ?_
   refine dn_ ?_
   try go_wp2
   go_roundg k4
   case measure => have := HJ1.out; have := HK1.out; have := HK2.out; have := HK3.out; omega
   exact ⟨(false), (wrap64 (x15_4 + 1)), b2ew_, b2ew_, H', ⟨b7zj_⟩, ⟨bwik_⟩, ⟨b7sq_⟩, ⟨bzfm_⟩, ⟨b0mw_⟩, ⟨u1_ BK1⟩, ⟨be6g_⟩⟩
  subst c13
  rw [if_pos rfl] at H
  by_cases c14 : t17 = 1
  case neg =>
   rw [if_neg c14] at H
   obtain ⟨c14b0, c14b1⟩ := ef_ c14
   have H' := A0_ H
   clear H
   try go_wp2
   replace HO_1 := A0_ (rd_ HO_1.out)
   replace HO_2 := A0_ (rd_ HO_2.out)
   replace HO_3 := A0_ (rd_ HO_3.out)
   replace HO_4 := A0_ (rd_ HO_4.out)
   replace BK1 := A0_ (kd_ BK1.out)
   replace HB := A0_ (bd_ HB.out)
   have p1 : 0 ≤ (x13_3 : Int) := od_ bpil_
   have q1 : x13_3 < (t6.length : Int) := od_ bpil_
   obtain ⟨ad1, e1, hx1_0⟩ := Kd.at_int (rr_ HO_3.out).2.2 x13_3 p1 q1
   cases e1
   replace p1 := eq_true p1
   replace q1 := eq_true q1
   have p2 : 0 ≤ (x15_4 : Int) := od_ bpil_
   have q2 : x15_4 < (t6.length : Int) := od_ bpil_
   obtain ⟨ad2, e2, hx2_0⟩ := Kd.at_int (rr_ HO_3.out).2.2 x15_4 p2 q2
   obtain rfl : ad1 = ad2 := bs6y_
   replace p2 := eq_true p2
   replace q2 := eq_true q2
   refine start_ (n := 20) (S := fun w' => w'.cell? ⟨gb1, 0, none⟩ = some (.int .i64 t4) ∧ w'.cell? ⟨gb1, 1, none⟩ = some (.bool t5) ∧ w'.cell? ⟨gb1, 2, none⟩ = some (.slice (some ad1) t6.length co1) ∧ w'.cell? ⟨gb1, 3, none⟩ = some (.slice Ao2 t7.length co2) ∧ w'.cell? ⟨gb1, 4, none⟩ = some (.int .i64 t8) ∧ w'.cell? (ad1.add (x13_3).toNat) = some (.int .i64 (rd t6 x13_3)) ∧ w'.cell? (ad1.add (x15_4).toNat) = some (.int .i64 (rd t6 x15_4))) (ds := []) #[false, false, false, false, false, false, false, false, false, false, false, false, false, false, false, false, false, false, false, false] bfqv_ rfl rfl ⟨(kc_ BK1.out 0).trans rfl, (kc_ BK1.out 1).trans rfl, (kc_ BK1.out 2).trans rfl, (kc_ BK1.out 3).trans rfl, (kc_ BK1.out 4).trans rfl, hx1_0, hx2_0⟩ (fun hHeld => ?_); refine with_tabW laws_FnGuests.tab26 laws_FnGuests.bits26 (fun HT_ HW_ => ?_)
   generalize wr.drew = w7 at HO_1 HO_2 HO_3 HO_4 BK1 HB hx1_0 hx2_0 hHeld ⊢
   refine pu_ 0 132 ?_
   refine pu_ 2 134 ?_
   refine pu_ 3 135 ?_
   refine pu_ 5 137 ?_
   refine pu_ 8 140 ?_
   refine pu_ 9 141 ?_
   refine pu_ 11 143 ?_
   refine tk_ 1 133 hHeld ?_
   refine tk_ 4 136 hHeld ?_
   refine pu_ 6 138 ?_
   refine tk_ 7 139 hHeld ?_
   refine tk_ 10 142 hHeld ?_
   refine pu_ 12 144 ?_
   refine tk_ 13 145 hHeld ?_
   refine on_ 14 (some 146) (fun K hK => ?_)
   refine gs_ Tryd.func28 #[.agg #[.int .i64 t4, .bool t5, .slice (some ad1) t6.length co1], .int .i64 (rd t6 x13_3), .int .i64 (rd t6 x15_4)] ?_
   with_reducible refine (impl_SeatGap.calls k4 t4 t5 _ _ t6 (rd t6 x13_3) (rd t6 x15_4) t17 true _ ?side1 ?side2 A14.out).mono ?_
   (case side1 => exact b1kt_)
   (case side2 => exact (rr_ HO_3.out).2.1)
   rintro e w8 ⟨rfl, hb⟩
   have HS5_ := (hb.cell (World.block_lt_of_cell? _ _ (hHeld.2.2.2.2.2.1))).trans (hHeld.2.2.2.2.2.1)
   have HS6_ := (hb.cell (World.block_lt_of_cell? _ _ (hHeld.2.2.2.2.2.2))).trans (hHeld.2.2.2.2.2.2)
   refine ⟨_, rfl, ?_⟩
   replace HO_1 := A0_ (Kd.R_below bwik_ hb)
   replace HO_2 := A0_ (Kd.R_below b7sq_ hb)
   replace HO_3 := A0_ (Kd.R_below bzfm_ hb)
   replace HO_4 := A0_ (Kd.R_below b0mw_ hb)
   replace BK1 := k1_ BK1 hb
   replace HB := hb_ hb be6g_
   (try clear hb)
   refine hK.out _ _ ⟨(kc_ BK1.out 0).trans rfl, (kc_ BK1.out 1).trans rfl, (kc_ BK1.out 2).trans rfl, (kc_ BK1.out 3).trans rfl, (kc_ BK1.out 4).trans rfl, HS5_, HS6_⟩ (fun hHeld => ?_)
   clear hK K
   refine nm_ 146 ?_
   refine pu_ 15 131 ?_
   refine pu_ 16 147 ?_
   refine pu_ 17 148 ?_
   refine pu_ 18 16 ?_
   refine pu_ 19 17 ?_
   refine dn_ ?_
   try go_wp2
   replace HO_1 := A0_ (rd_ HO_1.out)
   replace HO_2 := A0_ (rd_ HO_2.out)
   replace HO_3 := A0_ (rd_ HO_3.out)
   replace HO_4 := A0_ (rd_ HO_4.out)
   replace BK1 := A0_ (kd_ BK1.out)
   replace HB := A0_ (bd_ HB.out)
   refine start_ (n := 20) (S := fun w' => True) (ds := []) #[false, false, false, false, false, false, false, false, false, false, false, false, false, false, false, false, false, false, false, false] bfqv_ rfl rfl trivial (fun hHeld => ?_); refine with_tabW laws_FnGuests.tab27 laws_FnGuests.bits27 (fun HT_ HW_ => ?_)
   generalize w8.drew = w9 at HO_1 HO_2 HO_3 HO_4 BK1 HB hHeld ⊢
   refine pu_ 0 149 ?_
   refine pu_ 1 150 ?_
   refine pu_ 2 151 ?_
   refine pu_ 3 152 ?_
   refine pu_ 4 153 ?_
   refine pu_ 5 154 ?_
   refine pu_ 6 155 ?_
   refine pu_ 7 156 ?_
   refine pv_ 8 157 ?_
   refine pv_ 9 158 ?_
   refine pv_ 10 159 ?_
   refine pv_ 11 160 ?_
   refine pv_ 12 161 ?_
   refine pv_ 13 162 ?_
   refine pv_ 14 163 ?_
   refine pv_ 15 164 ?_
   refine pv_ 16 165 ?_
   refine pu_ 17 166 ?_
   refine pu_ 18 167 ?_
   refine pu_ 19 14 ?_
   refine dn_ ?_
   try go_wp2
   go_roundg k4
   case measure => have := HJ1.out; have := HK1.out; have := HK2.out; have := HK3.out; omega
   exact ⟨(false), (wrap64 (x15_4 + 1)), b2ew_, b2ew_, H', ⟨b7zj_⟩, ⟨bwik_⟩, ⟨b7sq_⟩, ⟨bzfm_⟩, ⟨b0mw_⟩, ⟨u1_ BK1⟩, ⟨be6g_⟩⟩
  rw [if_pos c14] at H
  obtain ⟨c14b0, c14b1⟩ := et_ c14
  clear c14
  by_cases c15 : x13_3 < (t9.length : Int)
  case neg =>
   rw [if_neg c15] at H
   exact absurd H bxka_
  rw [if_pos c15] at H
  have c15b0 : decide (x13_3 < (t9.length : Int)) = true := dt_ c15
  clear c15
  have H' := A0_ H
  clear H
  try go_wp2
  replace HO_1 := A0_ (rd_ HO_1.out)
  replace HO_2 := A0_ (rd_ HO_2.out)
  replace HO_3 := A0_ (rd_ HO_3.out)
  replace HO_4 := A0_ (rd_ HO_4.out)
  replace BK1 := A0_ (kd_ BK1.out)
  replace HB := A0_ (bd_ HB.out)
  have p1 : 0 ≤ (x13_3 : Int) := od_ bpil_
  have q1 : x13_3 < (t6.length : Int) := od_ bpil_
  obtain ⟨ad1, e1, hx1_0⟩ := Kd.at_int (rr_ HO_3.out).2.2 x13_3 p1 q1
  cases e1
  replace p1 := eq_true p1
  replace q1 := eq_true q1
  have p2 : 0 ≤ (x15_4 : Int) := od_ bpil_
  have q2 : x15_4 < (t6.length : Int) := od_ bpil_
  obtain ⟨ad2, e2, hx2_0⟩ := Kd.at_int (rr_ HO_3.out).2.2 x15_4 p2 q2
  obtain rfl : ad1 = ad2 := bs6y_
  replace p2 := eq_true p2
  replace q2 := eq_true q2
  refine start_ (n := 20) (S := fun w' => w'.cell? ⟨gb1, 0, none⟩ = some (.int .i64 t4) ∧ w'.cell? ⟨gb1, 1, none⟩ = some (.bool t5) ∧ w'.cell? ⟨gb1, 2, none⟩ = some (.slice (some ad1) t6.length co1) ∧ w'.cell? ⟨gb1, 3, none⟩ = some (.slice Ao2 t7.length co2) ∧ w'.cell? ⟨gb1, 4, none⟩ = some (.int .i64 t8) ∧ w'.cell? (ad1.add (x13_3).toNat) = some (.int .i64 (rd t6 x13_3)) ∧ w'.cell? (ad1.add (x15_4).toNat) = some (.int .i64 (rd t6 x15_4))) (ds := []) #[false, false, false, false, false, false, false, false, false, false, false, false, false, false, false, false, false, false, false, false] bfqv_ rfl rfl ⟨(kc_ BK1.out 0).trans rfl, (kc_ BK1.out 1).trans rfl, (kc_ BK1.out 2).trans rfl, (kc_ BK1.out 3).trans rfl, (kc_ BK1.out 4).trans rfl, hx1_0, hx2_0⟩ (fun hHeld => ?_); refine with_tabW laws_FnGuests.tab26 laws_FnGuests.bits26 (fun HT_ HW_ => ?_)
  generalize wr.drew = w7 at HO_1 HO_2 HO_3 HO_4 BK1 HB hx1_0 hx2_0 hHeld ⊢
  refine pu_ 0 132 ?_
  refine pu_ 2 134 ?_
  refine pu_ 3 135 ?_
  refine pu_ 5 137 ?_
  refine pu_ 8 140 ?_
  refine pu_ 9 141 ?_
  refine pu_ 11 143 ?_
  refine tk_ 1 133 hHeld ?_
  refine tk_ 4 136 hHeld ?_
  refine pu_ 6 138 ?_
  refine tk_ 7 139 hHeld ?_
  refine tk_ 10 142 hHeld ?_
  refine pu_ 12 144 ?_
  refine tk_ 13 145 hHeld ?_
  refine on_ 14 (some 146) (fun K hK => ?_)
  refine gs_ Tryd.func28 #[.agg #[.int .i64 t4, .bool t5, .slice (some ad1) t6.length co1], .int .i64 (rd t6 x13_3), .int .i64 (rd t6 x15_4)] ?_
  with_reducible refine (impl_SeatGap.calls k4 t4 t5 _ _ t6 (rd t6 x13_3) (rd t6 x15_4) t17 true _ ?side1 ?side2 A14.out).mono ?_
  (case side1 => exact b1kt_)
  (case side2 => exact (rr_ HO_3.out).2.1)
  rintro e w8 ⟨rfl, hb⟩
  have HS5_ := (hb.cell (World.block_lt_of_cell? _ _ (hHeld.2.2.2.2.2.1))).trans (hHeld.2.2.2.2.2.1)
  have HS6_ := (hb.cell (World.block_lt_of_cell? _ _ (hHeld.2.2.2.2.2.2))).trans (hHeld.2.2.2.2.2.2)
  refine ⟨_, rfl, ?_⟩
  replace HO_1 := A0_ (Kd.R_below bwik_ hb)
  replace HO_2 := A0_ (Kd.R_below b7sq_ hb)
  replace HO_3 := A0_ (Kd.R_below bzfm_ hb)
  replace HO_4 := A0_ (Kd.R_below b0mw_ hb)
  replace BK1 := k1_ BK1 hb
  replace HB := hb_ hb be6g_
  (try clear hb)
  refine hK.out _ _ ⟨(kc_ BK1.out 0).trans rfl, (kc_ BK1.out 1).trans rfl, (kc_ BK1.out 2).trans rfl, (kc_ BK1.out 3).trans rfl, (kc_ BK1.out 4).trans rfl, HS5_, HS6_⟩ (fun hHeld => ?_)
  clear hK K
  refine nm_ 146 ?_
  refine pu_ 15 131 ?_
  refine pu_ 16 147 ?_
  refine pu_ 17 148 ?_
  refine pu_ 18 16 ?_
  refine pu_ 19 17 ?_
  refine dn_ ?_
  try go_wp2
  replace HO_1 := A0_ (rd_ HO_1.out)
  replace HO_2 := A0_ (rd_ HO_2.out)
  replace HO_3 := A0_ (rd_ HO_3.out)
  replace HO_4 := A0_ (rd_ HO_4.out)
  replace BK1 := A0_ (kd_ BK1.out)
  replace HB := A0_ (bd_ HB.out)
  have p3 : 0 ≤ (x15_4 : Int) := od_ bpil_
  have q3 : x15_4 < (t9.length : Int) := od_ bpil_
  obtain ⟨ad3, e3, hx3_0⟩ := Kd.at_int (rr_ HO_1.out).2.2 x15_4 p3 q3
  cases e3
  replace p3 := eq_true p3
  replace q3 := eq_true q3
  have p4 : 0 ≤ (x13_3 : Int) := od_ bpil_
  have q4 : x13_3 < (t9.length : Int) := od_ bpil_
  obtain ⟨ad4, e4, hx4_0⟩ := Kd.at_int (rr_ HO_1.out).2.2 x13_3 p4 q4
  obtain rfl : ad3 = ad4 := (by injection e4)
  replace p4 := eq_true p4
  replace q4 := eq_true q4
  refine start_ (n := 20) (S := fun w' => w'.cell? (ad3.add (x15_4).toNat) = some (.int .i64 (rd t9 x15_4)) ∧ w'.cell? (ad3.add (x13_3).toNat) = some (.int .i64 (rd t9 x13_3))) (ds := []) #[false, false, false, false, false, false, false, false, false, false, false, false, false, false, false, false, false, false, false, false] bfqv_ rfl rfl ⟨hx3_0, hx4_0⟩ (fun hHeld => ?_); refine with_tabW laws_FnGuests.tab27 laws_FnGuests.bits27 (fun HT_ HW_ => ?_)
  generalize w8.drew = w9 at HO_1 HO_2 HO_3 HO_4 BK1 HB hx3_0 hx4_0 hHeld ⊢
  refine pu_ 0 149 ?_
  refine pu_ 1 150 ?_
  refine pu_ 2 151 ?_
  refine pu_ 3 152 ?_
  refine pu_ 4 153 ?_
  refine pu_ 5 154 ?_
  refine pu_ 6 155 ?_
  refine pu_ 7 156 ?_
  refine pu_ 8 157 ?_
  refine pu_ 9 158 ?_
  refine pu_ 10 159 ?_
  refine pu_ 12 161 ?_
  refine pu_ 13 162 ?_
  refine pu_ 14 163 ?_
  refine tk_ 11 160 hHeld ?_
  refine tk_ 15 164 hHeld ?_
  refine pu_ 16 165 ?_
  refine pu_ 17 166 ?_
  refine pu_ 18 167 ?_
  refine pu_ 19 14 ?_
  refine dn_ ?_
  try go_wp2
  go_roundg k4
  case measure => have := HJ1.out; have := HK1.out; have := HK2.out; have := HK3.out; omega
  exact ⟨(decide ((rd t9 x15_4) > (rd t9 x13_3))), (wrap64 (x15_4 + 1)), b2ew_, b2ew_, H', ⟨b7zj_⟩, ⟨bwik_⟩, ⟨b7sq_⟩, ⟨bzfm_⟩, ⟨b0mw_⟩, ⟨u1_ BK1⟩, ⟨be6g_⟩⟩
 /-- THE ONE PURE STATEMENT of laws_FnGuests: yours. -/
def laws_FnGuests.Pure : Prop := ∀ (l0 : List Int), l0.length ≤ maxLen → l0.length * 1 ≤ 140737488351232 → (∀ x ∈ l0, (Lit.int .u8 x).wf = true) → ∃ k, laws_FnGuests.f k l0 = some true
theorem laws_FnGuests.walk (P : laws_FnGuests.Pure) (a0 : Option Addr) (len0 cap0 : Nat) (z0 : List Int) (w : World) (hG : TabOK w) (w0 : (a0 = none ∧ len0 = 0 ∧ cap0 = 0 ∧ z0 = []) ∨ ∃ x, a0 = some x ∧ len0 ≤ cap0 ∧ cap0 ≤ maxLen ∧ z0.length = cap0 ∧ (∀ i, i < z0.length → w.cell? (x.add i) = some (.int .u8 (z0.getD i 0))) ∧ ∀ n ∈ z0, (Lit.int .u8 n).wf = true) (y0 : len0 * 1 ≤ 140737488351232) :
  Calls Tryd.prog 6 #[.slice a0 len0 cap0] w fun e w' => e = .returned (.bool true) ∧ Below w.heap.size w w' := by
 obtain ⟨l0, rfl, hr0, hm0, hw0, hc0⟩ := ReadsInt.ofRowC w0
 obtain ⟨k, h⟩ := P l0 hm0 y0 hw0
 refine (laws_FnGuests.calls k _ _ l0 true w (Kd.C_of_reads (d := (0 : Int)) (h1 := fun _ => rfl) hr0) hc0 hG h).mono ?_
 rintro e w' ⟨rfl, hd⟩
 exact ⟨rfl, hd⟩

end Go.Proofs.YtbohmfnjgjijdaaDoor.QFnGuests
-- packed
-- squeezed
