-- Written by px.py, a program of this session, over the kit's printer: some functions have a definition and a proof of this session's own.
import Derived.Test.YtbohmfnjgjijdaaGreatDoorQFnExactDoWorksx0
import Derived.Test.YtbohmfnjgjijdaaGreatDoorQFnExactDoWorksx1
import Derived.Test.YtbohmfnjgjijdaaGreatDoorQFnExactDoWorksx2
import Derived.Test.YtbohmfnjgjijdaaGreatDoorQFnExactDoWorksx4
namespace Go.Proofs.YtbohmfnjgjijdaaGreatDoor.QFnExactDoWorks
open Go.RowKit Go.Proofs.YtbohmfnjgjijdaaGreatDoorW.PrintWords Go.Proofs.YtbohmfnjgjijdaaGreatDoorW.PrintLast Go.Proofs.YtbohmfnjgjijdaaGreatDoorW.PrintMore
attribute [local go_sem] max2_int min2_int max_two min_two max_three min_three max_four min_four   -- for this text's walks alone
set_option linter.unusedVariables false
set_option linter.unusedSimpArgs false
set_option maxHeartbeats 80000000
set_option maxRecDepth 100000

mutual
def laws_FnExactDoWorks.j0 : Nat → List (S66) → Int → Bool → List (S50) → Int → Bool → Bool → Int → Bool → List Int → List Int → Int → Int → Bool → List Int → List Int → Int → Int → Bool → List Int → List Int → Int → Int → Bool → List Int → List Int → Int → Option (Bool)
 | 0, _, _, _, _, _, _, _, _, _, _, _, _, _, _, _, _, _, _, _, _, _, _, _, _, _, _, _ => none
 | k + 1, x1, x7, x8, x10, x12, x13, x63, x561000, x561001, x561002, x561003, x561004, x587000, x587001, x587002, x587003, x587004, x597000, x597001, x597002, x597003, x597004, x612000, x612001, x612002, x612003, x612004 => if x63 = true then (some false) else ((laws_toHouse.f k x561000 x561001 x561002 x561003 x561004).bind fun bt613 => ((laws_eqHouse.f k x597000 x597001 x597002 x597003 x597004 bt613.1 bt613.2.1 bt613.2.2.1 bt613.2.2.2.1 bt613.2.2.2.2).bind fun t622 => (if t622 = true then ((laws_toWorkS.f k x1).bind fun t623 => ((laws_eqWorkS.f k x10 t623).bind fun t626 => (if t626 = true then ((laws_markHouse.f k x597000 x597001 x597002 x597003 x597004 1).bind fun bt627 => ((laws_markWorkS.f k x10 bt627.1).bind fun bt630 => (if bt630.1 < 0 then (laws_FnExactDoWorks.j1 k x1 x7 x8 true x561000 x561001 x561002 x561003 x561004 x587000 x587001 x587002 x587003 x587004 x612000 x612001 x612002 x612003 x612004) else ((laws_eqHouse.f k x612000 x612001 x612002 x612003 x612004 x587000 x587001 x587002 x587003 x587004).bind fun t632 => (if t632 = true then (if x12 = x7 then (laws_FnExactDoWorks.j1 k x1 x7 x8 (x13 != x8) x561000 x561001 x561002 x561003 x561004 x587000 x587001 x587002 x587003 x587004 x612000 x612001 x612002 x612003 x612004) else (laws_FnExactDoWorks.j1 k x1 x7 x8 true x561000 x561001 x561002 x561003 x561004 x587000 x587001 x587002 x587003 x587004 x612000 x612001 x612002 x612003 x612004)) else (laws_FnExactDoWorks.j1 k x1 x7 x8 true x561000 x561001 x561002 x561003 x561004 x587000 x587001 x587002 x587003 x587004 x612000 x612001 x612002 x612003 x612004)))))) else (some false)))) else (some false))))
def laws_FnExactDoWorks.j1 : Nat → List (S66) → Int → Bool → Bool → Int → Bool → List Int → List Int → Int → Int → Bool → List Int → List Int → Int → Int → Bool → List Int → List Int → Int → Option (Bool)
 | 0, _, _, _, _, _, _, _, _, _, _, _, _, _, _, _, _, _, _, _ => none
 | k + 1, x1, x7, x8, x97, x561000, x561001, x561002, x561003, x561004, x587000, x587001, x587002, x587003, x587004, x612000, x612001, x612002, x612003, x612004 => if x97 = true then (some false) else ((laws_markHouse.f k x612000 x612001 x612002 x612003 x612004 1).bind fun bt633 => ((laws_heldHouse.f k x612000 x612001 bt633.2.1 bt633.2.2 x612004 1).bind fun t636 => (if t636 < 0 then (some false) else (if t636 = bt633.1 then ((laws_toHouse.f k x561000 x561001 x561002 x561003 x561004).bind fun bt637 => ((laws_toWorkS.f k x1).bind fun t646 => ((impl_DoWorks.f k bt637.1 bt637.2.1 bt637.2.2.1 bt637.2.2.2.1 bt637.2.2.2.2 t646).bind fun bt649 => ((laws_eqHouse.f k bt649.1 bt649.2.1 bt649.2.2.1 bt649.2.2.2.1 bt649.2.2.2.2.1 x587000 x587001 x587002 x587003 x587004).bind fun t661 => (if t661 = true then (if bt649.2.2.2.2.2.1 = x7 then (laws_FnExactDoWorks.j2 k bt633.1 (bt649.2.2.2.2.2.2 != x8) x612000 x612001 bt633.2.1 bt633.2.2 x612004) else (laws_FnExactDoWorks.j2 k bt633.1 true x612000 x612001 bt633.2.1 bt633.2.2 x612004)) else (laws_FnExactDoWorks.j2 k bt633.1 true x612000 x612001 bt633.2.1 bt633.2.2 x612004)))))) else (some false)))))
def laws_FnExactDoWorks.j2 : Nat → Int → Bool → Int → Bool → List Int → List Int → Int → Option (Bool)
 | 0, _, _, _, _, _, _, _ => none
 | k + 1, x15, x131, x612000, x612001, x612002, x612003, x612004 => if x131 = true then (some false) else ((laws_heldHouse.f k x612000 x612001 x612002 x612003 x612004 1).bind fun t662 => (if t662 < 0 then (some false) else (if t662 = x15 then (some true) else (some false))))
end
def laws_FnExactDoWorks.f (k : Nat) (a0_0 : Int) (a0_1 : Bool) (l0_2 : List Int) (l0_3 : List Int) (a0_4 : Int) (l1 : List (S66)) : Option (Bool) := (laws_szHouse.f a0_0 a0_1 l0_2 l0_3 a0_4 1048576).bind fun t561 => (if t561 < 0 then (some true) else ((laws_szWorkS.f l1 t561).bind fun t562 => (if t562 < 0 then (some true) else ((laws_toHouse.f k a0_0 a0_1 l0_2 l0_3 a0_4).bind fun bt563 => ((laws_toWorkS.f k l1).bind fun t572 => ((spec_DoWorks.f k bt563.1 bt563.2.1 bt563.2.2.1 bt563.2.2.2.1 bt563.2.2.2.2 t572).bind fun bt575 => ((laws_toHouse.f k a0_0 a0_1 l0_2 l0_3 a0_4).bind fun bt587 => ((laws_toWorkS.f k l1).bind fun t597 => ((impl_DoWorks.f k bt587.1 bt587.2.1 bt587.2.2.1 bt587.2.2.2.1 bt587.2.2.2.2 t597).bind fun bt600 => ((laws_eqHouse.f k bt600.1 bt600.2.1 bt600.2.2.1 bt600.2.2.2.1 bt600.2.2.2.2.1 bt575.1 bt575.2.1 bt575.2.2.1 bt575.2.2.2.1 bt575.2.2.2.2.1).bind fun t612 => (if t612 = true then (if bt600.2.2.2.2.2.1 = bt575.2.2.2.2.2.1 then (laws_FnExactDoWorks.j0 k l1 bt575.2.2.2.2.2.1 bt575.2.2.2.2.2.2 t597 bt600.2.2.2.2.2.1 bt600.2.2.2.2.2.2 (bt600.2.2.2.2.2.2 != bt575.2.2.2.2.2.2) a0_0 a0_1 l0_2 l0_3 a0_4 bt575.1 bt575.2.1 bt575.2.2.1 bt575.2.2.2.1 bt575.2.2.2.2.1 bt587.1 bt587.2.1 bt587.2.2.1 bt587.2.2.2.1 bt587.2.2.2.2 bt600.1 bt600.2.1 bt600.2.2.1 bt600.2.2.2.1 bt600.2.2.2.2.1) else (laws_FnExactDoWorks.j0 k l1 bt575.2.2.2.2.2.1 bt575.2.2.2.2.2.2 t597 bt600.2.2.2.2.2.1 bt600.2.2.2.2.2.2 true a0_0 a0_1 l0_2 l0_3 a0_4 bt575.1 bt575.2.1 bt575.2.2.1 bt575.2.2.2.1 bt575.2.2.2.2.1 bt587.1 bt587.2.1 bt587.2.2.1 bt587.2.2.2.1 bt587.2.2.2.2 bt600.1 bt600.2.1 bt600.2.2.1 bt600.2.2.2.1 bt600.2.2.2.2.1)) else (laws_FnExactDoWorks.j0 k l1 bt575.2.2.2.2.2.1 bt575.2.2.2.2.2.2 t597 bt600.2.2.2.2.2.1 bt600.2.2.2.2.2.2 true a0_0 a0_1 l0_2 l0_3 a0_4 bt575.1 bt575.2.1 bt575.2.2.1 bt575.2.2.2.1 bt575.2.2.2.2.1 bt587.1 bt587.2.1 bt587.2.2.1 bt587.2.2.2.1 bt587.2.2.2.2 bt600.1 bt600.2.1 bt600.2.2.1 bt600.2.2.2.1 bt600.2.2.2.2.1))))))))))))
theorem laws_FnExactDoWorks.mono_l : ∀ k, (∀ y0 y1 y2 y3 y4 y5 y6 y7 y8 y9 y10 y11 y12 y13 y14 y15 y16 y17 y18 y19 y20 y21 y22 y23 y24 y25 y26, LeO (laws_FnExactDoWorks.j0 k y0 y1 y2 y3 y4 y5 y6 y7 y8 y9 y10 y11 y12 y13 y14 y15 y16 y17 y18 y19 y20 y21 y22 y23 y24 y25 y26) (laws_FnExactDoWorks.j0 (k + 1) y0 y1 y2 y3 y4 y5 y6 y7 y8 y9 y10 y11 y12 y13 y14 y15 y16 y17 y18 y19 y20 y21 y22 y23 y24 y25 y26)) ∧ (∀ y0 y1 y2 y3 y4 y5 y6 y7 y8 y9 y10 y11 y12 y13 y14 y15 y16 y17 y18, LeO (laws_FnExactDoWorks.j1 k y0 y1 y2 y3 y4 y5 y6 y7 y8 y9 y10 y11 y12 y13 y14 y15 y16 y17 y18) (laws_FnExactDoWorks.j1 (k + 1) y0 y1 y2 y3 y4 y5 y6 y7 y8 y9 y10 y11 y12 y13 y14 y15 y16 y17 y18)) ∧ (∀ y0 y1 y2 y3 y4 y5 y6, LeO (laws_FnExactDoWorks.j2 k y0 y1 y2 y3 y4 y5 y6) (laws_FnExactDoWorks.j2 (k + 1) y0 y1 y2 y3 y4 y5 y6))
 | 0 => ⟨fun _ _ _ _ _ _ _ _ _ _ _ _ _ _ _ _ _ _ _ _ _ _ _ _ _ _ _ r h => by simp [laws_FnExactDoWorks.j0] at h, fun _ _ _ _ _ _ _ _ _ _ _ _ _ _ _ _ _ _ _ r h => by simp [laws_FnExactDoWorks.j1] at h, fun _ _ _ _ _ _ _ r h => by simp [laws_FnExactDoWorks.j2] at h⟩
 | k + 1 => by
  obtain ⟨ih0, ih1, ih2⟩ := laws_FnExactDoWorks.mono_l k
  refine ⟨?_, ?_, ?_⟩
  ·intro y0 y1 y2 y3 y4 y5 y6 y7 y8 y9 y10 y11 y12 y13 y14 y15 y16 y17 y18 y19 y20 y21 y22 y23 y24 y25 y26
   unfold laws_FnExactDoWorks.j0
   repeat' with_reducible first | exact ih0 .. | exact ih1 .. | exact ih2 .. | exact impl_DoWorks.mono .. | exact laws_eqHouse.mono .. | exact laws_eqWorkS.mono .. | exact laws_heldHouse.mono .. | exact laws_markHouse.mono .. | exact laws_markWorkS.mono .. | exact laws_toHouse.mono .. | exact laws_toWorkS.mono .. | exact spec_DoWorks.mono .. | exact LeO.refl .. | exact LeO.none .. | refine LeO.ite ?_ ?_ | refine LeO.bind ?_ (fun _ => ?_)
  ·intro y0 y1 y2 y3 y4 y5 y6 y7 y8 y9 y10 y11 y12 y13 y14 y15 y16 y17 y18
   unfold laws_FnExactDoWorks.j1
   repeat' with_reducible first | exact ih0 .. | exact ih1 .. | exact ih2 .. | exact impl_DoWorks.mono .. | exact laws_eqHouse.mono .. | exact laws_eqWorkS.mono .. | exact laws_heldHouse.mono .. | exact laws_markHouse.mono .. | exact laws_markWorkS.mono .. | exact laws_toHouse.mono .. | exact laws_toWorkS.mono .. | exact spec_DoWorks.mono .. | exact LeO.refl .. | exact LeO.none .. | refine LeO.ite ?_ ?_ | refine LeO.bind ?_ (fun _ => ?_)
  ·intro y0 y1 y2 y3 y4 y5 y6
   unfold laws_FnExactDoWorks.j2
   repeat' with_reducible first | exact ih0 .. | exact ih1 .. | exact ih2 .. | exact impl_DoWorks.mono .. | exact laws_eqHouse.mono .. | exact laws_eqWorkS.mono .. | exact laws_heldHouse.mono .. | exact laws_markHouse.mono .. | exact laws_markWorkS.mono .. | exact laws_toHouse.mono .. | exact laws_toWorkS.mono .. | exact spec_DoWorks.mono .. | exact LeO.refl .. | exact LeO.none .. | refine LeO.ite ?_ ?_ | refine LeO.bind ?_ (fun _ => ?_)
theorem laws_FnExactDoWorks.mono : ∀ a0 a1 a2 a3 a4 a5 k, LeO (laws_FnExactDoWorks.f k a0 a1 a2 a3 a4 a5) (laws_FnExactDoWorks.f (k + 1) a0 a1 a2 a3 a4 a5) := by
 intro a0 a1 a2 a3 a4 a5 k
 obtain ⟨ih0, ih1, ih2⟩ := laws_FnExactDoWorks.mono_l k
 unfold laws_FnExactDoWorks.f
 repeat' with_reducible first | exact ih0 .. | exact ih1 .. | exact ih2 .. | exact impl_DoWorks.mono .. | exact laws_eqHouse.mono .. | exact laws_eqWorkS.mono .. | exact laws_heldHouse.mono .. | exact laws_markHouse.mono .. | exact laws_markWorkS.mono .. | exact laws_toHouse.mono .. | exact laws_toWorkS.mono .. | exact spec_DoWorks.mono .. | exact LeO.refl .. | exact LeO.none .. | refine LeO.ite ?_ ?_ | refine LeO.bind ?_ (fun _ => ?_)
theorem laws_FnExactDoWorks.calls (k : Nat) (a0_0 : Int) (a0_1 : Bool) (A0_2 : Option Addr) (c0_2 : Nat) (l0_2 : List Int) (A0_3 : Option Addr) (c0_3 : Nat) (l0_3 : List Int) (a0_4 : Int) (A1 : Option Addr) (c1 : Nat) (l1 : List (S66)) (r : Bool) (w : World) (hr0_2 : Kd.C (Kd.int .i64) w A0_2 l0_2.length l0_2) (hc0_2 : l0_2.length ≤ c0_2) (hr0_3 : Kd.C (Kd.int .i64) w A0_3 l0_3.length l0_3) (hc0_3 : l0_3.length ≤ c0_3) (hr1 : Kd.C k66 w A1 l1.length l1) (hc1 : l1.length ≤ c1) (hG : TabOK w) (h : laws_FnExactDoWorks.f k a0_0 a0_1 l0_2 l0_3 a0_4 l1 = some r) :
  Calls Tryz.prog 3 #[.agg #[.int .i64 a0_0, .bool a0_1, .slice A0_2 l0_2.length c0_2, .slice A0_3 l0_3.length c0_3, .int .i64 a0_4], .slice A1 l1.length c1] w fun e w' => e = .returned (.bool r) ∧ Below w.heap.size w w' := by
 have HG0 := A0_ hG
 clear hG
 have hu26 := Tryz.underlying26
 have hu32 := Tryz.underlying32
 have HR0_2 := A0_ hr0_2
 have HC0_2 := A0_ hc0_2
 clear hr0_2 hc0_2
 have HR0_3 := A0_ hr0_3
 have HC0_3 := A0_ hc0_3
 clear hr0_3 hc0_3
 have HR1 := A0_ hr1
 have HC1 := A0_ hc1
 clear hr1 hc1
 have HB := A0_ (Below.refl w.heap.size w)
 have H : ((laws_szHouse.f a0_0 a0_1 l0_2 l0_3 a0_4 1048576).bind fun t1 => (if t1 < 0 then (some true) else ((laws_szWorkS.f l1 t1).bind fun t2 => (if t2 < 0 then (some true) else ((laws_toHouse.f k a0_0 a0_1 l0_2 l0_3 a0_4).bind fun bt1 => ((laws_toWorkS.f k l1).bind fun t3 => ((spec_DoWorks.f k bt1.1 bt1.2.1 bt1.2.2.1 bt1.2.2.2.1 bt1.2.2.2.2 t3).bind fun bt2 => ((laws_toHouse.f k a0_0 a0_1 l0_2 l0_3 a0_4).bind fun bt3 => ((laws_toWorkS.f k l1).bind fun t4 => ((impl_DoWorks.f k bt3.1 bt3.2.1 bt3.2.2.1 bt3.2.2.2.1 bt3.2.2.2.2 t4).bind fun bt4 => ((laws_eqHouse.f k bt4.1 bt4.2.1 bt4.2.2.1 bt4.2.2.2.1 bt4.2.2.2.2.1 bt2.1 bt2.2.1 bt2.2.2.1 bt2.2.2.2.1 bt2.2.2.2.2.1).bind fun t5 => (if t5 = true then (if bt4.2.2.2.2.2.1 = bt2.2.2.2.2.2.1 then (laws_FnExactDoWorks.j0 k l1 bt2.2.2.2.2.2.1 bt2.2.2.2.2.2.2 t4 bt4.2.2.2.2.2.1 bt4.2.2.2.2.2.2 (bt4.2.2.2.2.2.2 != bt2.2.2.2.2.2.2) a0_0 a0_1 l0_2 l0_3 a0_4 bt2.1 bt2.2.1 bt2.2.2.1 bt2.2.2.2.1 bt2.2.2.2.2.1 bt3.1 bt3.2.1 bt3.2.2.1 bt3.2.2.2.1 bt3.2.2.2.2 bt4.1 bt4.2.1 bt4.2.2.1 bt4.2.2.2.1 bt4.2.2.2.2.1) else (laws_FnExactDoWorks.j0 k l1 bt2.2.2.2.2.2.1 bt2.2.2.2.2.2.2 t4 bt4.2.2.2.2.2.1 bt4.2.2.2.2.2.2 true a0_0 a0_1 l0_2 l0_3 a0_4 bt2.1 bt2.2.1 bt2.2.2.1 bt2.2.2.2.1 bt2.2.2.2.2.1 bt3.1 bt3.2.1 bt3.2.2.1 bt3.2.2.2.1 bt3.2.2.2.2 bt4.1 bt4.2.1 bt4.2.2.1 bt4.2.2.2.1 bt4.2.2.2.2.1)) else (laws_FnExactDoWorks.j0 k l1 bt2.2.2.2.2.2.1 bt2.2.2.2.2.2.2 t4 bt4.2.2.2.2.2.1 bt4.2.2.2.2.2.2 true a0_0 a0_1 l0_2 l0_3 a0_4 bt2.1 bt2.2.1 bt2.2.2.1 bt2.2.2.2.1 bt2.2.2.2.2.1 bt3.1 bt3.2.1 bt3.2.2.1 bt3.2.2.2.1 bt3.2.2.2.2 bt4.1 bt4.2.1 bt4.2.2.1 bt4.2.2.2.1 bt4.2.2.2.2.1))))))))))))) = some r := h
 clear h
 obtain ⟨t1, A3, H⟩ := o1_ H
 by_cases c2 : t1 < 0
 ·rw [if_pos c2] at H
  have c2b0 : decide (t1 < 0) = true := dt_ c2
  clear c2
  obtain rfl := si_ H
  go_enter Tryz.func3, Tryz.ntmps3
  go_wp2_with (first | ((with_reducible refine gd_ (N := 2) rfl ?_); refine bx_ 2 #[.int .i64 a0_0, .bool a0_1, .slice A0_2 l0_2.length c0_2, .slice A0_3 l0_3.length c0_3, .int .i64 a0_4] 26 ?_; intro gb1 hg w1 BK1 hb; have GW1 := ge_ hg brt4_; have GE1 := GW1; replace HB := hb_ hb brt4_; clear hb hg; have hcz1 := z5_ BK1) | ((with_reducible refine gc_ (f := 5) rfl ?_); refine gl_ 22 Tryz.func5 #[.agg #[.int .i64 a0_0, .bool a0_1, .slice A0_2 l0_2.length c0_2, .slice A0_3 l0_3.length c0_3, .int .i64 a0_4], .int .i64 1048576] ?_; (with_reducible refine (laws_szHouse.calls a0_0 a0_1 _ _ l0_2 _ _ l0_3 a0_4 1048576 t1 _ ?side1 ?side2 ?side3 ?side4 A3.out).mono ?_); (case side1 => exact b6n8_); (case side2 => exact HC0_2.out); (case side3 => exact bkan_); (case side4 => exact HC0_3.out); rintro e w2 ⟨rfl, hb⟩; refine ⟨_, rfl, ?_⟩; replace BK1 := k1_ BK1 hb; replace HB := hb_ hb be6g_; (try clear hb)))
  go_ret
  exact ⟨bnwh_, be6g_⟩
 rw [if_neg c2] at H
 have c2b0 : decide (t1 < 0) = false := decide_eq_false c2
 clear c2
 obtain ⟨t2, A5, H⟩ := o1_ H
 by_cases c3 : t2 < 0
 ·rw [if_pos c3] at H
  have c3b0 : decide (t2 < 0) = true := dt_ c3
  clear c3
  obtain rfl := si_ H
  go_enter Tryz.func3, Tryz.ntmps3
  go_wp2_with (first | ((with_reducible refine gd_ (N := 2) rfl ?_); refine bx_ 2 #[.int .i64 a0_0, .bool a0_1, .slice A0_2 l0_2.length c0_2, .slice A0_3 l0_3.length c0_3, .int .i64 a0_4] 26 ?_; intro gb1 hg w1 BK1 hb; have GW1 := ge_ hg brt4_; have GE1 := GW1; replace HB := hb_ hb brt4_; clear hb hg; have hcz1 := z5_ BK1) | ((with_reducible refine gc_ (f := 5) rfl ?_); refine gl_ 22 Tryz.func5 #[.agg #[.int .i64 a0_0, .bool a0_1, .slice A0_2 l0_2.length c0_2, .slice A0_3 l0_3.length c0_3, .int .i64 a0_4], .int .i64 1048576] ?_; (with_reducible refine (laws_szHouse.calls a0_0 a0_1 _ _ l0_2 _ _ l0_3 a0_4 1048576 t1 _ ?side1 ?side2 ?side3 ?side4 A3.out).mono ?_); (case side1 => exact b6n8_); (case side2 => exact HC0_2.out); (case side3 => exact bkan_); (case side4 => exact HC0_3.out); rintro e w2 ⟨rfl, hb⟩; refine ⟨_, rfl, ?_⟩; replace BK1 := k1_ BK1 hb; replace HB := hb_ hb be6g_; (try clear hb)) | ((with_reducible refine gc_ (f := 6) rfl ?_); refine gl_ 27 Tryz.func6 #[.slice A1 l1.length c1, .int .i64 t1] ?_; (with_reducible refine (laws_szWorkS.calls _ _ l1 t1 t2 _ ?side1 ?side2 A5.out).mono ?_); (case side1 => exact b3d8_); (case side2 => exact HC1.out); rintro e w' ⟨rfl, ⟨nd, rfl⟩⟩; refine ⟨_, rfl, ?_⟩))
  go_ret
  exact ⟨bnwh_, be6g_⟩
 rw [if_neg c3] at H
 have c3b0 : decide (t2 < 0) = false := decide_eq_false c3
 clear c3
 obtain ⟨⟨t6, t7, t8, t9, t10⟩, A7, H⟩ := o1_ H
 obtain ⟨t3, A9, H⟩ := o1_ H
 obtain ⟨⟨t11, t12, t13, t14, t15, t16, t17⟩, A11, H⟩ := o1_ H
 obtain ⟨⟨t18, t19, t20, t21, t22⟩, A13, H⟩ := o1_ H
 obtain ⟨t4, A15, H⟩ := o1_ H
 obtain ⟨⟨t23, t24, t25, t26, t27, t28, t29⟩, A17, H⟩ := o1_ H
 have HC19 := A0_ H
 clear H
 go_enter Tryz.func3, Tryz.ntmps3
 go_upto_region 12 with (first | ((with_reducible refine gd_ (N := 2) rfl ?_); refine bx_ 2 #[.int .i64 a0_0, .bool a0_1, .slice A0_2 l0_2.length c0_2, .slice A0_3 l0_3.length c0_3, .int .i64 a0_4] 26 ?_; intro gb1 hg w1 BK1 hb; have GW1 := ge_ hg brt4_; have GE1 := GW1; replace HB := hb_ hb brt4_; clear hb hg; have hcz1 := z5_ BK1) | ((with_reducible refine gc_ (f := 5) rfl ?_); refine gl_ 22 Tryz.func5 #[.agg #[.int .i64 a0_0, .bool a0_1, .slice A0_2 l0_2.length c0_2, .slice A0_3 l0_3.length c0_3, .int .i64 a0_4], .int .i64 1048576] ?_; (with_reducible refine (laws_szHouse.calls a0_0 a0_1 _ _ l0_2 _ _ l0_3 a0_4 1048576 t1 _ ?side1 ?side2 ?side3 ?side4 A3.out).mono ?_); (case side1 => exact b6n8_); (case side2 => exact HC0_2.out); (case side3 => exact bkan_); (case side4 => exact HC0_3.out); rintro e w2 ⟨rfl, hb⟩; refine ⟨_, rfl, ?_⟩; replace BK1 := k1_ BK1 hb; replace HB := hb_ hb be6g_; (try clear hb)) | ((with_reducible refine gc_ (f := 6) rfl ?_); refine gl_ 27 Tryz.func6 #[.slice A1 l1.length c1, .int .i64 t1] ?_; (with_reducible refine (laws_szWorkS.calls _ _ l1 t1 t2 _ ?side1 ?side2 A5.out).mono ?_); (case side1 => exact b3d8_); (case side2 => exact HC1.out); rintro e w' ⟨rfl, ⟨nd, rfl⟩⟩; refine ⟨_, rfl, ?_⟩; (try (rw [drewN_self w2]; generalize hq_ : World.drewN w2 _ = w2; have n0_ : Aside0 (w2.heap[gb1]? = some (.cells #[.int .i64 a0_0, .bool a0_1, .slice A0_2 l0_2.length c0_2, .slice A0_3 l0_3.length c0_3, .int .i64 a0_4] 26 (0, 0))) := ⟨b53m_⟩; have n1_ : Aside0 (Below w.heap.size w w2) := ⟨by rw [← hq_]; exact be6g_⟩; clear BK1 HB hq_; have BK1 := n0_; have HB := n1_; clear n0_ n1_)); have hcz2 := z5_ BK1) | ((with_reducible refine gc_ (f := 8) rfl ?_); refine gl_ 32 Tryz.func8 #[.agg #[.int .i64 a0_0, .bool a0_1, .slice A0_2 l0_2.length c0_2, .slice A0_3 l0_3.length c0_3, .int .i64 a0_4]] ?_; (with_reducible refine (laws_toHouse.calls k a0_0 a0_1 _ _ l0_2 _ _ l0_3 a0_4 t6 t7 t8 t9 t10 _ ?side1 ?side2 ?side3 ?side4 A7.out).mono ?_); (case side1 => exact b6n8_); (case side2 => exact HC0_2.out); (case side3 => exact bkan_); (case side4 => exact HC0_3.out); rintro e w3 ⟨v1, v2, rfl, ho0, ho1, hb⟩; refine ⟨_, rfl, ?_⟩; have HO1 := A0_ (Kd.R_lower ho0 (bz_ be6g_)); have HO2 := A0_ (Kd.R_lower ho1 (bz_ be6g_)); replace BK1 := k1_ BK1 hb; replace HB := hb_ hb be6g_; (try clear hb); (try clear ho0); (try clear ho1)) | ((with_reducible refine gc_ (f := 9) rfl ?_); refine gl_ 34 Tryz.func9 #[.slice A1 l1.length c1] ?_; (with_reducible refine (laws_toWorkS.calls k _ _ l1 t3 _ ?side1 ?side2 A9.out).mono ?_); (case side1 => exact b3d8_); (case side2 => exact HC1.out); rintro e w4 ⟨v3, rfl, ho0, hb⟩; refine ⟨_, rfl, ?_⟩; replace HO1 := A0_ (Kd.R_below bsm5_ hb); replace HO2 := A0_ (Kd.R_below b9so_ hb); have HO3 := A0_ (Kd.R_lower ho0 (bz_ be6g_)); replace BK1 := k1_ BK1 hb; replace HB := hb_ hb be6g_; (try clear hb); (try clear ho0); obtain ⟨Ao1, co1, eo1⟩ := Kd.R_slice HO1.out; subst eo1; obtain ⟨Ao2, co2, eo2⟩ := Kd.R_slice HO2.out; subst eo2; obtain ⟨Ao3, co3, eo3⟩ := Kd.R_slice HO3.out; subst eo3) | ((with_reducible refine gc_ (f := 7) rfl ?_); refine gl_ 35 Tryz.func7 #[.agg #[.int .i64 t6, .bool t7, .slice Ao1 t8.length co1, .slice Ao2 t9.length co2, .int .i64 t10], .slice Ao3 t3.length co3] ?_; (with_reducible refine (spec_DoWorks.calls k t6 t7 _ _ t8 _ _ t9 t10 _ _ t3 t11 t12 t13 t14 t15 t16 t17 _ ?side1 ?side2 ?side3 ?side4 ?side5 ?side6 A11.out).mono ?_); (case side1 => exact bayy_); (case side2 => exact (rr_ HO1.out).2.1); (case side3 => exact ba04_); (case side4 => exact (rr_ HO2.out).2.1); (case side5 => exact be4z_); (case side6 => exact (rr_ HO3.out).2.1); rintro e w5 ⟨v4, v5, rfl, ho0, ho1, hb⟩; refine ⟨_, rfl, ?_⟩; replace HO3 := A0_ (Kd.R_below buiy_ hb); have HO4 := A0_ (Kd.R_lower (Kd.R_new' (Kd.R_new' ho0 (Kd.R_lt bsm5_)) (Kd.R_lt b9so_)) (bz_ be6g_)); have HO5 := A0_ (Kd.R_lower (Kd.R_new' (Kd.R_new' ho1 (Kd.R_lt bsm5_)) (Kd.R_lt b9so_)) (bz_ be6g_)); replace HO1 := A0_ (Kd.R_mono (Kd.R_told (Kd.R_told (Kd.R_old bsm5_ hb) (Kd.R_base ho0)) (Kd.R_base ho1)) (fun _ h_ => h_.1)); replace HO2 := A0_ (Kd.R_mono (Kd.R_told (Kd.R_told (Kd.R_old b9so_ hb) (Kd.R_base ho0)) (Kd.R_base ho1)) (fun _ h_ => h_.1)); replace BK1 := k1_ BK1 hb; replace HB := hb_ hb be6g_; (try clear hb); (try clear ho0); (try clear ho1)) | ((with_reducible refine gd_ (N := 6) rfl ?_); refine bx_ 6 #[.int .i64 0, .bool false, .slice none 0 0, .slice none 0 0, .int .i64 0] 32 ?_; intro gb2 hg w6 BK2 hb; replace HO1 := A0_ (Kd.R_below bsm5_ hb); replace HO2 := A0_ (Kd.R_below b9so_ hb); replace HO3 := A0_ (Kd.R_below buiy_ hb); replace HO4 := A0_ (Kd.R_below b6ip_ hb); replace HO5 := A0_ (Kd.R_below bzg4_ hb); have GW2 := ge_ hg be6g_; have GE2 := GW2; replace HB := hb_ hb be6g_; have NB1_2 := nl_ hg BK1; have NB2_1 := ng_ hg BK1; replace BK1 := k1_ BK1 hb; clear hb hg; have hnb1 := NB2_1.out; have hnc1 := NB1_2.out; have hcz3 := z5_ BK2; obtain ⟨Ao4, co4, eo4⟩ := Kd.R_slice HO4.out; subst eo4; obtain ⟨Ao5, co5, eo5⟩ := Kd.R_slice HO5.out; subst eo5; have hcz4_0 : w6.cell? ⟨gb1, 0, none⟩ = some (.int .i64 a0_0) := (kc_ BK1.out 0).trans rfl; have hcz4_1 : w6.cell? ⟨gb1, 1, none⟩ = some (.bool a0_1) := (kc_ BK1.out 1).trans rfl; have hcz4_2 : w6.cell? ⟨gb1, 2, none⟩ = some (.slice A0_2 l0_2.length c0_2) := (kc_ BK1.out 2).trans rfl; have hcz4_3 : w6.cell? ⟨gb1, 3, none⟩ = some (.slice A0_3 l0_3.length c0_3) := (kc_ BK1.out 3).trans rfl; have hcz4_4 : w6.cell? ⟨gb1, 4, none⟩ = some (.int .i64 a0_4) := (kc_ BK1.out 4).trans rfl; have hfz4_0 := kf_ BK1.out 0; have hfz4_1 := kf_ BK1.out 1; have hfz4_2 := kf_ BK1.out 2; have hfz4_3 := kf_ BK1.out 3; have hfz4_4 := kf_ BK1.out 4) | ((with_reducible refine gc_ (f := 8) rfl ?_); refine gl_ 40 Tryz.func8 #[.agg #[.int .i64 a0_0, .bool a0_1, .slice A0_2 l0_2.length c0_2, .slice A0_3 l0_3.length c0_3, .int .i64 a0_4]] ?_; (with_reducible refine (laws_toHouse.calls k a0_0 a0_1 _ _ l0_2 _ _ l0_3 a0_4 t18 t19 t20 t21 t22 _ ?side1 ?side2 ?side3 ?side4 A13.out).mono ?_); (case side1 => exact cb_ HR0_2.out bfnq_); (case side2 => exact HC0_2.out); (case side3 => exact cb_ HR0_3.out bfnq_); (case side4 => exact HC0_3.out); rintro e w7 ⟨v6, v7, rfl, ho0, ho1, hb⟩; refine ⟨_, rfl, ?_⟩; replace HO3 := A0_ (Kd.R_below (by (with_reducible repeat (first | apply ra_ | apply rn_ | apply rd_)); exact (Kd.R_mono (rf_ (rf_ (rf_ (rf_ (rf_ (Kd.R_types HO3.out BK2.out bi3y_) k2_0 _) k2_0 _) k2_0 _) k2_0 _) k2_0 _) (fun _ h_ => h_.1))) hb); have HO6 := A0_ (Kd.R_lower (Kd.R_new' (Kd.R_new' (Kd.R_new' (Kd.R_new' ho0 (Kd.R_lt b6sf_)) (Kd.R_lt byhc_)) (Kd.R_lt bk0v_)) (Kd.R_lt by3x_)) (bz_ bfnq_)); have HO7 := A0_ (Kd.R_lower (Kd.R_new' (Kd.R_new' (Kd.R_new' (Kd.R_new' ho1 (Kd.R_lt b6sf_)) (Kd.R_lt byhc_)) (Kd.R_lt bk0v_)) (Kd.R_lt by3x_)) (bz_ bfnq_)); replace HO1 := A0_ (Kd.R_mono (Kd.R_told (Kd.R_told (Kd.R_old b6sf_ hb) (Kd.R_base ho0)) (Kd.R_base ho1)) (fun _ h_ => h_.1)); replace HO2 := A0_ (Kd.R_mono (Kd.R_told (Kd.R_told (Kd.R_old byhc_ hb) (Kd.R_base ho0)) (Kd.R_base ho1)) (fun _ h_ => h_.1)); replace HO4 := A0_ (Kd.R_mono (Kd.R_told (Kd.R_told (Kd.R_old bk0v_ hb) (Kd.R_base ho0)) (Kd.R_base ho1)) (fun _ h_ => h_.1)); replace HO5 := A0_ (Kd.R_mono (Kd.R_told (Kd.R_told (Kd.R_old by3x_ hb) (Kd.R_base ho0)) (Kd.R_base ho1)) (fun _ h_ => h_.1)); replace BK1 := k1_ BK1 hb; replace BK2 := k2_ (.cells #[.int .i64 t11, .bool t12, .slice Ao4 t13.length co4, .slice Ao5 t14.length co5, .int .i64 t15] 32 (0, 0)) BK2 hb; replace HB := hb_ hb bfnq_; (try clear hb); (try clear ho0); (try clear ho1)) | ((with_reducible refine gd_ (N := 9) rfl ?_); refine bx_ 9 #[.int .i64 0, .bool false, .slice none 0 0, .slice none 0 0, .int .i64 0] 32 ?_; intro gb3 hg w8 BK3 hb; replace HO1 := A0_ (Kd.R_below bsm5_ hb); replace HO2 := A0_ (Kd.R_below b9so_ hb); replace HO3 := A0_ (Kd.R_below buiy_ hb); replace HO4 := A0_ (Kd.R_below b6ip_ hb); replace HO5 := A0_ (Kd.R_below bzg4_ hb); replace HO6 := A0_ (Kd.R_below btwl_ hb); replace HO7 := A0_ (Kd.R_below bqte_ hb); have GW3 := ge_ hg bfnq_; have GE3 := GW3; replace HB := hb_ hb bfnq_; have NB1_3 := nl_ hg BK1; have NB3_1 := ng_ hg BK1; replace BK1 := k1_ BK1 hb; have NB2_3 := nl_ hg BK2; have NB3_2 := ng_ hg BK2; replace BK2 := k1_ BK2 hb; clear hb hg; have hnb2 := NB3_1.out; have hnc2 := NB1_3.out; have hnb3 := NB3_2.out; have hnc3 := NB2_3.out; have hcz5 := z5_ BK3; obtain ⟨Ao6, co6, eo6⟩ := Kd.R_slice HO6.out; subst eo6; obtain ⟨Ao7, co7, eo7⟩ := Kd.R_slice HO7.out; subst eo7) | ((with_reducible refine gc_ (f := 9) rfl ?_); refine gl_ 42 Tryz.func9 #[.slice A1 l1.length c1] ?_; (with_reducible refine (laws_toWorkS.calls k _ _ l1 t4 _ ?side1 ?side2 A15.out).mono ?_); (case side1 => exact cb_ HR1.out b850_); (case side2 => exact HC1.out); rintro e w9 ⟨v8, rfl, ho0, hb⟩; refine ⟨_, rfl, ?_⟩; replace HO1 := A0_ (Kd.R_below (by (with_reducible repeat (first | apply ra_ | apply rn_ | apply rd_)); exact (Kd.R_mono (rf_ (rf_ (rf_ (rf_ (rf_ (Kd.R_types HO1.out BK3.out bi3y_) k2_0 _) k2_0 _) k2_0 _) k2_0 _) k2_0 _) (fun _ h_ => h_.1))) hb); replace HO2 := A0_ (Kd.R_below (by (with_reducible repeat (first | apply ra_ | apply rn_ | apply rd_)); exact (Kd.R_mono (rf_ (rf_ (rf_ (rf_ (rf_ (Kd.R_types HO2.out BK3.out bi3y_) k2_0 _) k2_0 _) k2_0 _) k2_0 _) k2_0 _) (fun _ h_ => h_.1))) hb); replace HO4 := A0_ (Kd.R_below (by (with_reducible repeat (first | apply ra_ | apply rn_ | apply rd_)); exact (Kd.R_mono (rf_ (rf_ (rf_ (rf_ (rf_ (Kd.R_types HO4.out BK3.out bi3y_) k2_0 _) k2_0 _) k2_0 _) k2_0 _) k2_0 _) (fun _ h_ => h_.1))) hb); replace HO5 := A0_ (Kd.R_below (by (with_reducible repeat (first | apply ra_ | apply rn_ | apply rd_)); exact (Kd.R_mono (rf_ (rf_ (rf_ (rf_ (rf_ (Kd.R_types HO5.out BK3.out bi3y_) k2_0 _) k2_0 _) k2_0 _) k2_0 _) k2_0 _) (fun _ h_ => h_.1))) hb); replace HO6 := A0_ (Kd.R_below (by (with_reducible repeat (first | apply ra_ | apply rn_ | apply rd_)); exact (Kd.R_mono (rf_ (rf_ (rf_ (rf_ (rf_ (Kd.R_types HO6.out BK3.out bi3y_) k2_0 _) k2_0 _) k2_0 _) k2_0 _) k2_0 _) (fun _ h_ => h_.1))) hb); replace HO7 := A0_ (Kd.R_below (by (with_reducible repeat (first | apply ra_ | apply rn_ | apply rd_)); exact (Kd.R_mono (rf_ (rf_ (rf_ (rf_ (rf_ (Kd.R_types HO7.out BK3.out bi3y_) k2_0 _) k2_0 _) k2_0 _) k2_0 _) k2_0 _) (fun _ h_ => h_.1))) hb); have HO8 := A0_ (Kd.R_lower (Kd.R_new' ho0 (Kd.R_lt bhj0_)) (bz_ b850_)); replace HO3 := A0_ (Kd.R_elder' bhj0_ (Kd.R_base ho0) hb); replace BK1 := k1_ BK1 hb; replace BK2 := k1_ BK2 hb; replace BK3 := k2_ (.cells #[.int .i64 t18, .bool t19, .slice Ao6 t20.length co6, .slice Ao7 t21.length co7, .int .i64 t22] 32 (0, 0)) BK3 hb; replace HB := hb_ hb b850_; (try clear hb); (try clear ho0); have hcz6 := z5_ BK3; obtain ⟨Ao8, co8, eo8⟩ := Kd.R_slice HO8.out; subst eo8) | ((with_reducible refine gc_ (f := 10) rfl ?_); refine gl_ 46 Tryz.func10 #[.agg #[.int .i64 t18, .bool t19, .slice Ao6 t20.length co6, .slice Ao7 t21.length co7, .int .i64 t22], .slice Ao8 t4.length co8] ?_; (with_reducible refine (impl_DoWorks.calls k t18 t19 _ _ t20 _ _ t21 t22 _ _ t4 t23 t24 t25 t26 t27 t28 t29 _ ?side1 ?side2 ?side3 ?side4 ?side5 ?side6 b8s7_ A17.out).mono ?_); (case side1 => exact (by repeat (first | exact (rr_ HO6.out).2.2 | (with_reducible refine ca_ ?_ _) | (with_reducible refine cn_ ?_ _) | (with_reducible refine cd_ ?_)))); (case side2 => exact (rr_ HO6.out).2.1); (case side3 => exact (by repeat (first | exact (rr_ HO7.out).2.2 | (with_reducible refine ca_ ?_ _) | (with_reducible refine cn_ ?_ _) | (with_reducible refine cd_ ?_)))); (case side4 => exact (rr_ HO7.out).2.1); (case side5 => exact (by repeat (first | exact (rr_ HO8.out).2.2 | (with_reducible refine ca_ ?_ _) | (with_reducible refine cn_ ?_ _) | (with_reducible refine cd_ ?_)))); (case side6 => exact (rr_ HO8.out).2.1); rintro e w10 ⟨v9, v10, rfl, ho0, ho1, hb⟩; refine ⟨_, rfl, ?_⟩; replace HO3 := A0_ (Kd.R_below buiy_ hb); replace HO8 := A0_ (Kd.R_below (by (with_reducible repeat (first | apply ra_ | apply rn_ | apply rd_)); exact HO8.out) hb); have HO9 := A0_ (Kd.R_lower (Kd.R_new' (Kd.R_new' (Kd.R_new' (Kd.R_new' (Kd.R_new' (Kd.R_new' ho0 (Kd.R_lt bsm5_)) (Kd.R_lt b9so_)) (Kd.R_lt b6ip_)) (Kd.R_lt bzg4_)) (Kd.R_lt btwl_)) (Kd.R_lt bqte_)) (bz_ b850_)); have HO10 := A0_ (Kd.R_lower (Kd.R_new' (Kd.R_new' (Kd.R_new' (Kd.R_new' (Kd.R_new' (Kd.R_new' ho1 (Kd.R_lt bsm5_)) (Kd.R_lt b9so_)) (Kd.R_lt b6ip_)) (Kd.R_lt bzg4_)) (Kd.R_lt btwl_)) (Kd.R_lt bqte_)) (bz_ b850_)); replace HO1 := A0_ (Kd.R_mono (Kd.R_told (Kd.R_told (Kd.R_old bsm5_ hb) (Kd.R_base ho0)) (Kd.R_base ho1)) (fun _ h_ => h_.1)); replace HO2 := A0_ (Kd.R_mono (Kd.R_told (Kd.R_told (Kd.R_old b9so_ hb) (Kd.R_base ho0)) (Kd.R_base ho1)) (fun _ h_ => h_.1)); replace HO4 := A0_ (Kd.R_mono (Kd.R_told (Kd.R_told (Kd.R_old b6ip_ hb) (Kd.R_base ho0)) (Kd.R_base ho1)) (fun _ h_ => h_.1)); replace HO5 := A0_ (Kd.R_mono (Kd.R_told (Kd.R_told (Kd.R_old bzg4_ hb) (Kd.R_base ho0)) (Kd.R_base ho1)) (fun _ h_ => h_.1)); replace HO6 := A0_ (Kd.R_mono (Kd.R_told (Kd.R_told (Kd.R_old btwl_ hb) (Kd.R_base ho0)) (Kd.R_base ho1)) (fun _ h_ => h_.1)); replace HO7 := A0_ (Kd.R_mono (Kd.R_told (Kd.R_told (Kd.R_old bqte_ hb) (Kd.R_base ho0)) (Kd.R_base ho1)) (fun _ h_ => h_.1)); replace BK1 := k1_ BK1 hb; replace BK2 := k1_ BK2 hb; replace BK3 := k1_ BK3 hb; replace HB := hb_ hb b850_; (try clear hb); (try clear ho0); (try clear ho1)) | ((with_reducible refine gd_ (N := 11) rfl ?_); refine bx_ 11 #[.int .i64 0, .bool false, .slice none 0 0, .slice none 0 0, .int .i64 0] 32 ?_; intro gb4 hg w11 BK4 hb; replace HO1 := A0_ (Kd.R_below bsm5_ hb); replace HO2 := A0_ (Kd.R_below b9so_ hb); replace HO3 := A0_ (Kd.R_below buiy_ hb); replace HO4 := A0_ (Kd.R_below b6ip_ hb); replace HO5 := A0_ (Kd.R_below bzg4_ hb); replace HO6 := A0_ (Kd.R_below btwl_ hb); replace HO7 := A0_ (Kd.R_below bqte_ hb); replace HO8 := A0_ (Kd.R_below (by (with_reducible repeat (first | apply ra_ | apply rn_ | apply rd_)); exact HO8.out) hb); replace HO9 := A0_ (Kd.R_below (by (with_reducible repeat (first | apply ra_ | apply rn_ | apply rd_)); exact HO9.out) hb); replace HO10 := A0_ (Kd.R_below (by (with_reducible repeat (first | apply ra_ | apply rn_ | apply rd_)); exact HO10.out) hb); have GW4 := ge_ hg b850_; have GE4 := GW4; replace HB := hb_ hb b850_; have NB1_4 := nl_ hg BK1; have NB4_1 := ng_ hg BK1; replace BK1 := k1_ BK1 hb; have NB2_4 := nl_ hg BK2; have NB4_2 := ng_ hg BK2; replace BK2 := k1_ BK2 hb; have NB3_4 := nl_ hg BK3; have NB4_3 := ng_ hg BK3; replace BK3 := k1_ BK3 hb; clear hb hg; have hnb4 := NB4_1.out; have hnc4 := NB1_4.out; have hnb5 := NB4_2.out; have hnc5 := NB2_4.out; have hnb6 := NB4_3.out; have hnc6 := NB3_4.out; have hcz7 := z5_ BK4; obtain ⟨Ao9, co9, eo9⟩ := Kd.R_slice HO9.out; subst eo9; obtain ⟨Ao10, co10, eo10⟩ := Kd.R_slice HO10.out; subst eo10))
 (try simp only [Act.put, sa_, sz_, ss_])
 go_cut [63] from 20 to 63 (fun v11 wc => ∃ (kq : Nat) (x63_18 : Bool), v11 = .bool x63_18 ∧ Aside0 (laws_FnExactDoWorks.j0 kq l1 t16 t17 t4 t28 t29 x63_18 a0_0 a0_1 l0_2 l0_3 a0_4 t11 t12 t13 t14 t15 t18 t19 t20 t21 t22 t23 t24 t25 t26 t27 = some r) ∧ Aside0 (kq ≤ k) ∧ Aside0 (Kd.R k50 50 wc w.heap.size (fun _ => True) (.slice Ao8 t4.length co8) t4) ∧ Aside0 (Kd.R (Kd.int .i64) 3 wc w.heap.size (fun k_ => no_ (.slice Ao5 t14.length co5) k_ ∧ no_ (.slice Ao6 t20.length co6) k_ ∧ no_ (.slice Ao7 t21.length co7) k_ ∧ no_ (.slice Ao9 t25.length co9) k_ ∧ no_ (.slice Ao10 t26.length co10) k_) (.slice Ao4 t13.length co4) t13) ∧ Aside0 (Kd.R (Kd.int .i64) 3 wc w.heap.size (fun k_ => no_ (.slice Ao4 t13.length co4) k_ ∧ no_ (.slice Ao6 t20.length co6) k_ ∧ no_ (.slice Ao7 t21.length co7) k_ ∧ no_ (.slice Ao9 t25.length co9) k_ ∧ no_ (.slice Ao10 t26.length co10) k_) (.slice Ao5 t14.length co5) t14) ∧ Aside0 (Kd.R (Kd.int .i64) 3 wc w.heap.size (fun k_ => no_ (.slice Ao4 t13.length co4) k_ ∧ no_ (.slice Ao5 t14.length co5) k_ ∧ no_ (.slice Ao7 t21.length co7) k_ ∧ no_ (.slice Ao9 t25.length co9) k_ ∧ no_ (.slice Ao10 t26.length co10) k_) (.slice Ao6 t20.length co6) t20) ∧ Aside0 (Kd.R (Kd.int .i64) 3 wc w.heap.size (fun k_ => no_ (.slice Ao4 t13.length co4) k_ ∧ no_ (.slice Ao5 t14.length co5) k_ ∧ no_ (.slice Ao6 t20.length co6) k_ ∧ no_ (.slice Ao9 t25.length co9) k_ ∧ no_ (.slice Ao10 t26.length co10) k_) (.slice Ao7 t21.length co7) t21) ∧ Aside0 (Kd.R (Kd.int .i64) 3 wc w.heap.size (fun k_ => no_ (.slice Ao4 t13.length co4) k_ ∧ no_ (.slice Ao5 t14.length co5) k_ ∧ no_ (.slice Ao6 t20.length co6) k_ ∧ no_ (.slice Ao7 t21.length co7) k_ ∧ no_ (.slice Ao10 t26.length co10) k_) (.slice Ao9 t25.length co9) t25) ∧ Aside0 (Kd.R (Kd.int .i64) 3 wc w.heap.size (fun k_ => no_ (.slice Ao4 t13.length co4) k_ ∧ no_ (.slice Ao5 t14.length co5) k_ ∧ no_ (.slice Ao6 t20.length co6) k_ ∧ no_ (.slice Ao7 t21.length co7) k_ ∧ no_ (.slice Ao9 t25.length co9) k_) (.slice Ao10 t26.length co10) t26) ∧ Aside0 (wc.heap[gb1]? = some (.cells #[.int .i64 a0_0, .bool a0_1, (.slice A0_2 l0_2.length c0_2), (.slice A0_3 l0_3.length c0_3), .int .i64 a0_4] 26 (0, 0))) ∧ Aside0 (wc.heap[gb2]? = some (.cells #[.int .i64 t11, .bool t12, (.slice Ao4 t13.length co4), (.slice Ao5 t14.length co5), .int .i64 t15] 32 (0, 0))) ∧ Aside0 (wc.heap[gb3]? = some (.cells #[.int .i64 t18, .bool t19, (.slice Ao6 t20.length co6), (.slice Ao7 t21.length co7), .int .i64 t22] 32 (0, 0))) ∧ Aside0 (wc.heap[gb4]? = some (.cells #[.int .i64 t23, .bool t24, (.slice Ao9 t25.length co9), (.slice Ao10 t26.length co10), .int .i64 t27] 32 (0, 0))) ∧ Aside0 (Below w.heap.size w wc))
 case first =>
  have H := HC19.out
  clear HC19
  obtain ⟨t5, A19, H⟩ := o1_ H
  by_cases c4 : t5 = true
  case neg =>
   obtain rfl := bf_.mpr c4
   rw [if_neg ft_] at H
   have H' := A0_ H
   clear H
   have hnb7 := NB4_1.out
   have hnc7 := NB1_4.out
   have hnb8 := NB4_2.out
   have hnc8 := NB2_4.out
   have hnb9 := NB4_3.out
   have hnc9 := NB3_4.out
   have hcz8 := z5_ BK4
   have hnb10 := NB2_1.out
   have hnc10 := NB1_2.out
   have hnb11 := NB2_3.out
   have hnc11 := NB3_2.out
   have hcz9 := z5_ BK2
   go_wp2_with (first | ((with_reducible refine gc_ (f := 11) rfl ?_); refine gl_ 52 Tryz.func11 #[.agg #[.int .i64 t23, .bool t24, .slice Ao9 t25.length co9, .slice Ao10 t26.length co10, .int .i64 t27], .agg #[.int .i64 t11, .bool t12, .slice Ao4 t13.length co4, .slice Ao5 t14.length co5, .int .i64 t15]] ?_; (with_reducible refine (laws_eqHouse.calls k t23 t24 _ _ t25 _ _ t26 t27 t11 t12 _ _ t13 _ _ t14 t15 false _ ?side1 ?side2 ?side3 ?side4 ?side5 ?side6 ?side7 ?side8 A19.out).mono ?_); (case side1 => refine (rr_ (e := 3) (base := w.heap.size) (ok := fun k_ => ((((((no_ (.slice Ao10 t26.length co10) k_ ∧ no_ (.slice Ao1 t8.length co1) k_) ∧ no_ (.slice Ao2 t9.length co2) k_) ∧ no_ (.slice Ao4 t13.length co4) k_) ∧ no_ (.slice Ao5 t14.length co5) k_) ∧ no_ (.slice Ao6 t20.length co6) k_) ∧ no_ (.slice Ao7 t21.length co7) k_)) (n := t25.length) (c := co9) ?_).2.2; exact bvf8_); (case side2 => exact (rr_ HO9.out).2.1); (case side3 => refine (rr_ (e := 3) (base := w.heap.size) (ok := fun k_ => ((((((no_ (.slice Ao9 t25.length co9) k_ ∧ no_ (.slice Ao1 t8.length co1) k_) ∧ no_ (.slice Ao2 t9.length co2) k_) ∧ no_ (.slice Ao4 t13.length co4) k_) ∧ no_ (.slice Ao5 t14.length co5) k_) ∧ no_ (.slice Ao6 t20.length co6) k_) ∧ no_ (.slice Ao7 t21.length co7) k_)) (n := t26.length) (c := co10) ?_).2.2; exact b20u_); (case side4 => exact (rr_ HO10.out).2.1); (case side5 => refine (rr_ (e := 3) (base := w.heap.size) (ok := fun k_ => ((((((no_ (.slice Ao5 t14.length co5) k_ ∧ no_ (.slice Ao1 t8.length co1) k_) ∧ no_ (.slice Ao2 t9.length co2) k_) ∧ no_ (.slice Ao6 t20.length co6) k_) ∧ no_ (.slice Ao7 t21.length co7) k_) ∧ no_ (.slice Ao9 t25.length co9) k_) ∧ no_ (.slice Ao10 t26.length co10) k_)) (n := t13.length) (c := co4) ?_).2.2; exact bdo6_); (case side6 => exact (rr_ HO4.out).2.1); (case side7 => refine (rr_ (e := 3) (base := w.heap.size) (ok := fun k_ => ((((((no_ (.slice Ao4 t13.length co4) k_ ∧ no_ (.slice Ao1 t8.length co1) k_) ∧ no_ (.slice Ao2 t9.length co2) k_) ∧ no_ (.slice Ao6 t20.length co6) k_) ∧ no_ (.slice Ao7 t21.length co7) k_) ∧ no_ (.slice Ao9 t25.length co9) k_) ∧ no_ (.slice Ao10 t26.length co10) k_)) (n := t14.length) (c := co5) ?_).2.2; exact bjo6_); (case side8 => exact (rr_ HO5.out).2.1); rintro e w12 ⟨rfl, hb⟩; refine ⟨_, rfl, ?_⟩; replace HO1 := A0_ (Kd.R_below bq0f_ hb); replace HO2 := A0_ (Kd.R_below bu3r_ hb); replace HO3 := A0_ (Kd.R_below bcb6_ hb); replace HO4 := A0_ (Kd.R_below bdo6_ hb); replace HO5 := A0_ (Kd.R_below bjo6_ hb); replace HO6 := A0_ (Kd.R_below b484_ hb); replace HO7 := A0_ (Kd.R_below bw2a_ hb); replace HO8 := A0_ (Kd.R_below bar5_ hb); replace HO9 := A0_ (Kd.R_below bvf8_ hb); replace HO10 := A0_ (Kd.R_below b20u_ hb); replace BK1 := k1_ BK1 hb; replace BK2 := k1_ BK2 hb; replace BK3 := k1_ BK3 hb; replace BK4 := k2_ (.cells #[.int .i64 t23, .bool t24, .slice Ao9 t25.length co9, .slice Ao10 t26.length co10, .int .i64 t27] 32 (0, 0)) BK4 hb; replace HB := hb_ hb b2i7_; (try clear hb)))
   go_meet
   exact ⟨_, (true), b2ew_, H', ⟨bbn0_⟩, ⟨bek8_⟩, ⟨b36k_⟩, ⟨bs7h_⟩, ⟨bf7q_⟩, ⟨b174_⟩, ⟨bsuj_⟩, ⟨bsvu_⟩, ⟨u1_ BK1⟩, ⟨u1_ BK2⟩, ⟨u1_ BK3⟩, ⟨u1_ BK4⟩, ⟨b2i7_⟩⟩
  subst c4
  rw [if_pos rfl] at H
  by_cases c5 : t28 = t16
  case neg =>
   rw [if_neg c5] at H
   obtain ⟨c5b0, c5b1⟩ := ef_ c5
   (first | rw [c5b0] | (simp only [i64_w, i32_w]; rw [c5b0]) | skip)
   have H' := A0_ H
   clear H
   have hnb7 := NB4_1.out
   have hnc7 := NB1_4.out
   have hnb8 := NB4_2.out
   have hnc8 := NB2_4.out
   have hnb9 := NB4_3.out
   have hnc9 := NB3_4.out
   have hcz8 := z5_ BK4
   have hnb10 := NB2_1.out
   have hnc10 := NB1_2.out
   have hnb11 := NB2_3.out
   have hnc11 := NB3_2.out
   have hcz9 := z5_ BK2
   go_wp2_with (first | ((with_reducible refine gc_ (f := 11) rfl ?_); refine gl_ 52 Tryz.func11 #[.agg #[.int .i64 t23, .bool t24, .slice Ao9 t25.length co9, .slice Ao10 t26.length co10, .int .i64 t27], .agg #[.int .i64 t11, .bool t12, .slice Ao4 t13.length co4, .slice Ao5 t14.length co5, .int .i64 t15]] ?_; (with_reducible refine (laws_eqHouse.calls k t23 t24 _ _ t25 _ _ t26 t27 t11 t12 _ _ t13 _ _ t14 t15 true _ ?side1 ?side2 ?side3 ?side4 ?side5 ?side6 ?side7 ?side8 A19.out).mono ?_); (case side1 => refine (rr_ (e := 3) (base := w.heap.size) (ok := fun k_ => ((((((no_ (.slice Ao10 t26.length co10) k_ ∧ no_ (.slice Ao1 t8.length co1) k_) ∧ no_ (.slice Ao2 t9.length co2) k_) ∧ no_ (.slice Ao4 t13.length co4) k_) ∧ no_ (.slice Ao5 t14.length co5) k_) ∧ no_ (.slice Ao6 t20.length co6) k_) ∧ no_ (.slice Ao7 t21.length co7) k_)) (n := t25.length) (c := co9) ?_).2.2; exact bvf8_); (case side2 => exact (rr_ HO9.out).2.1); (case side3 => refine (rr_ (e := 3) (base := w.heap.size) (ok := fun k_ => ((((((no_ (.slice Ao9 t25.length co9) k_ ∧ no_ (.slice Ao1 t8.length co1) k_) ∧ no_ (.slice Ao2 t9.length co2) k_) ∧ no_ (.slice Ao4 t13.length co4) k_) ∧ no_ (.slice Ao5 t14.length co5) k_) ∧ no_ (.slice Ao6 t20.length co6) k_) ∧ no_ (.slice Ao7 t21.length co7) k_)) (n := t26.length) (c := co10) ?_).2.2; exact b20u_); (case side4 => exact (rr_ HO10.out).2.1); (case side5 => refine (rr_ (e := 3) (base := w.heap.size) (ok := fun k_ => ((((((no_ (.slice Ao5 t14.length co5) k_ ∧ no_ (.slice Ao1 t8.length co1) k_) ∧ no_ (.slice Ao2 t9.length co2) k_) ∧ no_ (.slice Ao6 t20.length co6) k_) ∧ no_ (.slice Ao7 t21.length co7) k_) ∧ no_ (.slice Ao9 t25.length co9) k_) ∧ no_ (.slice Ao10 t26.length co10) k_)) (n := t13.length) (c := co4) ?_).2.2; exact bdo6_); (case side6 => exact (rr_ HO4.out).2.1); (case side7 => refine (rr_ (e := 3) (base := w.heap.size) (ok := fun k_ => ((((((no_ (.slice Ao4 t13.length co4) k_ ∧ no_ (.slice Ao1 t8.length co1) k_) ∧ no_ (.slice Ao2 t9.length co2) k_) ∧ no_ (.slice Ao6 t20.length co6) k_) ∧ no_ (.slice Ao7 t21.length co7) k_) ∧ no_ (.slice Ao9 t25.length co9) k_) ∧ no_ (.slice Ao10 t26.length co10) k_)) (n := t14.length) (c := co5) ?_).2.2; exact bjo6_); (case side8 => exact (rr_ HO5.out).2.1); rintro e w12 ⟨rfl, hb⟩; refine ⟨_, rfl, ?_⟩; replace HO1 := A0_ (Kd.R_below bq0f_ hb); replace HO2 := A0_ (Kd.R_below bu3r_ hb); replace HO3 := A0_ (Kd.R_below bcb6_ hb); replace HO4 := A0_ (Kd.R_below bdo6_ hb); replace HO5 := A0_ (Kd.R_below bjo6_ hb); replace HO6 := A0_ (Kd.R_below b484_ hb); replace HO7 := A0_ (Kd.R_below bw2a_ hb); replace HO8 := A0_ (Kd.R_below bar5_ hb); replace HO9 := A0_ (Kd.R_below bvf8_ hb); replace HO10 := A0_ (Kd.R_below b20u_ hb); replace BK1 := k1_ BK1 hb; replace BK2 := k1_ BK2 hb; replace BK3 := k1_ BK3 hb; replace BK4 := k2_ (.cells #[.int .i64 t23, .bool t24, .slice Ao9 t25.length co9, .slice Ao10 t26.length co10, .int .i64 t27] 32 (0, 0)) BK4 hb; replace HB := hb_ hb b2i7_; (try clear hb)))
   go_meet
   exact ⟨_, (true), b2ew_, H', ⟨bbn0_⟩, ⟨bek8_⟩, ⟨b36k_⟩, ⟨bs7h_⟩, ⟨bf7q_⟩, ⟨b174_⟩, ⟨bsuj_⟩, ⟨bsvu_⟩, ⟨u1_ BK1⟩, ⟨u1_ BK2⟩, ⟨u1_ BK3⟩, ⟨u1_ BK4⟩, ⟨b2i7_⟩⟩
  rw [if_pos c5] at H
  obtain ⟨c5b0, c5b1⟩ := et_ c5
  clear c5
  (first | rw [c5b0] | (simp only [i64_w, i32_w]; rw [c5b0]) | skip)
  have H' := A0_ H
  clear H
  have hnb7 := NB4_1.out
  have hnc7 := NB1_4.out
  have hnb8 := NB4_2.out
  have hnc8 := NB2_4.out
  have hnb9 := NB4_3.out
  have hnc9 := NB3_4.out
  have hcz8 := z5_ BK4
  have hnb10 := NB2_1.out
  have hnc10 := NB1_2.out
  have hnb11 := NB2_3.out
  have hnc11 := NB3_2.out
  have hcz9 := z5_ BK2
  go_wp2_with (first | ((with_reducible refine gc_ (f := 11) rfl ?_); refine gl_ 52 Tryz.func11 #[.agg #[.int .i64 t23, .bool t24, .slice Ao9 t25.length co9, .slice Ao10 t26.length co10, .int .i64 t27], .agg #[.int .i64 t11, .bool t12, .slice Ao4 t13.length co4, .slice Ao5 t14.length co5, .int .i64 t15]] ?_; (with_reducible refine (laws_eqHouse.calls k t23 t24 _ _ t25 _ _ t26 t27 t11 t12 _ _ t13 _ _ t14 t15 true _ ?side1 ?side2 ?side3 ?side4 ?side5 ?side6 ?side7 ?side8 A19.out).mono ?_); (case side1 => refine (rr_ (e := 3) (base := w.heap.size) (ok := fun k_ => ((((((no_ (.slice Ao10 t26.length co10) k_ ∧ no_ (.slice Ao1 t8.length co1) k_) ∧ no_ (.slice Ao2 t9.length co2) k_) ∧ no_ (.slice Ao4 t13.length co4) k_) ∧ no_ (.slice Ao5 t14.length co5) k_) ∧ no_ (.slice Ao6 t20.length co6) k_) ∧ no_ (.slice Ao7 t21.length co7) k_)) (n := t25.length) (c := co9) ?_).2.2; exact bvf8_); (case side2 => exact (rr_ HO9.out).2.1); (case side3 => refine (rr_ (e := 3) (base := w.heap.size) (ok := fun k_ => ((((((no_ (.slice Ao9 t25.length co9) k_ ∧ no_ (.slice Ao1 t8.length co1) k_) ∧ no_ (.slice Ao2 t9.length co2) k_) ∧ no_ (.slice Ao4 t13.length co4) k_) ∧ no_ (.slice Ao5 t14.length co5) k_) ∧ no_ (.slice Ao6 t20.length co6) k_) ∧ no_ (.slice Ao7 t21.length co7) k_)) (n := t26.length) (c := co10) ?_).2.2; exact b20u_); (case side4 => exact (rr_ HO10.out).2.1); (case side5 => refine (rr_ (e := 3) (base := w.heap.size) (ok := fun k_ => ((((((no_ (.slice Ao5 t14.length co5) k_ ∧ no_ (.slice Ao1 t8.length co1) k_) ∧ no_ (.slice Ao2 t9.length co2) k_) ∧ no_ (.slice Ao6 t20.length co6) k_) ∧ no_ (.slice Ao7 t21.length co7) k_) ∧ no_ (.slice Ao9 t25.length co9) k_) ∧ no_ (.slice Ao10 t26.length co10) k_)) (n := t13.length) (c := co4) ?_).2.2; exact bdo6_); (case side6 => exact (rr_ HO4.out).2.1); (case side7 => refine (rr_ (e := 3) (base := w.heap.size) (ok := fun k_ => ((((((no_ (.slice Ao4 t13.length co4) k_ ∧ no_ (.slice Ao1 t8.length co1) k_) ∧ no_ (.slice Ao2 t9.length co2) k_) ∧ no_ (.slice Ao6 t20.length co6) k_) ∧ no_ (.slice Ao7 t21.length co7) k_) ∧ no_ (.slice Ao9 t25.length co9) k_) ∧ no_ (.slice Ao10 t26.length co10) k_)) (n := t14.length) (c := co5) ?_).2.2; exact bjo6_); (case side8 => exact (rr_ HO5.out).2.1); rintro e w12 ⟨rfl, hb⟩; refine ⟨_, rfl, ?_⟩; replace HO1 := A0_ (Kd.R_below bq0f_ hb); replace HO2 := A0_ (Kd.R_below bu3r_ hb); replace HO3 := A0_ (Kd.R_below bcb6_ hb); replace HO4 := A0_ (Kd.R_below bdo6_ hb); replace HO5 := A0_ (Kd.R_below bjo6_ hb); replace HO6 := A0_ (Kd.R_below b484_ hb); replace HO7 := A0_ (Kd.R_below bw2a_ hb); replace HO8 := A0_ (Kd.R_below bar5_ hb); replace HO9 := A0_ (Kd.R_below bvf8_ hb); replace HO10 := A0_ (Kd.R_below b20u_ hb); replace BK1 := k1_ BK1 hb; replace BK2 := k1_ BK2 hb; replace BK3 := k1_ BK3 hb; replace BK4 := k2_ (.cells #[.int .i64 t23, .bool t24, .slice Ao9 t25.length co9, .slice Ao10 t26.length co10, .int .i64 t27] 32 (0, 0)) BK4 hb; replace HB := hb_ hb b2i7_; (try clear hb)))
  go_meet
  exact ⟨_, ((t29 != t17)), b2ew_, H', ⟨bbn0_⟩, ⟨bek8_⟩, ⟨b36k_⟩, ⟨bs7h_⟩, ⟨bf7q_⟩, ⟨b174_⟩, ⟨bsuj_⟩, ⟨bsvu_⟩, ⟨u1_ BK1⟩, ⟨u1_ BK2⟩, ⟨u1_ BK3⟩, ⟨u1_ BK4⟩, ⟨b2i7_⟩⟩
 clear HC19
 try clear c1
 try clear c2
 try clear c2b0
 try clear c3
 try clear c3b0
 (try clear hcz1); (try clear hcz2); (try clear hcz3); (try clear hcz4); (try clear hcz5); (try clear hcz6); (try clear hcz7); (try clear hfz1); (try clear hfz2); (try clear hfz3); (try clear hfz4); (try clear hfz5); (try clear hfz6); (try clear hfz7)
 obtain ⟨kq, x63_18, rfl, HA, HJ1, HO_1, HO_2, HO_3, HO_4, HO_5, HO_6, HO_7, BK1, BK2, BK3, BK4, HB⟩ := hcut
 cases kq with | zero => exact absurd HA.out (by simp [laws_FnExactDoWorks.j0]) | succ kj1 => ?_
 as_aux_lemma =>
 have H := HA.out
 clear HA
 simp only [laws_FnExactDoWorks.j0] at H
 by_cases c4 : x63_18 = true
 ·subst c4
  rw [if_pos rfl] at H
  obtain rfl := si_ H
  go_wp2
  go_ret
  exact ⟨bnwh_, b2i7_⟩
 obtain rfl := bf_.mpr c4
 rw [if_neg ft_] at H
 obtain ⟨⟨t30, t31, t32, t33, t34⟩, A19, H⟩ := o1_ H
 obtain ⟨t35, A21, H⟩ := o1_ H
 by_cases c5 : t35 = true
 case neg =>
  obtain rfl := bf_.mpr c5
  rw [if_neg ft_] at H
  obtain rfl := si_ H
  try go_wp2
  replace HO_1 := A0_ (rd_ HO_1.out)
  replace HO_2 := A0_ (rd_ HO_2.out)
  replace HO_3 := A0_ (rd_ HO_3.out)
  replace HO_4 := A0_ (rd_ HO_4.out)
  replace HO_5 := A0_ (rd_ HO_5.out)
  replace HO_6 := A0_ (rd_ HO_6.out)
  replace HO_7 := A0_ (rd_ HO_7.out)
  replace BK1 := A0_ (kd_ BK1.out)
  replace BK2 := A0_ (kd_ BK2.out)
  replace BK3 := A0_ (kd_ BK3.out)
  replace BK4 := A0_ (kd_ BK4.out)
  replace HB := A0_ (bd_ HB.out)
  refine start_ (n := 5) (S := fun w' => w'.cell? ⟨gb3, 0, none⟩ = some (.int .i64 t18) ∧ w'.cell? ⟨gb3, 1, none⟩ = some (.bool t19) ∧ w'.cell? ⟨gb3, 2, none⟩ = some (.slice Ao6 t20.length co6) ∧ w'.cell? ⟨gb3, 3, none⟩ = some (.slice Ao7 t21.length co7) ∧ w'.cell? ⟨gb3, 4, none⟩ = some (.int .i64 t22) ∧ w'.cell? ⟨gb1, 0, none⟩ = some (.int .i64 a0_0) ∧ w'.cell? ⟨gb1, 1, none⟩ = some (.bool a0_1) ∧ w'.cell? ⟨gb1, 2, none⟩ = some (.slice A0_2 l0_2.length c0_2) ∧ w'.cell? ⟨gb1, 3, none⟩ = some (.slice A0_3 l0_3.length c0_3) ∧ w'.cell? ⟨gb1, 4, none⟩ = some (.int .i64 a0_4)) (ds := []) #[false, false, false, false, false] bfqv_ rfl rfl ⟨(kc_ BK3.out 0).trans rfl, (kc_ BK3.out 1).trans rfl, (kc_ BK3.out 2).trans rfl, (kc_ BK3.out 3).trans rfl, (kc_ BK3.out 4).trans rfl, (kc_ BK1.out 0).trans rfl, (kc_ BK1.out 1).trans rfl, (kc_ BK1.out 2).trans rfl, (kc_ BK1.out 3).trans rfl, (kc_ BK1.out 4).trans rfl⟩ (fun hHeld => ?_)
  generalize wc.drew = w12 at HO_1 HO_2 HO_3 HO_4 HO_5 HO_6 HO_7 BK1 BK2 BK3 BK4 HB hHeld ⊢
  refine tk_ 0 64 hHeld ?_
  refine tk_ 1 65 hHeld ?_
  refine on_ 2 (some 66) (fun K hK => ?_)
  refine gs_ Tryz.func8 #[.agg #[.int .i64 a0_0, .bool a0_1, .slice A0_2 l0_2.length c0_2, .slice A0_3 l0_3.length c0_3, .int .i64 a0_4]] ?_
  with_reducible refine (laws_toHouse.calls kj1 a0_0 a0_1 _ _ l0_2 _ _ l0_3 a0_4 t30 t31 t32 t33 t34 _ ?side1 ?side2 ?side3 ?side4 A19.out).mono ?_
  (case side1 => exact b6n8_)
  (case side2 => exact HC0_2.out)
  (case side3 => exact bkan_)
  (case side4 => exact HC0_3.out)
  rintro e w13 ⟨v12, v13, rfl, ho0, ho1, hb⟩
  refine ⟨_, rfl, ?_⟩
  replace HO_1 := A0_ (Kd.R_below bwik_ hb)
  have HO11 := A0_ (Kd.R_lower (Kd.R_new' (Kd.R_new' (Kd.R_new' (Kd.R_new' (Kd.R_new' (Kd.R_new' ho0 (Kd.R_lt b7sq_)) (Kd.R_lt bzfm_)) (Kd.R_lt b0mw_)) (Kd.R_lt bqlr_)) (Kd.R_lt bj2s_)) (Kd.R_lt bhm9_)) (bz_ b2i7_))
  have HO12 := A0_ (Kd.R_lower (Kd.R_new' (Kd.R_new' (Kd.R_new' (Kd.R_new' (Kd.R_new' (Kd.R_new' ho1 (Kd.R_lt b7sq_)) (Kd.R_lt bzfm_)) (Kd.R_lt b0mw_)) (Kd.R_lt bqlr_)) (Kd.R_lt bj2s_)) (Kd.R_lt bhm9_)) (bz_ b2i7_))
  replace HO_2 := A0_ (Kd.R_mono (Kd.R_told (Kd.R_told (Kd.R_old b7sq_ hb) (Kd.R_base ho0)) (Kd.R_base ho1)) (fun _ h_ => h_.1))
  replace HO_3 := A0_ (Kd.R_mono (Kd.R_told (Kd.R_told (Kd.R_old bzfm_ hb) (Kd.R_base ho0)) (Kd.R_base ho1)) (fun _ h_ => h_.1))
  replace HO_4 := A0_ (Kd.R_mono (Kd.R_told (Kd.R_told (Kd.R_old b0mw_ hb) (Kd.R_base ho0)) (Kd.R_base ho1)) (fun _ h_ => h_.1))
  replace HO_5 := A0_ (Kd.R_mono (Kd.R_told (Kd.R_told (Kd.R_old bqlr_ hb) (Kd.R_base ho0)) (Kd.R_base ho1)) (fun _ h_ => h_.1))
  replace HO_6 := A0_ (Kd.R_mono (Kd.R_told (Kd.R_told (Kd.R_old bj2s_ hb) (Kd.R_base ho0)) (Kd.R_base ho1)) (fun _ h_ => h_.1))
  replace HO_7 := A0_ (Kd.R_mono (Kd.R_told (Kd.R_told (Kd.R_old bhm9_ hb) (Kd.R_base ho0)) (Kd.R_base ho1)) (fun _ h_ => h_.1))
  replace BK1 := k1_ BK1 hb
  replace BK2 := k1_ BK2 hb
  replace BK3 := k1_ BK3 hb
  replace BK4 := k1_ BK4 hb
  replace HB := hb_ hb b2i7_
  (try clear hb); (try clear ho0); (try clear ho1)
  obtain ⟨Ao11, co11, eo11⟩ := Kd.R_slice HO11.out
  (first | subst eo11 | (injection eo11 with f1_ f2_ f3_; have f4_ := f1_.symm; have f5_ := f3_.symm; clear f1_ f2_ f3_; subst f4_; subst f5_))
  obtain ⟨Ao12, co12, eo12⟩ := Kd.R_slice HO12.out
  (first | subst eo12 | (injection eo12 with f1_ f2_ f3_; have f4_ := f1_.symm; have f5_ := f3_.symm; clear f1_ f2_ f3_; subst f4_; subst f5_))
  refine hK.out _ _ ⟨(kc_ BK3.out 0).trans rfl, (kc_ BK3.out 1).trans rfl, (kc_ BK3.out 2).trans rfl, (kc_ BK3.out 3).trans rfl, (kc_ BK3.out 4).trans rfl, (kc_ BK1.out 0).trans rfl, (kc_ BK1.out 1).trans rfl, (kc_ BK1.out 2).trans rfl, (kc_ BK1.out 3).trans rfl, (kc_ BK1.out 4).trans rfl⟩ (fun hHeld => ?_)
  clear hK K
  refine nm_ 66 ?_
  refine on_ 3 (some 67) (fun K hK => ?_)
  refine gs_ Tryz.func11 #[.agg #[.int .i64 t18, .bool t19, .slice Ao6 t20.length co6, .slice Ao7 t21.length co7, .int .i64 t22], .agg #[.int .i64 t30, .bool t31, .slice Ao11 t32.length co11, .slice Ao12 t33.length co12, .int .i64 t34]] ?_
  with_reducible refine (laws_eqHouse.calls kj1 t18 t19 _ _ t20 _ _ t21 t22 t30 t31 _ _ t32 _ _ t33 t34 false _ ?side1 ?side2 ?side3 ?side4 ?side5 ?side6 ?side7 ?side8 A21.out).mono ?_
  (case side1 => exact baxz_)
  (case side2 => exact (rr_ HO_4.out).2.1)
  (case side3 => exact btqf_)
  (case side4 => exact (rr_ HO_5.out).2.1)
  (case side5 => exact btxe_)
  (case side6 => exact (rr_ HO11.out).2.1)
  (case side7 => exact bmsm_)
  (case side8 => exact (rr_ HO12.out).2.1)
  rintro e w14 ⟨rfl, hb⟩
  refine ⟨_, rfl, ?_⟩
  replace HO_1 := A0_ (Kd.R_below bwik_ hb)
  replace HO_2 := A0_ (Kd.R_below b7sq_ hb)
  replace HO_3 := A0_ (Kd.R_below bzfm_ hb)
  replace HO_4 := A0_ (Kd.R_below b0mw_ hb)
  replace HO_5 := A0_ (Kd.R_below bqlr_ hb)
  replace HO_6 := A0_ (Kd.R_below bj2s_ hb)
  replace HO_7 := A0_ (Kd.R_below bhm9_ hb)
  replace HO11 := A0_ (Kd.R_below bfdn_ hb)
  replace HO12 := A0_ (Kd.R_below b8dh_ hb)
  replace BK1 := k1_ BK1 hb
  replace BK2 := k1_ BK2 hb
  replace BK3 := k1_ BK3 hb
  replace BK4 := k1_ BK4 hb
  replace HB := hb_ hb b2i7_
  (try clear hb)
  refine hK.out _ _ ⟨(kc_ BK3.out 0).trans rfl, (kc_ BK3.out 1).trans rfl, (kc_ BK3.out 2).trans rfl, (kc_ BK3.out 3).trans rfl, (kc_ BK3.out 4).trans rfl, (kc_ BK1.out 0).trans rfl, (kc_ BK1.out 1).trans rfl, (kc_ BK1.out 2).trans rfl, (kc_ BK1.out 3).trans rfl, (kc_ BK1.out 4).trans rfl⟩ (fun hHeld => ?_)
  clear hK K
  refine nm_ 67 ?_
  refine pu_ 4 68 ?_
  refine done_ bfqv_ ?_
  try go_wp2
  go_ret
  exact ⟨bnwh_, b2i7_⟩
 subst c5
 rw [if_pos rfl] at H
 obtain ⟨t36, A23, H⟩ := o1_ H
 obtain ⟨t37, A25, H⟩ := o1_ H
 by_cases c6 : t37 = true
 case neg =>
  obtain rfl := bf_.mpr c6
  rw [if_neg ft_] at H
  obtain rfl := si_ H
  try go_wp2
  replace HO_1 := A0_ (rd_ HO_1.out)
  replace HO_2 := A0_ (rd_ HO_2.out)
  replace HO_3 := A0_ (rd_ HO_3.out)
  replace HO_4 := A0_ (rd_ HO_4.out)
  replace HO_5 := A0_ (rd_ HO_5.out)
  replace HO_6 := A0_ (rd_ HO_6.out)
  replace HO_7 := A0_ (rd_ HO_7.out)
  replace BK1 := A0_ (kd_ BK1.out)
  replace BK2 := A0_ (kd_ BK2.out)
  replace BK3 := A0_ (kd_ BK3.out)
  replace BK4 := A0_ (kd_ BK4.out)
  replace HB := A0_ (bd_ HB.out)
  refine start_ (n := 5) (S := fun w' => w'.cell? ⟨gb3, 0, none⟩ = some (.int .i64 t18) ∧ w'.cell? ⟨gb3, 1, none⟩ = some (.bool t19) ∧ w'.cell? ⟨gb3, 2, none⟩ = some (.slice Ao6 t20.length co6) ∧ w'.cell? ⟨gb3, 3, none⟩ = some (.slice Ao7 t21.length co7) ∧ w'.cell? ⟨gb3, 4, none⟩ = some (.int .i64 t22) ∧ w'.cell? ⟨gb1, 0, none⟩ = some (.int .i64 a0_0) ∧ w'.cell? ⟨gb1, 1, none⟩ = some (.bool a0_1) ∧ w'.cell? ⟨gb1, 2, none⟩ = some (.slice A0_2 l0_2.length c0_2) ∧ w'.cell? ⟨gb1, 3, none⟩ = some (.slice A0_3 l0_3.length c0_3) ∧ w'.cell? ⟨gb1, 4, none⟩ = some (.int .i64 a0_4)) (ds := []) #[false, false, false, false, false] bfqv_ rfl rfl ⟨(kc_ BK3.out 0).trans rfl, (kc_ BK3.out 1).trans rfl, (kc_ BK3.out 2).trans rfl, (kc_ BK3.out 3).trans rfl, (kc_ BK3.out 4).trans rfl, (kc_ BK1.out 0).trans rfl, (kc_ BK1.out 1).trans rfl, (kc_ BK1.out 2).trans rfl, (kc_ BK1.out 3).trans rfl, (kc_ BK1.out 4).trans rfl⟩ (fun hHeld => ?_)
  generalize wc.drew = w12 at HO_1 HO_2 HO_3 HO_4 HO_5 HO_6 HO_7 BK1 BK2 BK3 BK4 HB hHeld ⊢
  refine tk_ 0 64 hHeld ?_
  refine tk_ 1 65 hHeld ?_
  refine on_ 2 (some 66) (fun K hK => ?_)
  refine gs_ Tryz.func8 #[.agg #[.int .i64 a0_0, .bool a0_1, .slice A0_2 l0_2.length c0_2, .slice A0_3 l0_3.length c0_3, .int .i64 a0_4]] ?_
  with_reducible refine (laws_toHouse.calls kj1 a0_0 a0_1 _ _ l0_2 _ _ l0_3 a0_4 t30 t31 t32 t33 t34 _ ?side1 ?side2 ?side3 ?side4 A19.out).mono ?_
  (case side1 => exact b6n8_)
  (case side2 => exact HC0_2.out)
  (case side3 => exact bkan_)
  (case side4 => exact HC0_3.out)
  rintro e w13 ⟨v12, v13, rfl, ho0, ho1, hb⟩
  refine ⟨_, rfl, ?_⟩
  replace HO_1 := A0_ (Kd.R_below bwik_ hb)
  have HO11 := A0_ (Kd.R_lower (Kd.R_new' (Kd.R_new' (Kd.R_new' (Kd.R_new' (Kd.R_new' (Kd.R_new' ho0 (Kd.R_lt b7sq_)) (Kd.R_lt bzfm_)) (Kd.R_lt b0mw_)) (Kd.R_lt bqlr_)) (Kd.R_lt bj2s_)) (Kd.R_lt bhm9_)) (bz_ b2i7_))
  have HO12 := A0_ (Kd.R_lower (Kd.R_new' (Kd.R_new' (Kd.R_new' (Kd.R_new' (Kd.R_new' (Kd.R_new' ho1 (Kd.R_lt b7sq_)) (Kd.R_lt bzfm_)) (Kd.R_lt b0mw_)) (Kd.R_lt bqlr_)) (Kd.R_lt bj2s_)) (Kd.R_lt bhm9_)) (bz_ b2i7_))
  replace HO_2 := A0_ (Kd.R_mono (Kd.R_told (Kd.R_told (Kd.R_old b7sq_ hb) (Kd.R_base ho0)) (Kd.R_base ho1)) (fun _ h_ => h_.1))
  replace HO_3 := A0_ (Kd.R_mono (Kd.R_told (Kd.R_told (Kd.R_old bzfm_ hb) (Kd.R_base ho0)) (Kd.R_base ho1)) (fun _ h_ => h_.1))
  replace HO_4 := A0_ (Kd.R_mono (Kd.R_told (Kd.R_told (Kd.R_old b0mw_ hb) (Kd.R_base ho0)) (Kd.R_base ho1)) (fun _ h_ => h_.1))
  replace HO_5 := A0_ (Kd.R_mono (Kd.R_told (Kd.R_told (Kd.R_old bqlr_ hb) (Kd.R_base ho0)) (Kd.R_base ho1)) (fun _ h_ => h_.1))
  replace HO_6 := A0_ (Kd.R_mono (Kd.R_told (Kd.R_told (Kd.R_old bj2s_ hb) (Kd.R_base ho0)) (Kd.R_base ho1)) (fun _ h_ => h_.1))
  replace HO_7 := A0_ (Kd.R_mono (Kd.R_told (Kd.R_told (Kd.R_old bhm9_ hb) (Kd.R_base ho0)) (Kd.R_base ho1)) (fun _ h_ => h_.1))
  replace BK1 := k1_ BK1 hb
  replace BK2 := k1_ BK2 hb
  replace BK3 := k1_ BK3 hb
  replace BK4 := k1_ BK4 hb
  replace HB := hb_ hb b2i7_
  (try clear hb); (try clear ho0); (try clear ho1)
  obtain ⟨Ao11, co11, eo11⟩ := Kd.R_slice HO11.out
  (first | subst eo11 | (injection eo11 with f1_ f2_ f3_; have f4_ := f1_.symm; have f5_ := f3_.symm; clear f1_ f2_ f3_; subst f4_; subst f5_))
  obtain ⟨Ao12, co12, eo12⟩ := Kd.R_slice HO12.out
  (first | subst eo12 | (injection eo12 with f1_ f2_ f3_; have f4_ := f1_.symm; have f5_ := f3_.symm; clear f1_ f2_ f3_; subst f4_; subst f5_))
  refine hK.out _ _ ⟨(kc_ BK3.out 0).trans rfl, (kc_ BK3.out 1).trans rfl, (kc_ BK3.out 2).trans rfl, (kc_ BK3.out 3).trans rfl, (kc_ BK3.out 4).trans rfl, (kc_ BK1.out 0).trans rfl, (kc_ BK1.out 1).trans rfl, (kc_ BK1.out 2).trans rfl, (kc_ BK1.out 3).trans rfl, (kc_ BK1.out 4).trans rfl⟩ (fun hHeld => ?_)
  clear hK K
  refine nm_ 66 ?_
  refine on_ 3 (some 67) (fun K hK => ?_)
  refine gs_ Tryz.func11 #[.agg #[.int .i64 t18, .bool t19, .slice Ao6 t20.length co6, .slice Ao7 t21.length co7, .int .i64 t22], .agg #[.int .i64 t30, .bool t31, .slice Ao11 t32.length co11, .slice Ao12 t33.length co12, .int .i64 t34]] ?_
  with_reducible refine (laws_eqHouse.calls kj1 t18 t19 _ _ t20 _ _ t21 t22 t30 t31 _ _ t32 _ _ t33 t34 true _ ?side1 ?side2 ?side3 ?side4 ?side5 ?side6 ?side7 ?side8 A21.out).mono ?_
  (case side1 => exact baxz_)
  (case side2 => exact (rr_ HO_4.out).2.1)
  (case side3 => exact btqf_)
  (case side4 => exact (rr_ HO_5.out).2.1)
  (case side5 => exact btxe_)
  (case side6 => exact (rr_ HO11.out).2.1)
  (case side7 => exact bmsm_)
  (case side8 => exact (rr_ HO12.out).2.1)
  rintro e w14 ⟨rfl, hb⟩
  refine ⟨_, rfl, ?_⟩
  replace HO_1 := A0_ (Kd.R_below bwik_ hb)
  replace HO_2 := A0_ (Kd.R_below b7sq_ hb)
  replace HO_3 := A0_ (Kd.R_below bzfm_ hb)
  replace HO_4 := A0_ (Kd.R_below b0mw_ hb)
  replace HO_5 := A0_ (Kd.R_below bqlr_ hb)
  replace HO_6 := A0_ (Kd.R_below bj2s_ hb)
  replace HO_7 := A0_ (Kd.R_below bhm9_ hb)
  replace HO11 := A0_ (Kd.R_below bfdn_ hb)
  replace HO12 := A0_ (Kd.R_below b8dh_ hb)
  replace BK1 := k1_ BK1 hb
  replace BK2 := k1_ BK2 hb
  replace BK3 := k1_ BK3 hb
  replace BK4 := k1_ BK4 hb
  replace HB := hb_ hb b2i7_
  (try clear hb)
  refine hK.out _ _ ⟨(kc_ BK3.out 0).trans rfl, (kc_ BK3.out 1).trans rfl, (kc_ BK3.out 2).trans rfl, (kc_ BK3.out 3).trans rfl, (kc_ BK3.out 4).trans rfl, (kc_ BK1.out 0).trans rfl, (kc_ BK1.out 1).trans rfl, (kc_ BK1.out 2).trans rfl, (kc_ BK1.out 3).trans rfl, (kc_ BK1.out 4).trans rfl⟩ (fun hHeld => ?_)
  clear hK K
  refine nm_ 67 ?_
  refine pu_ 4 68 ?_
  refine done_ bfqv_ ?_
  try go_wp2_with (first | ((with_reducible refine gc_ (f := 9) rfl ?_); refine gl_ 71 Tryz.func9 #[.slice A1 l1.length c1] ?_; (with_reducible refine (laws_toWorkS.calls kj1 _ _ l1 t36 _ ?side1 ?side2 A23.out).mono ?_); (case side1 => exact b3d8_); (case side2 => exact HC1.out); rintro e w15 ⟨v14, rfl, ho0, hb⟩; refine ⟨_, rfl, ?_⟩; replace HO_2 := A0_ (Kd.R_below b7sq_ hb); replace HO_3 := A0_ (Kd.R_below bzfm_ hb); replace HO_4 := A0_ (Kd.R_below b0mw_ hb); replace HO_5 := A0_ (Kd.R_below bqlr_ hb); replace HO_6 := A0_ (Kd.R_below bj2s_ hb); replace HO_7 := A0_ (Kd.R_below bhm9_ hb); replace HO11 := A0_ (Kd.R_below bfdn_ hb); replace HO12 := A0_ (Kd.R_below b8dh_ hb); have HO13 := A0_ (Kd.R_lower (Kd.R_new' ho0 (Kd.R_lt bwik_)) (bz_ b2i7_)); replace HO_1 := A0_ (Kd.R_elder' bwik_ (Kd.R_base ho0) hb); replace BK1 := k1_ BK1 hb; replace BK2 := k1_ BK2 hb; replace BK3 := k1_ BK3 hb; replace BK4 := k1_ BK4 hb; replace HB := hb_ hb b2i7_; (try clear hb); (try clear ho0); obtain ⟨Ao13, co13, eo13⟩ := Kd.R_slice HO13.out; subst eo13) | ((with_reducible refine gc_ (f := 12) rfl ?_); refine gl_ 72 Tryz.func12 #[.slice Ao8 t4.length co8, .slice Ao13 t36.length co13] ?_; (with_reducible refine (laws_eqWorkS.calls kj1 _ _ t4 _ _ t36 false _ ?side1 ?side2 ?side3 ?side4 A25.out).mono ?_); (case side1 => exact btcf_); (case side2 => exact (rr_ HO_1.out).2.1); (case side3 => exact byys_); (case side4 => exact (rr_ HO13.out).2.1); rintro e w16 ⟨rfl, hb⟩; refine ⟨_, rfl, ?_⟩; replace HO_1 := A0_ (Kd.R_below bwik_ hb); replace HO_2 := A0_ (Kd.R_below b7sq_ hb); replace HO_3 := A0_ (Kd.R_below bzfm_ hb); replace HO_4 := A0_ (Kd.R_below b0mw_ hb); replace HO_5 := A0_ (Kd.R_below bqlr_ hb); replace HO_6 := A0_ (Kd.R_below bj2s_ hb); replace HO_7 := A0_ (Kd.R_below bhm9_ hb); replace HO11 := A0_ (Kd.R_below bfdn_ hb); replace HO12 := A0_ (Kd.R_below b8dh_ hb); replace HO13 := A0_ (Kd.R_below bywj_ hb); replace BK1 := k1_ BK1 hb; replace BK2 := k1_ BK2 hb; replace BK3 := k1_ BK3 hb; replace BK4 := k1_ BK4 hb; replace HB := hb_ hb b2i7_; (try clear hb)))
  go_ret
  exact ⟨bnwh_, b2i7_⟩
 subst c6
 rw [if_pos rfl] at H
 obtain ⟨⟨t38, t39, t40⟩, A27, H⟩ := o1_ H
 obtain ⟨⟨t41, t42⟩, A29, H⟩ := o1_ H
 have HC90 := A0_ H
 clear H
 try go_wp2
 replace HO_1 := A0_ (rd_ HO_1.out)
 replace HO_2 := A0_ (rd_ HO_2.out)
 replace HO_3 := A0_ (rd_ HO_3.out)
 replace HO_4 := A0_ (rd_ HO_4.out)
 replace HO_5 := A0_ (rd_ HO_5.out)
 replace HO_6 := A0_ (rd_ HO_6.out)
 replace HO_7 := A0_ (rd_ HO_7.out)
 replace BK1 := A0_ (kd_ BK1.out)
 replace BK2 := A0_ (kd_ BK2.out)
 replace BK3 := A0_ (kd_ BK3.out)
 replace BK4 := A0_ (kd_ BK4.out)
 replace HB := A0_ (bd_ HB.out)
 refine start_ (n := 5) (S := fun w' => w'.cell? ⟨gb3, 0, none⟩ = some (.int .i64 t18) ∧ w'.cell? ⟨gb3, 1, none⟩ = some (.bool t19) ∧ w'.cell? ⟨gb3, 2, none⟩ = some (.slice Ao6 t20.length co6) ∧ w'.cell? ⟨gb3, 3, none⟩ = some (.slice Ao7 t21.length co7) ∧ w'.cell? ⟨gb3, 4, none⟩ = some (.int .i64 t22) ∧ w'.cell? ⟨gb1, 0, none⟩ = some (.int .i64 a0_0) ∧ w'.cell? ⟨gb1, 1, none⟩ = some (.bool a0_1) ∧ w'.cell? ⟨gb1, 2, none⟩ = some (.slice A0_2 l0_2.length c0_2) ∧ w'.cell? ⟨gb1, 3, none⟩ = some (.slice A0_3 l0_3.length c0_3) ∧ w'.cell? ⟨gb1, 4, none⟩ = some (.int .i64 a0_4)) (ds := []) #[false, false, false, false, false] bfqv_ rfl rfl ⟨(kc_ BK3.out 0).trans rfl, (kc_ BK3.out 1).trans rfl, (kc_ BK3.out 2).trans rfl, (kc_ BK3.out 3).trans rfl, (kc_ BK3.out 4).trans rfl, (kc_ BK1.out 0).trans rfl, (kc_ BK1.out 1).trans rfl, (kc_ BK1.out 2).trans rfl, (kc_ BK1.out 3).trans rfl, (kc_ BK1.out 4).trans rfl⟩ (fun hHeld => ?_)
 generalize wc.drew = w12 at HO_1 HO_2 HO_3 HO_4 HO_5 HO_6 HO_7 BK1 BK2 BK3 BK4 HB hHeld ⊢
 refine tk_ 0 64 hHeld ?_
 refine tk_ 1 65 hHeld ?_
 refine on_ 2 (some 66) (fun K hK => ?_)
 refine gs_ Tryz.func8 #[.agg #[.int .i64 a0_0, .bool a0_1, .slice A0_2 l0_2.length c0_2, .slice A0_3 l0_3.length c0_3, .int .i64 a0_4]] ?_
 with_reducible refine (laws_toHouse.calls kj1 a0_0 a0_1 _ _ l0_2 _ _ l0_3 a0_4 t30 t31 t32 t33 t34 _ ?side1 ?side2 ?side3 ?side4 A19.out).mono ?_
 (case side1 => exact b6n8_)
 (case side2 => exact HC0_2.out)
 (case side3 => exact bkan_)
 (case side4 => exact HC0_3.out)
 rintro e w13 ⟨v12, v13, rfl, ho0, ho1, hb⟩
 refine ⟨_, rfl, ?_⟩
 replace HO_1 := A0_ (Kd.R_below bwik_ hb)
 have HO11 := A0_ (Kd.R_lower (Kd.R_new' (Kd.R_new' (Kd.R_new' (Kd.R_new' (Kd.R_new' (Kd.R_new' ho0 (Kd.R_lt b7sq_)) (Kd.R_lt bzfm_)) (Kd.R_lt b0mw_)) (Kd.R_lt bqlr_)) (Kd.R_lt bj2s_)) (Kd.R_lt bhm9_)) (bz_ b2i7_))
 have HO12 := A0_ (Kd.R_lower (Kd.R_new' (Kd.R_new' (Kd.R_new' (Kd.R_new' (Kd.R_new' (Kd.R_new' ho1 (Kd.R_lt b7sq_)) (Kd.R_lt bzfm_)) (Kd.R_lt b0mw_)) (Kd.R_lt bqlr_)) (Kd.R_lt bj2s_)) (Kd.R_lt bhm9_)) (bz_ b2i7_))
 replace HO_2 := A0_ (Kd.R_mono (Kd.R_told (Kd.R_told (Kd.R_old b7sq_ hb) (Kd.R_base ho0)) (Kd.R_base ho1)) (fun _ h_ => h_.1))
 replace HO_3 := A0_ (Kd.R_mono (Kd.R_told (Kd.R_told (Kd.R_old bzfm_ hb) (Kd.R_base ho0)) (Kd.R_base ho1)) (fun _ h_ => h_.1))
 replace HO_4 := A0_ (Kd.R_mono (Kd.R_told (Kd.R_told (Kd.R_old b0mw_ hb) (Kd.R_base ho0)) (Kd.R_base ho1)) (fun _ h_ => h_.1))
 replace HO_5 := A0_ (Kd.R_mono (Kd.R_told (Kd.R_told (Kd.R_old bqlr_ hb) (Kd.R_base ho0)) (Kd.R_base ho1)) (fun _ h_ => h_.1))
 replace HO_6 := A0_ (Kd.R_mono (Kd.R_told (Kd.R_told (Kd.R_old bj2s_ hb) (Kd.R_base ho0)) (Kd.R_base ho1)) (fun _ h_ => h_.1))
 replace HO_7 := A0_ (Kd.R_mono (Kd.R_told (Kd.R_told (Kd.R_old bhm9_ hb) (Kd.R_base ho0)) (Kd.R_base ho1)) (fun _ h_ => h_.1))
 replace BK1 := k1_ BK1 hb
 replace BK2 := k1_ BK2 hb
 replace BK3 := k1_ BK3 hb
 replace BK4 := k1_ BK4 hb
 replace HB := hb_ hb b2i7_
 (try clear hb); (try clear ho0); (try clear ho1)
 obtain ⟨Ao11, co11, eo11⟩ := Kd.R_slice HO11.out
 (first | subst eo11 | (injection eo11 with f1_ f2_ f3_; have f4_ := f1_.symm; have f5_ := f3_.symm; clear f1_ f2_ f3_; subst f4_; subst f5_))
 obtain ⟨Ao12, co12, eo12⟩ := Kd.R_slice HO12.out
 (first | subst eo12 | (injection eo12 with f1_ f2_ f3_; have f4_ := f1_.symm; have f5_ := f3_.symm; clear f1_ f2_ f3_; subst f4_; subst f5_))
 refine hK.out _ _ ⟨(kc_ BK3.out 0).trans rfl, (kc_ BK3.out 1).trans rfl, (kc_ BK3.out 2).trans rfl, (kc_ BK3.out 3).trans rfl, (kc_ BK3.out 4).trans rfl, (kc_ BK1.out 0).trans rfl, (kc_ BK1.out 1).trans rfl, (kc_ BK1.out 2).trans rfl, (kc_ BK1.out 3).trans rfl, (kc_ BK1.out 4).trans rfl⟩ (fun hHeld => ?_)
 clear hK K
 refine nm_ 66 ?_
 refine on_ 3 (some 67) (fun K hK => ?_)
 refine gs_ Tryz.func11 #[.agg #[.int .i64 t18, .bool t19, .slice Ao6 t20.length co6, .slice Ao7 t21.length co7, .int .i64 t22], .agg #[.int .i64 t30, .bool t31, .slice Ao11 t32.length co11, .slice Ao12 t33.length co12, .int .i64 t34]] ?_
 with_reducible refine (laws_eqHouse.calls kj1 t18 t19 _ _ t20 _ _ t21 t22 t30 t31 _ _ t32 _ _ t33 t34 true _ ?side1 ?side2 ?side3 ?side4 ?side5 ?side6 ?side7 ?side8 A21.out).mono ?_
 (case side1 => exact baxz_)
 (case side2 => exact (rr_ HO_4.out).2.1)
 (case side3 => exact btqf_)
 (case side4 => exact (rr_ HO_5.out).2.1)
 (case side5 => exact btxe_)
 (case side6 => exact (rr_ HO11.out).2.1)
 (case side7 => exact bmsm_)
 (case side8 => exact (rr_ HO12.out).2.1)
 rintro e w14 ⟨rfl, hb⟩
 refine ⟨_, rfl, ?_⟩
 replace HO_1 := A0_ (Kd.R_below bwik_ hb)
 replace HO_2 := A0_ (Kd.R_below b7sq_ hb)
 replace HO_3 := A0_ (Kd.R_below bzfm_ hb)
 replace HO_4 := A0_ (Kd.R_below b0mw_ hb)
 replace HO_5 := A0_ (Kd.R_below bqlr_ hb)
 replace HO_6 := A0_ (Kd.R_below bj2s_ hb)
 replace HO_7 := A0_ (Kd.R_below bhm9_ hb)
 replace HO11 := A0_ (Kd.R_below bfdn_ hb)
 replace HO12 := A0_ (Kd.R_below b8dh_ hb)
 replace BK1 := k1_ BK1 hb
 replace BK2 := k1_ BK2 hb
 replace BK3 := k1_ BK3 hb
 replace BK4 := k1_ BK4 hb
 replace HB := hb_ hb b2i7_
 (try clear hb)
 refine hK.out _ _ ⟨(kc_ BK3.out 0).trans rfl, (kc_ BK3.out 1).trans rfl, (kc_ BK3.out 2).trans rfl, (kc_ BK3.out 3).trans rfl, (kc_ BK3.out 4).trans rfl, (kc_ BK1.out 0).trans rfl, (kc_ BK1.out 1).trans rfl, (kc_ BK1.out 2).trans rfl, (kc_ BK1.out 3).trans rfl, (kc_ BK1.out 4).trans rfl⟩ (fun hHeld => ?_)
 clear hK K
 refine nm_ 67 ?_
 refine pu_ 4 68 ?_
 refine done_ bfqv_ ?_
 go_upto_region 21 with (first | ((with_reducible refine gc_ (f := 9) rfl ?_); refine gl_ 71 Tryz.func9 #[.slice A1 l1.length c1] ?_; (with_reducible refine (laws_toWorkS.calls kj1 _ _ l1 t36 _ ?side1 ?side2 A23.out).mono ?_); (case side1 => exact b3d8_); (case side2 => exact HC1.out); rintro e w15 ⟨v14, rfl, ho0, hb⟩; refine ⟨_, rfl, ?_⟩; replace HO_2 := A0_ (Kd.R_below b7sq_ hb); replace HO_3 := A0_ (Kd.R_below bzfm_ hb); replace HO_4 := A0_ (Kd.R_below b0mw_ hb); replace HO_5 := A0_ (Kd.R_below bqlr_ hb); replace HO_6 := A0_ (Kd.R_below bj2s_ hb); replace HO_7 := A0_ (Kd.R_below bhm9_ hb); replace HO11 := A0_ (Kd.R_below bfdn_ hb); replace HO12 := A0_ (Kd.R_below b8dh_ hb); have HO13 := A0_ (Kd.R_lower (Kd.R_new' ho0 (Kd.R_lt bwik_)) (bz_ b2i7_)); replace HO_1 := A0_ (Kd.R_elder' bwik_ (Kd.R_base ho0) hb); replace BK1 := k1_ BK1 hb; replace BK2 := k1_ BK2 hb; replace BK3 := k1_ BK3 hb; replace BK4 := k1_ BK4 hb; replace HB := hb_ hb b2i7_; (try clear hb); (try clear ho0); obtain ⟨Ao13, co13, eo13⟩ := Kd.R_slice HO13.out; subst eo13) | ((with_reducible refine gc_ (f := 12) rfl ?_); refine gl_ 72 Tryz.func12 #[.slice Ao8 t4.length co8, .slice Ao13 t36.length co13] ?_; (with_reducible refine (laws_eqWorkS.calls kj1 _ _ t4 _ _ t36 true _ ?side1 ?side2 ?side3 ?side4 A25.out).mono ?_); (case side1 => exact btcf_); (case side2 => exact (rr_ HO_1.out).2.1); (case side3 => exact byys_); (case side4 => exact (rr_ HO13.out).2.1); rintro e w16 ⟨rfl, hb⟩; refine ⟨_, rfl, ?_⟩; replace HO_1 := A0_ (Kd.R_below bwik_ hb); replace HO_2 := A0_ (Kd.R_below b7sq_ hb); replace HO_3 := A0_ (Kd.R_below bzfm_ hb); replace HO_4 := A0_ (Kd.R_below b0mw_ hb); replace HO_5 := A0_ (Kd.R_below bqlr_ hb); replace HO_6 := A0_ (Kd.R_below bj2s_ hb); replace HO_7 := A0_ (Kd.R_below bhm9_ hb); replace HO11 := A0_ (Kd.R_below bfdn_ hb); replace HO12 := A0_ (Kd.R_below b8dh_ hb); replace HO13 := A0_ (Kd.R_below bywj_ hb); replace BK1 := k1_ BK1 hb; replace BK2 := k1_ BK2 hb; replace BK3 := k1_ BK3 hb; replace BK4 := k1_ BK4 hb; replace HB := hb_ hb b2i7_; (try clear hb); have hnb7 := NB3_1.out; have hnc7 := NB1_3.out; have hnb8 := NB3_2.out; have hnc8 := NB2_3.out; have hnb9 := NB3_4.out; have hnc9 := NB4_3.out; have hcz8 := z5_ BK3) | ((with_reducible refine gc_ (f := 13) rfl ?_); refine gl_ 76 Tryz.func13 #[.agg #[.int .i64 t18, .bool t19, .slice Ao6 t20.length co6, .slice Ao7 t21.length co7, .int .i64 t22], .int .i64 1] ?_; (with_reducible refine (laws_markHouse.calls kj1 t18 t19 (fun k_ => some k_ = (.slice Ao6 t20.length co6 : Value).ownBlock) (.slice Ao6 t20.length co6) t20 (fun k_ => some k_ = (.slice Ao7 t21.length co7 : Value).ownBlock) (.slice Ao7 t21.length co7) t21 t22 1 t38 t39 t40 w _ ?side1 ?side2 ?side3 ?side4 ?side5 A27.out).mono ?_); (case side1 => exact b2i7_); (case side2 => exact Kd.R_tight rfl HO_4.out); (case side3 => exact fun k_ e_ => (HO_4.out.1 k_ e_.symm).1.1.2.2.1); (case side4 => exact Kd.R_tight rfl HO_5.out); (case side5 => exact fun k_ e_ => (HO_5.out.1 k_ e_.symm).1.1.2.2.1); rintro e w17 ⟨rfl, hy1, hy2, hb, hkp⟩; refine ⟨_, rfl, ?_⟩; replace HO_1 := A0_ (Kd.R_mono (ok' := fun k_ => no_ (.slice Ao13 t36.length co13) k_) (Kd.R_keptB ((Kd.R_apart' (Kd.R_apart' HO_1.out (Kd.R_typed HO_4.out) bi3y_) (Kd.R_typed HO_5.out) bi3y_)) hkp (fun k_ hk_ hs_ => Or.elim hs_ (fun e_ => (hk_.1.2) e_) (fun e_ => (hk_.2) e_))) (fun k_ hk_ => hk_.1.1.1.2)); replace HO_2 := A0_ (Kd.R_mono (ok' := fun k_ => no_ (.slice Ao5 t14.length co5) k_ ∧ no_ (.slice Ao6 t20.length co6) k_ ∧ no_ (.slice Ao7 t21.length co7) k_ ∧ no_ (.slice Ao9 t25.length co9) k_ ∧ no_ (.slice Ao10 t26.length co10) k_ ∧ no_ (.slice Ao11 t32.length co11) k_ ∧ no_ (.slice Ao12 t33.length co12) k_) (Kd.R_keptB (HO_2.out) hkp (fun k_ hk_ hs_ => Or.elim hs_ (fun e_ => (hk_.1.1.2.1) e_) (fun e_ => (hk_.1.1.2.2.1) e_))) (fun k_ hk_ => ⟨hk_.1.1.1.1, hk_.1.1.1.2.1, hk_.1.1.1.2.2.1, hk_.1.1.1.2.2.2.1, hk_.1.1.1.2.2.2.2, hk_.1.1.2, hk_.1.2⟩)); replace HO_3 := A0_ (Kd.R_mono (ok' := fun k_ => no_ (.slice Ao4 t13.length co4) k_ ∧ no_ (.slice Ao6 t20.length co6) k_ ∧ no_ (.slice Ao7 t21.length co7) k_ ∧ no_ (.slice Ao9 t25.length co9) k_ ∧ no_ (.slice Ao10 t26.length co10) k_ ∧ no_ (.slice Ao11 t32.length co11) k_ ∧ no_ (.slice Ao12 t33.length co12) k_) (Kd.R_keptB (HO_3.out) hkp (fun k_ hk_ hs_ => Or.elim hs_ (fun e_ => (hk_.1.1.2.1) e_) (fun e_ => (hk_.1.1.2.2.1) e_))) (fun k_ hk_ => ⟨hk_.1.1.1.1, hk_.1.1.1.2.1, hk_.1.1.1.2.2.1, hk_.1.1.1.2.2.2.1, hk_.1.1.1.2.2.2.2, hk_.1.1.2, hk_.1.2⟩)); replace HO_6 := A0_ (Kd.R_mono (ok' := fun k_ => no_ (.slice Ao4 t13.length co4) k_ ∧ no_ (.slice Ao5 t14.length co5) k_ ∧ no_ (.slice Ao6 t20.length co6) k_ ∧ no_ (.slice Ao7 t21.length co7) k_ ∧ no_ (.slice Ao10 t26.length co10) k_ ∧ no_ (.slice Ao11 t32.length co11) k_ ∧ no_ (.slice Ao12 t33.length co12) k_) (Kd.R_keptB (HO_6.out) hkp (fun k_ hk_ hs_ => Or.elim hs_ (fun e_ => (hk_.1.1.2.2.1) e_) (fun e_ => (hk_.1.1.2.2.2.1) e_))) (fun k_ hk_ => ⟨hk_.1.1.1.1, hk_.1.1.1.2.1, hk_.1.1.1.2.2.1, hk_.1.1.1.2.2.2.1, hk_.1.1.1.2.2.2.2, hk_.1.1.2, hk_.1.2⟩)); replace HO_7 := A0_ (Kd.R_mono (ok' := fun k_ => no_ (.slice Ao4 t13.length co4) k_ ∧ no_ (.slice Ao5 t14.length co5) k_ ∧ no_ (.slice Ao6 t20.length co6) k_ ∧ no_ (.slice Ao7 t21.length co7) k_ ∧ no_ (.slice Ao9 t25.length co9) k_ ∧ no_ (.slice Ao11 t32.length co11) k_ ∧ no_ (.slice Ao12 t33.length co12) k_) (Kd.R_keptB (HO_7.out) hkp (fun k_ hk_ hs_ => Or.elim hs_ (fun e_ => (hk_.1.1.2.2.1) e_) (fun e_ => (hk_.1.1.2.2.2.1) e_))) (fun k_ hk_ => ⟨hk_.1.1.1.1, hk_.1.1.1.2.1, hk_.1.1.1.2.2.1, hk_.1.1.1.2.2.2.1, hk_.1.1.1.2.2.2.2, hk_.1.1.2, hk_.1.2⟩)); replace BK1 := A0_ (blk_kept (u1_ BK1) hkp (fun hs_ => Or.elim hs_ (fun e_ => (fun e_ => (Kd.R_ne HO_4.out BK1.out bi3y_) e_) e_) (fun e_ => (fun e_ => (Kd.R_ne HO_5.out BK1.out bi3y_) e_) e_))); replace BK2 := A0_ (blk_kept (u1_ BK2) hkp (fun hs_ => Or.elim hs_ (fun e_ => (fun e_ => (Kd.R_ne HO_4.out BK2.out bi3y_) e_) e_) (fun e_ => (fun e_ => (Kd.R_ne HO_5.out BK2.out bi3y_) e_) e_))); replace BK3 := A0_ (blk_kept (u1_ BK3) hkp (fun hs_ => Or.elim hs_ (fun e_ => (fun e_ => (Kd.R_ne HO_4.out BK3.out bi3y_) e_) e_) (fun e_ => (fun e_ => (Kd.R_ne HO_5.out BK3.out bi3y_) e_) e_))); replace BK4 := A0_ (blk_kept (u1_ BK4) hkp (fun hs_ => Or.elim hs_ (fun e_ => (fun e_ => (Kd.R_ne HO_4.out BK4.out bi3y_) e_) e_) (fun e_ => (fun e_ => (Kd.R_ne HO_5.out BK4.out bi3y_) e_) e_))); replace HO11 := A0_ (Kd.R_mono (ok' := fun k_ => no_ (.slice Ao4 t13.length co4) k_ ∧ no_ (.slice Ao5 t14.length co5) k_ ∧ no_ (.slice Ao6 t20.length co6) k_ ∧ no_ (.slice Ao7 t21.length co7) k_ ∧ no_ (.slice Ao9 t25.length co9) k_ ∧ no_ (.slice Ao10 t26.length co10) k_ ∧ no_ (.slice Ao12 t33.length co12) k_) (Kd.R_keptB (HO11.out) hkp (fun k_ hk_ hs_ => Or.elim hs_ (fun e_ => (hk_.1.1.1.2) e_) (fun e_ => (hk_.1.1.2) e_))) (fun k_ hk_ => ⟨hk_.1.1.1.1.1.1.2, hk_.1.1.1.1.1.2, hk_.1.1.1.1.2, hk_.1.1.1.2, hk_.1.1.2, hk_.1.2, hk_.1.1.1.1.1.1.1⟩)); replace HO12 := A0_ (Kd.R_mono (ok' := fun k_ => no_ (.slice Ao4 t13.length co4) k_ ∧ no_ (.slice Ao5 t14.length co5) k_ ∧ no_ (.slice Ao6 t20.length co6) k_ ∧ no_ (.slice Ao7 t21.length co7) k_ ∧ no_ (.slice Ao9 t25.length co9) k_ ∧ no_ (.slice Ao10 t26.length co10) k_ ∧ no_ (.slice Ao11 t32.length co11) k_) (Kd.R_keptB (HO12.out) hkp (fun k_ hk_ hs_ => Or.elim hs_ (fun e_ => (hk_.1.1.1.2) e_) (fun e_ => (hk_.1.1.2) e_))) (fun k_ hk_ => ⟨hk_.1.1.1.1.1.1.2, hk_.1.1.1.1.1.2, hk_.1.1.1.1.2, hk_.1.1.1.2, hk_.1.1.2, hk_.1.2, hk_.1.1.1.1.1.1.1⟩)); replace HO13 := A0_ (Kd.R_mono (ok' := fun k_ => no_ (.slice Ao8 t4.length co8) k_) (Kd.R_keptB ((Kd.R_apart' (Kd.R_apart' HO13.out (Kd.R_typed HO_4.out) bi3y_) (Kd.R_typed HO_5.out) bi3y_)) hkp (fun k_ hk_ hs_ => Or.elim hs_ (fun e_ => (hk_.1.2) e_) (fun e_ => (hk_.2) e_))) (fun k_ hk_ => hk_.1.1.1.2)); replace HO_4 := A0_ (Kd.R_reok rfl hy1 (fun k_ e_ => HO_4.out.1 k_ e_)); replace HO_5 := A0_ (Kd.R_reok rfl hy2 (fun k_ e_ => HO_5.out.1 k_ e_)); replace HB := A0_ (hb); (try clear hb); (try clear hkp); (try clear hy1); (try clear hy2)) | ((with_reducible refine gc_ (f := 14) rfl ?_); refine gl_ 79 Tryz.func14 #[.slice Ao8 t4.length co8, .int .i64 t38] ?_; (with_reducible refine (laws_markWorkS.calls kj1 (fun k_ => some k_ = (.slice Ao8 t4.length co8 : Value).ownBlock) (.slice Ao8 t4.length co8) t4 t38 t41 t42 w _ ?side1 ?side2 A29.out).mono ?_); (case side1 => exact b2i7_); (case side2 => exact Kd.R_tight rfl HO_1.out); rintro e w18 ⟨rfl, hy1, hb, hkp⟩; refine ⟨_, rfl, ?_⟩; replace HO_2 := A0_ (Kd.R_mono (ok' := fun k_ => no_ (.slice Ao5 t14.length co5) k_ ∧ no_ (.slice Ao6 t20.length co6) k_ ∧ no_ (.slice Ao7 t21.length co7) k_ ∧ no_ (.slice Ao9 t25.length co9) k_ ∧ no_ (.slice Ao10 t26.length co10) k_ ∧ no_ (.slice Ao11 t32.length co11) k_ ∧ no_ (.slice Ao12 t33.length co12) k_) (Kd.R_keptB ((Kd.R_apart' HO_2.out (Kd.R_typed HO_1.out) bi3y_)) hkp (fun k_ hk_ hs_ => (hk_.2) hs_)) (fun k_ hk_ => ⟨hk_.1.1.1, hk_.1.1.2.1, hk_.1.1.2.2.1, hk_.1.1.2.2.2.1, hk_.1.1.2.2.2.2.1, hk_.1.1.2.2.2.2.2.1, hk_.1.1.2.2.2.2.2.2⟩)); replace HO_3 := A0_ (Kd.R_mono (ok' := fun k_ => no_ (.slice Ao4 t13.length co4) k_ ∧ no_ (.slice Ao6 t20.length co6) k_ ∧ no_ (.slice Ao7 t21.length co7) k_ ∧ no_ (.slice Ao9 t25.length co9) k_ ∧ no_ (.slice Ao10 t26.length co10) k_ ∧ no_ (.slice Ao11 t32.length co11) k_ ∧ no_ (.slice Ao12 t33.length co12) k_) (Kd.R_keptB ((Kd.R_apart' HO_3.out (Kd.R_typed HO_1.out) bi3y_)) hkp (fun k_ hk_ hs_ => (hk_.2) hs_)) (fun k_ hk_ => ⟨hk_.1.1.1, hk_.1.1.2.1, hk_.1.1.2.2.1, hk_.1.1.2.2.2.1, hk_.1.1.2.2.2.2.1, hk_.1.1.2.2.2.2.2.1, hk_.1.1.2.2.2.2.2.2⟩)); replace HO_4 := A0_ (Kd.R_mono (ok' := fun k_ => no_ (.slice Ao4 t13.length co4) k_ ∧ no_ (.slice Ao5 t14.length co5) k_ ∧ no_ (.slice Ao7 t21.length co7) k_ ∧ no_ (.slice Ao9 t25.length co9) k_ ∧ no_ (.slice Ao10 t26.length co10) k_ ∧ no_ (.slice Ao11 t32.length co11) k_ ∧ no_ (.slice Ao12 t33.length co12) k_) (Kd.R_keptB ((Kd.R_apart' HO_4.out (Kd.R_typed HO_1.out) bi3y_)) hkp (fun k_ hk_ hs_ => (hk_.2) hs_)) (fun k_ hk_ => ⟨hk_.1.1.1.1.1, hk_.1.1.1.1.2.1, hk_.1.1.1.1.2.2.1, hk_.1.1.1.1.2.2.2.1, hk_.1.1.1.1.2.2.2.2, hk_.1.1.1.2, hk_.1.1.2⟩)); replace HO_5 := A0_ (Kd.R_mono (ok' := fun k_ => no_ (.slice Ao4 t13.length co4) k_ ∧ no_ (.slice Ao5 t14.length co5) k_ ∧ no_ (.slice Ao6 t20.length co6) k_ ∧ no_ (.slice Ao9 t25.length co9) k_ ∧ no_ (.slice Ao10 t26.length co10) k_ ∧ no_ (.slice Ao11 t32.length co11) k_ ∧ no_ (.slice Ao12 t33.length co12) k_) (Kd.R_keptB ((Kd.R_apart' HO_5.out (Kd.R_typed HO_1.out) bi3y_)) hkp (fun k_ hk_ hs_ => (hk_.2) hs_)) (fun k_ hk_ => ⟨hk_.1.1.1.1.1, hk_.1.1.1.1.2.1, hk_.1.1.1.1.2.2.1, hk_.1.1.1.1.2.2.2.1, hk_.1.1.1.1.2.2.2.2, hk_.1.1.1.2, hk_.1.1.2⟩)); replace HO_6 := A0_ (Kd.R_mono (ok' := fun k_ => no_ (.slice Ao4 t13.length co4) k_ ∧ no_ (.slice Ao5 t14.length co5) k_ ∧ no_ (.slice Ao6 t20.length co6) k_ ∧ no_ (.slice Ao7 t21.length co7) k_ ∧ no_ (.slice Ao10 t26.length co10) k_ ∧ no_ (.slice Ao11 t32.length co11) k_ ∧ no_ (.slice Ao12 t33.length co12) k_) (Kd.R_keptB ((Kd.R_apart' HO_6.out (Kd.R_typed HO_1.out) bi3y_)) hkp (fun k_ hk_ hs_ => (hk_.2) hs_)) (fun k_ hk_ => ⟨hk_.1.1.1, hk_.1.1.2.1, hk_.1.1.2.2.1, hk_.1.1.2.2.2.1, hk_.1.1.2.2.2.2.1, hk_.1.1.2.2.2.2.2.1, hk_.1.1.2.2.2.2.2.2⟩)); replace HO_7 := A0_ (Kd.R_mono (ok' := fun k_ => no_ (.slice Ao4 t13.length co4) k_ ∧ no_ (.slice Ao5 t14.length co5) k_ ∧ no_ (.slice Ao6 t20.length co6) k_ ∧ no_ (.slice Ao7 t21.length co7) k_ ∧ no_ (.slice Ao9 t25.length co9) k_ ∧ no_ (.slice Ao11 t32.length co11) k_ ∧ no_ (.slice Ao12 t33.length co12) k_) (Kd.R_keptB ((Kd.R_apart' HO_7.out (Kd.R_typed HO_1.out) bi3y_)) hkp (fun k_ hk_ hs_ => (hk_.2) hs_)) (fun k_ hk_ => ⟨hk_.1.1.1, hk_.1.1.2.1, hk_.1.1.2.2.1, hk_.1.1.2.2.2.1, hk_.1.1.2.2.2.2.1, hk_.1.1.2.2.2.2.2.1, hk_.1.1.2.2.2.2.2.2⟩)); replace BK1 := A0_ (blk_kept (u1_ BK1) hkp (fun hs_ => (fun e_ => (Kd.R_ne HO_1.out BK1.out bi3y_) e_) hs_)); replace BK2 := A0_ (blk_kept (u1_ BK2) hkp (fun hs_ => (fun e_ => (Kd.R_ne HO_1.out BK2.out bi3y_) e_) hs_)); replace BK3 := A0_ (blk_kept (u1_ BK3) hkp (fun hs_ => (fun e_ => (Kd.R_ne HO_1.out BK3.out bi3y_) e_) hs_)); replace BK4 := A0_ (blk_kept (u1_ BK4) hkp (fun hs_ => (fun e_ => (Kd.R_ne HO_1.out BK4.out bi3y_) e_) hs_)); replace HO11 := A0_ (Kd.R_mono (ok' := fun k_ => no_ (.slice Ao4 t13.length co4) k_ ∧ no_ (.slice Ao5 t14.length co5) k_ ∧ no_ (.slice Ao6 t20.length co6) k_ ∧ no_ (.slice Ao7 t21.length co7) k_ ∧ no_ (.slice Ao9 t25.length co9) k_ ∧ no_ (.slice Ao10 t26.length co10) k_ ∧ no_ (.slice Ao12 t33.length co12) k_) (Kd.R_keptB ((Kd.R_apart' HO11.out (Kd.R_typed HO_1.out) bi3y_)) hkp (fun k_ hk_ hs_ => (hk_.2) hs_)) (fun k_ hk_ => ⟨hk_.1.1.1, hk_.1.1.2.1, hk_.1.1.2.2.1, hk_.1.1.2.2.2.1, hk_.1.1.2.2.2.2.1, hk_.1.1.2.2.2.2.2.1, hk_.1.1.2.2.2.2.2.2⟩)); replace HO12 := A0_ (Kd.R_mono (ok' := fun k_ => no_ (.slice Ao4 t13.length co4) k_ ∧ no_ (.slice Ao5 t14.length co5) k_ ∧ no_ (.slice Ao6 t20.length co6) k_ ∧ no_ (.slice Ao7 t21.length co7) k_ ∧ no_ (.slice Ao9 t25.length co9) k_ ∧ no_ (.slice Ao10 t26.length co10) k_ ∧ no_ (.slice Ao11 t32.length co11) k_) (Kd.R_keptB ((Kd.R_apart' HO12.out (Kd.R_typed HO_1.out) bi3y_)) hkp (fun k_ hk_ hs_ => (hk_.2) hs_)) (fun k_ hk_ => ⟨hk_.1.1.1, hk_.1.1.2.1, hk_.1.1.2.2.1, hk_.1.1.2.2.2.1, hk_.1.1.2.2.2.2.1, hk_.1.1.2.2.2.2.2.1, hk_.1.1.2.2.2.2.2.2⟩)); replace HO_1 := A0_ (Kd.R_reok rfl hy1 (fun k_ e_ => HO_1.out.1 k_ e_)); replace HO13 := A0_ (Kd.R_mono (ok' := fun k_ => no_ (.slice Ao8 t4.length co8) k_) (Kd.R_keptB (HO13.out) hkp (fun k_ hk_ hs_ => (hk_) hs_)) (fun k_ hk_ => hk_.1)); replace HB := A0_ (hb); (try clear hb); (try clear hkp); (try clear hy1)))
 (try simp only [Act.put, sa_, sz_, ss_])
 go_cut [97] from 64 to 97 (fun v15 wc => ∃ (kq : Nat) (x97_89 : Bool), v15 = .bool x97_89 ∧ Aside0 (laws_FnExactDoWorks.j1 kq l1 t16 t17 x97_89 a0_0 a0_1 l0_2 l0_3 a0_4 t11 t12 t13 t14 t15 t23 t24 t25 t26 t27 = some r) ∧ Aside0 (kq ≤ kj1) ∧ Aside0 (Kd.R (Kd.int .i64) 3 wc w.heap.size (fun k_ => no_ (.slice Ao5 t14.length co5) k_ ∧ no_ (.slice Ao6 t20.length co6) k_ ∧ no_ (.slice Ao7 t21.length co7) k_ ∧ no_ (.slice Ao9 t25.length co9) k_ ∧ no_ (.slice Ao10 t26.length co10) k_) (.slice Ao4 t13.length co4) t13) ∧ Aside0 (Kd.R (Kd.int .i64) 3 wc w.heap.size (fun k_ => no_ (.slice Ao4 t13.length co4) k_ ∧ no_ (.slice Ao6 t20.length co6) k_ ∧ no_ (.slice Ao7 t21.length co7) k_ ∧ no_ (.slice Ao9 t25.length co9) k_ ∧ no_ (.slice Ao10 t26.length co10) k_) (.slice Ao5 t14.length co5) t14) ∧ Aside0 (Kd.R (Kd.int .i64) 3 wc w.heap.size (fun k_ => no_ (.slice Ao4 t13.length co4) k_ ∧ no_ (.slice Ao5 t14.length co5) k_ ∧ no_ (.slice Ao7 t21.length co7) k_ ∧ no_ (.slice Ao9 t25.length co9) k_ ∧ no_ (.slice Ao10 t26.length co10) k_) (.slice Ao6 t20.length co6) t39) ∧ Aside0 (Kd.R (Kd.int .i64) 3 wc w.heap.size (fun k_ => no_ (.slice Ao4 t13.length co4) k_ ∧ no_ (.slice Ao5 t14.length co5) k_ ∧ no_ (.slice Ao6 t20.length co6) k_ ∧ no_ (.slice Ao9 t25.length co9) k_ ∧ no_ (.slice Ao10 t26.length co10) k_) (.slice Ao7 t21.length co7) t40) ∧ Aside0 (Kd.R (Kd.int .i64) 3 wc w.heap.size (fun k_ => no_ (.slice Ao4 t13.length co4) k_ ∧ no_ (.slice Ao5 t14.length co5) k_ ∧ no_ (.slice Ao6 t20.length co6) k_ ∧ no_ (.slice Ao7 t21.length co7) k_ ∧ no_ (.slice Ao10 t26.length co10) k_) (.slice Ao9 t25.length co9) t25) ∧ Aside0 (Kd.R (Kd.int .i64) 3 wc w.heap.size (fun k_ => no_ (.slice Ao4 t13.length co4) k_ ∧ no_ (.slice Ao5 t14.length co5) k_ ∧ no_ (.slice Ao6 t20.length co6) k_ ∧ no_ (.slice Ao7 t21.length co7) k_ ∧ no_ (.slice Ao9 t25.length co9) k_) (.slice Ao10 t26.length co10) t26) ∧ Aside0 (wc.heap[gb1]? = some (.cells #[.int .i64 a0_0, .bool a0_1, (.slice A0_2 l0_2.length c0_2), (.slice A0_3 l0_3.length c0_3), .int .i64 a0_4] 26 (0, 0))) ∧ Aside0 (wc.heap[gb2]? = some (.cells #[.int .i64 t11, .bool t12, (.slice Ao4 t13.length co4), (.slice Ao5 t14.length co5), .int .i64 t15] 32 (0, 0))) ∧ Aside0 (wc.heap[gb3]? = some (.cells #[.int .i64 t18, .bool t19, (.slice Ao6 t20.length co6), (.slice Ao7 t21.length co7), .int .i64 t22] 32 (0, 0))) ∧ Aside0 (wc.heap[gb4]? = some (.cells #[.int .i64 t23, .bool t24, (.slice Ao9 t25.length co9), (.slice Ao10 t26.length co10), .int .i64 t27] 32 (0, 0))) ∧ Aside0 (Below w.heap.size w wc))
 case first =>
  have H := HC90.out
  clear HC90
  by_cases c7 : t41 < 0
  ·rw [if_pos c7] at H
   have c7b0 : decide (t41 < 0) = true := dt_ c7
   clear c7
   (first | rw [c7b0] | (simp only [i64_w, i32_w]; rw [c7b0]) | skip)
   have H' := A0_ H
   clear H
   go_wp2
   go_meet
   exact ⟨_, (true), b2ew_, H', ⟨bust_⟩, ⟨bfb7_⟩, ⟨bsf8_⟩, ⟨b4w4_⟩, ⟨b9hw_⟩, ⟨bo6m_⟩, ⟨bw0p_⟩, ⟨u1_ BK1⟩, ⟨u1_ BK2⟩, ⟨u1_ BK3⟩, ⟨u1_ BK4⟩, ⟨b2i7_⟩⟩
  rw [if_neg c7] at H
  have c7b0 : decide (t41 < 0) = false := decide_eq_false c7
  clear c7
  (first | rw [c7b0] | (simp only [i64_w, i32_w]; rw [c7b0]) | skip)
  obtain ⟨t43, A31, H⟩ := o1_ H
  by_cases c8 : t43 = true
  case neg =>
   obtain rfl := bf_.mpr c8
   rw [if_neg ft_] at H
   have H' := A0_ H
   clear H
   have hnb10 := NB4_1.out
   have hnc10 := NB1_4.out
   have hnb11 := NB4_2.out
   have hnc11 := NB2_4.out
   have hnb12 := NB4_3.out
   have hnc12 := NB3_4.out
   have hcz9 := z5_ BK4
   have hnb13 := NB2_1.out
   have hnc13 := NB1_2.out
   have hnb14 := NB2_3.out
   have hnc14 := NB3_2.out
   have hcz10 := z5_ BK2
   go_wp2_with (first | (go_at_call 11; (with_reducible refine (laws_eqHouse.calls kj1 t23 t24 _ _ t25 _ _ t26 t27 t11 t12 _ _ t13 _ _ t14 t15 false _ ?side1 ?side2 ?side3 ?side4 ?side5 ?side6 ?side7 ?side8 A31.out).mono ?_); (case side1 => exact blpa_); (case side2 => exact (rr_ HO_6.out).2.1); (case side3 => exact bnbi_); (case side4 => exact (rr_ HO_7.out).2.1); (case side5 => exact bqlu_); (case side6 => exact (rr_ HO_2.out).2.1); (case side7 => exact b1kt_); (case side8 => exact (rr_ HO_3.out).2.1); rintro e w19 ⟨rfl, hb⟩; replace HO_1 := A0_ (Kd.R_below bwik_ hb); replace HO_2 := A0_ (Kd.R_below b7sq_ hb); replace HO_3 := A0_ (Kd.R_below bzfm_ hb); replace HO_4 := A0_ (Kd.R_below b0mw_ hb); replace HO_5 := A0_ (Kd.R_below bqlr_ hb); replace HO_6 := A0_ (Kd.R_below bj2s_ hb); replace HO_7 := A0_ (Kd.R_below bhm9_ hb); replace HO11 := A0_ (Kd.R_below bfdn_ hb); replace HO12 := A0_ (Kd.R_below b8dh_ hb); replace HO13 := A0_ (Kd.R_below bywj_ hb); replace BK1 := k1_ BK1 hb; replace BK2 := k1_ BK2 hb; replace BK3 := k1_ BK3 hb; replace BK4 := k1_ BK4 hb; replace HB := hb_ hb b2i7_; (try clear hb)))
   go_meet
   exact ⟨_, (true), b2ew_, H', ⟨bust_⟩, ⟨bfb7_⟩, ⟨bsf8_⟩, ⟨b4w4_⟩, ⟨b9hw_⟩, ⟨bo6m_⟩, ⟨bw0p_⟩, ⟨u1_ BK1⟩, ⟨u1_ BK2⟩, ⟨u1_ BK3⟩, ⟨u1_ BK4⟩, ⟨b2i7_⟩⟩
  subst c8
  rw [if_pos rfl] at H
  by_cases c9 : t28 = t16
  case neg =>
   rw [if_neg c9] at H
   obtain ⟨c9b0, c9b1⟩ := ef_ c9
   have H' := A0_ H
   clear H
   have hnb10 := NB4_1.out
   have hnc10 := NB1_4.out
   have hnb11 := NB4_2.out
   have hnc11 := NB2_4.out
   have hnb12 := NB4_3.out
   have hnc12 := NB3_4.out
   have hcz9 := z5_ BK4
   have hnb13 := NB2_1.out
   have hnc13 := NB1_2.out
   have hnb14 := NB2_3.out
   have hnc14 := NB3_2.out
   have hcz10 := z5_ BK2
   go_wp2_with (first | (go_at_call 11; (with_reducible refine (laws_eqHouse.calls kj1 t23 t24 _ _ t25 _ _ t26 t27 t11 t12 _ _ t13 _ _ t14 t15 true _ ?side1 ?side2 ?side3 ?side4 ?side5 ?side6 ?side7 ?side8 A31.out).mono ?_); (case side1 => exact blpa_); (case side2 => exact (rr_ HO_6.out).2.1); (case side3 => exact bnbi_); (case side4 => exact (rr_ HO_7.out).2.1); (case side5 => exact bqlu_); (case side6 => exact (rr_ HO_2.out).2.1); (case side7 => exact b1kt_); (case side8 => exact (rr_ HO_3.out).2.1); rintro e w19 ⟨rfl, hb⟩; replace HO_1 := A0_ (Kd.R_below bwik_ hb); replace HO_2 := A0_ (Kd.R_below b7sq_ hb); replace HO_3 := A0_ (Kd.R_below bzfm_ hb); replace HO_4 := A0_ (Kd.R_below b0mw_ hb); replace HO_5 := A0_ (Kd.R_below bqlr_ hb); replace HO_6 := A0_ (Kd.R_below bj2s_ hb); replace HO_7 := A0_ (Kd.R_below bhm9_ hb); replace HO11 := A0_ (Kd.R_below bfdn_ hb); replace HO12 := A0_ (Kd.R_below b8dh_ hb); replace HO13 := A0_ (Kd.R_below bywj_ hb); replace BK1 := k1_ BK1 hb; replace BK2 := k1_ BK2 hb; replace BK3 := k1_ BK3 hb; replace BK4 := k1_ BK4 hb; replace HB := hb_ hb b2i7_; (try clear hb)))
   go_meet
   exact ⟨_, (true), b2ew_, H', ⟨bust_⟩, ⟨bfb7_⟩, ⟨bsf8_⟩, ⟨b4w4_⟩, ⟨b9hw_⟩, ⟨bo6m_⟩, ⟨bw0p_⟩, ⟨u1_ BK1⟩, ⟨u1_ BK2⟩, ⟨u1_ BK3⟩, ⟨u1_ BK4⟩, ⟨b2i7_⟩⟩
  rw [if_pos c9] at H
  obtain ⟨c9b0, c9b1⟩ := et_ c9
  clear c9
  have H' := A0_ H
  clear H
  have hnb10 := NB4_1.out
  have hnc10 := NB1_4.out
  have hnb11 := NB4_2.out
  have hnc11 := NB2_4.out
  have hnb12 := NB4_3.out
  have hnc12 := NB3_4.out
  have hcz9 := z5_ BK4
  have hnb13 := NB2_1.out
  have hnc13 := NB1_2.out
  have hnb14 := NB2_3.out
  have hnc14 := NB3_2.out
  have hcz10 := z5_ BK2
  go_wp2_with (first | (go_at_call 11; (with_reducible refine (laws_eqHouse.calls kj1 t23 t24 _ _ t25 _ _ t26 t27 t11 t12 _ _ t13 _ _ t14 t15 true _ ?side1 ?side2 ?side3 ?side4 ?side5 ?side6 ?side7 ?side8 A31.out).mono ?_); (case side1 => exact blpa_); (case side2 => exact (rr_ HO_6.out).2.1); (case side3 => exact bnbi_); (case side4 => exact (rr_ HO_7.out).2.1); (case side5 => exact bqlu_); (case side6 => exact (rr_ HO_2.out).2.1); (case side7 => exact b1kt_); (case side8 => exact (rr_ HO_3.out).2.1); rintro e w19 ⟨rfl, hb⟩; replace HO_1 := A0_ (Kd.R_below bwik_ hb); replace HO_2 := A0_ (Kd.R_below b7sq_ hb); replace HO_3 := A0_ (Kd.R_below bzfm_ hb); replace HO_4 := A0_ (Kd.R_below b0mw_ hb); replace HO_5 := A0_ (Kd.R_below bqlr_ hb); replace HO_6 := A0_ (Kd.R_below bj2s_ hb); replace HO_7 := A0_ (Kd.R_below bhm9_ hb); replace HO11 := A0_ (Kd.R_below bfdn_ hb); replace HO12 := A0_ (Kd.R_below b8dh_ hb); replace HO13 := A0_ (Kd.R_below bywj_ hb); replace BK1 := k1_ BK1 hb; replace BK2 := k1_ BK2 hb; replace BK3 := k1_ BK3 hb; replace BK4 := k1_ BK4 hb; replace HB := hb_ hb b2i7_; (try clear hb)))
  go_meet
  exact ⟨_, ((t29 != t17)), b2ew_, H', ⟨bust_⟩, ⟨bfb7_⟩, ⟨bsf8_⟩, ⟨b4w4_⟩, ⟨b9hw_⟩, ⟨bo6m_⟩, ⟨bw0p_⟩, ⟨u1_ BK1⟩, ⟨u1_ BK2⟩, ⟨u1_ BK3⟩, ⟨u1_ BK4⟩, ⟨b2i7_⟩⟩
 clear HC90
 try clear c1
 try clear c2
 try clear c3
 try clear c3b0
 try clear c4
 try clear c5
 try clear c6
 (try clear hcz8); (try clear hcz1); (try clear hcz2); (try clear hcz3); (try clear hcz4); (try clear hcz5); (try clear hcz6); (try clear hcz7); (try clear hfz8); (try clear hfz1); (try clear hfz2); (try clear hfz3); (try clear hfz4); (try clear hfz5); (try clear hfz6); (try clear hfz7)
 obtain ⟨kq, x97_89, rfl, HA, HJ2, HO_2, HO_3, HO_4, HO_5, HO_6, HO_7, BK1, BK2, BK3, BK4, HB⟩ := hcut
 have hl597002_89 := (rr_ HO_4.out).1
 rw [hl597002_89] at HO_4
 (try simp only [hl597002_89])
 (try simp only [hl597002_89] at BK1)
 (try simp only [hl597002_89] at BK2)
 (try simp only [hl597002_89] at BK3)
 (try simp only [hl597002_89] at BK4)
 (try simp only [hl597002_89] at HO_2)
 (try simp only [hl597002_89] at HO_3)
 (try simp only [hl597002_89] at HO_5)
 (try simp only [hl597002_89] at HO_6)
 (try simp only [hl597002_89] at HO_7)
 have hl597003_89 := (rr_ HO_5.out).1
 rw [hl597003_89] at HO_5
 (try simp only [hl597003_89])
 (try simp only [hl597003_89] at BK1)
 (try simp only [hl597003_89] at BK2)
 (try simp only [hl597003_89] at BK3)
 (try simp only [hl597003_89] at BK4)
 (try simp only [hl597003_89] at HO_2)
 (try simp only [hl597003_89] at HO_3)
 (try simp only [hl597003_89] at HO_4)
 (try simp only [hl597003_89] at HO_6)
 (try simp only [hl597003_89] at HO_7)
 cases kq with | zero => exact absurd HA.out (by simp [laws_FnExactDoWorks.j1]) | succ kj2 => ?_
 as_aux_lemma =>
 have H := HA.out
 clear HA
 simp only [laws_FnExactDoWorks.j1] at H
 by_cases c7 : x97_89 = true
 ·subst c7
  rw [if_pos rfl] at H
  obtain rfl := si_ H
  go_wp2
  go_ret
  exact ⟨bnwh_, b2i7_⟩
 obtain rfl := bf_.mpr c7
 rw [if_neg ft_] at H
 obtain ⟨⟨t43, t44, t45⟩, A31, H⟩ := o1_ H
 obtain ⟨t46, A33, H⟩ := o1_ H
 by_cases c8 : t46 < 0
 ·rw [if_pos c8] at H
  have c8b0 : decide (t46 < 0) = true := dt_ c8
  clear c8
  obtain rfl := si_ H
  have hnb10 := NB4_1.out
  have hnc10 := NB1_4.out
  have hnb11 := NB4_2.out
  have hnc11 := NB2_4.out
  have hnb12 := NB4_3.out
  have hnc12 := NB3_4.out
  have hcz9 := z5_ BK4
  go_wp2_with (first | ((with_reducible refine gc_ (f := 13) rfl ?_); refine gl_ 100 Tryz.func13 #[.agg #[.int .i64 t23, .bool t24, .slice Ao9 t25.length co9, .slice Ao10 t26.length co10, .int .i64 t27], .int .i64 1] ?_; (with_reducible refine (laws_markHouse.calls kj2 t23 t24 (fun k_ => some k_ = (.slice Ao9 t25.length co9 : Value).ownBlock) (.slice Ao9 t25.length co9) t25 (fun k_ => some k_ = (.slice Ao10 t26.length co10 : Value).ownBlock) (.slice Ao10 t26.length co10) t26 t27 1 t43 t44 t45 w _ ?side1 ?side2 ?side3 ?side4 ?side5 A31.out).mono ?_); (case side1 => exact b2i7_); (case side2 => exact Kd.R_tight rfl HO_6.out); (case side3 => exact fun k_ e_ => (HO_6.out.1 k_ e_.symm).2.2.2.2); (case side4 => exact Kd.R_tight rfl HO_7.out); (case side5 => exact fun k_ e_ => (HO_7.out.1 k_ e_.symm).2.2.2.2); rintro e w19 ⟨rfl, hy1, hy2, hb, hkp⟩; refine ⟨_, rfl, ?_⟩; replace HO_2 := A0_ (Kd.R_mono (ok' := fun k_ => no_ (.slice Ao5 t14.length co5) k_ ∧ no_ (.slice Ao6 t39.length co6) k_ ∧ no_ (.slice Ao7 t40.length co7) k_ ∧ no_ (.slice Ao9 t25.length co9) k_ ∧ no_ (.slice Ao10 t26.length co10) k_) (Kd.R_keptB (HO_2.out) hkp (fun k_ hk_ hs_ => Or.elim hs_ (fun e_ => (hk_.2.2.2.1) e_) (fun e_ => (hk_.2.2.2.2) e_))) (fun k_ hk_ => ⟨hk_.1.1, hk_.1.2.1, hk_.1.2.2.1, hk_.1.2.2.2.1, hk_.1.2.2.2.2⟩)); replace HO_3 := A0_ (Kd.R_mono (ok' := fun k_ => no_ (.slice Ao4 t13.length co4) k_ ∧ no_ (.slice Ao6 t39.length co6) k_ ∧ no_ (.slice Ao7 t40.length co7) k_ ∧ no_ (.slice Ao9 t25.length co9) k_ ∧ no_ (.slice Ao10 t26.length co10) k_) (Kd.R_keptB (HO_3.out) hkp (fun k_ hk_ hs_ => Or.elim hs_ (fun e_ => (hk_.2.2.2.1) e_) (fun e_ => (hk_.2.2.2.2) e_))) (fun k_ hk_ => ⟨hk_.1.1, hk_.1.2.1, hk_.1.2.2.1, hk_.1.2.2.2.1, hk_.1.2.2.2.2⟩)); replace HO_4 := A0_ (Kd.R_mono (ok' := fun k_ => no_ (.slice Ao4 t13.length co4) k_ ∧ no_ (.slice Ao5 t14.length co5) k_ ∧ no_ (.slice Ao7 t40.length co7) k_ ∧ no_ (.slice Ao9 t25.length co9) k_ ∧ no_ (.slice Ao10 t26.length co10) k_) (Kd.R_keptB (HO_4.out) hkp (fun k_ hk_ hs_ => Or.elim hs_ (fun e_ => (hk_.2.2.2.1) e_) (fun e_ => (hk_.2.2.2.2) e_))) (fun k_ hk_ => ⟨hk_.1.1, hk_.1.2.1, hk_.1.2.2.1, hk_.1.2.2.2.1, hk_.1.2.2.2.2⟩)); replace HO_5 := A0_ (Kd.R_mono (ok' := fun k_ => no_ (.slice Ao4 t13.length co4) k_ ∧ no_ (.slice Ao5 t14.length co5) k_ ∧ no_ (.slice Ao6 t39.length co6) k_ ∧ no_ (.slice Ao9 t25.length co9) k_ ∧ no_ (.slice Ao10 t26.length co10) k_) (Kd.R_keptB (HO_5.out) hkp (fun k_ hk_ hs_ => Or.elim hs_ (fun e_ => (hk_.2.2.2.1) e_) (fun e_ => (hk_.2.2.2.2) e_))) (fun k_ hk_ => ⟨hk_.1.1, hk_.1.2.1, hk_.1.2.2.1, hk_.1.2.2.2.1, hk_.1.2.2.2.2⟩)); replace BK1 := A0_ (blk_kept (u1_ BK1) hkp (fun hs_ => Or.elim hs_ (fun e_ => (fun e_ => (Kd.R_ne HO_6.out BK1.out bi3y_) e_) e_) (fun e_ => (fun e_ => (Kd.R_ne HO_7.out BK1.out bi3y_) e_) e_))); replace BK2 := A0_ (blk_kept (u1_ BK2) hkp (fun hs_ => Or.elim hs_ (fun e_ => (fun e_ => (Kd.R_ne HO_6.out BK2.out bi3y_) e_) e_) (fun e_ => (fun e_ => (Kd.R_ne HO_7.out BK2.out bi3y_) e_) e_))); replace BK3 := A0_ (blk_kept (u1_ BK3) hkp (fun hs_ => Or.elim hs_ (fun e_ => (fun e_ => (Kd.R_ne HO_6.out BK3.out bi3y_) e_) e_) (fun e_ => (fun e_ => (Kd.R_ne HO_7.out BK3.out bi3y_) e_) e_))); replace BK4 := A0_ (blk_kept (u1_ BK4) hkp (fun hs_ => Or.elim hs_ (fun e_ => (fun e_ => (Kd.R_ne HO_6.out BK4.out bi3y_) e_) e_) (fun e_ => (fun e_ => (Kd.R_ne HO_7.out BK4.out bi3y_) e_) e_))); replace HO_6 := A0_ (Kd.R_reok rfl hy1 (fun k_ e_ => HO_6.out.1 k_ e_)); replace HO_7 := A0_ (Kd.R_reok rfl hy2 (fun k_ e_ => HO_7.out.1 k_ e_)); replace HB := A0_ (hb); (try clear hb); (try clear hkp); (try clear hy1); (try clear hy2); have hcz10 := z5_ BK4) | ((with_reducible refine gc_ (f := 15) rfl ?_); refine goesL_ (some 103) rfl rfl Tryz.func15 bfqv_ rfl #[.agg #[.int .i64 t23, .bool t24, .slice Ao9 t44.length co9, .slice Ao10 t45.length co10, .int .i64 t27], .int .i64 1] rfl bwd9_ ?_; (with_reducible refine (laws_heldHouse.calls kj2 t23 t24 _ _ t44 _ _ t45 t27 1 t46 _ ?side1 ?side2 ?side3 ?side4 A33.out).mono ?_); (case side1 => exact blpa_); (case side2 => rw [show t44.length = t25.length from (rr_ HO_6.out).1.symm]; exact (rr_ HO_6.out).2.1); (case side3 => exact bnbi_); (case side4 => rw [show t45.length = t26.length from (rr_ HO_7.out).1.symm]; exact (rr_ HO_7.out).2.1); rintro e w20 ⟨rfl, hb⟩; refine ⟨_, rfl, ?_⟩; replace HO_2 := A0_ (Kd.R_below b7sq_ hb); replace HO_3 := A0_ (Kd.R_below bzfm_ hb); replace HO_4 := A0_ (Kd.R_below b0mw_ hb); replace HO_5 := A0_ (Kd.R_below bqlr_ hb); replace HO_6 := A0_ (Kd.R_below bj2s_ hb); replace HO_7 := A0_ (Kd.R_below bhm9_ hb); replace BK1 := k1_ BK1 hb; replace BK2 := k1_ BK2 hb; replace BK3 := k1_ BK3 hb; replace BK4 := k1_ BK4 hb; replace HB := hb_ hb b2i7_; (try clear hb)))
  go_ret
  exact ⟨bnwh_, b2i7_⟩
 rw [if_neg c8] at H
 have c8b0 : decide (t46 < 0) = false := decide_eq_false c8
 clear c8
 by_cases c9 : t46 = t43
 case neg =>
  rw [if_neg c9] at H
  obtain ⟨c9b0, c9b1⟩ := ef_ c9
  obtain rfl := si_ H
  have hnb10 := NB4_1.out
  have hnc10 := NB1_4.out
  have hnb11 := NB4_2.out
  have hnc11 := NB2_4.out
  have hnb12 := NB4_3.out
  have hnc12 := NB3_4.out
  have hcz9 := z5_ BK4
  go_wp2_with (first | ((with_reducible refine gc_ (f := 13) rfl ?_); refine gl_ 100 Tryz.func13 #[.agg #[.int .i64 t23, .bool t24, .slice Ao9 t25.length co9, .slice Ao10 t26.length co10, .int .i64 t27], .int .i64 1] ?_; (with_reducible refine (laws_markHouse.calls kj2 t23 t24 (fun k_ => some k_ = (.slice Ao9 t25.length co9 : Value).ownBlock) (.slice Ao9 t25.length co9) t25 (fun k_ => some k_ = (.slice Ao10 t26.length co10 : Value).ownBlock) (.slice Ao10 t26.length co10) t26 t27 1 t43 t44 t45 w _ ?side1 ?side2 ?side3 ?side4 ?side5 A31.out).mono ?_); (case side1 => exact b2i7_); (case side2 => exact Kd.R_tight rfl HO_6.out); (case side3 => exact fun k_ e_ => (HO_6.out.1 k_ e_.symm).2.2.2.2); (case side4 => exact Kd.R_tight rfl HO_7.out); (case side5 => exact fun k_ e_ => (HO_7.out.1 k_ e_.symm).2.2.2.2); rintro e w19 ⟨rfl, hy1, hy2, hb, hkp⟩; refine ⟨_, rfl, ?_⟩; replace HO_2 := A0_ (Kd.R_mono (ok' := fun k_ => no_ (.slice Ao5 t14.length co5) k_ ∧ no_ (.slice Ao6 t39.length co6) k_ ∧ no_ (.slice Ao7 t40.length co7) k_ ∧ no_ (.slice Ao9 t25.length co9) k_ ∧ no_ (.slice Ao10 t26.length co10) k_) (Kd.R_keptB (HO_2.out) hkp (fun k_ hk_ hs_ => Or.elim hs_ (fun e_ => (hk_.2.2.2.1) e_) (fun e_ => (hk_.2.2.2.2) e_))) (fun k_ hk_ => ⟨hk_.1.1, hk_.1.2.1, hk_.1.2.2.1, hk_.1.2.2.2.1, hk_.1.2.2.2.2⟩)); replace HO_3 := A0_ (Kd.R_mono (ok' := fun k_ => no_ (.slice Ao4 t13.length co4) k_ ∧ no_ (.slice Ao6 t39.length co6) k_ ∧ no_ (.slice Ao7 t40.length co7) k_ ∧ no_ (.slice Ao9 t25.length co9) k_ ∧ no_ (.slice Ao10 t26.length co10) k_) (Kd.R_keptB (HO_3.out) hkp (fun k_ hk_ hs_ => Or.elim hs_ (fun e_ => (hk_.2.2.2.1) e_) (fun e_ => (hk_.2.2.2.2) e_))) (fun k_ hk_ => ⟨hk_.1.1, hk_.1.2.1, hk_.1.2.2.1, hk_.1.2.2.2.1, hk_.1.2.2.2.2⟩)); replace HO_4 := A0_ (Kd.R_mono (ok' := fun k_ => no_ (.slice Ao4 t13.length co4) k_ ∧ no_ (.slice Ao5 t14.length co5) k_ ∧ no_ (.slice Ao7 t40.length co7) k_ ∧ no_ (.slice Ao9 t25.length co9) k_ ∧ no_ (.slice Ao10 t26.length co10) k_) (Kd.R_keptB (HO_4.out) hkp (fun k_ hk_ hs_ => Or.elim hs_ (fun e_ => (hk_.2.2.2.1) e_) (fun e_ => (hk_.2.2.2.2) e_))) (fun k_ hk_ => ⟨hk_.1.1, hk_.1.2.1, hk_.1.2.2.1, hk_.1.2.2.2.1, hk_.1.2.2.2.2⟩)); replace HO_5 := A0_ (Kd.R_mono (ok' := fun k_ => no_ (.slice Ao4 t13.length co4) k_ ∧ no_ (.slice Ao5 t14.length co5) k_ ∧ no_ (.slice Ao6 t39.length co6) k_ ∧ no_ (.slice Ao9 t25.length co9) k_ ∧ no_ (.slice Ao10 t26.length co10) k_) (Kd.R_keptB (HO_5.out) hkp (fun k_ hk_ hs_ => Or.elim hs_ (fun e_ => (hk_.2.2.2.1) e_) (fun e_ => (hk_.2.2.2.2) e_))) (fun k_ hk_ => ⟨hk_.1.1, hk_.1.2.1, hk_.1.2.2.1, hk_.1.2.2.2.1, hk_.1.2.2.2.2⟩)); replace BK1 := A0_ (blk_kept (u1_ BK1) hkp (fun hs_ => Or.elim hs_ (fun e_ => (fun e_ => (Kd.R_ne HO_6.out BK1.out bi3y_) e_) e_) (fun e_ => (fun e_ => (Kd.R_ne HO_7.out BK1.out bi3y_) e_) e_))); replace BK2 := A0_ (blk_kept (u1_ BK2) hkp (fun hs_ => Or.elim hs_ (fun e_ => (fun e_ => (Kd.R_ne HO_6.out BK2.out bi3y_) e_) e_) (fun e_ => (fun e_ => (Kd.R_ne HO_7.out BK2.out bi3y_) e_) e_))); replace BK3 := A0_ (blk_kept (u1_ BK3) hkp (fun hs_ => Or.elim hs_ (fun e_ => (fun e_ => (Kd.R_ne HO_6.out BK3.out bi3y_) e_) e_) (fun e_ => (fun e_ => (Kd.R_ne HO_7.out BK3.out bi3y_) e_) e_))); replace BK4 := A0_ (blk_kept (u1_ BK4) hkp (fun hs_ => Or.elim hs_ (fun e_ => (fun e_ => (Kd.R_ne HO_6.out BK4.out bi3y_) e_) e_) (fun e_ => (fun e_ => (Kd.R_ne HO_7.out BK4.out bi3y_) e_) e_))); replace HO_6 := A0_ (Kd.R_reok rfl hy1 (fun k_ e_ => HO_6.out.1 k_ e_)); replace HO_7 := A0_ (Kd.R_reok rfl hy2 (fun k_ e_ => HO_7.out.1 k_ e_)); replace HB := A0_ (hb); (try clear hb); (try clear hkp); (try clear hy1); (try clear hy2); have hcz10 := z5_ BK4) | ((with_reducible refine gc_ (f := 15) rfl ?_); refine goesL_ (some 103) rfl rfl Tryz.func15 bfqv_ rfl #[.agg #[.int .i64 t23, .bool t24, .slice Ao9 t44.length co9, .slice Ao10 t45.length co10, .int .i64 t27], .int .i64 1] rfl bwd9_ ?_; (with_reducible refine (laws_heldHouse.calls kj2 t23 t24 _ _ t44 _ _ t45 t27 1 t46 _ ?side1 ?side2 ?side3 ?side4 A33.out).mono ?_); (case side1 => exact blpa_); (case side2 => rw [show t44.length = t25.length from (rr_ HO_6.out).1.symm]; exact (rr_ HO_6.out).2.1); (case side3 => exact bnbi_); (case side4 => rw [show t45.length = t26.length from (rr_ HO_7.out).1.symm]; exact (rr_ HO_7.out).2.1); rintro e w20 ⟨rfl, hb⟩; refine ⟨_, rfl, ?_⟩; replace HO_2 := A0_ (Kd.R_below b7sq_ hb); replace HO_3 := A0_ (Kd.R_below bzfm_ hb); replace HO_4 := A0_ (Kd.R_below b0mw_ hb); replace HO_5 := A0_ (Kd.R_below bqlr_ hb); replace HO_6 := A0_ (Kd.R_below bj2s_ hb); replace HO_7 := A0_ (Kd.R_below bhm9_ hb); replace BK1 := k1_ BK1 hb; replace BK2 := k1_ BK2 hb; replace BK3 := k1_ BK3 hb; replace BK4 := k1_ BK4 hb; replace HB := hb_ hb b2i7_; (try clear hb)))
  go_ret
  exact ⟨bnwh_, b2i7_⟩
 rw [if_pos c9] at H
 obtain ⟨c9b0, c9b1⟩ := et_ c9
 clear c9
 obtain ⟨⟨t47, t48, t49, t50, t51⟩, A35, H⟩ := o1_ H
 obtain ⟨t52, A37, H⟩ := o1_ H
 obtain ⟨⟨t53, t54, t55, t56, t57, t58, t59⟩, A39, H⟩ := o1_ H
 have HC148 := A0_ H
 clear H
 have hnb10 := NB4_1.out
 have hnc10 := NB1_4.out
 have hnb11 := NB4_2.out
 have hnc11 := NB2_4.out
 have hnb12 := NB4_3.out
 have hnc12 := NB3_4.out
 have hcz9 := z5_ BK4
 go_upto_region 32 with (first | ((with_reducible refine gc_ (f := 13) rfl ?_); refine gl_ 100 Tryz.func13 #[.agg #[.int .i64 t23, .bool t24, .slice Ao9 t25.length co9, .slice Ao10 t26.length co10, .int .i64 t27], .int .i64 1] ?_; (with_reducible refine (laws_markHouse.calls kj2 t23 t24 (fun k_ => some k_ = (.slice Ao9 t25.length co9 : Value).ownBlock) (.slice Ao9 t25.length co9) t25 (fun k_ => some k_ = (.slice Ao10 t26.length co10 : Value).ownBlock) (.slice Ao10 t26.length co10) t26 t27 1 t43 t44 t45 w _ ?side1 ?side2 ?side3 ?side4 ?side5 A31.out).mono ?_); (case side1 => exact b2i7_); (case side2 => exact Kd.R_tight rfl HO_6.out); (case side3 => exact fun k_ e_ => (HO_6.out.1 k_ e_.symm).2.2.2.2); (case side4 => exact Kd.R_tight rfl HO_7.out); (case side5 => exact fun k_ e_ => (HO_7.out.1 k_ e_.symm).2.2.2.2); rintro e w19 ⟨rfl, hy1, hy2, hb, hkp⟩; refine ⟨_, rfl, ?_⟩; replace HO_2 := A0_ (Kd.R_mono (ok' := fun k_ => no_ (.slice Ao5 t14.length co5) k_ ∧ no_ (.slice Ao6 t39.length co6) k_ ∧ no_ (.slice Ao7 t40.length co7) k_ ∧ no_ (.slice Ao9 t25.length co9) k_ ∧ no_ (.slice Ao10 t26.length co10) k_) (Kd.R_keptB (HO_2.out) hkp (fun k_ hk_ hs_ => Or.elim hs_ (fun e_ => (hk_.2.2.2.1) e_) (fun e_ => (hk_.2.2.2.2) e_))) (fun k_ hk_ => ⟨hk_.1.1, hk_.1.2.1, hk_.1.2.2.1, hk_.1.2.2.2.1, hk_.1.2.2.2.2⟩)); replace HO_3 := A0_ (Kd.R_mono (ok' := fun k_ => no_ (.slice Ao4 t13.length co4) k_ ∧ no_ (.slice Ao6 t39.length co6) k_ ∧ no_ (.slice Ao7 t40.length co7) k_ ∧ no_ (.slice Ao9 t25.length co9) k_ ∧ no_ (.slice Ao10 t26.length co10) k_) (Kd.R_keptB (HO_3.out) hkp (fun k_ hk_ hs_ => Or.elim hs_ (fun e_ => (hk_.2.2.2.1) e_) (fun e_ => (hk_.2.2.2.2) e_))) (fun k_ hk_ => ⟨hk_.1.1, hk_.1.2.1, hk_.1.2.2.1, hk_.1.2.2.2.1, hk_.1.2.2.2.2⟩)); replace HO_4 := A0_ (Kd.R_mono (ok' := fun k_ => no_ (.slice Ao4 t13.length co4) k_ ∧ no_ (.slice Ao5 t14.length co5) k_ ∧ no_ (.slice Ao7 t40.length co7) k_ ∧ no_ (.slice Ao9 t25.length co9) k_ ∧ no_ (.slice Ao10 t26.length co10) k_) (Kd.R_keptB (HO_4.out) hkp (fun k_ hk_ hs_ => Or.elim hs_ (fun e_ => (hk_.2.2.2.1) e_) (fun e_ => (hk_.2.2.2.2) e_))) (fun k_ hk_ => ⟨hk_.1.1, hk_.1.2.1, hk_.1.2.2.1, hk_.1.2.2.2.1, hk_.1.2.2.2.2⟩)); replace HO_5 := A0_ (Kd.R_mono (ok' := fun k_ => no_ (.slice Ao4 t13.length co4) k_ ∧ no_ (.slice Ao5 t14.length co5) k_ ∧ no_ (.slice Ao6 t39.length co6) k_ ∧ no_ (.slice Ao9 t25.length co9) k_ ∧ no_ (.slice Ao10 t26.length co10) k_) (Kd.R_keptB (HO_5.out) hkp (fun k_ hk_ hs_ => Or.elim hs_ (fun e_ => (hk_.2.2.2.1) e_) (fun e_ => (hk_.2.2.2.2) e_))) (fun k_ hk_ => ⟨hk_.1.1, hk_.1.2.1, hk_.1.2.2.1, hk_.1.2.2.2.1, hk_.1.2.2.2.2⟩)); replace BK1 := A0_ (blk_kept (u1_ BK1) hkp (fun hs_ => Or.elim hs_ (fun e_ => (fun e_ => (Kd.R_ne HO_6.out BK1.out bi3y_) e_) e_) (fun e_ => (fun e_ => (Kd.R_ne HO_7.out BK1.out bi3y_) e_) e_))); replace BK2 := A0_ (blk_kept (u1_ BK2) hkp (fun hs_ => Or.elim hs_ (fun e_ => (fun e_ => (Kd.R_ne HO_6.out BK2.out bi3y_) e_) e_) (fun e_ => (fun e_ => (Kd.R_ne HO_7.out BK2.out bi3y_) e_) e_))); replace BK3 := A0_ (blk_kept (u1_ BK3) hkp (fun hs_ => Or.elim hs_ (fun e_ => (fun e_ => (Kd.R_ne HO_6.out BK3.out bi3y_) e_) e_) (fun e_ => (fun e_ => (Kd.R_ne HO_7.out BK3.out bi3y_) e_) e_))); replace BK4 := A0_ (blk_kept (u1_ BK4) hkp (fun hs_ => Or.elim hs_ (fun e_ => (fun e_ => (Kd.R_ne HO_6.out BK4.out bi3y_) e_) e_) (fun e_ => (fun e_ => (Kd.R_ne HO_7.out BK4.out bi3y_) e_) e_))); replace HO_6 := A0_ (Kd.R_reok rfl hy1 (fun k_ e_ => HO_6.out.1 k_ e_)); replace HO_7 := A0_ (Kd.R_reok rfl hy2 (fun k_ e_ => HO_7.out.1 k_ e_)); replace HB := A0_ (hb); (try clear hb); (try clear hkp); (try clear hy1); (try clear hy2); have hcz10 := z5_ BK4) | ((with_reducible refine gc_ (f := 15) rfl ?_); refine goesL_ (some 103) rfl rfl Tryz.func15 bfqv_ rfl #[.agg #[.int .i64 t23, .bool t24, .slice Ao9 t44.length co9, .slice Ao10 t45.length co10, .int .i64 t27], .int .i64 1] rfl bwd9_ ?_; (with_reducible refine (laws_heldHouse.calls kj2 t23 t24 _ _ t44 _ _ t45 t27 1 t46 _ ?side1 ?side2 ?side3 ?side4 A33.out).mono ?_); (case side1 => exact blpa_); (case side2 => rw [show t44.length = t25.length from (rr_ HO_6.out).1.symm]; exact (rr_ HO_6.out).2.1); (case side3 => exact bnbi_); (case side4 => rw [show t45.length = t26.length from (rr_ HO_7.out).1.symm]; exact (rr_ HO_7.out).2.1); rintro e w20 ⟨rfl, hb⟩; refine ⟨_, rfl, ?_⟩; replace HO_2 := A0_ (Kd.R_below b7sq_ hb); replace HO_3 := A0_ (Kd.R_below bzfm_ hb); replace HO_4 := A0_ (Kd.R_below b0mw_ hb); replace HO_5 := A0_ (Kd.R_below bqlr_ hb); replace HO_6 := A0_ (Kd.R_below bj2s_ hb); replace HO_7 := A0_ (Kd.R_below bhm9_ hb); replace BK1 := k1_ BK1 hb; replace BK2 := k1_ BK2 hb; replace BK3 := k1_ BK3 hb; replace BK4 := k1_ BK4 hb; replace HB := hb_ hb b2i7_; (try clear hb); have hnb13 := NB1_2.out; have hnc13 := NB2_1.out; have hnb14 := NB1_3.out; have hnc14 := NB3_1.out; have hcz11 := z5_ BK1) | ((with_reducible refine gc_ (f := 8) rfl ?_); refine gl_ 111 Tryz.func8 #[.agg #[.int .i64 a0_0, .bool a0_1, .slice A0_2 l0_2.length c0_2, .slice A0_3 l0_3.length c0_3, .int .i64 a0_4]] ?_; (with_reducible refine (laws_toHouse.calls kj2 a0_0 a0_1 _ _ l0_2 _ _ l0_3 a0_4 t47 t48 t49 t50 t51 _ ?side1 ?side2 ?side3 ?side4 A35.out).mono ?_); (case side1 => exact b6n8_); (case side2 => exact HC0_2.out); (case side3 => exact bkan_); (case side4 => exact HC0_3.out); rintro e w21 ⟨v16, v17, rfl, ho0, ho1, hb⟩; refine ⟨_, rfl, ?_⟩; have HO14 := A0_ (Kd.R_lower (Kd.R_new' (Kd.R_new' (Kd.R_new' (Kd.R_new' (Kd.R_new' (Kd.R_new' ho0 (Kd.R_lt b7sq_)) (Kd.R_lt bzfm_)) (Kd.R_lt b0mw_)) (Kd.R_lt bqlr_)) (Kd.R_lt bj2s_)) (Kd.R_lt bhm9_)) (bz_ b2i7_)); have HO15 := A0_ (Kd.R_lower (Kd.R_new' (Kd.R_new' (Kd.R_new' (Kd.R_new' (Kd.R_new' (Kd.R_new' ho1 (Kd.R_lt b7sq_)) (Kd.R_lt bzfm_)) (Kd.R_lt b0mw_)) (Kd.R_lt bqlr_)) (Kd.R_lt bj2s_)) (Kd.R_lt bhm9_)) (bz_ b2i7_)); replace HO_2 := A0_ (Kd.R_mono (Kd.R_told (Kd.R_told (Kd.R_old b7sq_ hb) (Kd.R_base ho0)) (Kd.R_base ho1)) (fun _ h_ => h_.1)); replace HO_3 := A0_ (Kd.R_mono (Kd.R_told (Kd.R_told (Kd.R_old bzfm_ hb) (Kd.R_base ho0)) (Kd.R_base ho1)) (fun _ h_ => h_.1)); replace HO_4 := A0_ (Kd.R_mono (Kd.R_told (Kd.R_told (Kd.R_old b0mw_ hb) (Kd.R_base ho0)) (Kd.R_base ho1)) (fun _ h_ => h_.1)); replace HO_5 := A0_ (Kd.R_mono (Kd.R_told (Kd.R_told (Kd.R_old bqlr_ hb) (Kd.R_base ho0)) (Kd.R_base ho1)) (fun _ h_ => h_.1)); replace HO_6 := A0_ (Kd.R_mono (Kd.R_told (Kd.R_told (Kd.R_old bj2s_ hb) (Kd.R_base ho0)) (Kd.R_base ho1)) (fun _ h_ => h_.1)); replace HO_7 := A0_ (Kd.R_mono (Kd.R_told (Kd.R_told (Kd.R_old bhm9_ hb) (Kd.R_base ho0)) (Kd.R_base ho1)) (fun _ h_ => h_.1)); replace BK1 := k1_ BK1 hb; replace BK2 := k1_ BK2 hb; replace BK3 := k1_ BK3 hb; replace BK4 := k1_ BK4 hb; replace HB := hb_ hb b2i7_; (try clear hb); (try clear ho0); (try clear ho1)) | ((with_reducible refine gc_ (f := 9) rfl ?_); refine gl_ 113 Tryz.func9 #[.slice A1 l1.length c1] ?_; (with_reducible refine (laws_toWorkS.calls kj2 _ _ l1 t52 _ ?side1 ?side2 A37.out).mono ?_); (case side1 => exact b3d8_); (case side2 => exact HC1.out); rintro e w22 ⟨v18, rfl, ho0, hb⟩; refine ⟨_, rfl, ?_⟩; replace HO_2 := A0_ (Kd.R_below b7sq_ hb); replace HO_3 := A0_ (Kd.R_below bzfm_ hb); replace HO_4 := A0_ (Kd.R_below b0mw_ hb); replace HO_5 := A0_ (Kd.R_below bqlr_ hb); replace HO_6 := A0_ (Kd.R_below bj2s_ hb); replace HO_7 := A0_ (Kd.R_below bhm9_ hb); replace HO14 := A0_ (Kd.R_below bynj_ hb); replace HO15 := A0_ (Kd.R_below b39o_ hb); have HO16 := A0_ (Kd.R_lower ho0 (bz_ b2i7_)); replace BK1 := k1_ BK1 hb; replace BK2 := k1_ BK2 hb; replace BK3 := k1_ BK3 hb; replace BK4 := k1_ BK4 hb; replace HB := hb_ hb b2i7_; (try clear hb); (try clear ho0); obtain ⟨Ao14, co14, eo14⟩ := Kd.R_slice HO14.out; subst eo14; obtain ⟨Ao15, co15, eo15⟩ := Kd.R_slice HO15.out; subst eo15; obtain ⟨Ao16, co16, eo16⟩ := Kd.R_slice HO16.out; subst eo16) | ((with_reducible refine gc_ (f := 10) rfl ?_); refine gl_ 114 Tryz.func10 #[.agg #[.int .i64 t47, .bool t48, .slice Ao14 t49.length co14, .slice Ao15 t50.length co15, .int .i64 t51], .slice Ao16 t52.length co16] ?_; (with_reducible refine (impl_DoWorks.calls kj2 t47 t48 _ _ t49 _ _ t50 t51 _ _ t52 t53 t54 t55 t56 t57 t58 t59 _ ?side1 ?side2 ?side3 ?side4 ?side5 ?side6 b8s7_ A39.out).mono ?_); (case side1 => exact (by repeat (first | exact (rr_ HO14.out).2.2 | (with_reducible refine ca_ ?_ _) | (with_reducible refine cn_ ?_ _) | (with_reducible refine cd_ ?_)))); (case side2 => exact (rr_ HO14.out).2.1); (case side3 => exact (by repeat (first | exact (rr_ HO15.out).2.2 | (with_reducible refine ca_ ?_ _) | (with_reducible refine cn_ ?_ _) | (with_reducible refine cd_ ?_)))); (case side4 => exact (rr_ HO15.out).2.1); (case side5 => exact (by repeat (first | exact (rr_ HO16.out).2.2 | (with_reducible refine ca_ ?_ _) | (with_reducible refine cn_ ?_ _) | (with_reducible refine cd_ ?_)))); (case side6 => exact (rr_ HO16.out).2.1); rintro e w23 ⟨v19, v20, rfl, ho0, ho1, hb⟩; refine ⟨_, rfl, ?_⟩; replace HO16 := A0_ (Kd.R_below (by (with_reducible repeat (first | apply ra_ | apply rn_ | apply rd_)); exact HO16.out) hb); have HO17 := A0_ (Kd.R_lower (Kd.R_new' (Kd.R_new' (Kd.R_new' (Kd.R_new' (Kd.R_new' (Kd.R_new' (Kd.R_new' (Kd.R_new' ho0 (Kd.R_lt b7sq_)) (Kd.R_lt bzfm_)) (Kd.R_lt b0mw_)) (Kd.R_lt bqlr_)) (Kd.R_lt bj2s_)) (Kd.R_lt bhm9_)) (Kd.R_lt bynj_)) (Kd.R_lt b39o_)) (bz_ b2i7_)); have HO18 := A0_ (Kd.R_lower (Kd.R_new' (Kd.R_new' (Kd.R_new' (Kd.R_new' (Kd.R_new' (Kd.R_new' (Kd.R_new' (Kd.R_new' ho1 (Kd.R_lt b7sq_)) (Kd.R_lt bzfm_)) (Kd.R_lt b0mw_)) (Kd.R_lt bqlr_)) (Kd.R_lt bj2s_)) (Kd.R_lt bhm9_)) (Kd.R_lt bynj_)) (Kd.R_lt b39o_)) (bz_ b2i7_)); replace HO_2 := A0_ (Kd.R_mono (Kd.R_told (Kd.R_told (Kd.R_old b7sq_ hb) (Kd.R_base ho0)) (Kd.R_base ho1)) (fun _ h_ => h_.1)); replace HO_3 := A0_ (Kd.R_mono (Kd.R_told (Kd.R_told (Kd.R_old bzfm_ hb) (Kd.R_base ho0)) (Kd.R_base ho1)) (fun _ h_ => h_.1)); replace HO_4 := A0_ (Kd.R_mono (Kd.R_told (Kd.R_told (Kd.R_old b0mw_ hb) (Kd.R_base ho0)) (Kd.R_base ho1)) (fun _ h_ => h_.1)); replace HO_5 := A0_ (Kd.R_mono (Kd.R_told (Kd.R_told (Kd.R_old bqlr_ hb) (Kd.R_base ho0)) (Kd.R_base ho1)) (fun _ h_ => h_.1)); replace HO_6 := A0_ (Kd.R_mono (Kd.R_told (Kd.R_told (Kd.R_old bj2s_ hb) (Kd.R_base ho0)) (Kd.R_base ho1)) (fun _ h_ => h_.1)); replace HO_7 := A0_ (Kd.R_mono (Kd.R_told (Kd.R_told (Kd.R_old bhm9_ hb) (Kd.R_base ho0)) (Kd.R_base ho1)) (fun _ h_ => h_.1)); replace HO14 := A0_ (Kd.R_mono (Kd.R_told (Kd.R_told (Kd.R_old bynj_ hb) (Kd.R_base ho0)) (Kd.R_base ho1)) (fun _ h_ => h_.1)); replace HO15 := A0_ (Kd.R_mono (Kd.R_told (Kd.R_told (Kd.R_old b39o_ hb) (Kd.R_base ho0)) (Kd.R_base ho1)) (fun _ h_ => h_.1)); replace BK1 := k1_ BK1 hb; replace BK2 := k1_ BK2 hb; replace BK3 := k1_ BK3 hb; replace BK4 := k1_ BK4 hb; replace HB := hb_ hb b2i7_; (try clear hb); (try clear ho0); (try clear ho1)) | ((with_reducible refine gd_ (N := 17) rfl ?_); refine bx_ 17 #[.int .i64 0, .bool false, .slice none 0 0, .slice none 0 0, .int .i64 0] 32 ?_; intro gb5 hg w24 BK5 hb; replace HO_2 := A0_ (Kd.R_below b7sq_ hb); replace HO_3 := A0_ (Kd.R_below bzfm_ hb); replace HO_4 := A0_ (Kd.R_below b0mw_ hb); replace HO_5 := A0_ (Kd.R_below bqlr_ hb); replace HO_6 := A0_ (Kd.R_below bj2s_ hb); replace HO_7 := A0_ (Kd.R_below bhm9_ hb); replace HO14 := A0_ (Kd.R_below bynj_ hb); replace HO15 := A0_ (Kd.R_below b39o_ hb); replace HO16 := A0_ (Kd.R_below (by (with_reducible repeat (first | apply ra_ | apply rn_ | apply rd_)); exact HO16.out) hb); replace HO17 := A0_ (Kd.R_below (by (with_reducible repeat (first | apply ra_ | apply rn_ | apply rd_)); exact HO17.out) hb); replace HO18 := A0_ (Kd.R_below (by (with_reducible repeat (first | apply ra_ | apply rn_ | apply rd_)); exact HO18.out) hb); have GW5 := ge_ hg b2i7_; have GE5 := GW5; replace HB := hb_ hb b2i7_; have NB1_5 := nl_ hg BK1; have NB5_1 := ng_ hg BK1; replace BK1 := k1_ BK1 hb; have NB2_5 := nl_ hg BK2; have NB5_2 := ng_ hg BK2; replace BK2 := k1_ BK2 hb; have NB3_5 := nl_ hg BK3; have NB5_3 := ng_ hg BK3; replace BK3 := k1_ BK3 hb; have NB4_5 := nl_ hg BK4; have NB5_4 := ng_ hg BK4; replace BK4 := k1_ BK4 hb; clear hb hg; have hnb15 := NB5_1.out; have hnc15 := NB1_5.out; have hnb16 := NB5_2.out; have hnc16 := NB2_5.out; have hnb17 := NB5_3.out; have hnc17 := NB3_5.out; have hnb18 := NB5_4.out; have hnc18 := NB4_5.out; have hcz12 := z5_ BK5; obtain ⟨Ao17, co17, eo17⟩ := Kd.R_slice HO17.out; subst eo17; obtain ⟨Ao18, co18, eo18⟩ := Kd.R_slice HO18.out; subst eo18))
 (try simp only [Act.put, sa_, sz_, ss_])
 go_cut [131] from 98 to 131 (fun v21 wc => ∃ (kq : Nat) (x131_147 : Bool), v21 = .bool x131_147 ∧ Aside0 (laws_FnExactDoWorks.j2 kq t43 x131_147 t23 t24 t44 t45 t27 = some r) ∧ Aside0 (kq ≤ kj2) ∧ Aside0 (Kd.R (Kd.int .i64) 3 wc w.heap.size (fun k_ => no_ (.slice Ao5 t14.length co5) k_ ∧ no_ (.slice Ao6 t39.length co6) k_ ∧ no_ (.slice Ao7 t40.length co7) k_ ∧ no_ (.slice Ao9 t25.length co9) k_ ∧ no_ (.slice Ao10 t26.length co10) k_ ∧ no_ (.slice Ao17 t55.length co17) k_ ∧ no_ (.slice Ao18 t56.length co18) k_) (.slice Ao4 t13.length co4) t13) ∧ Aside0 (Kd.R (Kd.int .i64) 3 wc w.heap.size (fun k_ => no_ (.slice Ao4 t13.length co4) k_ ∧ no_ (.slice Ao6 t39.length co6) k_ ∧ no_ (.slice Ao7 t40.length co7) k_ ∧ no_ (.slice Ao9 t25.length co9) k_ ∧ no_ (.slice Ao10 t26.length co10) k_ ∧ no_ (.slice Ao17 t55.length co17) k_ ∧ no_ (.slice Ao18 t56.length co18) k_) (.slice Ao5 t14.length co5) t14) ∧ Aside0 (Kd.R (Kd.int .i64) 3 wc w.heap.size (fun k_ => no_ (.slice Ao4 t13.length co4) k_ ∧ no_ (.slice Ao5 t14.length co5) k_ ∧ no_ (.slice Ao7 t40.length co7) k_ ∧ no_ (.slice Ao9 t25.length co9) k_ ∧ no_ (.slice Ao10 t26.length co10) k_ ∧ no_ (.slice Ao17 t55.length co17) k_ ∧ no_ (.slice Ao18 t56.length co18) k_) (.slice Ao6 t39.length co6) t39) ∧ Aside0 (Kd.R (Kd.int .i64) 3 wc w.heap.size (fun k_ => no_ (.slice Ao4 t13.length co4) k_ ∧ no_ (.slice Ao5 t14.length co5) k_ ∧ no_ (.slice Ao6 t39.length co6) k_ ∧ no_ (.slice Ao9 t25.length co9) k_ ∧ no_ (.slice Ao10 t26.length co10) k_ ∧ no_ (.slice Ao17 t55.length co17) k_ ∧ no_ (.slice Ao18 t56.length co18) k_) (.slice Ao7 t40.length co7) t40) ∧ Aside0 (Kd.R (Kd.int .i64) 3 wc w.heap.size (fun k_ => no_ (.slice Ao4 t13.length co4) k_ ∧ no_ (.slice Ao5 t14.length co5) k_ ∧ no_ (.slice Ao6 t39.length co6) k_ ∧ no_ (.slice Ao7 t40.length co7) k_ ∧ no_ (.slice Ao10 t26.length co10) k_ ∧ no_ (.slice Ao17 t55.length co17) k_ ∧ no_ (.slice Ao18 t56.length co18) k_) (.slice Ao9 t25.length co9) t44) ∧ Aside0 (Kd.R (Kd.int .i64) 3 wc w.heap.size (fun k_ => no_ (.slice Ao4 t13.length co4) k_ ∧ no_ (.slice Ao5 t14.length co5) k_ ∧ no_ (.slice Ao6 t39.length co6) k_ ∧ no_ (.slice Ao7 t40.length co7) k_ ∧ no_ (.slice Ao9 t25.length co9) k_ ∧ no_ (.slice Ao17 t55.length co17) k_ ∧ no_ (.slice Ao18 t56.length co18) k_) (.slice Ao10 t26.length co10) t45) ∧ Aside0 (Kd.R (Kd.int .i64) 3 wc w.heap.size (fun k_ => no_ (.slice Ao4 t13.length co4) k_ ∧ no_ (.slice Ao5 t14.length co5) k_ ∧ no_ (.slice Ao6 t39.length co6) k_ ∧ no_ (.slice Ao7 t40.length co7) k_ ∧ no_ (.slice Ao9 t25.length co9) k_ ∧ no_ (.slice Ao10 t26.length co10) k_ ∧ no_ (.slice Ao18 t56.length co18) k_) (.slice Ao17 t55.length co17) t55) ∧ Aside0 (Kd.R (Kd.int .i64) 3 wc w.heap.size (fun k_ => no_ (.slice Ao4 t13.length co4) k_ ∧ no_ (.slice Ao5 t14.length co5) k_ ∧ no_ (.slice Ao6 t39.length co6) k_ ∧ no_ (.slice Ao7 t40.length co7) k_ ∧ no_ (.slice Ao9 t25.length co9) k_ ∧ no_ (.slice Ao10 t26.length co10) k_ ∧ no_ (.slice Ao17 t55.length co17) k_) (.slice Ao18 t56.length co18) t56) ∧ Aside0 (wc.heap[gb1]? = some (.cells #[.int .i64 a0_0, .bool a0_1, (.slice A0_2 l0_2.length c0_2), (.slice A0_3 l0_3.length c0_3), .int .i64 a0_4] 26 (0, 0))) ∧ Aside0 (wc.heap[gb2]? = some (.cells #[.int .i64 t11, .bool t12, (.slice Ao4 t13.length co4), (.slice Ao5 t14.length co5), .int .i64 t15] 32 (0, 0))) ∧ Aside0 (wc.heap[gb3]? = some (.cells #[.int .i64 t18, .bool t19, (.slice Ao6 t39.length co6), (.slice Ao7 t40.length co7), .int .i64 t22] 32 (0, 0))) ∧ Aside0 (wc.heap[gb4]? = some (.cells #[.int .i64 t23, .bool t24, (.slice Ao9 t25.length co9), (.slice Ao10 t26.length co10), .int .i64 t27] 32 (0, 0))) ∧ Aside0 (wc.heap[gb5]? = some (.cells #[.int .i64 t53, .bool t54, (.slice Ao17 t55.length co17), (.slice Ao18 t56.length co18), .int .i64 t57] 32 (0, 0))) ∧ Aside0 (Below w.heap.size w wc))
 case first =>
  have H := HC148.out
  clear HC148
  obtain ⟨t60, A41, H⟩ := o1_ H
  by_cases c10 : t60 = true
  case neg =>
   obtain rfl := bf_.mpr c10
   rw [if_neg ft_] at H
   have H' := A0_ H
   clear H
   have hnb19 := NB5_1.out
   have hnc19 := NB1_5.out
   have hnb20 := NB5_2.out
   have hnc20 := NB2_5.out
   have hnb21 := NB5_3.out
   have hnc21 := NB3_5.out
   have hnb22 := NB5_4.out
   have hnc22 := NB4_5.out
   have hcz13 := z5_ BK5
   have hnb23 := NB2_1.out
   have hnc23 := NB1_2.out
   have hnb24 := NB2_3.out
   have hnc24 := NB3_2.out
   have hnb25 := NB2_4.out
   have hnc25 := NB4_2.out
   have hcz14 := z5_ BK2
   go_wp2_with (first | ((with_reducible refine gc_ (f := 11) rfl ?_); refine gl_ 120 Tryz.func11 #[.agg #[.int .i64 t53, .bool t54, .slice Ao17 t55.length co17, .slice Ao18 t56.length co18, .int .i64 t57], .agg #[.int .i64 t11, .bool t12, .slice Ao4 t13.length co4, .slice Ao5 t14.length co5, .int .i64 t15]] ?_; (with_reducible refine (laws_eqHouse.calls kj2 t53 t54 _ _ t55 _ _ t56 t57 t11 t12 _ _ t13 _ _ t14 t15 false _ ?side1 ?side2 ?side3 ?side4 ?side5 ?side6 ?side7 ?side8 A41.out).mono ?_); (case side1 => refine (rr_ (e := 3) (base := w.heap.size) (ok := fun k_ => ((((((((no_ (.slice Ao18 t56.length co18) k_ ∧ no_ (.slice Ao4 t13.length co4) k_) ∧ no_ (.slice Ao5 t14.length co5) k_) ∧ no_ (.slice Ao6 t39.length co6) k_) ∧ no_ (.slice Ao7 t40.length co7) k_) ∧ no_ (.slice Ao9 t25.length co9) k_) ∧ no_ (.slice Ao10 t26.length co10) k_) ∧ no_ (.slice Ao14 t49.length co14) k_) ∧ no_ (.slice Ao15 t50.length co15) k_)) (n := t55.length) (c := co17) ?_).2.2; exact b9aj_); (case side2 => exact (rr_ HO17.out).2.1); (case side3 => refine (rr_ (e := 3) (base := w.heap.size) (ok := fun k_ => ((((((((no_ (.slice Ao17 t55.length co17) k_ ∧ no_ (.slice Ao4 t13.length co4) k_) ∧ no_ (.slice Ao5 t14.length co5) k_) ∧ no_ (.slice Ao6 t39.length co6) k_) ∧ no_ (.slice Ao7 t40.length co7) k_) ∧ no_ (.slice Ao9 t25.length co9) k_) ∧ no_ (.slice Ao10 t26.length co10) k_) ∧ no_ (.slice Ao14 t49.length co14) k_) ∧ no_ (.slice Ao15 t50.length co15) k_)) (n := t56.length) (c := co18) ?_).2.2; exact bvls_); (case side4 => exact (rr_ HO18.out).2.1); (case side5 => refine (rr_ (e := 3) (base := w.heap.size) (ok := fun k_ => (((((no_ (.slice Ao5 t14.length co5) k_ ∧ (no_ (.slice Ao6 t39.length co6) k_ ∧ (no_ (.slice Ao7 t40.length co7) k_ ∧ (no_ (.slice Ao9 t25.length co9) k_ ∧ no_ (.slice Ao10 t26.length co10) k_)))) ∧ no_ (.slice Ao14 t49.length co14) k_) ∧ no_ (.slice Ao15 t50.length co15) k_) ∧ no_ (.slice Ao17 t55.length co17) k_) ∧ no_ (.slice Ao18 t56.length co18) k_)) (n := t13.length) (c := co4) ?_).2.2; exact budy_); (case side6 => exact (rr_ HO_2.out).2.1); (case side7 => refine (rr_ (e := 3) (base := w.heap.size) (ok := fun k_ => (((((no_ (.slice Ao4 t13.length co4) k_ ∧ (no_ (.slice Ao6 t39.length co6) k_ ∧ (no_ (.slice Ao7 t40.length co7) k_ ∧ (no_ (.slice Ao9 t25.length co9) k_ ∧ no_ (.slice Ao10 t26.length co10) k_)))) ∧ no_ (.slice Ao14 t49.length co14) k_) ∧ no_ (.slice Ao15 t50.length co15) k_) ∧ no_ (.slice Ao17 t55.length co17) k_) ∧ no_ (.slice Ao18 t56.length co18) k_)) (n := t14.length) (c := co5) ?_).2.2; exact bwuz_); (case side8 => exact (rr_ HO_3.out).2.1); rintro e w25 ⟨rfl, hb⟩; refine ⟨_, rfl, ?_⟩; replace HO_2 := A0_ (Kd.R_below budy_ hb); replace HO_3 := A0_ (Kd.R_below bwuz_ hb); replace HO_4 := A0_ (Kd.R_below bxgi_ hb); replace HO_5 := A0_ (Kd.R_below by03_ hb); replace HO_6 := A0_ (Kd.R_below bfmy_ hb); replace HO_7 := A0_ (Kd.R_below bp71_ hb); replace HO14 := A0_ (Kd.R_below b3cg_ hb); replace HO15 := A0_ (Kd.R_below bxsw_ hb); replace HO16 := A0_ (Kd.R_below bewa_ hb); replace HO17 := A0_ (Kd.R_below b9aj_ hb); replace HO18 := A0_ (Kd.R_below bvls_ hb); replace BK1 := k1_ BK1 hb; replace BK2 := k1_ BK2 hb; replace BK3 := k1_ BK3 hb; replace BK4 := k1_ BK4 hb; replace BK5 := k2_ (.cells #[.int .i64 t53, .bool t54, .slice Ao17 t55.length co17, .slice Ao18 t56.length co18, .int .i64 t57] 32 (0, 0)) BK5 hb; replace HB := hb_ hb b5zo_; (try clear hb)))
   go_meet
   exact ⟨_, (true), b2ew_, H', ⟨bjw4b_⟩, ⟨bco3_⟩, ⟨bn5t_⟩, ⟨bupt_⟩, ⟨b5g6_⟩, ⟨bv93_⟩, ⟨b4vb_⟩, ⟨bc87_⟩, ⟨b4ol_⟩, ⟨bkwt_⟩, ⟨bv5k_⟩, ⟨bru8_⟩, ⟨bj10_⟩, ⟨b7i6_⟩, ⟨b5zo_⟩⟩
  subst c10
  rw [if_pos rfl] at H
  by_cases c11 : t58 = t16
  case neg =>
   rw [if_neg c11] at H
   obtain ⟨c11b0, c11b1⟩ := ef_ c11
   (first | rw [c11b0] | (simp only [i64_w, i32_w]; rw [c11b0]) | skip)
   have H' := A0_ H
   clear H
   have hnb19 := NB5_1.out
   have hnc19 := NB1_5.out
   have hnb20 := NB5_2.out
   have hnc20 := NB2_5.out
   have hnb21 := NB5_3.out
   have hnc21 := NB3_5.out
   have hnb22 := NB5_4.out
   have hnc22 := NB4_5.out
   have hcz13 := z5_ BK5
   have hnb23 := NB2_1.out
   have hnc23 := NB1_2.out
   have hnb24 := NB2_3.out
   have hnc24 := NB3_2.out
   have hnb25 := NB2_4.out
   have hnc25 := NB4_2.out
   have hcz14 := z5_ BK2
   go_wp2_with (first | ((with_reducible refine gc_ (f := 11) rfl ?_); refine gl_ 120 Tryz.func11 #[.agg #[.int .i64 t53, .bool t54, .slice Ao17 t55.length co17, .slice Ao18 t56.length co18, .int .i64 t57], .agg #[.int .i64 t11, .bool t12, .slice Ao4 t13.length co4, .slice Ao5 t14.length co5, .int .i64 t15]] ?_; (with_reducible refine (laws_eqHouse.calls kj2 t53 t54 _ _ t55 _ _ t56 t57 t11 t12 _ _ t13 _ _ t14 t15 true _ ?side1 ?side2 ?side3 ?side4 ?side5 ?side6 ?side7 ?side8 A41.out).mono ?_); (case side1 => refine (rr_ (e := 3) (base := w.heap.size) (ok := fun k_ => ((((((((no_ (.slice Ao18 t56.length co18) k_ ∧ no_ (.slice Ao4 t13.length co4) k_) ∧ no_ (.slice Ao5 t14.length co5) k_) ∧ no_ (.slice Ao6 t39.length co6) k_) ∧ no_ (.slice Ao7 t40.length co7) k_) ∧ no_ (.slice Ao9 t25.length co9) k_) ∧ no_ (.slice Ao10 t26.length co10) k_) ∧ no_ (.slice Ao14 t49.length co14) k_) ∧ no_ (.slice Ao15 t50.length co15) k_)) (n := t55.length) (c := co17) ?_).2.2; exact b9aj_); (case side2 => exact (rr_ HO17.out).2.1); (case side3 => refine (rr_ (e := 3) (base := w.heap.size) (ok := fun k_ => ((((((((no_ (.slice Ao17 t55.length co17) k_ ∧ no_ (.slice Ao4 t13.length co4) k_) ∧ no_ (.slice Ao5 t14.length co5) k_) ∧ no_ (.slice Ao6 t39.length co6) k_) ∧ no_ (.slice Ao7 t40.length co7) k_) ∧ no_ (.slice Ao9 t25.length co9) k_) ∧ no_ (.slice Ao10 t26.length co10) k_) ∧ no_ (.slice Ao14 t49.length co14) k_) ∧ no_ (.slice Ao15 t50.length co15) k_)) (n := t56.length) (c := co18) ?_).2.2; exact bvls_); (case side4 => exact (rr_ HO18.out).2.1); (case side5 => refine (rr_ (e := 3) (base := w.heap.size) (ok := fun k_ => (((((no_ (.slice Ao5 t14.length co5) k_ ∧ (no_ (.slice Ao6 t39.length co6) k_ ∧ (no_ (.slice Ao7 t40.length co7) k_ ∧ (no_ (.slice Ao9 t25.length co9) k_ ∧ no_ (.slice Ao10 t26.length co10) k_)))) ∧ no_ (.slice Ao14 t49.length co14) k_) ∧ no_ (.slice Ao15 t50.length co15) k_) ∧ no_ (.slice Ao17 t55.length co17) k_) ∧ no_ (.slice Ao18 t56.length co18) k_)) (n := t13.length) (c := co4) ?_).2.2; exact budy_); (case side6 => exact (rr_ HO_2.out).2.1); (case side7 => refine (rr_ (e := 3) (base := w.heap.size) (ok := fun k_ => (((((no_ (.slice Ao4 t13.length co4) k_ ∧ (no_ (.slice Ao6 t39.length co6) k_ ∧ (no_ (.slice Ao7 t40.length co7) k_ ∧ (no_ (.slice Ao9 t25.length co9) k_ ∧ no_ (.slice Ao10 t26.length co10) k_)))) ∧ no_ (.slice Ao14 t49.length co14) k_) ∧ no_ (.slice Ao15 t50.length co15) k_) ∧ no_ (.slice Ao17 t55.length co17) k_) ∧ no_ (.slice Ao18 t56.length co18) k_)) (n := t14.length) (c := co5) ?_).2.2; exact bwuz_); (case side8 => exact (rr_ HO_3.out).2.1); rintro e w25 ⟨rfl, hb⟩; refine ⟨_, rfl, ?_⟩; replace HO_2 := A0_ (Kd.R_below budy_ hb); replace HO_3 := A0_ (Kd.R_below bwuz_ hb); replace HO_4 := A0_ (Kd.R_below bxgi_ hb); replace HO_5 := A0_ (Kd.R_below by03_ hb); replace HO_6 := A0_ (Kd.R_below bfmy_ hb); replace HO_7 := A0_ (Kd.R_below bp71_ hb); replace HO14 := A0_ (Kd.R_below b3cg_ hb); replace HO15 := A0_ (Kd.R_below bxsw_ hb); replace HO16 := A0_ (Kd.R_below bewa_ hb); replace HO17 := A0_ (Kd.R_below b9aj_ hb); replace HO18 := A0_ (Kd.R_below bvls_ hb); replace BK1 := k1_ BK1 hb; replace BK2 := k1_ BK2 hb; replace BK3 := k1_ BK3 hb; replace BK4 := k1_ BK4 hb; replace BK5 := k2_ (.cells #[.int .i64 t53, .bool t54, .slice Ao17 t55.length co17, .slice Ao18 t56.length co18, .int .i64 t57] 32 (0, 0)) BK5 hb; replace HB := hb_ hb b5zo_; (try clear hb)))
   go_meet
   exact ⟨_, (true), b2ew_, H', ⟨bjw4b_⟩, ⟨bco3_⟩, ⟨bn5t_⟩, ⟨bupt_⟩, ⟨b5g6_⟩, ⟨bv93_⟩, ⟨b4vb_⟩, ⟨bc87_⟩, ⟨b4ol_⟩, ⟨bkwt_⟩, ⟨bv5k_⟩, ⟨bru8_⟩, ⟨bj10_⟩, ⟨b7i6_⟩, ⟨b5zo_⟩⟩
  rw [if_pos c11] at H
  obtain ⟨c11b0, c11b1⟩ := et_ c11
  clear c11
  (first | rw [c11b0] | (simp only [i64_w, i32_w]; rw [c11b0]) | skip)
  have H' := A0_ H
  clear H
  have hnb19 := NB5_1.out
  have hnc19 := NB1_5.out
  have hnb20 := NB5_2.out
  have hnc20 := NB2_5.out
  have hnb21 := NB5_3.out
  have hnc21 := NB3_5.out
  have hnb22 := NB5_4.out
  have hnc22 := NB4_5.out
  have hcz13 := z5_ BK5
  have hnb23 := NB2_1.out
  have hnc23 := NB1_2.out
  have hnb24 := NB2_3.out
  have hnc24 := NB3_2.out
  have hnb25 := NB2_4.out
  have hnc25 := NB4_2.out
  have hcz14 := z5_ BK2
  go_wp2_with (first | ((with_reducible refine gc_ (f := 11) rfl ?_); refine gl_ 120 Tryz.func11 #[.agg #[.int .i64 t53, .bool t54, .slice Ao17 t55.length co17, .slice Ao18 t56.length co18, .int .i64 t57], .agg #[.int .i64 t11, .bool t12, .slice Ao4 t13.length co4, .slice Ao5 t14.length co5, .int .i64 t15]] ?_; (with_reducible refine (laws_eqHouse.calls kj2 t53 t54 _ _ t55 _ _ t56 t57 t11 t12 _ _ t13 _ _ t14 t15 true _ ?side1 ?side2 ?side3 ?side4 ?side5 ?side6 ?side7 ?side8 A41.out).mono ?_); (case side1 => refine (rr_ (e := 3) (base := w.heap.size) (ok := fun k_ => ((((((((no_ (.slice Ao18 t56.length co18) k_ ∧ no_ (.slice Ao4 t13.length co4) k_) ∧ no_ (.slice Ao5 t14.length co5) k_) ∧ no_ (.slice Ao6 t39.length co6) k_) ∧ no_ (.slice Ao7 t40.length co7) k_) ∧ no_ (.slice Ao9 t25.length co9) k_) ∧ no_ (.slice Ao10 t26.length co10) k_) ∧ no_ (.slice Ao14 t49.length co14) k_) ∧ no_ (.slice Ao15 t50.length co15) k_)) (n := t55.length) (c := co17) ?_).2.2; exact b9aj_); (case side2 => exact (rr_ HO17.out).2.1); (case side3 => refine (rr_ (e := 3) (base := w.heap.size) (ok := fun k_ => ((((((((no_ (.slice Ao17 t55.length co17) k_ ∧ no_ (.slice Ao4 t13.length co4) k_) ∧ no_ (.slice Ao5 t14.length co5) k_) ∧ no_ (.slice Ao6 t39.length co6) k_) ∧ no_ (.slice Ao7 t40.length co7) k_) ∧ no_ (.slice Ao9 t25.length co9) k_) ∧ no_ (.slice Ao10 t26.length co10) k_) ∧ no_ (.slice Ao14 t49.length co14) k_) ∧ no_ (.slice Ao15 t50.length co15) k_)) (n := t56.length) (c := co18) ?_).2.2; exact bvls_); (case side4 => exact (rr_ HO18.out).2.1); (case side5 => refine (rr_ (e := 3) (base := w.heap.size) (ok := fun k_ => (((((no_ (.slice Ao5 t14.length co5) k_ ∧ (no_ (.slice Ao6 t39.length co6) k_ ∧ (no_ (.slice Ao7 t40.length co7) k_ ∧ (no_ (.slice Ao9 t25.length co9) k_ ∧ no_ (.slice Ao10 t26.length co10) k_)))) ∧ no_ (.slice Ao14 t49.length co14) k_) ∧ no_ (.slice Ao15 t50.length co15) k_) ∧ no_ (.slice Ao17 t55.length co17) k_) ∧ no_ (.slice Ao18 t56.length co18) k_)) (n := t13.length) (c := co4) ?_).2.2; exact budy_); (case side6 => exact (rr_ HO_2.out).2.1); (case side7 => refine (rr_ (e := 3) (base := w.heap.size) (ok := fun k_ => (((((no_ (.slice Ao4 t13.length co4) k_ ∧ (no_ (.slice Ao6 t39.length co6) k_ ∧ (no_ (.slice Ao7 t40.length co7) k_ ∧ (no_ (.slice Ao9 t25.length co9) k_ ∧ no_ (.slice Ao10 t26.length co10) k_)))) ∧ no_ (.slice Ao14 t49.length co14) k_) ∧ no_ (.slice Ao15 t50.length co15) k_) ∧ no_ (.slice Ao17 t55.length co17) k_) ∧ no_ (.slice Ao18 t56.length co18) k_)) (n := t14.length) (c := co5) ?_).2.2; exact bwuz_); (case side8 => exact (rr_ HO_3.out).2.1); rintro e w25 ⟨rfl, hb⟩; refine ⟨_, rfl, ?_⟩; replace HO_2 := A0_ (Kd.R_below budy_ hb); replace HO_3 := A0_ (Kd.R_below bwuz_ hb); replace HO_4 := A0_ (Kd.R_below bxgi_ hb); replace HO_5 := A0_ (Kd.R_below by03_ hb); replace HO_6 := A0_ (Kd.R_below bfmy_ hb); replace HO_7 := A0_ (Kd.R_below bp71_ hb); replace HO14 := A0_ (Kd.R_below b3cg_ hb); replace HO15 := A0_ (Kd.R_below bxsw_ hb); replace HO16 := A0_ (Kd.R_below bewa_ hb); replace HO17 := A0_ (Kd.R_below b9aj_ hb); replace HO18 := A0_ (Kd.R_below bvls_ hb); replace BK1 := k1_ BK1 hb; replace BK2 := k1_ BK2 hb; replace BK3 := k1_ BK3 hb; replace BK4 := k1_ BK4 hb; replace BK5 := k2_ (.cells #[.int .i64 t53, .bool t54, .slice Ao17 t55.length co17, .slice Ao18 t56.length co18, .int .i64 t57] 32 (0, 0)) BK5 hb; replace HB := hb_ hb b5zo_; (try clear hb)))
  go_meet
  exact ⟨_, ((t59 != t17)), b2ew_, H', ⟨bjw4b_⟩, ⟨bco3_⟩, ⟨bn5t_⟩, ⟨bupt_⟩, ⟨b5g6_⟩, ⟨bv93_⟩, ⟨b4vb_⟩, ⟨bc87_⟩, ⟨b4ol_⟩, ⟨bkwt_⟩, ⟨bv5k_⟩, ⟨bru8_⟩, ⟨bj10_⟩, ⟨b7i6_⟩, ⟨b5zo_⟩⟩
 clear HC148
 try clear c1
 try clear c2
 try clear c3
 try clear c3b0
 try clear c4
 try clear c5
 try clear c6
 try clear c7
 try clear c8
 try clear c8b0
 try clear c9
 try clear c9b0
 try clear c9b1
 (try clear hcz8); (try clear hcz9); (try clear hcz10); (try clear hcz11); (try clear hcz12); (try clear hcz1); (try clear hcz2); (try clear hcz3); (try clear hcz4); (try clear hcz5); (try clear hcz6); (try clear hcz7); (try clear hfz8); (try clear hfz9); (try clear hfz10); (try clear hfz11); (try clear hfz12); (try clear hfz1); (try clear hfz2); (try clear hfz3); (try clear hfz4); (try clear hfz5); (try clear hfz6); (try clear hfz7)
 obtain ⟨kq, x131_147, rfl, HA, HJ3, HO_2, HO_3, HO_4, HO_5, HO_6, HO_7, HO_8, HO_9, BK1, BK2, BK3, BK4, BK5, HB⟩ := hcut
 have hl612002_147 := (rr_ HO_6.out).1
 rw [hl612002_147] at HO_6
 (try simp only [hl612002_147])
 (try simp only [hl612002_147] at BK1)
 (try simp only [hl612002_147] at BK2)
 (try simp only [hl612002_147] at BK3)
 (try simp only [hl612002_147] at BK4)
 (try simp only [hl612002_147] at BK5)
 (try simp only [hl612002_147] at HO_2)
 (try simp only [hl612002_147] at HO_3)
 (try simp only [hl612002_147] at HO_4)
 (try simp only [hl612002_147] at HO_5)
 (try simp only [hl612002_147] at HO_7)
 (try simp only [hl612002_147] at HO_8)
 (try simp only [hl612002_147] at HO_9)
 have hl612003_147 := (rr_ HO_7.out).1
 rw [hl612003_147] at HO_7
 (try simp only [hl612003_147])
 (try simp only [hl612003_147] at BK1)
 (try simp only [hl612003_147] at BK2)
 (try simp only [hl612003_147] at BK3)
 (try simp only [hl612003_147] at BK4)
 (try simp only [hl612003_147] at BK5)
 (try simp only [hl612003_147] at HO_2)
 (try simp only [hl612003_147] at HO_3)
 (try simp only [hl612003_147] at HO_4)
 (try simp only [hl612003_147] at HO_5)
 (try simp only [hl612003_147] at HO_6)
 (try simp only [hl612003_147] at HO_8)
 (try simp only [hl612003_147] at HO_9)
 cases kq with | zero => exact absurd HA.out (by simp [laws_FnExactDoWorks.j2]) | succ kj3 => ?_
 as_aux_lemma =>
 have H := HA.out
 clear HA
 simp only [laws_FnExactDoWorks.j2] at H
 by_cases c10 : x131_147 = true
 ·subst c10
  rw [if_pos rfl] at H
  obtain rfl := si_ H
  go_wp2
  go_ret
  exact ⟨bnwh_, b5zo_⟩
 obtain rfl := bf_.mpr c10
 rw [if_neg ft_] at H
 obtain ⟨t60, A41, H⟩ := o1_ H
 by_cases c11 : t60 < 0
 ·rw [if_pos c11] at H
  have c11b0 : decide (t60 < 0) = true := dt_ c11
  clear c11
  obtain rfl := si_ H
  have hnb19 := NB4_1.out
  have hnc19 := NB1_4.out
  have hnb20 := NB4_2.out
  have hnc20 := NB2_4.out
  have hnb21 := NB4_3.out
  have hnc21 := NB3_4.out
  have hnb22 := NB4_5.out
  have hnc22 := NB5_4.out
  have hcz13 := z5_ BK4
  go_wp2_with (first | ((with_reducible refine gc_ (f := 15) rfl ?_); refine gl_ 134 Tryz.func15 #[.agg #[.int .i64 t23, .bool t24, .slice Ao9 t44.length co9, .slice Ao10 t45.length co10, .int .i64 t27], .int .i64 1] ?_; (with_reducible refine (laws_heldHouse.calls kj3 t23 t24 _ _ t44 _ _ t45 t27 1 t60 _ ?side1 ?side2 ?side3 ?side4 A41.out).mono ?_); (case side1 => exact blpa_); (case side2 => exact (rr_ HO_6.out).2.1); (case side3 => exact bnbi_); (case side4 => exact (rr_ HO_7.out).2.1); rintro e w25 ⟨rfl, hb⟩; refine ⟨_, rfl, ?_⟩; replace HO_2 := A0_ (Kd.R_below b7sq_ hb); replace HO_3 := A0_ (Kd.R_below bzfm_ hb); replace HO_4 := A0_ (Kd.R_below b0mw_ hb); replace HO_5 := A0_ (Kd.R_below bqlr_ hb); replace HO_6 := A0_ (Kd.R_below bj2s_ hb); replace HO_7 := A0_ (Kd.R_below bhm9_ hb); replace HO_8 := A0_ (Kd.R_below b64b_ hb); replace HO_9 := A0_ (Kd.R_below bh09_ hb); replace BK1 := k1_ BK1 hb; replace BK2 := k1_ BK2 hb; replace BK3 := k1_ BK3 hb; replace BK4 := k1_ BK4 hb; replace BK5 := k1_ BK5 hb; replace HB := hb_ hb b5zo_; (try clear hb)))
  go_ret
  exact ⟨bnwh_, b5zo_⟩
 rw [if_neg c11] at H
 have c11b0 : decide (t60 < 0) = false := decide_eq_false c11
 clear c11
 by_cases c12 : t60 = t43
 case neg =>
  rw [if_neg c12] at H
  obtain ⟨c12b0, c12b1⟩ := ef_ c12
  obtain rfl := si_ H
  have hnb19 := NB4_1.out
  have hnc19 := NB1_4.out
  have hnb20 := NB4_2.out
  have hnc20 := NB2_4.out
  have hnb21 := NB4_3.out
  have hnc21 := NB3_4.out
  have hnb22 := NB4_5.out
  have hnc22 := NB5_4.out
  have hcz13 := z5_ BK4
  go_wp2_with (first | ((with_reducible refine gc_ (f := 15) rfl ?_); refine gl_ 134 Tryz.func15 #[.agg #[.int .i64 t23, .bool t24, .slice Ao9 t44.length co9, .slice Ao10 t45.length co10, .int .i64 t27], .int .i64 1] ?_; (with_reducible refine (laws_heldHouse.calls kj3 t23 t24 _ _ t44 _ _ t45 t27 1 t60 _ ?side1 ?side2 ?side3 ?side4 A41.out).mono ?_); (case side1 => exact blpa_); (case side2 => exact (rr_ HO_6.out).2.1); (case side3 => exact bnbi_); (case side4 => exact (rr_ HO_7.out).2.1); rintro e w25 ⟨rfl, hb⟩; refine ⟨_, rfl, ?_⟩; replace HO_2 := A0_ (Kd.R_below b7sq_ hb); replace HO_3 := A0_ (Kd.R_below bzfm_ hb); replace HO_4 := A0_ (Kd.R_below b0mw_ hb); replace HO_5 := A0_ (Kd.R_below bqlr_ hb); replace HO_6 := A0_ (Kd.R_below bj2s_ hb); replace HO_7 := A0_ (Kd.R_below bhm9_ hb); replace HO_8 := A0_ (Kd.R_below b64b_ hb); replace HO_9 := A0_ (Kd.R_below bh09_ hb); replace BK1 := k1_ BK1 hb; replace BK2 := k1_ BK2 hb; replace BK3 := k1_ BK3 hb; replace BK4 := k1_ BK4 hb; replace BK5 := k1_ BK5 hb; replace HB := hb_ hb b5zo_; (try clear hb)))
  go_ret
  exact ⟨bnwh_, b5zo_⟩
 rw [if_pos c12] at H
 obtain ⟨c12b0, c12b1⟩ := et_ c12
 clear c12
 obtain rfl := si_ H
 have hnb19 := NB4_1.out
 have hnc19 := NB1_4.out
 have hnb20 := NB4_2.out
 have hnc20 := NB2_4.out
 have hnb21 := NB4_3.out
 have hnc21 := NB3_4.out
 have hnb22 := NB4_5.out
 have hnc22 := NB5_4.out
 have hcz13 := z5_ BK4
 go_wp2_with (first | ((with_reducible refine gc_ (f := 15) rfl ?_); refine gl_ 134 Tryz.func15 #[.agg #[.int .i64 t23, .bool t24, .slice Ao9 t44.length co9, .slice Ao10 t45.length co10, .int .i64 t27], .int .i64 1] ?_; (with_reducible refine (laws_heldHouse.calls kj3 t23 t24 _ _ t44 _ _ t45 t27 1 t60 _ ?side1 ?side2 ?side3 ?side4 A41.out).mono ?_); (case side1 => exact blpa_); (case side2 => exact (rr_ HO_6.out).2.1); (case side3 => exact bnbi_); (case side4 => exact (rr_ HO_7.out).2.1); rintro e w25 ⟨rfl, hb⟩; refine ⟨_, rfl, ?_⟩; replace HO_2 := A0_ (Kd.R_below b7sq_ hb); replace HO_3 := A0_ (Kd.R_below bzfm_ hb); replace HO_4 := A0_ (Kd.R_below b0mw_ hb); replace HO_5 := A0_ (Kd.R_below bqlr_ hb); replace HO_6 := A0_ (Kd.R_below bj2s_ hb); replace HO_7 := A0_ (Kd.R_below bhm9_ hb); replace HO_8 := A0_ (Kd.R_below b64b_ hb); replace HO_9 := A0_ (Kd.R_below bh09_ hb); replace BK1 := k1_ BK1 hb; replace BK2 := k1_ BK2 hb; replace BK3 := k1_ BK3 hb; replace BK4 := k1_ BK4 hb; replace BK5 := k1_ BK5 hb; replace HB := hb_ hb b5zo_; (try clear hb)))
 go_ret
 exact ⟨bnwh_, b5zo_⟩

end Go.Proofs.YtbohmfnjgjijdaaGreatDoor.QFnExactDoWorks
-- packed
-- squeezed
