-- Written by px.py, a program of this session, over the kit's printer: some functions have a definition and a proof of this session's own.
import Derived.Test.YtgmodeeebkngcaaGreatDoorQFnExactIsValidConsolex0
import Derived.Test.YtgmodeeebkngcaaGreatDoorQFnExactIsValidConsolex1
import Derived.Test.YtgmodeeebkngcaaGreatDoorQFnExactIsValidConsolex2
namespace Go.Proofs.YtgmodeeebkngcaaGreatDoor.QFnExactIsValidConsole
open Go.RowKit Go.Proofs.YtgmodeeebkngcaaGreatDoorW.PrintWords Go.Proofs.YtgmodeeebkngcaaGreatDoorW.PrintLast Go.Proofs.YtgmodeeebkngcaaGreatDoorW.PrintMore
attribute [local go_sem] max2_int min2_int max_two min_two max_three min_three max_four min_four   -- for this text's walks alone
set_option linter.unusedVariables false
set_option linter.unusedSimpArgs false
set_option maxHeartbeats 8000000
set_option maxRecDepth 100000

def laws_FnExactIsValidConsole.f (k : Nat) (a0_0 : Int) (a0_1 : Bool) (l0_2 : List Int) (l0_3 : List Int) (a0_4 : Int) (a0_5 : ByteArray) (a0_6 : ByteArray) (a0_7 : Int) : Option (Bool) := (laws_szConsole.f a0_0 a0_1 l0_2 l0_3 a0_4 a0_5 a0_6 a0_7 1048576).bind fun t341 => (if t341 < 0 then (some true) else ((laws_toConsole.f k a0_0 a0_1 l0_2 l0_3 a0_4 a0_5 a0_6 a0_7).bind fun bt342 => ((spec_IsValidConsole.f k bt342.1 bt342.2.1 bt342.2.2.1 bt342.2.2.2.1 bt342.2.2.2.2.1 bt342.2.2.2.2.2.1 bt342.2.2.2.2.2.2.1 bt342.2.2.2.2.2.2.2).bind fun t354 => ((laws_toConsole.f k a0_0 a0_1 l0_2 l0_3 a0_4 a0_5 a0_6 a0_7).bind fun bt355 => ((impl_IsValidConsole.f k bt355.1 bt355.2.1 bt355.2.2.1 bt355.2.2.2.1 bt355.2.2.2.2.1 bt355.2.2.2.2.2.1 bt355.2.2.2.2.2.2.1 bt355.2.2.2.2.2.2.2).bind fun t368 => (if (t368 != t354) = true then (some false) else ((laws_toConsole.f k a0_0 a0_1 l0_2 l0_3 a0_4 a0_5 a0_6 a0_7).bind fun bt369 => ((laws_eqConsole.f k bt355.1 bt355.2.1 bt355.2.2.1 bt355.2.2.2.1 bt355.2.2.2.2.1 bt355.2.2.2.2.2.1 bt355.2.2.2.2.2.2.1 bt355.2.2.2.2.2.2.2 bt369.1 bt369.2.1 bt369.2.2.1 bt369.2.2.2.1 bt369.2.2.2.2.1 bt369.2.2.2.2.2.1 bt369.2.2.2.2.2.2.1 bt369.2.2.2.2.2.2.2).bind fun t381 => (if t381 = true then (some true) else (some false))))))))))
theorem laws_FnExactIsValidConsole.mono : ∀ a0 a1 a2 a3 a4 a5 a6 a7 k, LeO (laws_FnExactIsValidConsole.f k a0 a1 a2 a3 a4 a5 a6 a7) (laws_FnExactIsValidConsole.f (k + 1) a0 a1 a2 a3 a4 a5 a6 a7) := by
 intro a0 a1 a2 a3 a4 a5 a6 a7 k
 unfold laws_FnExactIsValidConsole.f
 repeat' with_reducible first | exact impl_IsValidConsole.mono .. | exact laws_eqConsole.mono .. | exact laws_toConsole.mono .. | exact spec_IsValidConsole.mono .. | exact LeO.refl .. | exact LeO.none .. | refine LeO.ite ?_ ?_ | refine LeO.bind ?_ (fun _ => ?_)
theorem laws_FnExactIsValidConsole.calls (k : Nat) (a0_0 : Int) (a0_1 : Bool) (A0_2 : Option Addr) (c0_2 : Nat) (l0_2 : List Int) (A0_3 : Option Addr) (c0_3 : Nat) (l0_3 : List Int) (a0_4 : Int) (a0_5 : ByteArray) (a0_6 : ByteArray) (a0_7 : Int) (r : Bool) (w : World) (hr0_2 : Kd.C (Kd.int .i64) w A0_2 l0_2.length l0_2) (hc0_2 : l0_2.length ≤ c0_2) (hr0_3 : Kd.C (Kd.int .i64) w A0_3 l0_3.length l0_3) (hc0_3 : l0_3.length ≤ c0_3) (hG : TabOK w) (h : laws_FnExactIsValidConsole.f k a0_0 a0_1 l0_2 l0_3 a0_4 a0_5 a0_6 a0_7 = some r) :
  Calls Tryz.prog 3 #[.agg #[.int .i64 a0_0, .bool a0_1, .slice A0_2 l0_2.length c0_2, .slice A0_3 l0_3.length c0_3, .int .i64 a0_4, .string a0_5, .string a0_6, .int .i64 a0_7]] w fun e w' => e = .returned (.bool r) ∧ Below w.heap.size w w' := by
 have HG0 := A0_ hG
 clear hG
 have hu30 := Tryz.underlying30
 have hu38 := Tryz.underlying38
 have HR0_2 := A0_ hr0_2
 have HC0_2 := A0_ hc0_2
 clear hr0_2 hc0_2
 have HR0_3 := A0_ hr0_3
 have HC0_3 := A0_ hc0_3
 clear hr0_3 hc0_3
 have HB := A0_ (Below.refl w.heap.size w)
 have H : ((laws_szConsole.f a0_0 a0_1 l0_2 l0_3 a0_4 a0_5 a0_6 a0_7 1048576).bind fun t1 => (if t1 < 0 then (some true) else ((laws_toConsole.f k a0_0 a0_1 l0_2 l0_3 a0_4 a0_5 a0_6 a0_7).bind fun bt1 => ((spec_IsValidConsole.f k bt1.1 bt1.2.1 bt1.2.2.1 bt1.2.2.2.1 bt1.2.2.2.2.1 bt1.2.2.2.2.2.1 bt1.2.2.2.2.2.2.1 bt1.2.2.2.2.2.2.2).bind fun t2 => ((laws_toConsole.f k a0_0 a0_1 l0_2 l0_3 a0_4 a0_5 a0_6 a0_7).bind fun bt2 => ((impl_IsValidConsole.f k bt2.1 bt2.2.1 bt2.2.2.1 bt2.2.2.2.1 bt2.2.2.2.2.1 bt2.2.2.2.2.2.1 bt2.2.2.2.2.2.2.1 bt2.2.2.2.2.2.2.2).bind fun t3 => (if (t3 != t2) = true then (some false) else ((laws_toConsole.f k a0_0 a0_1 l0_2 l0_3 a0_4 a0_5 a0_6 a0_7).bind fun bt3 => ((laws_eqConsole.f k bt2.1 bt2.2.1 bt2.2.2.1 bt2.2.2.2.1 bt2.2.2.2.2.1 bt2.2.2.2.2.2.1 bt2.2.2.2.2.2.2.1 bt2.2.2.2.2.2.2.2 bt3.1 bt3.2.1 bt3.2.2.1 bt3.2.2.2.1 bt3.2.2.2.2.1 bt3.2.2.2.2.2.1 bt3.2.2.2.2.2.2.1 bt3.2.2.2.2.2.2.2).bind fun t4 => (if t4 = true then (some true) else (some false))))))))))) = some r := h
 clear h
 obtain ⟨t1, A2, H⟩ := o1_ H
 by_cases c1 : t1 < 0
 ·rw [if_pos c1] at H
  have c1b0 : decide (t1 < 0) = true := dt_ c1
  clear c1
  obtain rfl := si_ H
  go_enter Tryz.func3, Tryz.ntmps3
  go_wp2_with (first | ((with_reducible refine gd_ (N := 1) rfl ?_); refine bx_ 1 #[.int .i64 a0_0, .bool a0_1, .slice A0_2 l0_2.length c0_2, .slice A0_3 l0_3.length c0_3, .int .i64 a0_4, .string a0_5, .string a0_6, .int .i64 a0_7] 30 ?_; intro gb1 hg w1 BK1 hb; have GW1 := ge_ hg brt4_; have GE1 := GW1; replace HB := hb_ hb brt4_; clear hb hg; have hcz1 := z8_ BK1) | ((with_reducible refine gc_ (f := 4) rfl ?_); refine gl_ 9 Tryz.func4 #[.agg #[.int .i64 a0_0, .bool a0_1, .slice A0_2 l0_2.length c0_2, .slice A0_3 l0_3.length c0_3, .int .i64 a0_4, .string a0_5, .string a0_6, .int .i64 a0_7], .int .i64 1048576] ?_; (with_reducible refine (laws_szConsole.calls a0_0 a0_1 _ _ l0_2 _ _ l0_3 a0_4 a0_5 a0_6 a0_7 1048576 t1 _ ?side1 ?side2 ?side3 ?side4 A2.out).mono ?_); (case side1 => exact b6n8_); (case side2 => exact HC0_2.out); (case side3 => exact bkan_); (case side4 => exact HC0_3.out); rintro e w2 ⟨rfl, hb⟩; refine ⟨_, rfl, ?_⟩; replace BK1 := k1_ BK1 hb; replace HB := hb_ hb be6g_; (try clear hb)))
  go_ret
  exact ⟨bnwh_, be6g_⟩
 rw [if_neg c1] at H
 have c1b0 : decide (t1 < 0) = false := decide_eq_false c1
 clear c1
 obtain ⟨⟨t5, t6, t7, t8, t9, t10, t11, t12⟩, A4, H⟩ := o1_ H
 obtain ⟨t2, A6, H⟩ := o1_ H
 obtain ⟨⟨t13, t14, t15, t16, t17, t18, t19, t20⟩, A8, H⟩ := o1_ H
 obtain ⟨t3, A10, H⟩ := o1_ H
 by_cases c2 : (t3 != t2) = true
 ·rw [if_pos c2] at H
  have c2b0 : (t3 != t2) = true := c2
  (try (have c2b1 : decide (t3 = t2) = false := by simpa using c2))
  (try (have c2b2 : (t3 == t2) = false := by simpa using c2))
  (try (have c2b3 : ¬ (t3 = t2) := by simpa using c2))
  clear c2
  obtain rfl := si_ H
  go_enter Tryz.func3, Tryz.ntmps3
  go_wp2_with (first | ((with_reducible refine gd_ (N := 1) rfl ?_); refine bx_ 1 #[.int .i64 a0_0, .bool a0_1, .slice A0_2 l0_2.length c0_2, .slice A0_3 l0_3.length c0_3, .int .i64 a0_4, .string a0_5, .string a0_6, .int .i64 a0_7] 30 ?_; intro gb1 hg w1 BK1 hb; have GW1 := ge_ hg brt4_; have GE1 := GW1; replace HB := hb_ hb brt4_; clear hb hg; have hcz1 := z8_ BK1) | ((with_reducible refine gc_ (f := 4) rfl ?_); refine gl_ 9 Tryz.func4 #[.agg #[.int .i64 a0_0, .bool a0_1, .slice A0_2 l0_2.length c0_2, .slice A0_3 l0_3.length c0_3, .int .i64 a0_4, .string a0_5, .string a0_6, .int .i64 a0_7], .int .i64 1048576] ?_; (with_reducible refine (laws_szConsole.calls a0_0 a0_1 _ _ l0_2 _ _ l0_3 a0_4 a0_5 a0_6 a0_7 1048576 t1 _ ?side1 ?side2 ?side3 ?side4 A2.out).mono ?_); (case side1 => exact b6n8_); (case side2 => exact HC0_2.out); (case side3 => exact bkan_); (case side4 => exact HC0_3.out); rintro e w2 ⟨rfl, hb⟩; refine ⟨_, rfl, ?_⟩; replace BK1 := k1_ BK1 hb; replace HB := hb_ hb be6g_; (try clear hb); have hcz2 := z8_ BK1) | ((with_reducible refine gc_ (f := 6) rfl ?_); refine gl_ 13 Tryz.func6 #[.agg #[.int .i64 a0_0, .bool a0_1, .slice A0_2 l0_2.length c0_2, .slice A0_3 l0_3.length c0_3, .int .i64 a0_4, .string a0_5, .string a0_6, .int .i64 a0_7]] ?_; (with_reducible refine (laws_toConsole.calls k a0_0 a0_1 _ _ l0_2 _ _ l0_3 a0_4 a0_5 a0_6 a0_7 t5 t6 t7 t8 t9 t10 t11 t12 _ ?side1 ?side2 ?side3 ?side4 A4.out).mono ?_); (case side1 => exact b6n8_); (case side2 => exact HC0_2.out); (case side3 => exact bkan_); (case side4 => exact HC0_3.out); rintro e w3 ⟨v1, v2, rfl, ho0, ho1, hb⟩; refine ⟨_, rfl, ?_⟩; have HO1 := A0_ (Kd.R_lower ho0 (bz_ be6g_)); have HO2 := A0_ (Kd.R_lower ho1 (bz_ be6g_)); replace BK1 := k1_ BK1 hb; replace HB := hb_ hb be6g_; (try clear hb); (try clear ho0); (try clear ho1); obtain ⟨Ao1, co1, eo1⟩ := Kd.R_slice HO1.out; subst eo1; obtain ⟨Ao2, co2, eo2⟩ := Kd.R_slice HO2.out; subst eo2) | ((with_reducible refine gc_ (f := 5) rfl ?_); refine gl_ 14 Tryz.func5 #[.agg #[.int .i64 t5, .bool t6, .slice Ao1 t7.length co1, .slice Ao2 t8.length co2, .int .i64 t9, .string t10, .string t11, .int .i64 t12]] ?_; (with_reducible refine (spec_IsValidConsole.calls k t5 t6 _ _ t7 _ _ t8 t9 t10 t11 t12 t2 _ ?side1 ?side2 ?side3 ?side4 A6.out).mono ?_); (case side1 => exact bayy_); (case side2 => exact (rr_ HO1.out).2.1); (case side3 => exact ba04_); (case side4 => exact (rr_ HO2.out).2.1); rintro e w4 ⟨rfl, hb⟩; refine ⟨_, rfl, ?_⟩; replace HO1 := A0_ (Kd.R_below bsm5_ hb); replace HO2 := A0_ (Kd.R_below b9so_ hb); replace BK1 := k1_ BK1 hb; replace HB := hb_ hb be6g_; (try clear hb); have hcz3 := z8_ BK1) | ((with_reducible refine gc_ (f := 6) rfl ?_); refine gl_ 16 Tryz.func6 #[.agg #[.int .i64 a0_0, .bool a0_1, .slice A0_2 l0_2.length c0_2, .slice A0_3 l0_3.length c0_3, .int .i64 a0_4, .string a0_5, .string a0_6, .int .i64 a0_7]] ?_; (with_reducible refine (laws_toConsole.calls k a0_0 a0_1 _ _ l0_2 _ _ l0_3 a0_4 a0_5 a0_6 a0_7 t13 t14 t15 t16 t17 t18 t19 t20 _ ?side1 ?side2 ?side3 ?side4 A8.out).mono ?_); (case side1 => exact b6n8_); (case side2 => exact HC0_2.out); (case side3 => exact bkan_); (case side4 => exact HC0_3.out); rintro e w5 ⟨v3, v4, rfl, ho0, ho1, hb⟩; refine ⟨_, rfl, ?_⟩; have HO3 := A0_ (Kd.R_lower (Kd.R_new' (Kd.R_new' ho0 (Kd.R_lt bsm5_)) (Kd.R_lt b9so_)) (bz_ be6g_)); have HO4 := A0_ (Kd.R_lower (Kd.R_new' (Kd.R_new' ho1 (Kd.R_lt bsm5_)) (Kd.R_lt b9so_)) (bz_ be6g_)); replace HO1 := A0_ (Kd.R_mono (Kd.R_told (Kd.R_told (Kd.R_old bsm5_ hb) (Kd.R_base ho0)) (Kd.R_base ho1)) (fun _ h_ => h_.1)); replace HO2 := A0_ (Kd.R_mono (Kd.R_told (Kd.R_told (Kd.R_old b9so_ hb) (Kd.R_base ho0)) (Kd.R_base ho1)) (fun _ h_ => h_.1)); replace BK1 := k1_ BK1 hb; replace HB := hb_ hb be6g_; (try clear hb); (try clear ho0); (try clear ho1)) | ((with_reducible refine gd_ (N := 5) rfl ?_); refine bx_ 5 #[.int .i64 0, .bool false, .slice none 0 0, .slice none 0 0, .int .i64 0, .string (⟨#[]⟩ : ByteArray), .string (⟨#[]⟩ : ByteArray), .int .i64 0] 38 ?_; intro gb2 hg w6 BK2 hb; replace HO1 := A0_ (Kd.R_below bsm5_ hb); replace HO2 := A0_ (Kd.R_below b9so_ hb); replace HO3 := A0_ (Kd.R_below buiy_ hb); replace HO4 := A0_ (Kd.R_below b6ip_ hb); have GW2 := ge_ hg be6g_; have GE2 := GW2; replace HB := hb_ hb be6g_; have NB1_2 := nl_ hg BK1; have NB2_1 := ng_ hg BK1; replace BK1 := k1_ BK1 hb; clear hb hg; have hnb1 := NB2_1.out; have hnc1 := NB1_2.out; have hcz4 := z8_ BK2; obtain ⟨Ao3, co3, eo3⟩ := Kd.R_slice HO3.out; subst eo3; obtain ⟨Ao4, co4, eo4⟩ := Kd.R_slice HO4.out; subst eo4) | ((with_reducible refine gc_ (f := 7) rfl ?_); refine gl_ 18 Tryz.func7 #[.agg #[.int .i64 t13, .bool t14, .slice Ao3 t15.length co3, .slice Ao4 t16.length co4, .int .i64 t17, .string t18, .string t19, .int .i64 t20]] ?_; (with_reducible refine (impl_IsValidConsole.calls k t13 t14 _ _ t15 _ _ t16 t17 t18 t19 t20 t3 _ ?side1 ?side2 ?side3 ?side4 bt93_ A10.out).mono ?_); (case side1 => refine (rr_ (e := 3) (base := w.heap.size) (ok := fun k_ => ((no_ (.slice Ao4 t16.length co4) k_ ∧ no_ (.slice Ao1 t7.length co1) k_) ∧ no_ (.slice Ao2 t8.length co2) k_)) (n := t15.length) (c := co3) ?_).2.2; exact boxy_); (case side2 => exact (rr_ HO3.out).2.1); (case side3 => refine (rr_ (e := 3) (base := w.heap.size) (ok := fun k_ => ((no_ (.slice Ao3 t15.length co3) k_ ∧ no_ (.slice Ao1 t7.length co1) k_) ∧ no_ (.slice Ao2 t8.length co2) k_)) (n := t16.length) (c := co4) ?_).2.2; exact b28y_); (case side4 => exact (rr_ HO4.out).2.1); rintro e w7 ⟨rfl, hb⟩; refine ⟨_, rfl, ?_⟩; replace HO1 := A0_ (Kd.R_below bb06_ hb); replace HO2 := A0_ (Kd.R_below bg2z_ hb); replace HO3 := A0_ (Kd.R_below boxy_ hb); replace HO4 := A0_ (Kd.R_below b28y_ hb); replace BK1 := k1_ BK1 hb; replace BK2 := k2_ (.cells #[.int .i64 t13, .bool t14, .slice Ao3 t15.length co3, .slice Ao4 t16.length co4, .int .i64 t17, .string t18, .string t19, .int .i64 t20] 38 (0, 0)) BK2 hb; replace HB := hb_ hb bfnq_; (try clear hb)))
  go_ret
  exact ⟨bnwh_, bfnq_⟩
 rw [if_neg c2] at H
 have c2b0 : (t3 != t2) = false := by simpa using c2
 (try (have c2b1 : decide (t3 = t2) = true := by simpa using c2))
 (try (have c2b2 : (t3 == t2) = true := by simpa using c2))
 clear c2
 obtain ⟨⟨t21, t22, t23, t24, t25, t26, t27, t28⟩, A12, H⟩ := o1_ H
 obtain ⟨t4, A14, H⟩ := o1_ H
 by_cases c3 : t4 = true
 ·subst c3
  rw [if_pos rfl] at H
  obtain rfl := si_ H
  go_enter Tryz.func3, Tryz.ntmps3
  try go_wp2_with (first | ((with_reducible refine gd_ (N := 1) rfl ?_); refine bx_ 1 #[.int .i64 a0_0, .bool a0_1, .slice A0_2 l0_2.length c0_2, .slice A0_3 l0_3.length c0_3, .int .i64 a0_4, .string a0_5, .string a0_6, .int .i64 a0_7] 30 ?_; intro gb1 hg w1 BK1 hb; have GW1 := ge_ hg brt4_; have GE1 := GW1; replace HB := hb_ hb brt4_; clear hb hg; have hcz1 := z8_ BK1) | ((with_reducible refine gc_ (f := 4) rfl ?_); refine gl_ 9 Tryz.func4 #[.agg #[.int .i64 a0_0, .bool a0_1, .slice A0_2 l0_2.length c0_2, .slice A0_3 l0_3.length c0_3, .int .i64 a0_4, .string a0_5, .string a0_6, .int .i64 a0_7], .int .i64 1048576] ?_; (with_reducible refine (laws_szConsole.calls a0_0 a0_1 _ _ l0_2 _ _ l0_3 a0_4 a0_5 a0_6 a0_7 1048576 t1 _ ?side1 ?side2 ?side3 ?side4 A2.out).mono ?_); (case side1 => exact b6n8_); (case side2 => exact HC0_2.out); (case side3 => exact bkan_); (case side4 => exact HC0_3.out); rintro e w2 ⟨rfl, hb⟩; refine ⟨_, rfl, ?_⟩; replace BK1 := k1_ BK1 hb; replace HB := hb_ hb be6g_; (try clear hb); have hcz2 := z8_ BK1) | ((with_reducible refine gc_ (f := 6) rfl ?_); refine gl_ 13 Tryz.func6 #[.agg #[.int .i64 a0_0, .bool a0_1, .slice A0_2 l0_2.length c0_2, .slice A0_3 l0_3.length c0_3, .int .i64 a0_4, .string a0_5, .string a0_6, .int .i64 a0_7]] ?_; (with_reducible refine (laws_toConsole.calls k a0_0 a0_1 _ _ l0_2 _ _ l0_3 a0_4 a0_5 a0_6 a0_7 t5 t6 t7 t8 t9 t10 t11 t12 _ ?side1 ?side2 ?side3 ?side4 A4.out).mono ?_); (case side1 => exact b6n8_); (case side2 => exact HC0_2.out); (case side3 => exact bkan_); (case side4 => exact HC0_3.out); rintro e w3 ⟨v1, v2, rfl, ho0, ho1, hb⟩; refine ⟨_, rfl, ?_⟩; have HO1 := A0_ (Kd.R_lower ho0 (bz_ be6g_)); have HO2 := A0_ (Kd.R_lower ho1 (bz_ be6g_)); replace BK1 := k1_ BK1 hb; replace HB := hb_ hb be6g_; (try clear hb); (try clear ho0); (try clear ho1); obtain ⟨Ao1, co1, eo1⟩ := Kd.R_slice HO1.out; subst eo1; obtain ⟨Ao2, co2, eo2⟩ := Kd.R_slice HO2.out; subst eo2) | ((with_reducible refine gc_ (f := 5) rfl ?_); refine gl_ 14 Tryz.func5 #[.agg #[.int .i64 t5, .bool t6, .slice Ao1 t7.length co1, .slice Ao2 t8.length co2, .int .i64 t9, .string t10, .string t11, .int .i64 t12]] ?_; (with_reducible refine (spec_IsValidConsole.calls k t5 t6 _ _ t7 _ _ t8 t9 t10 t11 t12 t2 _ ?side1 ?side2 ?side3 ?side4 A6.out).mono ?_); (case side1 => exact bayy_); (case side2 => exact (rr_ HO1.out).2.1); (case side3 => exact ba04_); (case side4 => exact (rr_ HO2.out).2.1); rintro e w4 ⟨rfl, hb⟩; refine ⟨_, rfl, ?_⟩; replace HO1 := A0_ (Kd.R_below bsm5_ hb); replace HO2 := A0_ (Kd.R_below b9so_ hb); replace BK1 := k1_ BK1 hb; replace HB := hb_ hb be6g_; (try clear hb); have hcz3 := z8_ BK1) | ((with_reducible refine gc_ (f := 6) rfl ?_); refine gl_ 16 Tryz.func6 #[.agg #[.int .i64 a0_0, .bool a0_1, .slice A0_2 l0_2.length c0_2, .slice A0_3 l0_3.length c0_3, .int .i64 a0_4, .string a0_5, .string a0_6, .int .i64 a0_7]] ?_; (with_reducible refine (laws_toConsole.calls k a0_0 a0_1 _ _ l0_2 _ _ l0_3 a0_4 a0_5 a0_6 a0_7 t13 t14 t15 t16 t17 t18 t19 t20 _ ?side1 ?side2 ?side3 ?side4 A8.out).mono ?_); (case side1 => exact b6n8_); (case side2 => exact HC0_2.out); (case side3 => exact bkan_); (case side4 => exact HC0_3.out); rintro e w5 ⟨v3, v4, rfl, ho0, ho1, hb⟩; refine ⟨_, rfl, ?_⟩; have HO3 := A0_ (Kd.R_lower (Kd.R_new' (Kd.R_new' ho0 (Kd.R_lt bsm5_)) (Kd.R_lt b9so_)) (bz_ be6g_)); have HO4 := A0_ (Kd.R_lower (Kd.R_new' (Kd.R_new' ho1 (Kd.R_lt bsm5_)) (Kd.R_lt b9so_)) (bz_ be6g_)); replace HO1 := A0_ (Kd.R_mono (Kd.R_told (Kd.R_told (Kd.R_old bsm5_ hb) (Kd.R_base ho0)) (Kd.R_base ho1)) (fun _ h_ => h_.1)); replace HO2 := A0_ (Kd.R_mono (Kd.R_told (Kd.R_told (Kd.R_old b9so_ hb) (Kd.R_base ho0)) (Kd.R_base ho1)) (fun _ h_ => h_.1)); replace BK1 := k1_ BK1 hb; replace HB := hb_ hb be6g_; (try clear hb); (try clear ho0); (try clear ho1)) | ((with_reducible refine gd_ (N := 5) rfl ?_); refine bx_ 5 #[.int .i64 0, .bool false, .slice none 0 0, .slice none 0 0, .int .i64 0, .string (⟨#[]⟩ : ByteArray), .string (⟨#[]⟩ : ByteArray), .int .i64 0] 38 ?_; intro gb2 hg w6 BK2 hb; replace HO1 := A0_ (Kd.R_below bsm5_ hb); replace HO2 := A0_ (Kd.R_below b9so_ hb); replace HO3 := A0_ (Kd.R_below buiy_ hb); replace HO4 := A0_ (Kd.R_below b6ip_ hb); have GW2 := ge_ hg be6g_; have GE2 := GW2; replace HB := hb_ hb be6g_; have NB1_2 := nl_ hg BK1; have NB2_1 := ng_ hg BK1; replace BK1 := k1_ BK1 hb; clear hb hg; have hnb1 := NB2_1.out; have hnc1 := NB1_2.out; have hcz4 := z8_ BK2; obtain ⟨Ao3, co3, eo3⟩ := Kd.R_slice HO3.out; subst eo3; obtain ⟨Ao4, co4, eo4⟩ := Kd.R_slice HO4.out; subst eo4) | ((with_reducible refine gc_ (f := 7) rfl ?_); refine gl_ 18 Tryz.func7 #[.agg #[.int .i64 t13, .bool t14, .slice Ao3 t15.length co3, .slice Ao4 t16.length co4, .int .i64 t17, .string t18, .string t19, .int .i64 t20]] ?_; (with_reducible refine (impl_IsValidConsole.calls k t13 t14 _ _ t15 _ _ t16 t17 t18 t19 t20 t3 _ ?side1 ?side2 ?side3 ?side4 bt93_ A10.out).mono ?_); (case side1 => refine (rr_ (e := 3) (base := w.heap.size) (ok := fun k_ => ((no_ (.slice Ao4 t16.length co4) k_ ∧ no_ (.slice Ao1 t7.length co1) k_) ∧ no_ (.slice Ao2 t8.length co2) k_)) (n := t15.length) (c := co3) ?_).2.2; exact boxy_); (case side2 => exact (rr_ HO3.out).2.1); (case side3 => refine (rr_ (e := 3) (base := w.heap.size) (ok := fun k_ => ((no_ (.slice Ao3 t15.length co3) k_ ∧ no_ (.slice Ao1 t7.length co1) k_) ∧ no_ (.slice Ao2 t8.length co2) k_)) (n := t16.length) (c := co4) ?_).2.2; exact b28y_); (case side4 => exact (rr_ HO4.out).2.1); rintro e w7 ⟨rfl, hb⟩; refine ⟨_, rfl, ?_⟩; replace HO1 := A0_ (Kd.R_below bb06_ hb); replace HO2 := A0_ (Kd.R_below bg2z_ hb); replace HO3 := A0_ (Kd.R_below boxy_ hb); replace HO4 := A0_ (Kd.R_below b28y_ hb); replace BK1 := k1_ BK1 hb; replace BK2 := k2_ (.cells #[.int .i64 t13, .bool t14, .slice Ao3 t15.length co3, .slice Ao4 t16.length co4, .int .i64 t17, .string t18, .string t19, .int .i64 t20] 38 (0, 0)) BK2 hb; replace HB := hb_ hb bfnq_; (try clear hb)))
  replace HO1 := A0_ (rd_ HO1.out)
  replace HO2 := A0_ (rd_ HO2.out)
  replace HO3 := A0_ (rd_ HO3.out)
  replace HO4 := A0_ (rd_ HO4.out)
  replace BK1 := A0_ (kd_ BK1.out)
  replace BK2 := A0_ (kd_ BK2.out)
  replace HB := A0_ (bd_ HB.out)
  refine start_ (n := 5) (S := fun w' => w'.cell? ⟨gb2, 0, none⟩ = some (.int .i64 t13) ∧ w'.cell? ⟨gb2, 1, none⟩ = some (.bool t14) ∧ w'.cell? ⟨gb2, 2, none⟩ = some (.slice Ao3 t15.length co3) ∧ w'.cell? ⟨gb2, 3, none⟩ = some (.slice Ao4 t16.length co4) ∧ w'.cell? ⟨gb2, 4, none⟩ = some (.int .i64 t17) ∧ w'.cell? ⟨gb2, 5, none⟩ = some (.string t18) ∧ w'.cell? ⟨gb2, 6, none⟩ = some (.string t19) ∧ w'.cell? ⟨gb2, 7, none⟩ = some (.int .i64 t20) ∧ w'.cell? ⟨gb1, 0, none⟩ = some (.int .i64 a0_0) ∧ w'.cell? ⟨gb1, 1, none⟩ = some (.bool a0_1) ∧ w'.cell? ⟨gb1, 2, none⟩ = some (.slice A0_2 l0_2.length c0_2) ∧ w'.cell? ⟨gb1, 3, none⟩ = some (.slice A0_3 l0_3.length c0_3) ∧ w'.cell? ⟨gb1, 4, none⟩ = some (.int .i64 a0_4) ∧ w'.cell? ⟨gb1, 5, none⟩ = some (.string a0_5) ∧ w'.cell? ⟨gb1, 6, none⟩ = some (.string a0_6) ∧ w'.cell? ⟨gb1, 7, none⟩ = some (.int .i64 a0_7)) (ds := []) #[false, false, false, false, false] bfqv_ rfl rfl ⟨(kc_ BK2.out 0).trans rfl, (kc_ BK2.out 1).trans rfl, (kc_ BK2.out 2).trans rfl, (kc_ BK2.out 3).trans rfl, (kc_ BK2.out 4).trans rfl, (kc_ BK2.out 5).trans rfl, (kc_ BK2.out 6).trans rfl, (kc_ BK2.out 7).trans rfl, (kc_ BK1.out 0).trans rfl, (kc_ BK1.out 1).trans rfl, (kc_ BK1.out 2).trans rfl, (kc_ BK1.out 3).trans rfl, (kc_ BK1.out 4).trans rfl, (kc_ BK1.out 5).trans rfl, (kc_ BK1.out 6).trans rfl, (kc_ BK1.out 7).trans rfl⟩ (fun hHeld => ?_)
  generalize w7.drew = w8 at HO1 HO2 HO3 HO4 BK1 BK2 HB hHeld ⊢
  refine tk_ 0 22 hHeld ?_
  refine tk_ 1 23 hHeld ?_
  refine on_ 2 (some 24) (fun K hK => ?_)
  refine gs_ Tryz.func6 #[.agg #[.int .i64 a0_0, .bool a0_1, .slice A0_2 l0_2.length c0_2, .slice A0_3 l0_3.length c0_3, .int .i64 a0_4, .string a0_5, .string a0_6, .int .i64 a0_7]] ?_
  with_reducible refine (laws_toConsole.calls k a0_0 a0_1 _ _ l0_2 _ _ l0_3 a0_4 a0_5 a0_6 a0_7 t21 t22 t23 t24 t25 t26 t27 t28 _ ?side1 ?side2 ?side3 ?side4 A12.out).mono ?_
  (case side1 => exact b6n8_)
  (case side2 => exact HC0_2.out)
  (case side3 => exact bkan_)
  (case side4 => exact HC0_3.out)
  rintro e w9 ⟨v5, v6, rfl, ho0, ho1, hb⟩
  refine ⟨_, rfl, ?_⟩
  have HO5 := A0_ (Kd.R_lower (Kd.R_new' (Kd.R_new' (Kd.R_new' (Kd.R_new' ho0 (Kd.R_lt bsm5_)) (Kd.R_lt b9so_)) (Kd.R_lt buiy_)) (Kd.R_lt b6ip_)) (bz_ bfnq_))
  have HO6 := A0_ (Kd.R_lower (Kd.R_new' (Kd.R_new' (Kd.R_new' (Kd.R_new' ho1 (Kd.R_lt bsm5_)) (Kd.R_lt b9so_)) (Kd.R_lt buiy_)) (Kd.R_lt b6ip_)) (bz_ bfnq_))
  replace HO1 := A0_ (Kd.R_mono (Kd.R_told (Kd.R_told (Kd.R_old bsm5_ hb) (Kd.R_base ho0)) (Kd.R_base ho1)) (fun _ h_ => h_.1))
  replace HO2 := A0_ (Kd.R_mono (Kd.R_told (Kd.R_told (Kd.R_old b9so_ hb) (Kd.R_base ho0)) (Kd.R_base ho1)) (fun _ h_ => h_.1))
  replace HO3 := A0_ (Kd.R_mono (Kd.R_told (Kd.R_told (Kd.R_old buiy_ hb) (Kd.R_base ho0)) (Kd.R_base ho1)) (fun _ h_ => h_.1))
  replace HO4 := A0_ (Kd.R_mono (Kd.R_told (Kd.R_told (Kd.R_old b6ip_ hb) (Kd.R_base ho0)) (Kd.R_base ho1)) (fun _ h_ => h_.1))
  replace BK1 := k1_ BK1 hb
  replace BK2 := k1_ BK2 hb
  replace HB := hb_ hb bfnq_
  (try clear hb); (try clear ho0); (try clear ho1)
  obtain ⟨Ao5, co5, eo5⟩ := Kd.R_slice HO5.out
  (first | subst eo5 | (injection eo5 with f1_ f2_ f3_; have f4_ := f1_.symm; have f5_ := f3_.symm; clear f1_ f2_ f3_; subst f4_; subst f5_))
  obtain ⟨Ao6, co6, eo6⟩ := Kd.R_slice HO6.out
  (first | subst eo6 | (injection eo6 with f1_ f2_ f3_; have f4_ := f1_.symm; have f5_ := f3_.symm; clear f1_ f2_ f3_; subst f4_; subst f5_))
  refine hK.out _ _ ⟨(kc_ BK2.out 0).trans rfl, (kc_ BK2.out 1).trans rfl, (kc_ BK2.out 2).trans rfl, (kc_ BK2.out 3).trans rfl, (kc_ BK2.out 4).trans rfl, (kc_ BK2.out 5).trans rfl, (kc_ BK2.out 6).trans rfl, (kc_ BK2.out 7).trans rfl, (kc_ BK1.out 0).trans rfl, (kc_ BK1.out 1).trans rfl, (kc_ BK1.out 2).trans rfl, (kc_ BK1.out 3).trans rfl, (kc_ BK1.out 4).trans rfl, (kc_ BK1.out 5).trans rfl, (kc_ BK1.out 6).trans rfl, (kc_ BK1.out 7).trans rfl⟩ (fun hHeld => ?_)
  clear hK K
  refine nm_ 24 ?_
  refine on_ 3 (some 25) (fun K hK => ?_)
  refine gs_ Tryz.func8 #[.agg #[.int .i64 t13, .bool t14, .slice Ao3 t15.length co3, .slice Ao4 t16.length co4, .int .i64 t17, .string t18, .string t19, .int .i64 t20], .agg #[.int .i64 t21, .bool t22, .slice Ao5 t23.length co5, .slice Ao6 t24.length co6, .int .i64 t25, .string t26, .string t27, .int .i64 t28]] ?_
  with_reducible refine (laws_eqConsole.calls k t13 t14 _ _ t15 _ _ t16 t17 t18 t19 t20 t21 t22 _ _ t23 _ _ t24 t25 t26 t27 t28 true _ ?side1 ?side2 ?side3 ?side4 ?side5 ?side6 ?side7 ?side8 A14.out).mono ?_
  (case side1 => exact be4z_)
  (case side2 => exact (rr_ HO3.out).2.1)
  (case side3 => exact byjq_)
  (case side4 => exact (rr_ HO4.out).2.1)
  (case side5 => exact beqy_)
  (case side6 => exact (rr_ HO5.out).2.1)
  (case side7 => exact b80k_)
  (case side8 => exact (rr_ HO6.out).2.1)
  rintro e w10 ⟨rfl, hb⟩
  refine ⟨_, rfl, ?_⟩
  replace HO1 := A0_ (Kd.R_below bsm5_ hb)
  replace HO2 := A0_ (Kd.R_below b9so_ hb)
  replace HO3 := A0_ (Kd.R_below buiy_ hb)
  replace HO4 := A0_ (Kd.R_below b6ip_ hb)
  replace HO5 := A0_ (Kd.R_below (by (with_reducible repeat (first | apply ra_ | apply rn_ | apply rd_)); exact HO5.out) hb)
  replace HO6 := A0_ (Kd.R_below (by (with_reducible repeat (first | apply ra_ | apply rn_ | apply rd_)); exact HO6.out) hb)
  replace BK1 := k1_ BK1 hb
  replace BK2 := k1_ BK2 hb
  replace HB := hb_ hb bfnq_
  (try clear hb)
  refine hK.out _ _ ⟨(kc_ BK2.out 0).trans rfl, (kc_ BK2.out 1).trans rfl, (kc_ BK2.out 2).trans rfl, (kc_ BK2.out 3).trans rfl, (kc_ BK2.out 4).trans rfl, (kc_ BK2.out 5).trans rfl, (kc_ BK2.out 6).trans rfl, (kc_ BK2.out 7).trans rfl, (kc_ BK1.out 0).trans rfl, (kc_ BK1.out 1).trans rfl, (kc_ BK1.out 2).trans rfl, (kc_ BK1.out 3).trans rfl, (kc_ BK1.out 4).trans rfl, (kc_ BK1.out 5).trans rfl, (kc_ BK1.out 6).trans rfl, (kc_ BK1.out 7).trans rfl⟩ (fun hHeld => ?_)
  clear hK K
  refine nm_ 25 ?_
  refine pu_ 4 26 ?_
  refine done_ bfqv_ ?_
  try go_wp2
  go_ret
  exact ⟨bnwh_, bfnq_⟩
 obtain rfl := bf_.mpr c3
 rw [if_neg ft_] at H
 obtain rfl := si_ H
 go_enter Tryz.func3, Tryz.ntmps3
 try go_wp2_with (first | ((with_reducible refine gd_ (N := 1) rfl ?_); refine bx_ 1 #[.int .i64 a0_0, .bool a0_1, .slice A0_2 l0_2.length c0_2, .slice A0_3 l0_3.length c0_3, .int .i64 a0_4, .string a0_5, .string a0_6, .int .i64 a0_7] 30 ?_; intro gb1 hg w1 BK1 hb; have GW1 := ge_ hg brt4_; have GE1 := GW1; replace HB := hb_ hb brt4_; clear hb hg; have hcz1 := z8_ BK1) | ((with_reducible refine gc_ (f := 4) rfl ?_); refine gl_ 9 Tryz.func4 #[.agg #[.int .i64 a0_0, .bool a0_1, .slice A0_2 l0_2.length c0_2, .slice A0_3 l0_3.length c0_3, .int .i64 a0_4, .string a0_5, .string a0_6, .int .i64 a0_7], .int .i64 1048576] ?_; (with_reducible refine (laws_szConsole.calls a0_0 a0_1 _ _ l0_2 _ _ l0_3 a0_4 a0_5 a0_6 a0_7 1048576 t1 _ ?side1 ?side2 ?side3 ?side4 A2.out).mono ?_); (case side1 => exact b6n8_); (case side2 => exact HC0_2.out); (case side3 => exact bkan_); (case side4 => exact HC0_3.out); rintro e w2 ⟨rfl, hb⟩; refine ⟨_, rfl, ?_⟩; replace BK1 := k1_ BK1 hb; replace HB := hb_ hb be6g_; (try clear hb); have hcz2 := z8_ BK1) | ((with_reducible refine gc_ (f := 6) rfl ?_); refine gl_ 13 Tryz.func6 #[.agg #[.int .i64 a0_0, .bool a0_1, .slice A0_2 l0_2.length c0_2, .slice A0_3 l0_3.length c0_3, .int .i64 a0_4, .string a0_5, .string a0_6, .int .i64 a0_7]] ?_; (with_reducible refine (laws_toConsole.calls k a0_0 a0_1 _ _ l0_2 _ _ l0_3 a0_4 a0_5 a0_6 a0_7 t5 t6 t7 t8 t9 t10 t11 t12 _ ?side1 ?side2 ?side3 ?side4 A4.out).mono ?_); (case side1 => exact b6n8_); (case side2 => exact HC0_2.out); (case side3 => exact bkan_); (case side4 => exact HC0_3.out); rintro e w3 ⟨v1, v2, rfl, ho0, ho1, hb⟩; refine ⟨_, rfl, ?_⟩; have HO1 := A0_ (Kd.R_lower ho0 (bz_ be6g_)); have HO2 := A0_ (Kd.R_lower ho1 (bz_ be6g_)); replace BK1 := k1_ BK1 hb; replace HB := hb_ hb be6g_; (try clear hb); (try clear ho0); (try clear ho1); obtain ⟨Ao1, co1, eo1⟩ := Kd.R_slice HO1.out; subst eo1; obtain ⟨Ao2, co2, eo2⟩ := Kd.R_slice HO2.out; subst eo2) | ((with_reducible refine gc_ (f := 5) rfl ?_); refine gl_ 14 Tryz.func5 #[.agg #[.int .i64 t5, .bool t6, .slice Ao1 t7.length co1, .slice Ao2 t8.length co2, .int .i64 t9, .string t10, .string t11, .int .i64 t12]] ?_; (with_reducible refine (spec_IsValidConsole.calls k t5 t6 _ _ t7 _ _ t8 t9 t10 t11 t12 t2 _ ?side1 ?side2 ?side3 ?side4 A6.out).mono ?_); (case side1 => exact bayy_); (case side2 => exact (rr_ HO1.out).2.1); (case side3 => exact ba04_); (case side4 => exact (rr_ HO2.out).2.1); rintro e w4 ⟨rfl, hb⟩; refine ⟨_, rfl, ?_⟩; replace HO1 := A0_ (Kd.R_below bsm5_ hb); replace HO2 := A0_ (Kd.R_below b9so_ hb); replace BK1 := k1_ BK1 hb; replace HB := hb_ hb be6g_; (try clear hb); have hcz3 := z8_ BK1) | ((with_reducible refine gc_ (f := 6) rfl ?_); refine gl_ 16 Tryz.func6 #[.agg #[.int .i64 a0_0, .bool a0_1, .slice A0_2 l0_2.length c0_2, .slice A0_3 l0_3.length c0_3, .int .i64 a0_4, .string a0_5, .string a0_6, .int .i64 a0_7]] ?_; (with_reducible refine (laws_toConsole.calls k a0_0 a0_1 _ _ l0_2 _ _ l0_3 a0_4 a0_5 a0_6 a0_7 t13 t14 t15 t16 t17 t18 t19 t20 _ ?side1 ?side2 ?side3 ?side4 A8.out).mono ?_); (case side1 => exact b6n8_); (case side2 => exact HC0_2.out); (case side3 => exact bkan_); (case side4 => exact HC0_3.out); rintro e w5 ⟨v3, v4, rfl, ho0, ho1, hb⟩; refine ⟨_, rfl, ?_⟩; have HO3 := A0_ (Kd.R_lower (Kd.R_new' (Kd.R_new' ho0 (Kd.R_lt bsm5_)) (Kd.R_lt b9so_)) (bz_ be6g_)); have HO4 := A0_ (Kd.R_lower (Kd.R_new' (Kd.R_new' ho1 (Kd.R_lt bsm5_)) (Kd.R_lt b9so_)) (bz_ be6g_)); replace HO1 := A0_ (Kd.R_mono (Kd.R_told (Kd.R_told (Kd.R_old bsm5_ hb) (Kd.R_base ho0)) (Kd.R_base ho1)) (fun _ h_ => h_.1)); replace HO2 := A0_ (Kd.R_mono (Kd.R_told (Kd.R_told (Kd.R_old b9so_ hb) (Kd.R_base ho0)) (Kd.R_base ho1)) (fun _ h_ => h_.1)); replace BK1 := k1_ BK1 hb; replace HB := hb_ hb be6g_; (try clear hb); (try clear ho0); (try clear ho1)) | ((with_reducible refine gd_ (N := 5) rfl ?_); refine bx_ 5 #[.int .i64 0, .bool false, .slice none 0 0, .slice none 0 0, .int .i64 0, .string (⟨#[]⟩ : ByteArray), .string (⟨#[]⟩ : ByteArray), .int .i64 0] 38 ?_; intro gb2 hg w6 BK2 hb; replace HO1 := A0_ (Kd.R_below bsm5_ hb); replace HO2 := A0_ (Kd.R_below b9so_ hb); replace HO3 := A0_ (Kd.R_below buiy_ hb); replace HO4 := A0_ (Kd.R_below b6ip_ hb); have GW2 := ge_ hg be6g_; have GE2 := GW2; replace HB := hb_ hb be6g_; have NB1_2 := nl_ hg BK1; have NB2_1 := ng_ hg BK1; replace BK1 := k1_ BK1 hb; clear hb hg; have hnb1 := NB2_1.out; have hnc1 := NB1_2.out; have hcz4 := z8_ BK2; obtain ⟨Ao3, co3, eo3⟩ := Kd.R_slice HO3.out; subst eo3; obtain ⟨Ao4, co4, eo4⟩ := Kd.R_slice HO4.out; subst eo4) | ((with_reducible refine gc_ (f := 7) rfl ?_); refine gl_ 18 Tryz.func7 #[.agg #[.int .i64 t13, .bool t14, .slice Ao3 t15.length co3, .slice Ao4 t16.length co4, .int .i64 t17, .string t18, .string t19, .int .i64 t20]] ?_; (with_reducible refine (impl_IsValidConsole.calls k t13 t14 _ _ t15 _ _ t16 t17 t18 t19 t20 t3 _ ?side1 ?side2 ?side3 ?side4 bt93_ A10.out).mono ?_); (case side1 => refine (rr_ (e := 3) (base := w.heap.size) (ok := fun k_ => ((no_ (.slice Ao4 t16.length co4) k_ ∧ no_ (.slice Ao1 t7.length co1) k_) ∧ no_ (.slice Ao2 t8.length co2) k_)) (n := t15.length) (c := co3) ?_).2.2; exact boxy_); (case side2 => exact (rr_ HO3.out).2.1); (case side3 => refine (rr_ (e := 3) (base := w.heap.size) (ok := fun k_ => ((no_ (.slice Ao3 t15.length co3) k_ ∧ no_ (.slice Ao1 t7.length co1) k_) ∧ no_ (.slice Ao2 t8.length co2) k_)) (n := t16.length) (c := co4) ?_).2.2; exact b28y_); (case side4 => exact (rr_ HO4.out).2.1); rintro e w7 ⟨rfl, hb⟩; refine ⟨_, rfl, ?_⟩; replace HO1 := A0_ (Kd.R_below bb06_ hb); replace HO2 := A0_ (Kd.R_below bg2z_ hb); replace HO3 := A0_ (Kd.R_below boxy_ hb); replace HO4 := A0_ (Kd.R_below b28y_ hb); replace BK1 := k1_ BK1 hb; replace BK2 := k2_ (.cells #[.int .i64 t13, .bool t14, .slice Ao3 t15.length co3, .slice Ao4 t16.length co4, .int .i64 t17, .string t18, .string t19, .int .i64 t20] 38 (0, 0)) BK2 hb; replace HB := hb_ hb bfnq_; (try clear hb)))
 replace HO1 := A0_ (rd_ HO1.out)
 replace HO2 := A0_ (rd_ HO2.out)
 replace HO3 := A0_ (rd_ HO3.out)
 replace HO4 := A0_ (rd_ HO4.out)
 replace BK1 := A0_ (kd_ BK1.out)
 replace BK2 := A0_ (kd_ BK2.out)
 replace HB := A0_ (bd_ HB.out)
 refine start_ (n := 5) (S := fun w' => w'.cell? ⟨gb2, 0, none⟩ = some (.int .i64 t13) ∧ w'.cell? ⟨gb2, 1, none⟩ = some (.bool t14) ∧ w'.cell? ⟨gb2, 2, none⟩ = some (.slice Ao3 t15.length co3) ∧ w'.cell? ⟨gb2, 3, none⟩ = some (.slice Ao4 t16.length co4) ∧ w'.cell? ⟨gb2, 4, none⟩ = some (.int .i64 t17) ∧ w'.cell? ⟨gb2, 5, none⟩ = some (.string t18) ∧ w'.cell? ⟨gb2, 6, none⟩ = some (.string t19) ∧ w'.cell? ⟨gb2, 7, none⟩ = some (.int .i64 t20) ∧ w'.cell? ⟨gb1, 0, none⟩ = some (.int .i64 a0_0) ∧ w'.cell? ⟨gb1, 1, none⟩ = some (.bool a0_1) ∧ w'.cell? ⟨gb1, 2, none⟩ = some (.slice A0_2 l0_2.length c0_2) ∧ w'.cell? ⟨gb1, 3, none⟩ = some (.slice A0_3 l0_3.length c0_3) ∧ w'.cell? ⟨gb1, 4, none⟩ = some (.int .i64 a0_4) ∧ w'.cell? ⟨gb1, 5, none⟩ = some (.string a0_5) ∧ w'.cell? ⟨gb1, 6, none⟩ = some (.string a0_6) ∧ w'.cell? ⟨gb1, 7, none⟩ = some (.int .i64 a0_7)) (ds := []) #[false, false, false, false, false] bfqv_ rfl rfl ⟨(kc_ BK2.out 0).trans rfl, (kc_ BK2.out 1).trans rfl, (kc_ BK2.out 2).trans rfl, (kc_ BK2.out 3).trans rfl, (kc_ BK2.out 4).trans rfl, (kc_ BK2.out 5).trans rfl, (kc_ BK2.out 6).trans rfl, (kc_ BK2.out 7).trans rfl, (kc_ BK1.out 0).trans rfl, (kc_ BK1.out 1).trans rfl, (kc_ BK1.out 2).trans rfl, (kc_ BK1.out 3).trans rfl, (kc_ BK1.out 4).trans rfl, (kc_ BK1.out 5).trans rfl, (kc_ BK1.out 6).trans rfl, (kc_ BK1.out 7).trans rfl⟩ (fun hHeld => ?_)
 generalize w7.drew = w8 at HO1 HO2 HO3 HO4 BK1 BK2 HB hHeld ⊢
 refine tk_ 0 22 hHeld ?_
 refine tk_ 1 23 hHeld ?_
 refine on_ 2 (some 24) (fun K hK => ?_)
 refine gs_ Tryz.func6 #[.agg #[.int .i64 a0_0, .bool a0_1, .slice A0_2 l0_2.length c0_2, .slice A0_3 l0_3.length c0_3, .int .i64 a0_4, .string a0_5, .string a0_6, .int .i64 a0_7]] ?_
 with_reducible refine (laws_toConsole.calls k a0_0 a0_1 _ _ l0_2 _ _ l0_3 a0_4 a0_5 a0_6 a0_7 t21 t22 t23 t24 t25 t26 t27 t28 _ ?side1 ?side2 ?side3 ?side4 A12.out).mono ?_
 (case side1 => exact b6n8_)
 (case side2 => exact HC0_2.out)
 (case side3 => exact bkan_)
 (case side4 => exact HC0_3.out)
 rintro e w9 ⟨v5, v6, rfl, ho0, ho1, hb⟩
 refine ⟨_, rfl, ?_⟩
 have HO5 := A0_ (Kd.R_lower (Kd.R_new' (Kd.R_new' (Kd.R_new' (Kd.R_new' ho0 (Kd.R_lt bsm5_)) (Kd.R_lt b9so_)) (Kd.R_lt buiy_)) (Kd.R_lt b6ip_)) (bz_ bfnq_))
 have HO6 := A0_ (Kd.R_lower (Kd.R_new' (Kd.R_new' (Kd.R_new' (Kd.R_new' ho1 (Kd.R_lt bsm5_)) (Kd.R_lt b9so_)) (Kd.R_lt buiy_)) (Kd.R_lt b6ip_)) (bz_ bfnq_))
 replace HO1 := A0_ (Kd.R_mono (Kd.R_told (Kd.R_told (Kd.R_old bsm5_ hb) (Kd.R_base ho0)) (Kd.R_base ho1)) (fun _ h_ => h_.1))
 replace HO2 := A0_ (Kd.R_mono (Kd.R_told (Kd.R_told (Kd.R_old b9so_ hb) (Kd.R_base ho0)) (Kd.R_base ho1)) (fun _ h_ => h_.1))
 replace HO3 := A0_ (Kd.R_mono (Kd.R_told (Kd.R_told (Kd.R_old buiy_ hb) (Kd.R_base ho0)) (Kd.R_base ho1)) (fun _ h_ => h_.1))
 replace HO4 := A0_ (Kd.R_mono (Kd.R_told (Kd.R_told (Kd.R_old b6ip_ hb) (Kd.R_base ho0)) (Kd.R_base ho1)) (fun _ h_ => h_.1))
 replace BK1 := k1_ BK1 hb
 replace BK2 := k1_ BK2 hb
 replace HB := hb_ hb bfnq_
 (try clear hb); (try clear ho0); (try clear ho1)
 obtain ⟨Ao5, co5, eo5⟩ := Kd.R_slice HO5.out
 (first | subst eo5 | (injection eo5 with f1_ f2_ f3_; have f4_ := f1_.symm; have f5_ := f3_.symm; clear f1_ f2_ f3_; subst f4_; subst f5_))
 obtain ⟨Ao6, co6, eo6⟩ := Kd.R_slice HO6.out
 (first | subst eo6 | (injection eo6 with f1_ f2_ f3_; have f4_ := f1_.symm; have f5_ := f3_.symm; clear f1_ f2_ f3_; subst f4_; subst f5_))
 refine hK.out _ _ ⟨(kc_ BK2.out 0).trans rfl, (kc_ BK2.out 1).trans rfl, (kc_ BK2.out 2).trans rfl, (kc_ BK2.out 3).trans rfl, (kc_ BK2.out 4).trans rfl, (kc_ BK2.out 5).trans rfl, (kc_ BK2.out 6).trans rfl, (kc_ BK2.out 7).trans rfl, (kc_ BK1.out 0).trans rfl, (kc_ BK1.out 1).trans rfl, (kc_ BK1.out 2).trans rfl, (kc_ BK1.out 3).trans rfl, (kc_ BK1.out 4).trans rfl, (kc_ BK1.out 5).trans rfl, (kc_ BK1.out 6).trans rfl, (kc_ BK1.out 7).trans rfl⟩ (fun hHeld => ?_)
 clear hK K
 refine nm_ 24 ?_
 refine on_ 3 (some 25) (fun K hK => ?_)
 refine gs_ Tryz.func8 #[.agg #[.int .i64 t13, .bool t14, .slice Ao3 t15.length co3, .slice Ao4 t16.length co4, .int .i64 t17, .string t18, .string t19, .int .i64 t20], .agg #[.int .i64 t21, .bool t22, .slice Ao5 t23.length co5, .slice Ao6 t24.length co6, .int .i64 t25, .string t26, .string t27, .int .i64 t28]] ?_
 with_reducible refine (laws_eqConsole.calls k t13 t14 _ _ t15 _ _ t16 t17 t18 t19 t20 t21 t22 _ _ t23 _ _ t24 t25 t26 t27 t28 false _ ?side1 ?side2 ?side3 ?side4 ?side5 ?side6 ?side7 ?side8 A14.out).mono ?_
 (case side1 => exact be4z_)
 (case side2 => exact (rr_ HO3.out).2.1)
 (case side3 => exact byjq_)
 (case side4 => exact (rr_ HO4.out).2.1)
 (case side5 => exact beqy_)
 (case side6 => exact (rr_ HO5.out).2.1)
 (case side7 => exact b80k_)
 (case side8 => exact (rr_ HO6.out).2.1)
 rintro e w10 ⟨rfl, hb⟩
 refine ⟨_, rfl, ?_⟩
 replace HO1 := A0_ (Kd.R_below bsm5_ hb)
 replace HO2 := A0_ (Kd.R_below b9so_ hb)
 replace HO3 := A0_ (Kd.R_below buiy_ hb)
 replace HO4 := A0_ (Kd.R_below b6ip_ hb)
 replace HO5 := A0_ (Kd.R_below (by (with_reducible repeat (first | apply ra_ | apply rn_ | apply rd_)); exact HO5.out) hb)
 replace HO6 := A0_ (Kd.R_below (by (with_reducible repeat (first | apply ra_ | apply rn_ | apply rd_)); exact HO6.out) hb)
 replace BK1 := k1_ BK1 hb
 replace BK2 := k1_ BK2 hb
 replace HB := hb_ hb bfnq_
 (try clear hb)
 refine hK.out _ _ ⟨(kc_ BK2.out 0).trans rfl, (kc_ BK2.out 1).trans rfl, (kc_ BK2.out 2).trans rfl, (kc_ BK2.out 3).trans rfl, (kc_ BK2.out 4).trans rfl, (kc_ BK2.out 5).trans rfl, (kc_ BK2.out 6).trans rfl, (kc_ BK2.out 7).trans rfl, (kc_ BK1.out 0).trans rfl, (kc_ BK1.out 1).trans rfl, (kc_ BK1.out 2).trans rfl, (kc_ BK1.out 3).trans rfl, (kc_ BK1.out 4).trans rfl, (kc_ BK1.out 5).trans rfl, (kc_ BK1.out 6).trans rfl, (kc_ BK1.out 7).trans rfl⟩ (fun hHeld => ?_)
 clear hK K
 refine nm_ 25 ?_
 refine pu_ 4 26 ?_
 refine done_ bfqv_ ?_
 try go_wp2
 go_ret
 exact ⟨bnwh_, bfnq_⟩

end Go.Proofs.YtgmodeeebkngcaaGreatDoor.QFnExactIsValidConsole
-- packed
-- squeezed
