-- Written by px.py, a program of this session, over the kit's printer: some functions have a definition and a proof of this session's own.
import Derived.Test.YtbohmfnjgjijdaaDoorQFnGuestsx0
import Derived.Test.YtbohmfnjgjijdaaDoorQFnGuestsx1
namespace Go.Proofs.YtbohmfnjgjijdaaDoor.QFnGuests
open Go.RowKit Go.Proofs.YtbohmfnjgjijdaaDoorW.PrintWords Go.Proofs.YtbohmfnjgjijdaaDoorW.PrintLast Go.Proofs.YtbohmfnjgjijdaaDoorW.PrintMore
attribute [local go_sem] max2_int min2_int max_two min_two max_three min_three max_four min_four   -- for this text's walks alone
set_option linter.unusedVariables false
set_option linter.unusedSimpArgs false
set_option maxHeartbeats 8000000
set_option maxRecDepth 100000

def spec_NewHouse.f (k : Nat) (a0 : Int) (a1 : Bool) : Option (Int × Bool × List Int × List Int × Int × Bool) := (spec_l12Own.f a0 a1 ([] : List Int) ([] : List Int) 0).bind fun bt226 => ((spec_l12Good.f k bt226.1 bt226.2.1 bt226.2.2.1 bt226.2.2.2.1 bt226.2.2.2.2).bind fun t236 => (if t236 = true then (some (bt226.1, bt226.2.1, bt226.2.2.1, bt226.2.2.2.1, bt226.2.2.2.2, true)) else (some (0, false, ([] : List Int), ([] : List Int), 0, false))))
theorem spec_NewHouse.mono : ∀ a0 a1 k, LeO (spec_NewHouse.f k a0 a1) (spec_NewHouse.f (k + 1) a0 a1) := by
 intro a0 a1 k
 unfold spec_NewHouse.f
 repeat' with_reducible first | exact spec_l12Good.mono .. | exact LeO.refl .. | exact LeO.none .. | refine LeO.ite ?_ ?_ | refine LeO.bind ?_ (fun _ => ?_)
theorem spec_NewHouse.calls (k : Nat) (a0 : Int) (a1 : Bool) (r1 : Int) (r2 : Bool) (r3 : List Int) (r4 : List Int) (r5 : Int) (r6 : Bool) (w : World) (h : spec_NewHouse.f k a0 a1 = some (r1, r2, r3, r4, r5, r6)) :
  Calls Tryd.prog 7 #[.int .i64 a0, .bool a1] w fun e w' => ∃ v2_ v3_ : Value, e = .returned (.tuple #[.agg #[.int .i64 r1, .bool r2, v2_, v3_, .int .i64 r5], .bool r6]) ∧ Kd.R (Kd.int .i64) 3 w' w.heap.size (fun k_ => no_ v3_ k_) v2_ r3 ∧ Kd.R (Kd.int .i64) 3 w' w.heap.size (fun k_ => no_ v2_ k_) v3_ r4 ∧ Below w.heap.size w w' := by
 have hu26 := Tryd.underlying26
 have hu24 := Tryd.underlying24
 have HB := A0_ (Below.refl w.heap.size w)
 have H : ((spec_l12Own.f a0 a1 ([] : List Int) ([] : List Int) 0).bind fun bt1 => ((spec_l12Good.f k bt1.1 bt1.2.1 bt1.2.2.1 bt1.2.2.2.1 bt1.2.2.2.2).bind fun t1 => (if t1 = true then (some (bt1.1, bt1.2.1, bt1.2.2.1, bt1.2.2.2.1, bt1.2.2.2.2, true)) else (some (0, false, ([] : List Int), ([] : List Int), 0, false))))) = some (r1, r2, r3, r4, r5, r6) := h
 clear h
 obtain ⟨⟨t2, t3, t4, t5, t6⟩, A2, H⟩ := o1_ H
 obtain ⟨t1, A4, H⟩ := o1_ H
 by_cases c1 : t1 = true
 case neg =>
  obtain rfl := bf_.mpr c1
  rw [if_neg ft_] at H
  simp only [sj_, pj_] at H
  obtain ⟨rfl, rfl, rfl, rfl, rfl, rfl⟩ := H
  go_enter Tryd.func7, Tryd.ntmps7
  go_wp2_with (first | ((with_reducible refine gd_ (N := 4) rfl ?_); refine bx_ 4 #[.int .i64 0, .bool false, .slice none 0 0, .slice none 0 0, .int .i64 0] 26 ?_; intro gb1 hg w1 BK1 hb; have GW1 := ge_ hg brt4_; have GE1 := GW1; replace HB := hb_ hb brt4_; clear hb hg) | ((with_reducible refine gc_ (f := 31) rfl ?_); refine gl_ 11 Tryd.func31 #[.agg #[.int .i64 a0, .bool a1, .slice none 0 0, .slice none 0 0, .int .i64 0]] ?_; (refine (spec_l12Own.calls a0 a1 _ _ ([] : List Int) _ _ ([] : List Int) 0 t2 t3 t4 t5 t6 _ ?side1 ?side2 ?side3 ?side4 A2.out).mono ?_); (case side1 => exact Kd.C_nil _ _); (case side2 => exact Nat.le_refl _); (case side3 => exact Kd.C_nil _ _); (case side4 => exact Nat.le_refl _); rintro e w2 ⟨v1, v4, rfl, ho0, ho1, hb⟩; refine ⟨_, rfl, ?_⟩; have HO1 := A0_ (Kd.R_lower ho0 (bz_ be6g_)); have HO2 := A0_ (Kd.R_lower ho1 (bz_ be6g_)); replace BK1 := k1_ BK1 hb; replace HB := hb_ hb be6g_; (try clear hb); (try clear ho0); (try clear ho1)) | ((with_reducible refine gd_ (N := 6) rfl ?_); refine bx_ 6 #[.int .i64 0, .bool false, .slice none 0 0, .slice none 0 0, .int .i64 0] 26 ?_; intro gb2 hg w3 BK2 hb; replace HO1 := A0_ (Kd.R_below bsm5_ hb); replace HO2 := A0_ (Kd.R_below b9so_ hb); have GW2 := ge_ hg be6g_; have GE2 := GW2; replace HB := hb_ hb be6g_; have NB1_2 := nl_ hg BK1; have NB2_1 := ng_ hg BK1; replace BK1 := k1_ BK1 hb; clear hb hg; have hnb1 := NB2_1.out; have hnc1 := NB1_2.out; have hcz1 := z5_ BK2; obtain ⟨Ao1, co1, eo1⟩ := Kd.R_slice HO1.out; subst eo1; obtain ⟨Ao2, co2, eo2⟩ := Kd.R_slice HO2.out; subst eo2) | ((with_reducible refine gc_ (f := 32) rfl ?_); refine gl_ 13 Tryd.func32 #[.agg #[.int .i64 t2, .bool t3, .slice Ao1 t4.length co1, .slice Ao2 t5.length co2, .int .i64 t6]] ?_; (with_reducible refine (spec_l12Good.calls k t2 t3 _ _ t4 _ _ t5 t6 false _ ?side1 ?side2 ?side3 ?side4 A4.out).mono ?_); (case side1 => refine (rr_ (e := 3) (base := w.heap.size) (ok := fun k_ => no_ (.slice Ao2 t5.length co2) k_) (n := t4.length) (c := co1) ?_).2.2; exact b6sf_); (case side2 => exact (rr_ HO1.out).2.1); (case side3 => refine (rr_ (e := 3) (base := w.heap.size) (ok := fun k_ => no_ (.slice Ao1 t4.length co1) k_) (n := t5.length) (c := co2) ?_).2.2; exact byhc_); (case side4 => exact (rr_ HO2.out).2.1); rintro e w4 ⟨rfl, hb⟩; refine ⟨_, rfl, ?_⟩; replace HO1 := A0_ (Kd.R_below b6sf_ hb); replace HO2 := A0_ (Kd.R_below byhc_ hb); replace BK1 := k1_ BK1 hb; replace BK2 := k2_ (.cells #[.int .i64 t2, .bool t3, .slice Ao1 t4.length co1, .slice Ao2 t5.length co2, .int .i64 t6] 26 (0, 0)) BK2 hb; replace HB := hb_ hb bfnq_; (try clear hb); have hcz2 := z5_ BK1))
  refine bodyPost_ret (results_ct rfl _ _ gb1 26 #[.int .i64 0, .bool false, .slice none 0 0, .slice none 0 0, .int .i64 0] (0, 0) _ rfl (u1_ BK1) Tryd.underlying26 rfl bfqv_) rfl ?_
  exact ⟨_, _, bnwh_, bwfe_, bwfe_, bfnq_⟩
 subst c1
 rw [if_pos rfl] at H
 simp only [sj_, pj_] at H
 obtain ⟨rfl, rfl, rfl, rfl, rfl, rfl⟩ := H
 go_enter Tryd.func7, Tryd.ntmps7
 go_wp2_with (first | ((with_reducible refine gd_ (N := 4) rfl ?_); refine bx_ 4 #[.int .i64 0, .bool false, .slice none 0 0, .slice none 0 0, .int .i64 0] 26 ?_; intro gb1 hg w1 BK1 hb; have GW1 := ge_ hg brt4_; have GE1 := GW1; replace HB := hb_ hb brt4_; clear hb hg) | ((with_reducible refine gc_ (f := 31) rfl ?_); refine gl_ 11 Tryd.func31 #[.agg #[.int .i64 a0, .bool a1, .slice none 0 0, .slice none 0 0, .int .i64 0]] ?_; (refine (spec_l12Own.calls a0 a1 _ _ ([] : List Int) _ _ ([] : List Int) 0 t2 t3 t4 t5 t6 _ ?side1 ?side2 ?side3 ?side4 A2.out).mono ?_); (case side1 => exact Kd.C_nil _ _); (case side2 => exact Nat.le_refl _); (case side3 => exact Kd.C_nil _ _); (case side4 => exact Nat.le_refl _); rintro e w2 ⟨v1, v4, rfl, ho0, ho1, hb⟩; refine ⟨_, rfl, ?_⟩; have HO1 := A0_ (Kd.R_lower ho0 (bz_ be6g_)); have HO2 := A0_ (Kd.R_lower ho1 (bz_ be6g_)); replace BK1 := k1_ BK1 hb; replace HB := hb_ hb be6g_; (try clear hb); (try clear ho0); (try clear ho1)) | ((with_reducible refine gd_ (N := 6) rfl ?_); refine bx_ 6 #[.int .i64 0, .bool false, .slice none 0 0, .slice none 0 0, .int .i64 0] 26 ?_; intro gb2 hg w3 BK2 hb; replace HO1 := A0_ (Kd.R_below bsm5_ hb); replace HO2 := A0_ (Kd.R_below b9so_ hb); have GW2 := ge_ hg be6g_; have GE2 := GW2; replace HB := hb_ hb be6g_; have NB1_2 := nl_ hg BK1; have NB2_1 := ng_ hg BK1; replace BK1 := k1_ BK1 hb; clear hb hg; have hnb1 := NB2_1.out; have hnc1 := NB1_2.out; have hcz1 := z5_ BK2; obtain ⟨Ao1, co1, eo1⟩ := Kd.R_slice HO1.out; subst eo1; obtain ⟨Ao2, co2, eo2⟩ := Kd.R_slice HO2.out; subst eo2) | ((with_reducible refine gc_ (f := 32) rfl ?_); refine gl_ 13 Tryd.func32 #[.agg #[.int .i64 t2, .bool t3, .slice Ao1 t4.length co1, .slice Ao2 t5.length co2, .int .i64 t6]] ?_; (with_reducible refine (spec_l12Good.calls k t2 t3 _ _ t4 _ _ t5 t6 true _ ?side1 ?side2 ?side3 ?side4 A4.out).mono ?_); (case side1 => refine (rr_ (e := 3) (base := w.heap.size) (ok := fun k_ => no_ (.slice Ao2 t5.length co2) k_) (n := t4.length) (c := co1) ?_).2.2; exact b6sf_); (case side2 => exact (rr_ HO1.out).2.1); (case side3 => refine (rr_ (e := 3) (base := w.heap.size) (ok := fun k_ => no_ (.slice Ao1 t4.length co1) k_) (n := t5.length) (c := co2) ?_).2.2; exact byhc_); (case side4 => exact (rr_ HO2.out).2.1); rintro e w4 ⟨rfl, hb⟩; refine ⟨_, rfl, ?_⟩; replace HO1 := A0_ (Kd.R_below b6sf_ hb); replace HO2 := A0_ (Kd.R_below byhc_ hb); replace BK1 := k1_ BK1 hb; replace BK2 := k2_ (.cells #[.int .i64 t2, .bool t3, .slice Ao1 t4.length co1, .slice Ao2 t5.length co2, .int .i64 t6] 26 (0, 0)) BK2 hb; replace HB := hb_ hb bfnq_; (try clear hb); have hcz2 := z5_ BK2; have hcz3 := z5_ BK1))
 refine bodyPost_ret (results_ct rfl _ _ gb1 26 #[.int .i64 t2, .bool t3, .slice Ao1 t4.length co1, .slice Ao2 t5.length co2, .int .i64 t6] (0, 0) _ rfl (u1_ BK1) Tryd.underlying26 rfl bfqv_) rfl ?_
 exact ⟨_, _, bnwh_, b69g_, b2f0_, bfnq_⟩

def spec_l12Free.f (k : Nat) (a0_0 : Int) (a0_1 : Bool) (l0_2 : List Int) (l0_3 : List Int) (a0_4 : Int) (a1 : Int) : Option (Bool) := (spec_l1In.f a1 0 (wrap64 (a0_0 - 1))).bind fun t238 => (if t238 = true then ((spec_l2Is.f k a0_0 a0_1 l0_2 a1).bind fun t239 => (some (!t239))) else (some false))
theorem spec_l12Free.mono : ∀ a0 a1 a2 a3 a4 a5 k, LeO (spec_l12Free.f k a0 a1 a2 a3 a4 a5) (spec_l12Free.f (k + 1) a0 a1 a2 a3 a4 a5) := by
 intro a0 a1 a2 a3 a4 a5 k
 unfold spec_l12Free.f
 repeat' with_reducible first | exact spec_l2Is.mono .. | exact LeO.refl .. | exact LeO.none .. | refine LeO.ite ?_ ?_ | refine LeO.bind ?_ (fun _ => ?_)
theorem spec_l12Free.calls (k : Nat) (a0_0 : Int) (a0_1 : Bool) (A0_2 : Option Addr) (c0_2 : Nat) (l0_2 : List Int) (A0_3 : Option Addr) (c0_3 : Nat) (l0_3 : List Int) (a0_4 : Int) (a1 : Int) (r : Bool) (w : World) (hr0_2 : Kd.C (Kd.int .i64) w A0_2 l0_2.length l0_2) (hc0_2 : l0_2.length ≤ c0_2) (hr0_3 : Kd.C (Kd.int .i64) w A0_3 l0_3.length l0_3) (hc0_3 : l0_3.length ≤ c0_3) (h : spec_l12Free.f k a0_0 a0_1 l0_2 l0_3 a0_4 a1 = some r) :
  Calls Tryd.prog 84 #[.agg #[.int .i64 a0_0, .bool a0_1, .slice A0_2 l0_2.length c0_2, .slice A0_3 l0_3.length c0_3, .int .i64 a0_4], .int .i64 a1] w fun e w' => e = .returned (.bool r) ∧ Below w.heap.size w w' := by
 have hu26 := Tryd.underlying26
 have hu24 := Tryd.underlying24
 have HR0_2 := A0_ hr0_2
 have HC0_2 := A0_ hc0_2
 clear hr0_2 hc0_2
 have HR0_3 := A0_ hr0_3
 have HC0_3 := A0_ hc0_3
 clear hr0_3 hc0_3
 have HB := A0_ (Below.refl w.heap.size w)
 have H : ((spec_l1In.f a1 0 (wrap64 (a0_0 - 1))).bind fun t1 => (if t1 = true then ((spec_l2Is.f k a0_0 a0_1 l0_2 a1).bind fun t2 => (some (!t2))) else (some false))) = some r := h
 clear h
 obtain ⟨t1, A2, H⟩ := o1_ H
 by_cases c1 : t1 = true
 case neg =>
  obtain rfl := bf_.mpr c1
  rw [if_neg ft_] at H
  obtain rfl := si_ H
  go_enter Tryd.func84, Tryd.ntmps84
  go_wp2_with (first | ((with_reducible refine gd_ (N := 2) rfl ?_); refine bx_ 2 #[.int .i64 a0_0, .bool a0_1, .slice A0_2 l0_2.length c0_2, .slice A0_3 l0_3.length c0_3, .int .i64 a0_4] 26 ?_; intro gb1 hg w1 BK1 hb; have GW1 := ge_ hg brt4_; have GE1 := GW1; replace HB := hb_ hb brt4_; clear hb hg; have hcz1 := c5_ BK1) | ((with_reducible refine gc_ (f := 60) rfl ?_); refine gl_ 10 Tryd.func60 #[.int .i64 a1, .int .i64 0, .int .i64 (wrap64 (a0_0 - 1))] ?_; (with_reducible refine (spec_l1In.calls a1 0 (wrap64 (a0_0 - 1)) false _ A2.out).mono ?_); rintro e w' ⟨rfl, ⟨nd, rfl⟩⟩; refine ⟨_, rfl, ?_⟩))
  go_ret
  exact ⟨bnwh_, be6g_⟩
 subst c1
 rw [if_pos rfl] at H
 obtain ⟨t2, A4, H⟩ := o1_ H
 replace H : (some (!t2)) = some r := H
 obtain rfl := si_ H
 go_enter Tryd.func84, Tryd.ntmps84
 go_wp2_with (first | ((with_reducible refine gd_ (N := 2) rfl ?_); refine bx_ 2 #[.int .i64 a0_0, .bool a0_1, .slice A0_2 l0_2.length c0_2, .slice A0_3 l0_3.length c0_3, .int .i64 a0_4] 26 ?_; intro gb1 hg w1 BK1 hb; have GW1 := ge_ hg brt4_; have GE1 := GW1; replace HB := hb_ hb brt4_; clear hb hg; have hcz1 := c5_ BK1) | ((with_reducible refine gc_ (f := 60) rfl ?_); refine gl_ 10 Tryd.func60 #[.int .i64 a1, .int .i64 0, .int .i64 (wrap64 (a0_0 - 1))] ?_; (with_reducible refine (spec_l1In.calls a1 0 (wrap64 (a0_0 - 1)) true _ A2.out).mono ?_); rintro e w' ⟨rfl, ⟨nd, rfl⟩⟩; refine ⟨_, rfl, ?_⟩) | (go_at_call 64; (with_reducible refine (spec_l2Is.calls k a0_0 a0_1 _ _ l0_2 a1 t2 _ ?side1 ?side2 A4.out).mono ?_); (case side1 => exact b83h_); (case side2 => exact HC0_2.out); rintro e w2 ⟨rfl, hb⟩; replace BK1 := k1_ BK1 hb; replace HB := hb_ hb be6g_; (try clear hb)))
 go_ret
 exact ⟨bnwh_, be6g_⟩

def spec_l12Taken.f (k : Nat) (a0_0 : Int) (a0_1 : Bool) (l0_2 : List Int) (l0_3 : List Int) (a0_4 : Int) (a1 : Int) : Option (Bool) := (spec_l1In.f a1 0 (wrap64 (a0_0 - 1))).bind fun t241 => (if t241 = true then ((spec_l2Is.f k a0_0 a0_1 l0_2 a1).bind fun t242 => (some t242)) else (some false))
theorem spec_l12Taken.mono : ∀ a0 a1 a2 a3 a4 a5 k, LeO (spec_l12Taken.f k a0 a1 a2 a3 a4 a5) (spec_l12Taken.f (k + 1) a0 a1 a2 a3 a4 a5) := by
 intro a0 a1 a2 a3 a4 a5 k
 unfold spec_l12Taken.f
 repeat' with_reducible first | exact spec_l2Is.mono .. | exact LeO.refl .. | exact LeO.none .. | refine LeO.ite ?_ ?_ | refine LeO.bind ?_ (fun _ => ?_)
theorem spec_l12Taken.calls (k : Nat) (a0_0 : Int) (a0_1 : Bool) (A0_2 : Option Addr) (c0_2 : Nat) (l0_2 : List Int) (A0_3 : Option Addr) (c0_3 : Nat) (l0_3 : List Int) (a0_4 : Int) (a1 : Int) (r : Bool) (w : World) (hr0_2 : Kd.C (Kd.int .i64) w A0_2 l0_2.length l0_2) (hc0_2 : l0_2.length ≤ c0_2) (hr0_3 : Kd.C (Kd.int .i64) w A0_3 l0_3.length l0_3) (hc0_3 : l0_3.length ≤ c0_3) (h : spec_l12Taken.f k a0_0 a0_1 l0_2 l0_3 a0_4 a1 = some r) :
  Calls Tryd.prog 85 #[.agg #[.int .i64 a0_0, .bool a0_1, .slice A0_2 l0_2.length c0_2, .slice A0_3 l0_3.length c0_3, .int .i64 a0_4], .int .i64 a1] w fun e w' => e = .returned (.bool r) ∧ Below w.heap.size w w' := by
 have hu26 := Tryd.underlying26
 have hu24 := Tryd.underlying24
 have HR0_2 := A0_ hr0_2
 have HC0_2 := A0_ hc0_2
 clear hr0_2 hc0_2
 have HR0_3 := A0_ hr0_3
 have HC0_3 := A0_ hc0_3
 clear hr0_3 hc0_3
 have HB := A0_ (Below.refl w.heap.size w)
 have H : ((spec_l1In.f a1 0 (wrap64 (a0_0 - 1))).bind fun t1 => (if t1 = true then ((spec_l2Is.f k a0_0 a0_1 l0_2 a1).bind fun t2 => (some t2)) else (some false))) = some r := h
 clear h
 obtain ⟨t1, A2, H⟩ := o1_ H
 by_cases c1 : t1 = true
 case neg =>
  obtain rfl := bf_.mpr c1
  rw [if_neg ft_] at H
  obtain rfl := si_ H
  go_enter Tryd.func85, Tryd.ntmps85
  go_wp2_with (first | ((with_reducible refine gd_ (N := 2) rfl ?_); refine bx_ 2 #[.int .i64 a0_0, .bool a0_1, .slice A0_2 l0_2.length c0_2, .slice A0_3 l0_3.length c0_3, .int .i64 a0_4] 26 ?_; intro gb1 hg w1 BK1 hb; have GW1 := ge_ hg brt4_; have GE1 := GW1; replace HB := hb_ hb brt4_; clear hb hg; have hcz1 := c5_ BK1) | ((with_reducible refine gc_ (f := 60) rfl ?_); refine gl_ 10 Tryd.func60 #[.int .i64 a1, .int .i64 0, .int .i64 (wrap64 (a0_0 - 1))] ?_; (with_reducible refine (spec_l1In.calls a1 0 (wrap64 (a0_0 - 1)) false _ A2.out).mono ?_); rintro e w' ⟨rfl, ⟨nd, rfl⟩⟩; refine ⟨_, rfl, ?_⟩))
  go_ret
  exact ⟨bnwh_, be6g_⟩
 subst c1
 rw [if_pos rfl] at H
 obtain ⟨t2, A4, H⟩ := o1_ H
 replace H : (some t2) = some r := H
 obtain rfl := si_ H
 go_enter Tryd.func85, Tryd.ntmps85
 go_wp2_with (first | ((with_reducible refine gd_ (N := 2) rfl ?_); refine bx_ 2 #[.int .i64 a0_0, .bool a0_1, .slice A0_2 l0_2.length c0_2, .slice A0_3 l0_3.length c0_3, .int .i64 a0_4] 26 ?_; intro gb1 hg w1 BK1 hb; have GW1 := ge_ hg brt4_; have GE1 := GW1; replace HB := hb_ hb brt4_; clear hb hg; have hcz1 := c5_ BK1) | ((with_reducible refine gc_ (f := 60) rfl ?_); refine gl_ 10 Tryd.func60 #[.int .i64 a1, .int .i64 0, .int .i64 (wrap64 (a0_0 - 1))] ?_; (with_reducible refine (spec_l1In.calls a1 0 (wrap64 (a0_0 - 1)) true _ A2.out).mono ?_); rintro e w' ⟨rfl, ⟨nd, rfl⟩⟩; refine ⟨_, rfl, ?_⟩) | (go_at_call 64; (with_reducible refine (spec_l2Is.calls k a0_0 a0_1 _ _ l0_2 a1 t2 _ ?side1 ?side2 A4.out).mono ?_); (case side1 => exact b83h_); (case side2 => exact HC0_2.out); rintro e w2 ⟨rfl, hb⟩; replace BK1 := k1_ BK1 hb; replace HB := hb_ hb be6g_; (try clear hb)))
 go_ret
 exact ⟨bnwh_, be6g_⟩

def spec_l12May.f (k : Nat) (a0_0 : Int) (a0_1 : Bool) (l0_2 : List Int) (l0_3 : List Int) (a0_4 : Int) (a1_0 : Int) (a1_1 : Int) (a1_2 : Int) : Option (Bool) := if a1_0 = 1 then (if (l0_3.length : Int) < a0_0 then (if a1_1 = 0 then (some (a1_2 == 0)) else (some false)) else (some false)) else (if a1_0 = 2 then ((spec_l12Free.f k a0_0 a0_1 l0_2 l0_3 a0_4 a1_1).bind fun t245 => (if t245 = true then (some (a1_2 == 0)) else (some false))) else (if a1_0 = 3 then ((spec_l12Taken.f k a0_0 a0_1 l0_2 l0_3 a0_4 a1_1).bind fun t246 => (if t246 = true then (some (a1_2 == 0)) else (some false))) else (if a1_0 = 4 then ((spec_l12Taken.f k a0_0 a0_1 l0_2 l0_3 a0_4 a1_1).bind fun t247 => (if t247 = true then ((spec_l12Free.f k a0_0 a0_1 l0_2 l0_3 a0_4 a1_2).bind fun t248 => (some t248)) else (some false))) else (if a1_0 = 5 then (if a1_1 = 0 then (some (a1_2 == 0)) else (some false)) else (some false)))))
theorem spec_l12May.mono : ∀ a0 a1 a2 a3 a4 a5 a6 a7 k, LeO (spec_l12May.f k a0 a1 a2 a3 a4 a5 a6 a7) (spec_l12May.f (k + 1) a0 a1 a2 a3 a4 a5 a6 a7) := by
 intro a0 a1 a2 a3 a4 a5 a6 a7 k
 unfold spec_l12May.f
 repeat' with_reducible first | exact spec_l12Free.mono .. | exact spec_l12Taken.mono .. | exact LeO.refl .. | exact LeO.none .. | refine LeO.ite ?_ ?_ | refine LeO.bind ?_ (fun _ => ?_)
theorem spec_l12May.calls (k : Nat) (a0_0 : Int) (a0_1 : Bool) (A0_2 : Option Addr) (c0_2 : Nat) (l0_2 : List Int) (A0_3 : Option Addr) (c0_3 : Nat) (l0_3 : List Int) (a0_4 : Int) (a1_0 : Int) (a1_1 : Int) (a1_2 : Int) (r : Bool) (w : World) (hr0_2 : Kd.C (Kd.int .i64) w A0_2 l0_2.length l0_2) (hc0_2 : l0_2.length ≤ c0_2) (hr0_3 : Kd.C (Kd.int .i64) w A0_3 l0_3.length l0_3) (hc0_3 : l0_3.length ≤ c0_3) (h : spec_l12May.f k a0_0 a0_1 l0_2 l0_3 a0_4 a1_0 a1_1 a1_2 = some r) :
  Calls Tryd.prog 69 #[.agg #[.int .i64 a0_0, .bool a0_1, .slice A0_2 l0_2.length c0_2, .slice A0_3 l0_3.length c0_3, .int .i64 a0_4], .agg #[.int .i64 a1_0, .int .i64 a1_1, .int .i64 a1_2]] w fun e w' => e = .returned (.bool r) ∧ Below w.heap.size w w' := by
 have hu26 := Tryd.underlying26
 have hu45 := Tryd.underlying45
 have HR0_2 := A0_ hr0_2
 have HC0_2 := A0_ hc0_2
 clear hr0_2 hc0_2
 have HR0_3 := A0_ hr0_3
 have HC0_3 := A0_ hc0_3
 clear hr0_3 hc0_3
 have HB := A0_ (Below.refl w.heap.size w)
 have H : (if a1_0 = 1 then (if (l0_3.length : Int) < a0_0 then (if a1_1 = 0 then (some (a1_2 == 0)) else (some false)) else (some false)) else (if a1_0 = 2 then ((spec_l12Free.f k a0_0 a0_1 l0_2 l0_3 a0_4 a1_1).bind fun t1 => (if t1 = true then (some (a1_2 == 0)) else (some false))) else (if a1_0 = 3 then ((spec_l12Taken.f k a0_0 a0_1 l0_2 l0_3 a0_4 a1_1).bind fun t2 => (if t2 = true then (some (a1_2 == 0)) else (some false))) else (if a1_0 = 4 then ((spec_l12Taken.f k a0_0 a0_1 l0_2 l0_3 a0_4 a1_1).bind fun t3 => (if t3 = true then ((spec_l12Free.f k a0_0 a0_1 l0_2 l0_3 a0_4 a1_2).bind fun t4 => (some t4)) else (some false))) else (if a1_0 = 5 then (if a1_1 = 0 then (some (a1_2 == 0)) else (some false)) else (some false)))))) = some r := h
 clear h
 by_cases c1 : a1_0 = 1
 ·rw [if_pos c1] at H
  obtain ⟨c1b0, c1b1⟩ := et_ c1
  clear c1
  by_cases c2 : (l0_3.length : Int) < a0_0
  case neg =>
   rw [if_neg c2] at H
   have c2b0 : decide ((l0_3.length : Int) < a0_0) = false := decide_eq_false c2
   clear c2
   obtain rfl := si_ H
   go_enter Tryd.func69, Tryd.ntmps69
   go_wp2_with (first | ((with_reducible refine gd_ (N := 2) rfl ?_); refine bx_ 2 #[.int .i64 a0_0, .bool a0_1, .slice A0_2 l0_2.length c0_2, .slice A0_3 l0_3.length c0_3, .int .i64 a0_4] 26 ?_; intro gb1 hg w1 BK1 hb; have GW1 := ge_ hg brt4_; have GE1 := GW1; replace HB := hb_ hb brt4_; clear hb hg) | ((with_reducible refine gd_ (N := 3) rfl ?_); refine bx_ 3 #[.int .i64 a1_0, .int .i64 a1_1, .int .i64 a1_2] 45 ?_; intro gb2 hg w2 BK2 hb; have GW2 := ge_ hg be6g_; have GE2 := GW2; replace HB := hb_ hb be6g_; have NB1_2 := nl_ hg BK1; have NB2_1 := ng_ hg BK1; replace BK1 := k1_ BK1 hb; clear hb hg; have hnb1 := NB2_1.out; have hnc1 := NB1_2.out; have hcz1 := c3_ BK2; have hcz2 := c5_ BK1))
   go_ret
   exact ⟨bnwh_, bfnq_⟩
  rw [if_pos c2] at H
  have c2b0 : decide ((l0_3.length : Int) < a0_0) = true := dt_ c2
  clear c2
  by_cases c3 : a1_1 = 0
  case neg =>
   rw [if_neg c3] at H
   obtain ⟨c3b0, c3b1⟩ := ef_ c3
   obtain rfl := si_ H
   go_enter Tryd.func69, Tryd.ntmps69
   go_wp2_with (first | ((with_reducible refine gd_ (N := 2) rfl ?_); refine bx_ 2 #[.int .i64 a0_0, .bool a0_1, .slice A0_2 l0_2.length c0_2, .slice A0_3 l0_3.length c0_3, .int .i64 a0_4] 26 ?_; intro gb1 hg w1 BK1 hb; have GW1 := ge_ hg brt4_; have GE1 := GW1; replace HB := hb_ hb brt4_; clear hb hg) | ((with_reducible refine gd_ (N := 3) rfl ?_); refine bx_ 3 #[.int .i64 a1_0, .int .i64 a1_1, .int .i64 a1_2] 45 ?_; intro gb2 hg w2 BK2 hb; have GW2 := ge_ hg be6g_; have GE2 := GW2; replace HB := hb_ hb be6g_; have NB1_2 := nl_ hg BK1; have NB2_1 := ng_ hg BK1; replace BK1 := k1_ BK1 hb; clear hb hg; have hnb1 := NB2_1.out; have hnc1 := NB1_2.out; have hcz1 := c3_ BK2; have hcz2 := c5_ BK1))
   go_ret
   exact ⟨bnwh_, bfnq_⟩
  rw [if_pos c3] at H
  obtain ⟨c3b0, c3b1⟩ := et_ c3
  clear c3
  obtain rfl := si_ H
  go_enter Tryd.func69, Tryd.ntmps69
  go_wp2_with (first | ((with_reducible refine gd_ (N := 2) rfl ?_); refine bx_ 2 #[.int .i64 a0_0, .bool a0_1, .slice A0_2 l0_2.length c0_2, .slice A0_3 l0_3.length c0_3, .int .i64 a0_4] 26 ?_; intro gb1 hg w1 BK1 hb; have GW1 := ge_ hg brt4_; have GE1 := GW1; replace HB := hb_ hb brt4_; clear hb hg) | ((with_reducible refine gd_ (N := 3) rfl ?_); refine bx_ 3 #[.int .i64 a1_0, .int .i64 a1_1, .int .i64 a1_2] 45 ?_; intro gb2 hg w2 BK2 hb; have GW2 := ge_ hg be6g_; have GE2 := GW2; replace HB := hb_ hb be6g_; have NB1_2 := nl_ hg BK1; have NB2_1 := ng_ hg BK1; replace BK1 := k1_ BK1 hb; clear hb hg; have hnb1 := NB2_1.out; have hnc1 := NB1_2.out; have hcz1 := c3_ BK2; have hcz2 := c5_ BK1))
  go_ret
  exact ⟨bnwh_, bfnq_⟩
 rw [if_neg c1] at H
 obtain ⟨c1b0, c1b1⟩ := ef_ c1
 by_cases c2 : a1_0 = 2
 ·rw [if_pos c2] at H
  obtain ⟨c2b0, c2b1⟩ := et_ c2
  clear c2
  obtain ⟨t1, A2, H⟩ := o1_ H
  by_cases c3 : t1 = true
  case neg =>
   obtain rfl := bf_.mpr c3
   rw [if_neg ft_] at H
   obtain rfl := si_ H
   go_enter Tryd.func69, Tryd.ntmps69
   go_wp2_with (first | ((with_reducible refine gd_ (N := 2) rfl ?_); refine bx_ 2 #[.int .i64 a0_0, .bool a0_1, .slice A0_2 l0_2.length c0_2, .slice A0_3 l0_3.length c0_3, .int .i64 a0_4] 26 ?_; intro gb1 hg w1 BK1 hb; have GW1 := ge_ hg brt4_; have GE1 := GW1; replace HB := hb_ hb brt4_; clear hb hg) | ((with_reducible refine gd_ (N := 3) rfl ?_); refine bx_ 3 #[.int .i64 a1_0, .int .i64 a1_1, .int .i64 a1_2] 45 ?_; intro gb2 hg w2 BK2 hb; have GW2 := ge_ hg be6g_; have GE2 := GW2; replace HB := hb_ hb be6g_; have NB1_2 := nl_ hg BK1; have NB2_1 := ng_ hg BK1; replace BK1 := k1_ BK1 hb; clear hb hg; have hnb1 := NB2_1.out; have hnc1 := NB1_2.out; have hcz1 := c3_ BK2; have hcz2 := c5_ BK1) | ((with_reducible refine gc_ (f := 84) rfl ?_); refine gl_ 31 Tryd.func84 #[.agg #[.int .i64 a0_0, .bool a0_1, .slice A0_2 l0_2.length c0_2, .slice A0_3 l0_3.length c0_3, .int .i64 a0_4], .int .i64 a1_1] ?_; (with_reducible refine (spec_l12Free.calls k a0_0 a0_1 _ _ l0_2 _ _ l0_3 a0_4 a1_1 false _ ?side1 ?side2 ?side3 ?side4 A2.out).mono ?_); (case side1 => exact b6n8_); (case side2 => exact HC0_2.out); (case side3 => exact bkan_); (case side4 => exact HC0_3.out); rintro e w3 ⟨rfl, hb⟩; refine ⟨_, rfl, ?_⟩; replace BK1 := k1_ BK1 hb; replace BK2 := k1_ BK2 hb; replace HB := hb_ hb bfnq_; (try clear hb)))
   go_ret
   exact ⟨bnwh_, bfnq_⟩
  subst c3
  rw [if_pos rfl] at H
  obtain rfl := si_ H
  go_enter Tryd.func69, Tryd.ntmps69
  go_wp2_with (first | ((with_reducible refine gd_ (N := 2) rfl ?_); refine bx_ 2 #[.int .i64 a0_0, .bool a0_1, .slice A0_2 l0_2.length c0_2, .slice A0_3 l0_3.length c0_3, .int .i64 a0_4] 26 ?_; intro gb1 hg w1 BK1 hb; have GW1 := ge_ hg brt4_; have GE1 := GW1; replace HB := hb_ hb brt4_; clear hb hg) | ((with_reducible refine gd_ (N := 3) rfl ?_); refine bx_ 3 #[.int .i64 a1_0, .int .i64 a1_1, .int .i64 a1_2] 45 ?_; intro gb2 hg w2 BK2 hb; have GW2 := ge_ hg be6g_; have GE2 := GW2; replace HB := hb_ hb be6g_; have NB1_2 := nl_ hg BK1; have NB2_1 := ng_ hg BK1; replace BK1 := k1_ BK1 hb; clear hb hg; have hnb1 := NB2_1.out; have hnc1 := NB1_2.out; have hcz1 := c3_ BK2; have hcz2 := c5_ BK1) | ((with_reducible refine gc_ (f := 84) rfl ?_); refine gl_ 31 Tryd.func84 #[.agg #[.int .i64 a0_0, .bool a0_1, .slice A0_2 l0_2.length c0_2, .slice A0_3 l0_3.length c0_3, .int .i64 a0_4], .int .i64 a1_1] ?_; (with_reducible refine (spec_l12Free.calls k a0_0 a0_1 _ _ l0_2 _ _ l0_3 a0_4 a1_1 true _ ?side1 ?side2 ?side3 ?side4 A2.out).mono ?_); (case side1 => exact b6n8_); (case side2 => exact HC0_2.out); (case side3 => exact bkan_); (case side4 => exact HC0_3.out); rintro e w3 ⟨rfl, hb⟩; refine ⟨_, rfl, ?_⟩; replace BK1 := k1_ BK1 hb; replace BK2 := k1_ BK2 hb; replace HB := hb_ hb bfnq_; (try clear hb); have hcz3 := c3_ BK2))
  go_ret
  exact ⟨bnwh_, bfnq_⟩
 rw [if_neg c2] at H
 obtain ⟨c2b0, c2b1⟩ := ef_ c2
 by_cases c3 : a1_0 = 3
 ·rw [if_pos c3] at H
  obtain ⟨c3b0, c3b1⟩ := et_ c3
  clear c3
  obtain ⟨t2, A2, H⟩ := o1_ H
  by_cases c4 : t2 = true
  case neg =>
   obtain rfl := bf_.mpr c4
   rw [if_neg ft_] at H
   obtain rfl := si_ H
   go_enter Tryd.func69, Tryd.ntmps69
   go_wp2_with (first | ((with_reducible refine gd_ (N := 2) rfl ?_); refine bx_ 2 #[.int .i64 a0_0, .bool a0_1, .slice A0_2 l0_2.length c0_2, .slice A0_3 l0_3.length c0_3, .int .i64 a0_4] 26 ?_; intro gb1 hg w1 BK1 hb; have GW1 := ge_ hg brt4_; have GE1 := GW1; replace HB := hb_ hb brt4_; clear hb hg) | ((with_reducible refine gd_ (N := 3) rfl ?_); refine bx_ 3 #[.int .i64 a1_0, .int .i64 a1_1, .int .i64 a1_2] 45 ?_; intro gb2 hg w2 BK2 hb; have GW2 := ge_ hg be6g_; have GE2 := GW2; replace HB := hb_ hb be6g_; have NB1_2 := nl_ hg BK1; have NB2_1 := ng_ hg BK1; replace BK1 := k1_ BK1 hb; clear hb hg; have hnb1 := NB2_1.out; have hnc1 := NB1_2.out; have hcz1 := c3_ BK2; have hcz2 := c5_ BK1) | ((with_reducible refine gc_ (f := 85) rfl ?_); refine gl_ 42 Tryd.func85 #[.agg #[.int .i64 a0_0, .bool a0_1, .slice A0_2 l0_2.length c0_2, .slice A0_3 l0_3.length c0_3, .int .i64 a0_4], .int .i64 a1_1] ?_; (with_reducible refine (spec_l12Taken.calls k a0_0 a0_1 _ _ l0_2 _ _ l0_3 a0_4 a1_1 false _ ?side1 ?side2 ?side3 ?side4 A2.out).mono ?_); (case side1 => exact b6n8_); (case side2 => exact HC0_2.out); (case side3 => exact bkan_); (case side4 => exact HC0_3.out); rintro e w3 ⟨rfl, hb⟩; refine ⟨_, rfl, ?_⟩; replace BK1 := k1_ BK1 hb; replace BK2 := k1_ BK2 hb; replace HB := hb_ hb bfnq_; (try clear hb)))
   go_ret
   exact ⟨bnwh_, bfnq_⟩
  subst c4
  rw [if_pos rfl] at H
  obtain rfl := si_ H
  go_enter Tryd.func69, Tryd.ntmps69
  go_wp2_with (first | ((with_reducible refine gd_ (N := 2) rfl ?_); refine bx_ 2 #[.int .i64 a0_0, .bool a0_1, .slice A0_2 l0_2.length c0_2, .slice A0_3 l0_3.length c0_3, .int .i64 a0_4] 26 ?_; intro gb1 hg w1 BK1 hb; have GW1 := ge_ hg brt4_; have GE1 := GW1; replace HB := hb_ hb brt4_; clear hb hg) | ((with_reducible refine gd_ (N := 3) rfl ?_); refine bx_ 3 #[.int .i64 a1_0, .int .i64 a1_1, .int .i64 a1_2] 45 ?_; intro gb2 hg w2 BK2 hb; have GW2 := ge_ hg be6g_; have GE2 := GW2; replace HB := hb_ hb be6g_; have NB1_2 := nl_ hg BK1; have NB2_1 := ng_ hg BK1; replace BK1 := k1_ BK1 hb; clear hb hg; have hnb1 := NB2_1.out; have hnc1 := NB1_2.out; have hcz1 := c3_ BK2; have hcz2 := c5_ BK1) | ((with_reducible refine gc_ (f := 85) rfl ?_); refine gl_ 42 Tryd.func85 #[.agg #[.int .i64 a0_0, .bool a0_1, .slice A0_2 l0_2.length c0_2, .slice A0_3 l0_3.length c0_3, .int .i64 a0_4], .int .i64 a1_1] ?_; (with_reducible refine (spec_l12Taken.calls k a0_0 a0_1 _ _ l0_2 _ _ l0_3 a0_4 a1_1 true _ ?side1 ?side2 ?side3 ?side4 A2.out).mono ?_); (case side1 => exact b6n8_); (case side2 => exact HC0_2.out); (case side3 => exact bkan_); (case side4 => exact HC0_3.out); rintro e w3 ⟨rfl, hb⟩; refine ⟨_, rfl, ?_⟩; replace BK1 := k1_ BK1 hb; replace BK2 := k1_ BK2 hb; replace HB := hb_ hb bfnq_; (try clear hb); have hcz3 := c3_ BK2))
  go_ret
  exact ⟨bnwh_, bfnq_⟩
 rw [if_neg c3] at H
 obtain ⟨c3b0, c3b1⟩ := ef_ c3
 by_cases c4 : a1_0 = 4
 case neg =>
  rw [if_neg c4] at H
  obtain ⟨c4b0, c4b1⟩ := ef_ c4
  by_cases c5 : a1_0 = 5
  case neg =>
   rw [if_neg c5] at H
   obtain ⟨c5b0, c5b1⟩ := ef_ c5
   obtain rfl := si_ H
   go_enter Tryd.func69, Tryd.ntmps69
   go_wp2_with (first | ((with_reducible refine gd_ (N := 2) rfl ?_); refine bx_ 2 #[.int .i64 a0_0, .bool a0_1, .slice A0_2 l0_2.length c0_2, .slice A0_3 l0_3.length c0_3, .int .i64 a0_4] 26 ?_; intro gb1 hg w1 BK1 hb; have GW1 := ge_ hg brt4_; have GE1 := GW1; replace HB := hb_ hb brt4_; clear hb hg) | ((with_reducible refine gd_ (N := 3) rfl ?_); refine bx_ 3 #[.int .i64 a1_0, .int .i64 a1_1, .int .i64 a1_2] 45 ?_; intro gb2 hg w2 BK2 hb; have GW2 := ge_ hg be6g_; have GE2 := GW2; replace HB := hb_ hb be6g_; have NB1_2 := nl_ hg BK1; have NB2_1 := ng_ hg BK1; replace BK1 := k1_ BK1 hb; clear hb hg; have hnb1 := NB2_1.out; have hnc1 := NB1_2.out; have hcz1 := c3_ BK2))
   go_ret
   exact ⟨bnwh_, bfnq_⟩
  rw [if_pos c5] at H
  obtain ⟨c5b0, c5b1⟩ := et_ c5
  clear c5
  by_cases c6 : a1_1 = 0
  case neg =>
   rw [if_neg c6] at H
   obtain ⟨c6b0, c6b1⟩ := ef_ c6
   obtain rfl := si_ H
   go_enter Tryd.func69, Tryd.ntmps69
   go_wp2_with (first | ((with_reducible refine gd_ (N := 2) rfl ?_); refine bx_ 2 #[.int .i64 a0_0, .bool a0_1, .slice A0_2 l0_2.length c0_2, .slice A0_3 l0_3.length c0_3, .int .i64 a0_4] 26 ?_; intro gb1 hg w1 BK1 hb; have GW1 := ge_ hg brt4_; have GE1 := GW1; replace HB := hb_ hb brt4_; clear hb hg) | ((with_reducible refine gd_ (N := 3) rfl ?_); refine bx_ 3 #[.int .i64 a1_0, .int .i64 a1_1, .int .i64 a1_2] 45 ?_; intro gb2 hg w2 BK2 hb; have GW2 := ge_ hg be6g_; have GE2 := GW2; replace HB := hb_ hb be6g_; have NB1_2 := nl_ hg BK1; have NB2_1 := ng_ hg BK1; replace BK1 := k1_ BK1 hb; clear hb hg; have hnb1 := NB2_1.out; have hnc1 := NB1_2.out; have hcz1 := c3_ BK2))
   go_ret
   exact ⟨bnwh_, bfnq_⟩
  rw [if_pos c6] at H
  obtain ⟨c6b0, c6b1⟩ := et_ c6
  clear c6
  obtain rfl := si_ H
  go_enter Tryd.func69, Tryd.ntmps69
  go_wp2_with (first | ((with_reducible refine gd_ (N := 2) rfl ?_); refine bx_ 2 #[.int .i64 a0_0, .bool a0_1, .slice A0_2 l0_2.length c0_2, .slice A0_3 l0_3.length c0_3, .int .i64 a0_4] 26 ?_; intro gb1 hg w1 BK1 hb; have GW1 := ge_ hg brt4_; have GE1 := GW1; replace HB := hb_ hb brt4_; clear hb hg) | ((with_reducible refine gd_ (N := 3) rfl ?_); refine bx_ 3 #[.int .i64 a1_0, .int .i64 a1_1, .int .i64 a1_2] 45 ?_; intro gb2 hg w2 BK2 hb; have GW2 := ge_ hg be6g_; have GE2 := GW2; replace HB := hb_ hb be6g_; have NB1_2 := nl_ hg BK1; have NB2_1 := ng_ hg BK1; replace BK1 := k1_ BK1 hb; clear hb hg; have hnb1 := NB2_1.out; have hnc1 := NB1_2.out; have hcz1 := c3_ BK2))
  go_ret
  exact ⟨bnwh_, bfnq_⟩
 rw [if_pos c4] at H
 obtain ⟨c4b0, c4b1⟩ := et_ c4
 clear c4
 obtain ⟨t3, A2, H⟩ := o1_ H
 by_cases c5 : t3 = true
 case neg =>
  obtain rfl := bf_.mpr c5
  rw [if_neg ft_] at H
  obtain rfl := si_ H
  go_enter Tryd.func69, Tryd.ntmps69
  go_wp2_with (first | ((with_reducible refine gd_ (N := 2) rfl ?_); refine bx_ 2 #[.int .i64 a0_0, .bool a0_1, .slice A0_2 l0_2.length c0_2, .slice A0_3 l0_3.length c0_3, .int .i64 a0_4] 26 ?_; intro gb1 hg w1 BK1 hb; have GW1 := ge_ hg brt4_; have GE1 := GW1; replace HB := hb_ hb brt4_; clear hb hg) | ((with_reducible refine gd_ (N := 3) rfl ?_); refine bx_ 3 #[.int .i64 a1_0, .int .i64 a1_1, .int .i64 a1_2] 45 ?_; intro gb2 hg w2 BK2 hb; have GW2 := ge_ hg be6g_; have GE2 := GW2; replace HB := hb_ hb be6g_; have NB1_2 := nl_ hg BK1; have NB2_1 := ng_ hg BK1; replace BK1 := k1_ BK1 hb; clear hb hg; have hnb1 := NB2_1.out; have hnc1 := NB1_2.out; have hcz1 := c3_ BK2; have hcz2 := c5_ BK1) | ((with_reducible refine gc_ (f := 85) rfl ?_); refine gl_ 53 Tryd.func85 #[.agg #[.int .i64 a0_0, .bool a0_1, .slice A0_2 l0_2.length c0_2, .slice A0_3 l0_3.length c0_3, .int .i64 a0_4], .int .i64 a1_1] ?_; (with_reducible refine (spec_l12Taken.calls k a0_0 a0_1 _ _ l0_2 _ _ l0_3 a0_4 a1_1 false _ ?side1 ?side2 ?side3 ?side4 A2.out).mono ?_); (case side1 => exact b6n8_); (case side2 => exact HC0_2.out); (case side3 => exact bkan_); (case side4 => exact HC0_3.out); rintro e w3 ⟨rfl, hb⟩; refine ⟨_, rfl, ?_⟩; replace BK1 := k1_ BK1 hb; replace BK2 := k1_ BK2 hb; replace HB := hb_ hb bfnq_; (try clear hb)))
  go_ret
  exact ⟨bnwh_, bfnq_⟩
 subst c5
 rw [if_pos rfl] at H
 obtain ⟨t4, A4, H⟩ := o1_ H
 replace H : (some t4) = some r := H
 obtain rfl := si_ H
 go_enter Tryd.func69, Tryd.ntmps69
 go_wp2_with (first | ((with_reducible refine gd_ (N := 2) rfl ?_); refine bx_ 2 #[.int .i64 a0_0, .bool a0_1, .slice A0_2 l0_2.length c0_2, .slice A0_3 l0_3.length c0_3, .int .i64 a0_4] 26 ?_; intro gb1 hg w1 BK1 hb; have GW1 := ge_ hg brt4_; have GE1 := GW1; replace HB := hb_ hb brt4_; clear hb hg) | ((with_reducible refine gd_ (N := 3) rfl ?_); refine bx_ 3 #[.int .i64 a1_0, .int .i64 a1_1, .int .i64 a1_2] 45 ?_; intro gb2 hg w2 BK2 hb; have GW2 := ge_ hg be6g_; have GE2 := GW2; replace HB := hb_ hb be6g_; have NB1_2 := nl_ hg BK1; have NB2_1 := ng_ hg BK1; replace BK1 := k1_ BK1 hb; clear hb hg; have hnb1 := NB2_1.out; have hnc1 := NB1_2.out; have hcz1 := c3_ BK2; have hcz2 := c5_ BK1) | ((with_reducible refine gc_ (f := 85) rfl ?_); refine gl_ 53 Tryd.func85 #[.agg #[.int .i64 a0_0, .bool a0_1, .slice A0_2 l0_2.length c0_2, .slice A0_3 l0_3.length c0_3, .int .i64 a0_4], .int .i64 a1_1] ?_; (with_reducible refine (spec_l12Taken.calls k a0_0 a0_1 _ _ l0_2 _ _ l0_3 a0_4 a1_1 true _ ?side1 ?side2 ?side3 ?side4 A2.out).mono ?_); (case side1 => exact b6n8_); (case side2 => exact HC0_2.out); (case side3 => exact bkan_); (case side4 => exact HC0_3.out); rintro e w3 ⟨rfl, hb⟩; refine ⟨_, rfl, ?_⟩; replace BK1 := k1_ BK1 hb; replace BK2 := k1_ BK2 hb; replace HB := hb_ hb bfnq_; (try clear hb); have hcz3 := c5_ BK1; have hcz4 := c3_ BK2) | (go_at_call 84; (with_reducible refine (spec_l12Free.calls k a0_0 a0_1 _ _ l0_2 _ _ l0_3 a0_4 a1_2 t4 _ ?side1 ?side2 ?side3 ?side4 A4.out).mono ?_); (case side1 => exact b6n8_); (case side2 => exact HC0_2.out); (case side3 => exact bkan_); (case side4 => exact HC0_3.out); rintro e w4 ⟨rfl, hb⟩; replace BK1 := k1_ BK1 hb; replace BK2 := k1_ BK2 hb; replace HB := hb_ hb bfnq_; (try clear hb)))
 go_ret
 exact ⟨bnwh_, bfnq_⟩

def spec_l2Made.f (a0_0 : Int) (a0_1 : Bool) (l0_2 : List Int) (l1 : List Int) : Option (Int × Bool × List Int) := some (a0_0, a0_1, l1)
theorem spec_l2Made.calls (a0_0 : Int) (a0_1 : Bool) (A0_2 : Option Addr) (c0_2 : Nat) (l0_2 : List Int) (P1_ : Nat → Prop) (u9000_ : Value) (l1 : List Int) (r1 : Int) (r2 : Bool) (r3 : List Int) (w0 w : World) (hB : Below w0.heap.size w0 w) (hr0_2 : ∀ W_, Kept w W_ (fun k_ => P1_ k_) → Kd.C (Kd.int .i64) W_ A0_2 l0_2.length l0_2) (hc0_2 : l0_2.length ≤ c0_2) (ho1 : Kd.R (Kd.int .i64) 3 w w0.heap.size P1_ u9000_ l1) (h : spec_l2Made.f a0_0 a0_1 l0_2 l1 = some (r1, r2, r3)) :
  Calls Tryd.prog 102 #[.agg #[.int .i64 a0_0, .bool a0_1, .slice A0_2 l0_2.length c0_2], u9000_] w fun e w' => ∃ v2_ : Value, e = .returned (.agg #[.int .i64 r1, .bool r2, v2_]) ∧ Kd.R (Kd.int .i64) 3 w' w0.heap.size (fun k_ => (P1_ k_ ∨ w.heap.size ≤ k_)) v2_ r3 ∧ Below w0.heap.size w0 w' ∧ Kept w w' (fun k_ => P1_ k_) := by
 have hu24 := Tryd.underlying24
 have HR0_2 := A0_ hr0_2
 have HC0_2 := A0_ hc0_2
 clear hr0_2 hc0_2
 have HO1 := A0_ (show Kd.R (Kd.int .i64) 3 w w0.heap.size (fun k_ => (P1_ k_ ∨ w.heap.size ≤ k_)) u9000_ l1 from Kd.R_mono ho1 (fun k_ hk => (.inl hk)))
 have HK := A0_ (Kept.refl w (fun k_ => P1_ k_))
 have HW0 := A0_ hB.size
 have HB := A0_ hB
 clear hB
 have H : (some (a0_0, a0_1, l1)) = some (r1, r2, r3) := h
 clear h
 simp only [sj_, pj_] at H
 obtain ⟨rfl, rfl, rfl⟩ := H
 go_enter Tryd.func102, Tryd.ntmps102
 go_wp2_with (first | ((with_reducible refine gd_ (N := 2) rfl ?_); refine bx_ 2 #[.int .i64 a0_0, .bool a0_1, .slice A0_2 l0_2.length c0_2] 24 ?_; intro gb1 hg w1 BK1 hb; replace HO1 := A0_ (Kd.R_below bsm5_ hb); have GW1 := A0_ ((by rw [hg]; exact (by first | exact HK.out.1 | exact (show Kept w _ (fun k_ => P1_ k_) from by repeat (with_reducible first | exact HK.out | apply Kept.alloc | apply Kept.drewN | apply Kept.drew)).1) : w.heap.size ≤ gb1)); replace HK := A0_ (Kept.below (S := (fun k_ => P1_ k_)) (by repeat (with_reducible first | exact HK.out | apply Kept.alloc | apply Kept.drewN | apply Kept.drew)) hb); have GE1 := A0_ ((bwen_ : w0.heap.size ≤ gb1)); replace HB := hb_ hb brt4_; clear hb hg) | ((with_reducible refine gd_ (N := 4) rfl ?_); refine bx_ 4 #[.int .i64 0, .bool false, .slice none 0 0] 24 ?_; intro gb2 hg w2 BK2 hb; replace HO1 := A0_ (Kd.R_below bsm5_ hb); have GW2 := A0_ ((by rw [hg]; exact (by first | exact HK.out.1 | exact (show Kept w _ (fun k_ => P1_ k_) from b6f4_).1) : w.heap.size ≤ gb2)); replace HK := A0_ (Kept.below (S := (fun k_ => P1_ k_)) b6f4_ hb); have GE2 := A0_ ((by rw [hg]; exact (bz_ be6g_) : w0.heap.size ≤ gb2)); replace HB := hb_ hb be6g_; have NB1_2 := nl_ hg BK1; have NB2_1 := ng_ hg BK1; replace BK1 := k1_ BK1 hb; clear hb hg; have hnb1 := NB1_2.out; have hnc1 := NB2_1.out; have hcz1 := z3_ BK1; obtain ⟨Ao1, co1, eo1⟩ := Kd.R_slice HO1.out; subst eo1; have hcz2_0 : w2.cell? ⟨gb2, 0, none⟩ = some (.int .i64 0) := (kc_ BK2.out 0).trans rfl; have hcz2_1 : w2.cell? ⟨gb2, 1, none⟩ = some (.bool false) := (kc_ BK2.out 1).trans rfl; have hcz2_2 : w2.cell? ⟨gb2, 2, none⟩ = some (.slice none 0 0) := (kc_ BK2.out 2).trans rfl; have hfz2_0 := kf_ BK2.out 0; have hfz2_1 := kf_ BK2.out 1; have hfz2_2 := kf_ BK2.out 2))
 refine bodyPost_ret (results_cell_row rfl _ _ gb2 24 #[.int .i64 a0_0, .bool a0_1, .slice Ao1 l1.length co1] (0, 0) _ rfl (u1_ BK2) Tryd.underlying24 rfl bfqv_) rfl ?_
 exact ⟨_, bnwh_, by (with_reducible repeat (first | apply ra_ | apply rn_ | apply rd_)); exact Kd.R_mono (rf_ (rf_ (rf_ (Kd.R_types HO1.out BK2.out bi3y_) k2_0 _) k2_0 _) k2_0 _) (fun _ hk => hk.1), bfnq_, by repeat (with_reducible first | exact HK.out | apply Kept.alloc | apply Kept.drewN | apply Kept.drew | refine Kept.setCell ?_ (.inr GW1.out) _ | refine Kept.setCell ?_ (.inr GW2.out) _)⟩

def spec_l1Put.l0 : Nat → List Int → Int → Int → Option (List Int)
 | 0, _, _, _ => none
 | k + 1, x0, x1, x5 => if x5 < (x0.length : Int) then (if 0 ≤ x5 then (if (rd x0 x5) < x1 then (spec_l1Put.l0 k x0 x1 (wrap64 (x5 + 1))) else (if (rd x0 x5) = x1 then none else ((some (([] : List Int) : List Int)).bind fun y163 => (if x5 ≤ (x0.length : Int) then (if y163.length + (x0.take (x5 : Int).toNat).length < 17592186044416 then ((some (y163 ++ (x0.take (x5 : Int).toNat) : List Int)).bind fun y167 => ((some (([x1] : List Int) : List Int)).bind fun y170 => (if y167.length + y170.length < 17592186044416 then ((some (y167 ++ y170 : List Int)).bind fun y173 => (if y173.length + (x0.drop (x5 : Int).toNat).length < 17592186044416 then (some (y173 ++ (x0.drop (x5 : Int).toNat))) else (none))) else (none)))) else (none)) else (none))))) else (none)) else ((some (([] : List Int) : List Int)).bind fun y180 => (if 0 ≤ x5 then (if x5 ≤ (x0.length : Int) then (if y180.length + (x0.take (x5 : Int).toNat).length < 17592186044416 then ((some (y180 ++ (x0.take (x5 : Int).toNat) : List Int)).bind fun y184 => ((some (([x1] : List Int) : List Int)).bind fun y187 => (if y184.length + y187.length < 17592186044416 then ((some (y184 ++ y187 : List Int)).bind fun y190 => (if y190.length + (x0.drop (x5 : Int).toNat).length < 17592186044416 then (some (y190 ++ (x0.drop (x5 : Int).toNat))) else (none))) else (none)))) else (none)) else (none)) else (none)))
def spec_l1Put.f (k : Nat) (l0 : List Int) (a1 : Int) : Option (List Int) := spec_l1Put.l0 k l0 a1 0
theorem spec_l1Put.mono_l : ∀ k, (∀ y0 y1 y2, LeO (spec_l1Put.l0 k y0 y1 y2) (spec_l1Put.l0 (k + 1) y0 y1 y2))
 | 0 => fun _ _ _ r h => by simp [spec_l1Put.l0] at h
 | k + 1 => by
  have ih0 := spec_l1Put.mono_l k
  ·intro y0 y1 y2
   unfold spec_l1Put.l0
   repeat' with_reducible first | exact ih0 .. | exact LeO.refl .. | exact LeO.none .. | refine LeO.ite ?_ ?_ | refine LeO.bind ?_ (fun _ => ?_)
theorem spec_l1Put.mono : ∀ a0 a1 k, LeO (spec_l1Put.f k a0 a1) (spec_l1Put.f (k + 1) a0 a1) := by
 intro a0 a1 k
 have ih0 := spec_l1Put.mono_l k
 unfold spec_l1Put.f
 repeat' with_reducible first | exact ih0 .. | exact LeO.refl .. | exact LeO.none .. | refine LeO.ite ?_ ?_ | refine LeO.bind ?_ (fun _ => ?_)
def spec_l1Put.T6 : Bool × List (List Nat × List Nat) := (true, [([], []), ([], []), ([], []), ([1, 2], [1, 2]), ([0, 3], [0, 3]), ([], []), ([5], [5]), ([4, 6, 4], [4, 6]), ([], []), ([], []), ([8, 9], [8, 9]), ([7, 10, 7], [7, 10]), ([11, 11, 0, 1, 2, 3, 4, 5, 6, 7, 8, 9, 10, 11], [11])])
def spec_l1Put.B6 : List Nat := [0, 0, 0, 6, 15, 0, 32, 127, 0, 0, 768, 2047, 4095]
theorem spec_l1Put.tab6 : rtab .any (opsOf Tryd.f103 6) = spec_l1Put.T6 := by kernel_rfl
theorem spec_l1Put.bits6 : waitsOk spec_l1Put.T6.2 spec_l1Put.B6 = true := by kernel_rfl
theorem spec_l1Put.calls (k : Nat) (A0 : Option Addr) (c0 : Nat) (l0 : List Int) (a1 : Int) (r : List Int) (w : World) (hr0 : Kd.C (Kd.int .i64) w A0 l0.length l0) (hc0 : l0.length ≤ c0) (h : spec_l1Put.f k l0 a1 = some r) :
  Calls Tryd.prog 103 #[.slice A0 l0.length c0, .int .i64 a1] w fun e w' => ∃ v0_ : Value, e = .returned (v0_) ∧ Kd.R (Kd.int .i64) 3 w' w.heap.size (fun _ => True) v0_ r ∧ Below w.heap.size w w' := by
 have HR0 := A0_ hr0
 have HC0 := A0_ hc0
 clear hr0 hc0
 have HB := A0_ (Below.refl w.heap.size w)
 have H : (spec_l1Put.l0 k l0 a1 0) = some r := h
 clear h
 have H' := A0_ H
 clear H
 go_enter Tryd.func103, Tryd.ntmps103
 go_wp2
 go_loopg [5] k (fun kq v1 w' => ∃ (x5_1 : Int), v1 = .int .i64 x5_1 ∧ Aside0 (spec_l1Put.l0 kq l0 a1 x5_1 = some r) ∧ Aside0 (kq ≤ k) ∧ Aside0 (Below w.heap.size w w'))
 case atStart => exact ⟨(0), b2ew_, H', ⟨Nat.le_refl _⟩, ⟨brt4_⟩⟩
 clear H'
 obtain ⟨x5_1, rfl, HA, HK1, HB⟩ := hrel
 cases gk with | zero => exact absurd HA.out (by simp [spec_l1Put.l0]) | succ k1 => ?_
 have H := HA.out
 clear HA
 simp only [spec_l1Put.l0] at H
 by_cases c1 : x5_1 < (l0.length : Int)
 case neg =>
  rw [if_neg c1] at H
  have c1b0 : decide (x5_1 < (l0.length : Int)) = false := decide_eq_false c1
  clear c1
  obtain ⟨y1, hy1⟩ : ∃ y_ : List Int, y_ = (([] : List Int)) := ⟨_, rfl⟩
  replace H : (if 0 ≤ x5_1 then (if x5_1 ≤ (l0.length : Int) then (if y1.length + (l0.take (x5_1 : Int).toNat).length < 17592186044416 then ((some (y1 ++ (l0.take (x5_1 : Int).toNat) : List Int)).bind fun y2 => ((some (([a1] : List Int) : List Int)).bind fun y3 => (if y2.length + y3.length < 17592186044416 then ((some (y2 ++ y3 : List Int)).bind fun y4 => (if y4.length + (l0.drop (x5_1 : Int).toNat).length < 17592186044416 then (some (y4 ++ (l0.drop (x5_1 : Int).toNat))) else (none))) else (none)))) else (none)) else (none)) else (none)) = some r := bgiq_
  have Ny1 := A0_ hy1
  clear hy1
  by_cases c2 : 0 ≤ x5_1
  case neg =>
   rw [if_neg c2] at H
   exact absurd H bxka_
  rw [if_pos c2] at H
  have c2b0 := eq_true c2
  have c2b1 : decide (0 ≤ x5_1) = true := dt_ c2
  clear c2
  by_cases c3 : x5_1 ≤ (l0.length : Int)
  case neg =>
   rw [if_neg c3] at H
   exact absurd H bxka_
  rw [if_pos c3] at H
  have c3b0 := eq_true c3
  have c3b1 : decide (x5_1 ≤ (l0.length : Int)) = true := dt_ c3
  clear c3
  by_cases c4 : y1.length + (l0.take (x5_1 : Int).toNat).length < 17592186044416
  case neg =>
   rw [if_neg c4] at H
   exact absurd H bxka_
  rw [if_pos c4] at H
  have LMc1 := A0_ c4
  clear c4
  obtain ⟨y2, hy2⟩ : ∃ y_ : List Int, y_ = (y1 ++ (l0.take (x5_1 : Int).toNat)) := ⟨_, rfl⟩
  replace H : ((some (([a1] : List Int) : List Int)).bind fun y3 => (if y2.length + y3.length < 17592186044416 then ((some (y2 ++ y3 : List Int)).bind fun y4 => (if y4.length + (l0.drop (x5_1 : Int).toNat).length < 17592186044416 then (some (y4 ++ (l0.drop (x5_1 : Int).toNat))) else (none))) else (none))) = some r := bscs_
  have Ny2 := A0_ hy2
  clear hy2
  obtain ⟨y3, hy3⟩ : ∃ y_ : List Int, y_ = (([a1] : List Int)) := ⟨_, rfl⟩
  replace H : (if y2.length + y3.length < 17592186044416 then ((some (y2 ++ y3 : List Int)).bind fun y4 => (if y4.length + (l0.drop (x5_1 : Int).toNat).length < 17592186044416 then (some (y4 ++ (l0.drop (x5_1 : Int).toNat))) else (none))) else (none)) = some r := b2x6_
  have Ny3 := A0_ hy3
  clear hy3
  by_cases c5 : y2.length + y3.length < 17592186044416
  case neg =>
   rw [if_neg c5] at H
   exact absurd H bxka_
  rw [if_pos c5] at H
  have LMc2 := A0_ c5
  clear c5
  obtain ⟨y4, hy4⟩ : ∃ y_ : List Int, y_ = (y2 ++ y3) := ⟨_, rfl⟩
  replace H : (if y4.length + (l0.drop (x5_1 : Int).toNat).length < 17592186044416 then (some (y4 ++ (l0.drop (x5_1 : Int).toNat))) else (none)) = some r := bytg_
  have Ny4 := A0_ hy4
  clear hy4
  have c6b0 := eq_true (od_ bpil_ : 0 ≤ x5_1)
  have c7b0 := eq_true (od_ bpil_ : x5_1 ≤ (l0.length : Int))
  by_cases c8 : y4.length + (l0.drop (x5_1 : Int).toNat).length < 17592186044416
  case neg =>
   rw [if_neg c8] at H
   exact absurd H bxka_
  rw [if_pos c8] at H
  have LMc3 := A0_ c8
  clear c8
  obtain ⟨y5, hy5⟩ : ∃ y_ : List Int, y_ = (y4 ++ (l0.drop (x5_1 : Int).toNat)) := ⟨_, rfl⟩
  replace H : (some y5) = some r := byjl_
  have Ny5 := A0_ hy5
  clear hy5
  obtain rfl := si_ H
  try go_wp2
  replace HB := A0_ (bd_ HB.out)
  obtain ⟨i034, hi034, _, hsz34, _⟩ := info_parts info3
  obtain ⟨hcut34, hA34, hC34⟩ := print_take_of (P := Tryd.prog) (Value.int .i64) 0 22 3 .i64 Tryd.underlying22 hi034 hsz34 A0 c0 l0 x5_1 (od_ bpil_) (od_ bpil_) HC0.out
  have HR183 := A0_ (Kd.C_of_reads (h1 := fun _ => rfl) (hA34 _ (Kd.reads_of_C HR0.out)))
  have HC183 := A0_ hC34
  clear hA34 hC34 hi034 hsz34
  obtain ⟨i035, hi035, _, hsz35, _⟩ := info_parts info3
  obtain ⟨A1, hcut35, hA35, hC35⟩ := print_drop_of (P := Tryd.prog) (Value.int .i64) 0 22 3 .i64 Tryd.underlying22 hi035 hsz35 A0 c0 l0 x5_1 (od_ bpil_) (od_ bpil_) HC0.out
  have HR193 := A0_ (Kd.C_of_reads (h1 := fun _ => rfl) (hA35 _ (Kd.reads_of_C HR0.out)))
  have HC193 := A0_ hC35
  clear hA35 hC35 hi035 hsz35
  refine start_ (n := 13) (S := fun w' => True) (ds := []) #[false, false, false, false, false, false, false, false, false, false, false, false, false] bfqv_ rfl rfl trivial (fun hHeld => ?_); refine with_tabW spec_l1Put.tab6 spec_l1Put.bits6 (fun HT_ HW_ => ?_)
  generalize wr.drew = w1 at HB HR183 HR193 hHeld ⊢
  refine pu_ 1 34 ?_
  refine pu_ 2 35 ?_
  refine pu_ 3 36 ?_
  refine pu_ 5 38 ?_
  refine pu_ 8 41 ?_
  refine pu_ 9 42 ?_
  refine pu_ 10 43 ?_
  refine join_ (σ := Value × Value × Value) 3 #[true, true, true, true, true, true, true, false, true, true, true, false, false] (fun s_ => [(33, s_.1), (37, s_.2.1), (39, s_.2.2)]) (fun s_ w' => (Kd.R (Kd.int .i64) 3 w' w.heap.size (fun k_ => some k_ ≠ (s_.2.2 : Value).ownBlock) s_.2.1 y2) ∧ (Kd.R (Kd.int .i64) 3 w' w.heap.size (fun k_ => some k_ ≠ (s_.2.1 : Value).ownBlock) s_.2.2 y3) ∧ (Below w.heap.size w w')) ?_ ?_
  rotate_left
  ·intro hCont
   refine two_ (i := 0) (j := 6) (Ni := some 33) (Nj := some 39) #[true, true, true, true, false, true, false, false, true, true, true, false, false] #[false, true, true, true, false, true, true, false, true, true, true, false, false] rfl rfl rfl rfl (two_of HT_.out bfqv_) bi3y_ bi3y_ (fun K hK => ?_) (fun K hK => ?_)
   ·refine Kd.R_lit_step (Kd.int .i64) _ 3 ?hg (N := 33) ?hd (xs := ([] : List Int)) (inner := []) (ok := fun _ => True) (okp := fun _ => True) ?hr ?hp (fun _ hk => hk) trivial (Below.refl _ _) (Nat.le_refl _) bxka_ ?_; (case hd => rfl); (case hg => rfl); (case hr => go_simp; first | done | rfl); (case hp => exact (Reps.none _ _))
    intro v2 w2 ho37 hb hg_ hnew_
    clear hg_ hnew_
    (first | rw [← Ny1.out] at ho37 | (simp only [Int.reduceToNat] at ho37; rw [← Ny1.out] at ho37))
    have HO1 := A0_ (Kd.R_lower ho37 (bz_ brt4_))
    replace HB := hb_ hb brt4_
    clear hb ho37
    refine hK.out _ _ trivial (fun hHeld => ?_)
    clear hK K
    refine nm_ 33 ?_
    refine two_ (i := 4) (j := 6) (Ni := some 37) (Nj := some 39) #[true, true, true, true, true, true, false, false, true, true, true, false, false] #[true, true, true, true, false, true, true, false, true, true, true, false, false] rfl rfl rfl rfl (two_of HT_.out bfqv_) bi3y_ bi3y_ (fun K hK => ?_) (fun K hK => ?_)
    ·refine Kd.R_append_rows_step (Kd.int .i64) (w0 := w) w.heap.size (by rfl) (.tmp 33) (.tmp 36) 22 3 (.int .i64 0) 8 rfl Tryd.underlying22 info3 rfl bi3y_ bh19_ v2 y1 (l0.take (x5_1 : Int).toNat) _ _ _ (fun _ => True) (fun _ => False) rfl rfl ?aO ?aR (fun _ _ h => h) (fun _ h => h.elim) ?aF ?aB ?aS ?aL ?_
     (case aR => first | (have e_ : (l0.take (x5_1 : Int).toNat).length = x5_1.toNat := b668_; have hx_ := cb_ HR183.out HB.out; rw [e_] at hx_; repeat (first | exact hx_ | (with_reducible refine ca_ ?_ _) | (with_reducible refine cn_ ?_ _) | (with_reducible refine cd_ ?_))) | (repeat (first | exact (cb_ HR183.out HB.out) | (with_reducible refine ca_ ?_ _) | (with_reducible refine cn_ ?_ _) | (with_reducible refine cd_ ?_))))
     (case aB => exact brt4_)
     (case aF => exact (fun _ _ => trivial))
     (case aO => exact bsm5_)
     (case aS => exact (bz_ brt4_))
     (case aL => have := LMc1.out; have hlx_ := (show (l0.take (x5_1 : Int).toNat).length = x5_1.toNat from b668_); omega)
     intro v3 w3 ho hb hg hat
     rw [← Ny2.out] at ho
     have n0_ := A0_ (hb)
     have n1_ := A0_ (ho)
     clear HB
     clear HO1
     have HB := n0_
     have HO2 := n1_
     clear n0_ n1_
     clear ho hb hg hat
     refine hK.out _ _ trivial (fun hHeld => ?_)
     clear hK K
     refine nm_ 37 ?_
     refine on_ 6 (some 39) (fun K hK => ?_)
     refine Kd.R_lit_step (Kd.int .i64) _ 3 ?hg (N := 39) ?hd (xs := ([a1] : List Int)) (inner := [.int .i64 a1]) (ok := fun _ => True) (okp := fun _ => True) ?hr ?hp (fun _ hk => hk) trivial (Below.refl _ _) (Nat.le_refl _) bxka_ ?_; (case hd => rfl); (case hg => rfl); (case hr => go_simp; first | done | rfl); (case hp => exact (Reps.one (show Kd.M (Kd.int .i64) _ _ _ a1 [.int .i64 a1] from rfl) (Reps.none _ _)))
     intro v4 w4 ho40 hb hg_ hnew_
     clear hg_ hnew_
     (first | rw [← Ny3.out] at ho40 | (simp only [Int.reduceToNat] at ho40; rw [← Ny3.out] at ho40))
     have HO3 := A0_ (Kd.R_lower (Kd.R_new' ho40 (Kd.R_lt b9so_)) (bz_ brt4_))
     replace HO2 := A0_ (Kd.R_elder' b9so_ (Kd.R_base ho40) hb)
     replace HB := hb_ hb brt4_
     clear hb ho40
     refine hK.out _ _ trivial (fun hHeld => ?_)
     clear hK K
     refine nm_ 39 ?_
     exact norm_ bh00_ (hCont (v2, v3, v4) _ ⟨b61e_, (by (with_reducible repeat (first | apply ra_ | apply rn_ | apply rd_)); exact Kd.R_mono HO3.out (fun _ hk => hk.2)), brt4_⟩)
    refine Kd.R_lit_step (Kd.int .i64) _ 3 ?hg (N := 39) ?hd (xs := ([a1] : List Int)) (inner := [.int .i64 a1]) (ok := fun _ => True) (okp := fun _ => True) ?hr ?hp (fun _ hk => hk) trivial (Below.refl _ _) (Nat.le_refl _) bxka_ ?_; (case hd => rfl); (case hg => rfl); (case hr => go_simp; first | done | rfl); (case hp => exact (Reps.one (show Kd.M (Kd.int .i64) _ _ _ a1 [.int .i64 a1] from rfl) (Reps.none _ _)))
    intro v3 w3 ho39 hb hg_ hnew_
    clear hg_ hnew_
    (first | rw [← Ny3.out] at ho39 | (simp only [Int.reduceToNat] at ho39; rw [← Ny3.out] at ho39))
    have HO2 := A0_ (Kd.R_lower (Kd.R_new' ho39 (Kd.R_lt bsm5_)) (bz_ brt4_))
    replace HO1 := A0_ (Kd.R_elder' bsm5_ (Kd.R_base ho39) hb)
    replace HB := hb_ hb brt4_
    clear hb ho39
    refine hK.out _ _ trivial (fun hHeld => ?_)
    clear hK K
    refine nm_ 39 ?_
    refine on_ 4 (some 37) (fun K hK => ?_)
    refine Kd.R_append_rows_step (Kd.int .i64) (w0 := w) w.heap.size (by rfl) (.tmp 33) (.tmp 36) 22 3 (.int .i64 0) 8 rfl Tryd.underlying22 info3 rfl bi3y_ bh19_ v2 y1 (l0.take (x5_1 : Int).toNat) _ _ _ (fun k_ => no_ v3 k_) (fun _ => False) rfl rfl ?aO ?aR (fun _ _ h => h) (fun _ h => h.elim) ?aF ?aB ?aS ?aL ?_
    (case aR => first | (have e_ : (l0.take (x5_1 : Int).toNat).length = x5_1.toNat := b668_; have hx_ := cb_ HR183.out HB.out; rw [e_] at hx_; repeat (first | exact hx_ | (with_reducible refine ca_ ?_ _) | (with_reducible refine cn_ ?_ _) | (with_reducible refine cd_ ?_))) | (repeat (first | exact (cb_ HR183.out HB.out) | (with_reducible refine ca_ ?_ _) | (with_reducible refine cn_ ?_ _) | (with_reducible refine cd_ ?_))))
    (case aB => exact brt4_)
    (case aF => exact (fun k_ hk => Kd.fresh' (Kd.R_lt b9so_) k_ hk))
    (case aO => exact b48f_)
    (case aS => exact (bz_ brt4_))
    (case aL => have := LMc1.out; have hlx_ := (show (l0.take (x5_1 : Int).toNat).length = x5_1.toNat from b668_); omega)
    intro v4 w4 ho hb hg hat
    rw [← Ny2.out] at ho
    have n0_ := A0_ (Kd.R_after (ok := (fun _ => True)) b9so_ hg hat)
    have n1_ := A0_ (hb)
    have n2_ := A0_ (ho)
    clear HO2
    clear HB
    clear HO1
    have HO2 := n0_
    have HB := n1_
    have HO3 := n2_
    clear n0_ n1_ n2_
    clear ho hb hg hat
    refine hK.out _ _ trivial (fun hHeld => ?_)
    clear hK K
    refine nm_ 37 ?_
    exact norm_ bh00_ (hCont (v2, v4, v3) _ ⟨buiy_, b61e_, brt4_⟩)
   refine Kd.R_lit_step (Kd.int .i64) _ 3 ?hg (N := 39) ?hd (xs := ([a1] : List Int)) (inner := [.int .i64 a1]) (ok := fun _ => True) (okp := fun _ => True) ?hr ?hp (fun _ hk => hk) trivial (Below.refl _ _) (Nat.le_refl _) bxka_ ?_; (case hd => rfl); (case hg => rfl); (case hr => go_simp; first | done | rfl); (case hp => exact (Reps.one (show Kd.M (Kd.int .i64) _ _ _ a1 [.int .i64 a1] from rfl) (Reps.none _ _)))
   intro v2 w2 ho37 hb hg_ hnew_
   clear hg_ hnew_
   (first | rw [← Ny3.out] at ho37 | (simp only [Int.reduceToNat] at ho37; rw [← Ny3.out] at ho37))
   have HO1 := A0_ (Kd.R_lower ho37 (bz_ brt4_))
   replace HB := hb_ hb brt4_
   clear hb ho37
   refine hK.out _ _ trivial (fun hHeld => ?_)
   clear hK K
   refine nm_ 39 ?_
   refine on_ 0 (some 33) (fun K hK => ?_)
   refine Kd.R_lit_step (Kd.int .i64) _ 3 ?hg (N := 33) ?hd (xs := ([] : List Int)) (inner := []) (ok := fun _ => True) (okp := fun _ => True) ?hr ?hp (fun _ hk => hk) trivial (Below.refl _ _) (Nat.le_refl _) bxka_ ?_; (case hd => rfl); (case hg => rfl); (case hr => go_simp; first | done | rfl); (case hp => exact (Reps.none _ _))
   intro v3 w3 ho39 hb hg_ hnew_
   clear hg_ hnew_
   (first | rw [← Ny1.out] at ho39 | (simp only [Int.reduceToNat] at ho39; rw [← Ny1.out] at ho39))
   have HO2 := A0_ (Kd.R_lower (Kd.R_new' ho39 (Kd.R_lt bsm5_)) (bz_ brt4_))
   replace HO1 := A0_ (Kd.R_elder' bsm5_ (Kd.R_base ho39) hb)
   replace HB := hb_ hb brt4_
   clear hb ho39
   refine hK.out _ _ trivial (fun hHeld => ?_)
   clear hK K
   refine nm_ 33 ?_
   refine on_ 4 (some 37) (fun K hK => ?_)
   refine Kd.R_append_rows_step (Kd.int .i64) (w0 := w) w.heap.size (by rfl) (.tmp 33) (.tmp 36) 22 3 (.int .i64 0) 8 rfl Tryd.underlying22 info3 rfl bi3y_ bh19_ v3 y1 (l0.take (x5_1 : Int).toNat) _ _ _ (fun k_ => no_ v2 k_) (fun _ => False) rfl rfl ?aO ?aR (fun _ _ h => h) (fun _ h => h.elim) ?aF ?aB ?aS ?aL ?_
   (case aR => first | (have e_ : (l0.take (x5_1 : Int).toNat).length = x5_1.toNat := b668_; have hx_ := cb_ HR183.out HB.out; rw [e_] at hx_; repeat (first | exact hx_ | (with_reducible refine ca_ ?_ _) | (with_reducible refine cn_ ?_ _) | (with_reducible refine cd_ ?_))) | (repeat (first | exact (cb_ HR183.out HB.out) | (with_reducible refine ca_ ?_ _) | (with_reducible refine cn_ ?_ _) | (with_reducible refine cd_ ?_))))
   (case aB => exact brt4_)
   (case aF => exact (fun k_ hk => Kd.fresh' (Kd.R_lt bsm5_) k_ hk))
   (case aO => exact b61e_)
   (case aS => exact (bz_ brt4_))
   (case aL => have := LMc1.out; have hlx_ := (show (l0.take (x5_1 : Int).toNat).length = x5_1.toNat from b668_); omega)
   intro v4 w4 ho hb hg hat
   rw [← Ny2.out] at ho
   have n0_ := A0_ (Kd.R_after (ok := (fun _ => True)) bsm5_ hg hat)
   have n1_ := A0_ (hb)
   have n2_ := A0_ (ho)
   clear HO1
   clear HB
   clear HO2
   have HO1 := n0_
   have HB := n1_
   have HO3 := n2_
   clear n0_ n1_ n2_
   clear ho hb hg hat
   refine hK.out _ _ trivial (fun hHeld => ?_)
   clear hK K
   refine nm_ 37 ?_
   exact norm_ bh00_ (hCont (v3, v4, v2) _ ⟨buiy_, b48f_, brt4_⟩)
  rintro ⟨v2, v3, v4⟩ w2 ⟨h0_, h1_, h2_⟩
  try dsimp only at h0_ h1_ h2_
  have HO1 := A0_ h0_
  have HO2 := A0_ h1_
  replace HB := A0_ h2_
  clear h0_ h1_ h2_
  have hHeld := trivial
  obtain ⟨Ao1, co1, eo1⟩ := Kd.R_slice HO2.out
  (first | subst eo1 | (injection eo1 with f1_ f2_ f3_; have f4_ := f1_.symm; have f5_ := f3_.symm; clear f1_ f2_ f3_; subst f4_; subst f5_))
  refine nq_ ?_
  refine on_ 7 (some 40) (fun K hK => ?_)
  refine Kd.R_append_rows_step (Kd.int .i64) (w0 := w) w.heap.size (by rfl) (.tmp 37) (.tmp 39) 22 3 (.int .i64 0) 8 rfl Tryd.underlying22 info3 rfl bi3y_ bh19_ v3 y2 y3 _ _ _ (fun k_ => no_ (.slice Ao1 y3.length co1) k_) (fun _ => False) rfl rfl ?aO ?aR (fun _ _ h => h) (fun _ h => h.elim) ?aF ?aB ?aS ?aL ?_
  (case aR => exact ba04_)
  (case aB => exact brt4_)
  (case aF => exact (fun k_ hk => Kd.fresh' (Kd.R_lt b9so_) k_ hk))
  (case aO => exact bsm5_)
  (case aS => exact (bz_ brt4_))
  (case aL => have := LMc2.out; omega)
  intro v5 w3 ho hb hg hat
  rw [← Ny4.out] at ho
  have n0_ := A0_ (Kd.R_after (ok := (fun _ => True)) b38p_ hg hat)
  have n1_ := A0_ (hb)
  have n2_ := A0_ (ho)
  clear HO2
  clear HB
  clear HO1
  have HO2 := n0_
  have HB := n1_
  have HO3 := n2_
  clear n0_ n1_ n2_
  clear ho hb hg hat
  refine hK.out _ _ trivial (fun hHeld => ?_)
  clear hK K
  refine nm_ 40 ?_
  refine on_ 11 (some 44) (fun K hK => ?_)
  refine Kd.R_append_rows_step (Kd.int .i64) (w0 := w) w.heap.size (by rfl) (.tmp 40) (.tmp 43) 22 3 (.int .i64 0) 8 rfl Tryd.underlying22 info3 rfl bi3y_ bh19_ v5 y4 (l0.drop (x5_1 : Int).toNat) _ _ _ (fun k_ => no_ (.slice Ao1 y3.length co1) k_) (fun _ => False) rfl rfl ?aO ?aR (fun _ _ h => h) (fun _ h => h.elim) ?aF ?aB ?aS ?aL ?_
  (case aR => first | (rw [← show (l0.drop (x5_1 : Int).toNat).length = (l0.length - x5_1.toNat) from ld_]; repeat (first | exact (cb_ HR193.out HB.out) | (with_reducible refine ca_ ?_ _) | (with_reducible refine cn_ ?_ _) | (with_reducible refine cd_ ?_))) | (repeat (first | exact (cb_ HR193.out HB.out) | (with_reducible refine ca_ ?_ _) | (with_reducible refine cn_ ?_ _) | (with_reducible refine cd_ ?_))))
  (case aB => exact brt4_)
  (case aF => exact (fun k_ hk => Kd.fresh' (Kd.R_lt b9so_) k_ hk))
  (case aO => exact buiy_)
  (case aS => exact (bz_ brt4_))
  (case aL => have := LMc3.out; have hlx_ := (show (l0.drop (x5_1 : Int).toNat).length = (l0.length - x5_1.toNat) from ld_); omega)
  intro v6 w4 ho hb hg hat
  rw [← Ny5.out] at ho
  have n0_ := A0_ (Kd.R_after (ok := (fun _ => True)) b9so_ hg hat)
  have n1_ := A0_ (hb)
  have n2_ := A0_ (ho)
  clear HO2
  clear HB
  clear HO3
  have HO2 := n0_
  have HB := n1_
  have HO4 := n2_
  clear n0_ n1_ n2_
  clear ho hb hg hat
  refine hK.out _ _ trivial (fun hHeld => ?_)
  clear hK K
  refine nm_ 44 ?_
  refine pu_ 12 4 ?_
  refine dn_ ?_
  try go_wp2
  go_ret
  exact ⟨_, bnwh_, ba8y_, brt4_⟩
 rw [if_pos c1] at H
 have c1b0 : decide (x5_1 < (l0.length : Int)) = true := dt_ c1
 clear c1
 by_cases c2 : 0 ≤ x5_1
 case neg =>
  rw [if_neg c2] at H
  exact absurd H bxka_
 rw [if_pos c2] at H
 have c2b0 : decide (0 ≤ x5_1) = true := dt_ c2
 clear c2
 by_cases c3 : (rd l0 x5_1) < a1
 ·rw [if_pos c3] at H
  have c3b0 : decide ((rd l0 x5_1) < a1) = true := dt_ c3
  clear c3
  have H' := A0_ H
  clear H
  have p1 : 0 ≤ (x5_1 : Int) := od_ bpil_
  have q1 : x5_1 < (l0.length : Int) := od_ bpil_
  obtain ⟨ad1, e1, hx1_0⟩ := Kd.at_int HR0.out x5_1 p1 q1
  cases e1
  replace hx1_0 := (HB.out.cell (World.block_lt_of_cell? w _ hx1_0)).trans hx1_0
  replace p1 := eq_true p1
  replace q1 := eq_true q1
  go_wp2
  go_roundg k1
  case measure => have := HK1.out; omega
  exact ⟨(wrap64 (x5_1 + 1)), b2ew_, H', ⟨bxjq_⟩, ⟨brt4_⟩⟩
 rw [if_neg c3] at H
 have c3b0 : decide ((rd l0 x5_1) < a1) = false := decide_eq_false c3
 clear c3
 by_cases c4 : (rd l0 x5_1) = a1
 ·rw [if_pos c4] at H
  exact absurd H bxka_
 rw [if_neg c4] at H
 obtain ⟨c4b0, c4b1⟩ := ef_ c4
 obtain ⟨y1, hy1⟩ : ∃ y_ : List Int, y_ = (([] : List Int)) := ⟨_, rfl⟩
 replace H : (if x5_1 ≤ (l0.length : Int) then (if y1.length + (l0.take (x5_1 : Int).toNat).length < 17592186044416 then ((some (y1 ++ (l0.take (x5_1 : Int).toNat) : List Int)).bind fun y2 => ((some (([a1] : List Int) : List Int)).bind fun y3 => (if y2.length + y3.length < 17592186044416 then ((some (y2 ++ y3 : List Int)).bind fun y4 => (if y4.length + (l0.drop (x5_1 : Int).toNat).length < 17592186044416 then (some (y4 ++ (l0.drop (x5_1 : Int).toNat))) else (none))) else (none)))) else (none)) else (none)) = some r := bgiq_
 have Ny1 := A0_ hy1
 clear hy1
 have c5b0 := eq_true (od_ bpil_ : 0 ≤ x5_1)
 by_cases c6 : x5_1 ≤ (l0.length : Int)
 case neg =>
  rw [if_neg c6] at H
  exact absurd H bxka_
 rw [if_pos c6] at H
 have c6b0 := eq_true c6
 have c6b1 : decide (x5_1 ≤ (l0.length : Int)) = true := dt_ c6
 clear c6
 by_cases c7 : y1.length + (l0.take (x5_1 : Int).toNat).length < 17592186044416
 case neg =>
  rw [if_neg c7] at H
  exact absurd H bxka_
 rw [if_pos c7] at H
 have LMc1 := A0_ c7
 clear c7
 obtain ⟨y2, hy2⟩ : ∃ y_ : List Int, y_ = (y1 ++ (l0.take (x5_1 : Int).toNat)) := ⟨_, rfl⟩
 replace H : ((some (([a1] : List Int) : List Int)).bind fun y3 => (if y2.length + y3.length < 17592186044416 then ((some (y2 ++ y3 : List Int)).bind fun y4 => (if y4.length + (l0.drop (x5_1 : Int).toNat).length < 17592186044416 then (some (y4 ++ (l0.drop (x5_1 : Int).toNat))) else (none))) else (none))) = some r := bscs_
 have Ny2 := A0_ hy2
 clear hy2
 obtain ⟨y3, hy3⟩ : ∃ y_ : List Int, y_ = (([a1] : List Int)) := ⟨_, rfl⟩
 replace H : (if y2.length + y3.length < 17592186044416 then ((some (y2 ++ y3 : List Int)).bind fun y4 => (if y4.length + (l0.drop (x5_1 : Int).toNat).length < 17592186044416 then (some (y4 ++ (l0.drop (x5_1 : Int).toNat))) else (none))) else (none)) = some r := b2x6_
 have Ny3 := A0_ hy3
 clear hy3
 by_cases c8 : y2.length + y3.length < 17592186044416
 case neg =>
  rw [if_neg c8] at H
  exact absurd H bxka_
 rw [if_pos c8] at H
 have LMc2 := A0_ c8
 clear c8
 obtain ⟨y4, hy4⟩ : ∃ y_ : List Int, y_ = (y2 ++ y3) := ⟨_, rfl⟩
 replace H : (if y4.length + (l0.drop (x5_1 : Int).toNat).length < 17592186044416 then (some (y4 ++ (l0.drop (x5_1 : Int).toNat))) else (none)) = some r := bytg_
 have Ny4 := A0_ hy4
 clear hy4
 have c9b0 := eq_true (od_ bpil_ : 0 ≤ x5_1)
 have c10b0 := eq_true (od_ bpil_ : x5_1 ≤ (l0.length : Int))
 by_cases c11 : y4.length + (l0.drop (x5_1 : Int).toNat).length < 17592186044416
 case neg =>
  rw [if_neg c11] at H
  exact absurd H bxka_
 rw [if_pos c11] at H
 have LMc3 := A0_ c11
 clear c11
 obtain ⟨y5, hy5⟩ : ∃ y_ : List Int, y_ = (y4 ++ (l0.drop (x5_1 : Int).toNat)) := ⟨_, rfl⟩
 replace H : (some y5) = some r := byjl_
 have Ny5 := A0_ hy5
 clear hy5
 obtain rfl := si_ H
 have p1 : 0 ≤ (x5_1 : Int) := od_ bpil_
 have q1 : x5_1 < (l0.length : Int) := od_ bpil_
 obtain ⟨ad1, e1, hx1_0⟩ := Kd.at_int HR0.out x5_1 p1 q1
 cases e1
 replace hx1_0 := (HB.out.cell (World.block_lt_of_cell? w _ hx1_0)).trans hx1_0
 replace p1 := eq_true p1
 replace q1 := eq_true q1
 have p2 : 0 ≤ (x5_1 : Int) := od_ bpil_
 have q2 : x5_1 < (l0.length : Int) := od_ bpil_
 obtain ⟨ad2, e2, hx2_0⟩ := Kd.at_int HR0.out x5_1 p2 q2
 obtain rfl : ad1 = ad2 := bs6y_
 replace hx2_0 := (HB.out.cell (World.block_lt_of_cell? w _ hx2_0)).trans hx2_0
 replace p2 := eq_true p2
 replace q2 := eq_true q2
 try go_wp2
 replace HB := A0_ (bd_ HB.out)
 obtain ⟨i015, hi015, _, hsz15, _⟩ := info_parts info3
 obtain ⟨hcut15, hA15, hC15⟩ := print_take_of (P := Tryd.prog) (Value.int .i64) 0 22 3 .i64 Tryd.underlying22 hi015 hsz15 (some ad1) c0 l0 x5_1 (od_ bpil_) (od_ bpil_) HC0.out
 have HR166 := A0_ (Kd.C_of_reads (h1 := fun _ => rfl) (hA15 _ (Kd.reads_of_C HR0.out)))
 have HC166 := A0_ hC15
 clear hA15 hC15 hi015 hsz15
 obtain ⟨i016, hi016, _, hsz16, _⟩ := info_parts info3
 obtain ⟨A1, hcut16, hA16, hC16⟩ := print_drop_of (P := Tryd.prog) (Value.int .i64) 0 22 3 .i64 Tryd.underlying22 hi016 hsz16 (some ad1) c0 l0 x5_1 (od_ bpil_) (od_ bpil_) HC0.out
 have HR176 := A0_ (Kd.C_of_reads (h1 := fun _ => rfl) (hA16 _ (Kd.reads_of_C HR0.out)))
 have HC176 := A0_ hC16
 clear hA16 hC16 hi016 hsz16
 refine start_ (n := 13) (S := fun w' => True) (ds := []) #[false, false, false, false, false, false, false, false, false, false, false, false, false] bfqv_ rfl rfl trivial (fun hHeld => ?_); refine with_tabW spec_l1Put.tab6 spec_l1Put.bits6 (fun HT_ HW_ => ?_)
 generalize wr.drew = w1 at HB HR166 HR176 hHeld ⊢
 refine pu_ 1 34 ?_
 refine pu_ 2 35 ?_
 refine pu_ 3 36 ?_
 refine pu_ 5 38 ?_
 refine pu_ 8 41 ?_
 refine pu_ 9 42 ?_
 refine pu_ 10 43 ?_
 refine join_ (σ := Value × Value × Value) 3 #[true, true, true, true, true, true, true, false, true, true, true, false, false] (fun s_ => [(33, s_.1), (37, s_.2.1), (39, s_.2.2)]) (fun s_ w' => (Kd.R (Kd.int .i64) 3 w' w.heap.size (fun k_ => some k_ ≠ (s_.2.2 : Value).ownBlock) s_.2.1 y2) ∧ (Kd.R (Kd.int .i64) 3 w' w.heap.size (fun k_ => some k_ ≠ (s_.2.1 : Value).ownBlock) s_.2.2 y3) ∧ (Below w.heap.size w w')) ?_ ?_
 rotate_left
 ·intro hCont
  refine two_ (i := 0) (j := 6) (Ni := some 33) (Nj := some 39) #[true, true, true, true, false, true, false, false, true, true, true, false, false] #[false, true, true, true, false, true, true, false, true, true, true, false, false] rfl rfl rfl rfl (two_of HT_.out bfqv_) bi3y_ bi3y_ (fun K hK => ?_) (fun K hK => ?_)
  ·refine Kd.R_lit_step (Kd.int .i64) _ 3 ?hg (N := 33) ?hd (xs := ([] : List Int)) (inner := []) (ok := fun _ => True) (okp := fun _ => True) ?hr ?hp (fun _ hk => hk) trivial (Below.refl _ _) (Nat.le_refl _) bxka_ ?_; (case hd => rfl); (case hg => rfl); (case hr => go_simp; first | done | rfl); (case hp => exact (Reps.none _ _))
   intro v2 w2 ho18 hb hg_ hnew_
   clear hg_ hnew_
   (first | rw [← Ny1.out] at ho18 | (simp only [Int.reduceToNat] at ho18; rw [← Ny1.out] at ho18))
   have HO1 := A0_ (Kd.R_lower ho18 (bz_ brt4_))
   replace HB := hb_ hb brt4_
   clear hb ho18
   refine hK.out _ _ trivial (fun hHeld => ?_)
   clear hK K
   refine nm_ 33 ?_
   refine two_ (i := 4) (j := 6) (Ni := some 37) (Nj := some 39) #[true, true, true, true, true, true, false, false, true, true, true, false, false] #[true, true, true, true, false, true, true, false, true, true, true, false, false] rfl rfl rfl rfl (two_of HT_.out bfqv_) bi3y_ bi3y_ (fun K hK => ?_) (fun K hK => ?_)
   ·refine Kd.R_append_rows_step (Kd.int .i64) (w0 := w) w.heap.size (by rfl) (.tmp 33) (.tmp 36) 22 3 (.int .i64 0) 8 rfl Tryd.underlying22 info3 rfl bi3y_ bh19_ v2 y1 (l0.take (x5_1 : Int).toNat) _ _ _ (fun _ => True) (fun _ => False) rfl rfl ?aO ?aR (fun _ _ h => h) (fun _ h => h.elim) ?aF ?aB ?aS ?aL ?_
    (case aR => first | (have e_ : (l0.take (x5_1 : Int).toNat).length = x5_1.toNat := b668_; have hx_ := cb_ HR166.out HB.out; rw [e_] at hx_; repeat (first | exact hx_ | (with_reducible refine ca_ ?_ _) | (with_reducible refine cn_ ?_ _) | (with_reducible refine cd_ ?_))) | (repeat (first | exact (cb_ HR166.out HB.out) | (with_reducible refine ca_ ?_ _) | (with_reducible refine cn_ ?_ _) | (with_reducible refine cd_ ?_))))
    (case aB => exact brt4_)
    (case aF => exact (fun _ _ => trivial))
    (case aO => exact bsm5_)
    (case aS => exact (bz_ brt4_))
    (case aL => have := LMc1.out; have hlx_ := (show (l0.take (x5_1 : Int).toNat).length = x5_1.toNat from b668_); omega)
    intro v3 w3 ho hb hg hat
    rw [← Ny2.out] at ho
    have n0_ := A0_ (hb)
    have n1_ := A0_ (ho)
    clear HB
    clear HO1
    have HB := n0_
    have HO2 := n1_
    clear n0_ n1_
    clear ho hb hg hat
    refine hK.out _ _ trivial (fun hHeld => ?_)
    clear hK K
    refine nm_ 37 ?_
    refine on_ 6 (some 39) (fun K hK => ?_)
    refine Kd.R_lit_step (Kd.int .i64) _ 3 ?hg (N := 39) ?hd (xs := ([a1] : List Int)) (inner := [.int .i64 a1]) (ok := fun _ => True) (okp := fun _ => True) ?hr ?hp (fun _ hk => hk) trivial (Below.refl _ _) (Nat.le_refl _) bxka_ ?_; (case hd => rfl); (case hg => rfl); (case hr => go_simp; first | done | rfl); (case hp => exact (Reps.one (show Kd.M (Kd.int .i64) _ _ _ a1 [.int .i64 a1] from rfl) (Reps.none _ _)))
    intro v4 w4 ho21 hb hg_ hnew_
    clear hg_ hnew_
    (first | rw [← Ny3.out] at ho21 | (simp only [Int.reduceToNat] at ho21; rw [← Ny3.out] at ho21))
    have HO3 := A0_ (Kd.R_lower (Kd.R_new' ho21 (Kd.R_lt b9so_)) (bz_ brt4_))
    replace HO2 := A0_ (Kd.R_elder' b9so_ (Kd.R_base ho21) hb)
    replace HB := hb_ hb brt4_
    clear hb ho21
    refine hK.out _ _ trivial (fun hHeld => ?_)
    clear hK K
    refine nm_ 39 ?_
    exact norm_ bh00_ (hCont (v2, v3, v4) _ ⟨b61e_, (by (with_reducible repeat (first | apply ra_ | apply rn_ | apply rd_)); exact Kd.R_mono HO3.out (fun _ hk => hk.2)), brt4_⟩)
   refine Kd.R_lit_step (Kd.int .i64) _ 3 ?hg (N := 39) ?hd (xs := ([a1] : List Int)) (inner := [.int .i64 a1]) (ok := fun _ => True) (okp := fun _ => True) ?hr ?hp (fun _ hk => hk) trivial (Below.refl _ _) (Nat.le_refl _) bxka_ ?_; (case hd => rfl); (case hg => rfl); (case hr => go_simp; first | done | rfl); (case hp => exact (Reps.one (show Kd.M (Kd.int .i64) _ _ _ a1 [.int .i64 a1] from rfl) (Reps.none _ _)))
   intro v3 w3 ho20 hb hg_ hnew_
   clear hg_ hnew_
   (first | rw [← Ny3.out] at ho20 | (simp only [Int.reduceToNat] at ho20; rw [← Ny3.out] at ho20))
   have HO2 := A0_ (Kd.R_lower (Kd.R_new' ho20 (Kd.R_lt bsm5_)) (bz_ brt4_))
   replace HO1 := A0_ (Kd.R_elder' bsm5_ (Kd.R_base ho20) hb)
   replace HB := hb_ hb brt4_
   clear hb ho20
   refine hK.out _ _ trivial (fun hHeld => ?_)
   clear hK K
   refine nm_ 39 ?_
   refine on_ 4 (some 37) (fun K hK => ?_)
   refine Kd.R_append_rows_step (Kd.int .i64) (w0 := w) w.heap.size (by rfl) (.tmp 33) (.tmp 36) 22 3 (.int .i64 0) 8 rfl Tryd.underlying22 info3 rfl bi3y_ bh19_ v2 y1 (l0.take (x5_1 : Int).toNat) _ _ _ (fun k_ => no_ v3 k_) (fun _ => False) rfl rfl ?aO ?aR (fun _ _ h => h) (fun _ h => h.elim) ?aF ?aB ?aS ?aL ?_
   (case aR => first | (have e_ : (l0.take (x5_1 : Int).toNat).length = x5_1.toNat := b668_; have hx_ := cb_ HR166.out HB.out; rw [e_] at hx_; repeat (first | exact hx_ | (with_reducible refine ca_ ?_ _) | (with_reducible refine cn_ ?_ _) | (with_reducible refine cd_ ?_))) | (repeat (first | exact (cb_ HR166.out HB.out) | (with_reducible refine ca_ ?_ _) | (with_reducible refine cn_ ?_ _) | (with_reducible refine cd_ ?_))))
   (case aB => exact brt4_)
   (case aF => exact (fun k_ hk => Kd.fresh' (Kd.R_lt b9so_) k_ hk))
   (case aO => exact b48f_)
   (case aS => exact (bz_ brt4_))
   (case aL => have := LMc1.out; have hlx_ := (show (l0.take (x5_1 : Int).toNat).length = x5_1.toNat from b668_); omega)
   intro v4 w4 ho hb hg hat
   rw [← Ny2.out] at ho
   have n0_ := A0_ (Kd.R_after (ok := (fun _ => True)) b9so_ hg hat)
   have n1_ := A0_ (hb)
   have n2_ := A0_ (ho)
   clear HO2
   clear HB
   clear HO1
   have HO2 := n0_
   have HB := n1_
   have HO3 := n2_
   clear n0_ n1_ n2_
   clear ho hb hg hat
   refine hK.out _ _ trivial (fun hHeld => ?_)
   clear hK K
   refine nm_ 37 ?_
   exact norm_ bh00_ (hCont (v2, v4, v3) _ ⟨buiy_, b61e_, brt4_⟩)
  refine Kd.R_lit_step (Kd.int .i64) _ 3 ?hg (N := 39) ?hd (xs := ([a1] : List Int)) (inner := [.int .i64 a1]) (ok := fun _ => True) (okp := fun _ => True) ?hr ?hp (fun _ hk => hk) trivial (Below.refl _ _) (Nat.le_refl _) bxka_ ?_; (case hd => rfl); (case hg => rfl); (case hr => go_simp; first | done | rfl); (case hp => exact (Reps.one (show Kd.M (Kd.int .i64) _ _ _ a1 [.int .i64 a1] from rfl) (Reps.none _ _)))
  intro v2 w2 ho18 hb hg_ hnew_
  clear hg_ hnew_
  (first | rw [← Ny3.out] at ho18 | (simp only [Int.reduceToNat] at ho18; rw [← Ny3.out] at ho18))
  have HO1 := A0_ (Kd.R_lower ho18 (bz_ brt4_))
  replace HB := hb_ hb brt4_
  clear hb ho18
  refine hK.out _ _ trivial (fun hHeld => ?_)
  clear hK K
  refine nm_ 39 ?_
  refine on_ 0 (some 33) (fun K hK => ?_)
  refine Kd.R_lit_step (Kd.int .i64) _ 3 ?hg (N := 33) ?hd (xs := ([] : List Int)) (inner := []) (ok := fun _ => True) (okp := fun _ => True) ?hr ?hp (fun _ hk => hk) trivial (Below.refl _ _) (Nat.le_refl _) bxka_ ?_; (case hd => rfl); (case hg => rfl); (case hr => go_simp; first | done | rfl); (case hp => exact (Reps.none _ _))
  intro v3 w3 ho20 hb hg_ hnew_
  clear hg_ hnew_
  (first | rw [← Ny1.out] at ho20 | (simp only [Int.reduceToNat] at ho20; rw [← Ny1.out] at ho20))
  have HO2 := A0_ (Kd.R_lower (Kd.R_new' ho20 (Kd.R_lt bsm5_)) (bz_ brt4_))
  replace HO1 := A0_ (Kd.R_elder' bsm5_ (Kd.R_base ho20) hb)
  replace HB := hb_ hb brt4_
  clear hb ho20
  refine hK.out _ _ trivial (fun hHeld => ?_)
  clear hK K
  refine nm_ 33 ?_
  refine on_ 4 (some 37) (fun K hK => ?_)
  refine Kd.R_append_rows_step (Kd.int .i64) (w0 := w) w.heap.size (by rfl) (.tmp 33) (.tmp 36) 22 3 (.int .i64 0) 8 rfl Tryd.underlying22 info3 rfl bi3y_ bh19_ v3 y1 (l0.take (x5_1 : Int).toNat) _ _ _ (fun k_ => no_ v2 k_) (fun _ => False) rfl rfl ?aO ?aR (fun _ _ h => h) (fun _ h => h.elim) ?aF ?aB ?aS ?aL ?_
  (case aR => first | (have e_ : (l0.take (x5_1 : Int).toNat).length = x5_1.toNat := b668_; have hx_ := cb_ HR166.out HB.out; rw [e_] at hx_; repeat (first | exact hx_ | (with_reducible refine ca_ ?_ _) | (with_reducible refine cn_ ?_ _) | (with_reducible refine cd_ ?_))) | (repeat (first | exact (cb_ HR166.out HB.out) | (with_reducible refine ca_ ?_ _) | (with_reducible refine cn_ ?_ _) | (with_reducible refine cd_ ?_))))
  (case aB => exact brt4_)
  (case aF => exact (fun k_ hk => Kd.fresh' (Kd.R_lt bsm5_) k_ hk))
  (case aO => exact b61e_)
  (case aS => exact (bz_ brt4_))
  (case aL => have := LMc1.out; have hlx_ := (show (l0.take (x5_1 : Int).toNat).length = x5_1.toNat from b668_); omega)
  intro v4 w4 ho hb hg hat
  rw [← Ny2.out] at ho
  have n0_ := A0_ (Kd.R_after (ok := (fun _ => True)) bsm5_ hg hat)
  have n1_ := A0_ (hb)
  have n2_ := A0_ (ho)
  clear HO1
  clear HB
  clear HO2
  have HO1 := n0_
  have HB := n1_
  have HO3 := n2_
  clear n0_ n1_ n2_
  clear ho hb hg hat
  refine hK.out _ _ trivial (fun hHeld => ?_)
  clear hK K
  refine nm_ 37 ?_
  exact norm_ bh00_ (hCont (v3, v4, v2) _ ⟨buiy_, b48f_, brt4_⟩)
 rintro ⟨v2, v3, v4⟩ w2 ⟨h0_, h1_, h2_⟩
 try dsimp only at h0_ h1_ h2_
 have HO1 := A0_ h0_
 have HO2 := A0_ h1_
 replace HB := A0_ h2_
 clear h0_ h1_ h2_
 have hHeld := trivial
 obtain ⟨Ao1, co1, eo1⟩ := Kd.R_slice HO2.out
 (first | subst eo1 | (injection eo1 with f1_ f2_ f3_; have f4_ := f1_.symm; have f5_ := f3_.symm; clear f1_ f2_ f3_; subst f4_; subst f5_))
 refine nq_ ?_
 refine on_ 7 (some 40) (fun K hK => ?_)
 refine Kd.R_append_rows_step (Kd.int .i64) (w0 := w) w.heap.size (by rfl) (.tmp 37) (.tmp 39) 22 3 (.int .i64 0) 8 rfl Tryd.underlying22 info3 rfl bi3y_ bh19_ v3 y2 y3 _ _ _ (fun k_ => no_ (.slice Ao1 y3.length co1) k_) (fun _ => False) rfl rfl ?aO ?aR (fun _ _ h => h) (fun _ h => h.elim) ?aF ?aB ?aS ?aL ?_
 (case aR => exact ba04_)
 (case aB => exact brt4_)
 (case aF => exact (fun k_ hk => Kd.fresh' (Kd.R_lt b9so_) k_ hk))
 (case aO => exact bsm5_)
 (case aS => exact (bz_ brt4_))
 (case aL => have := LMc2.out; omega)
 intro v5 w3 ho hb hg hat
 rw [← Ny4.out] at ho
 have n0_ := A0_ (Kd.R_after (ok := (fun _ => True)) b38p_ hg hat)
 have n1_ := A0_ (hb)
 have n2_ := A0_ (ho)
 clear HO2
 clear HB
 clear HO1
 have HO2 := n0_
 have HB := n1_
 have HO3 := n2_
 clear n0_ n1_ n2_
 clear ho hb hg hat
 refine hK.out _ _ trivial (fun hHeld => ?_)
 clear hK K
 refine nm_ 40 ?_
 refine on_ 11 (some 44) (fun K hK => ?_)
 refine Kd.R_append_rows_step (Kd.int .i64) (w0 := w) w.heap.size (by rfl) (.tmp 40) (.tmp 43) 22 3 (.int .i64 0) 8 rfl Tryd.underlying22 info3 rfl bi3y_ bh19_ v5 y4 (l0.drop (x5_1 : Int).toNat) _ _ _ (fun k_ => no_ (.slice Ao1 y3.length co1) k_) (fun _ => False) rfl rfl ?aO ?aR (fun _ _ h => h) (fun _ h => h.elim) ?aF ?aB ?aS ?aL ?_
 (case aR => first | (rw [← show (l0.drop (x5_1 : Int).toNat).length = (l0.length - x5_1.toNat) from ld_]; repeat (first | exact (cb_ HR176.out HB.out) | (with_reducible refine ca_ ?_ _) | (with_reducible refine cn_ ?_ _) | (with_reducible refine cd_ ?_))) | (repeat (first | exact (cb_ HR176.out HB.out) | (with_reducible refine ca_ ?_ _) | (with_reducible refine cn_ ?_ _) | (with_reducible refine cd_ ?_))))
 (case aB => exact brt4_)
 (case aF => exact (fun k_ hk => Kd.fresh' (Kd.R_lt b9so_) k_ hk))
 (case aO => exact buiy_)
 (case aS => exact (bz_ brt4_))
 (case aL => have := LMc3.out; have hlx_ := (show (l0.drop (x5_1 : Int).toNat).length = (l0.length - x5_1.toNat) from ld_); omega)
 intro v6 w4 ho hb hg hat
 rw [← Ny5.out] at ho
 have n0_ := A0_ (Kd.R_after (ok := (fun _ => True)) b9so_ hg hat)
 have n1_ := A0_ (hb)
 have n2_ := A0_ (ho)
 clear HO2
 clear HB
 clear HO3
 have HO2 := n0_
 have HB := n1_
 have HO4 := n2_
 clear n0_ n1_ n2_
 clear ho hb hg hat
 refine hK.out _ _ trivial (fun hHeld => ?_)
 clear hK K
 refine nm_ 44 ?_
 refine pu_ 12 4 ?_
 refine dn_ ?_
 try go_wp2
 go_ret
 exact ⟨_, bnwh_, ba8y_, brt4_⟩

def spec_l2With.f (k : Nat) (a0_0 : Int) (a0_1 : Bool) (l0_2 : List Int) (a1 : Int) : Option (Int × Bool × List Int) := (spec_l1Own.f l0_2).bind fun t253 => ((spec_l1Put.f k t253 a1).bind fun t256 => ((spec_l2Made.f a0_0 a0_1 l0_2 t256).bind fun bt259 => (some (bt259.1, bt259.2.1, bt259.2.2))))
theorem spec_l2With.mono : ∀ a0 a1 a2 a3 k, LeO (spec_l2With.f k a0 a1 a2 a3) (spec_l2With.f (k + 1) a0 a1 a2 a3) := by
 intro a0 a1 a2 a3 k
 unfold spec_l2With.f
 repeat' with_reducible first | exact spec_l1Put.mono .. | exact LeO.refl .. | exact LeO.none .. | refine LeO.ite ?_ ?_ | refine LeO.bind ?_ (fun _ => ?_)
def spec_l2With.T1 : Bool × List (List Nat × List Nat) := (true, [([], []), ([], []), ([1], [1]), ([2], [2]), ([], []), ([3, 4, 3], [3, 4]), ([0, 5, 5], [0, 5]), ([6, 6, 0, 1, 2, 3, 4, 5, 6], [6])])
def spec_l2With.B1 : List Nat := [0, 0, 2, 6, 0, 30, 63, 127]
theorem spec_l2With.tab1 : rtab .any (opsOf Tryd.f89 1) = spec_l2With.T1 := by kernel_rfl
theorem spec_l2With.bits1 : waitsOk spec_l2With.T1.2 spec_l2With.B1 = true := by kernel_rfl
theorem spec_l2With.calls (k : Nat) (a0_0 : Int) (a0_1 : Bool) (A0_2 : Option Addr) (c0_2 : Nat) (l0_2 : List Int) (a1 : Int) (r1 : Int) (r2 : Bool) (r3 : List Int) (w : World) (hr0_2 : Kd.C (Kd.int .i64) w A0_2 l0_2.length l0_2) (hc0_2 : l0_2.length ≤ c0_2) (h : spec_l2With.f k a0_0 a0_1 l0_2 a1 = some (r1, r2, r3)) :
  Calls Tryd.prog 89 #[.agg #[.int .i64 a0_0, .bool a0_1, .slice A0_2 l0_2.length c0_2], .int .i64 a1] w fun e w' => ∃ v2_ : Value, e = .returned (.agg #[.int .i64 r1, .bool r2, v2_]) ∧ Kd.R (Kd.int .i64) 3 w' w.heap.size (fun _ => True) v2_ r3 ∧ Below w.heap.size w w' := by
 have hu24 := Tryd.underlying24
 have HR0_2 := A0_ hr0_2
 have HC0_2 := A0_ hc0_2
 clear hr0_2 hc0_2
 have HB := A0_ (Below.refl w.heap.size w)
 have H : ((spec_l1Own.f l0_2).bind fun t1 => ((spec_l1Put.f k t1 a1).bind fun t2 => ((spec_l2Made.f a0_0 a0_1 l0_2 t2).bind fun bt1 => (some (bt1.1, bt1.2.1, bt1.2.2))))) = some (r1, r2, r3) := h
 clear h
 obtain ⟨t1, A2, H⟩ := o1_ H
 obtain ⟨t2, A4, H⟩ := o1_ H
 obtain ⟨⟨t3, t4, t5⟩, A6, H⟩ := o1_ H
 replace H : (some (t3, t4, t5)) = some (r1, r2, r3) := H
 simp only [sj_, pj_] at H
 obtain ⟨rfl, rfl, rfl⟩ := H
 go_enter Tryd.func89, Tryd.ntmps89
 try go_wp2_with (first | ((with_reducible refine gd_ (N := 2) rfl ?_); refine bx_ 2 #[.int .i64 a0_0, .bool a0_1, .slice A0_2 l0_2.length c0_2] 24 ?_; intro gb1 hg w1 BK1 hb; have GW1 := ge_ hg brt4_; have GE1 := GW1; replace HB := hb_ hb brt4_; clear hb hg) | ((with_reducible refine gd_ (N := 4) rfl ?_); refine bx_ 4 #[.int .i64 0, .bool false, .slice none 0 0] 24 ?_; intro gb2 hg w2 BK2 hb; have GW2 := ge_ hg be6g_; have GE2 := GW2; replace HB := hb_ hb be6g_; have NB1_2 := nl_ hg BK1; have NB2_1 := ng_ hg BK1; replace BK1 := k1_ BK1 hb; clear hb hg))
 replace BK1 := A0_ (kd_ BK1.out)
 replace BK2 := A0_ (kd_ BK2.out)
 replace HB := A0_ (bd_ HB.out)
 refine s3_ 8 [] BK1 spec_l2With.tab1 spec_l2With.bits1 (fun hHeld HT_ HW_ => ?_)
 generalize w2.drew = w3 at BK1 BK2 HB hHeld ⊢
 refine pu_ 1 6 ?_
 refine pu_ 4 9 ?_
 refine tk_ 0 5 hHeld ?_
 refine tk_ 2 7 hHeld ?_
 refine on_ 3 (some 8) (fun K hK => ?_)
 refine gs_ Tryd.func58 #[.slice A0_2 l0_2.length c0_2] ?_
 with_reducible refine (spec_l1Own.calls _ _ l0_2 t1 _ ?side1 ?side2 A2.out).mono ?_
 (case side1 => exact b6n8_)
 (case side2 => exact HC0_2.out)
 rintro e w4 ⟨v1, rfl, ho0, hb⟩
 refine ⟨_, rfl, ?_⟩
 have HO1 := A0_ (Kd.R_lower ho0 (bz_ bfnq_))
 replace BK1 := k1_ BK1 hb
 replace BK2 := k1_ BK2 hb
 replace HB := hb_ hb bfnq_
 (try clear hb); (try clear ho0)
 obtain ⟨Ao1, co1, eo1⟩ := Kd.R_slice HO1.out
 (first | subst eo1 | (injection eo1 with f1_ f2_ f3_; have f4_ := f1_.symm; have f5_ := f3_.symm; clear f1_ f2_ f3_; subst f4_; subst f5_))
 refine hK.out _ _ (c3_ BK1) (fun hHeld => ?_)
 clear hK K
 refine nm_ 8 ?_
 refine on_ 5 (some 10) (fun K hK => ?_)
 refine gs_ Tryd.func103 #[.slice Ao1 t1.length co1, .int .i64 a1] ?_
 with_reducible refine (spec_l1Put.calls k _ _ t1 a1 t2 _ ?side1 ?side2 A4.out).mono ?_
 (case side1 => exact bayy_)
 (case side2 => exact (rr_ HO1.out).2.1)
 rintro e w5 ⟨v3, rfl, ho0, hb⟩
 refine ⟨_, rfl, ?_⟩
 have HO2 := A0_ (Kd.R_lower (Kd.R_new' ho0 (Kd.R_lt bsm5_)) (bz_ bfnq_))
 replace HO1 := A0_ (Kd.R_elder' bsm5_ (Kd.R_base ho0) hb)
 replace BK1 := k1_ BK1 hb
 replace BK2 := k1_ BK2 hb
 replace HB := hb_ hb bfnq_
 (try clear hb); (try clear ho0)
 obtain ⟨Ao2, co2, eo2⟩ := Kd.R_slice HO2.out
 (first | subst eo2 | (injection eo2 with f1_ f2_ f3_; have f4_ := f1_.symm; have f5_ := f3_.symm; clear f1_ f2_ f3_; subst f4_; subst f5_))
 refine hK.out _ _ (c3_ BK1) (fun hHeld => ?_)
 clear hK K
 refine nm_ 10 ?_
 refine on_ 6 (some 11) (fun K hK => ?_)
 refine gs_ Tryd.func102 #[.agg #[.int .i64 a0_0, .bool a0_1, .slice A0_2 l0_2.length c0_2], .slice Ao2 t2.length co2] ?_
 with_reducible refine (spec_l2Made.calls a0_0 a0_1 _ _ l0_2 (fun k_ => some k_ = (.slice Ao2 t2.length co2 : Value).ownBlock) (.slice Ao2 t2.length co2) t2 t3 t4 t5 w _ ?side1 ?side2 ?side3 ?side4 A6.out).mono ?_
 (case side1 => exact bfnq_)
 (case side2 => exact Kd.C_kept_came (Kd.heap_int .i64) HR0_2.out bfnq_ (fun k_ hs_ => (fun e_ => Kd.R_base HO2.out k_ e_.symm) hs_))
 (case side3 => exact HC0_2.out)
 (case side4 => exact Kd.R_tight rfl HO2.out)
 rintro e w6 ⟨v4, rfl, ho0, hb, hkp⟩
 refine ⟨_, rfl, ?_⟩
 have n0_ := A0_ (blk_kept (u1_ BK1) hkp (fun hs_ => (fun e_ => (Kd.R_ne HO2.out BK1.out bi3y_) e_) hs_))
 have n1_ := A0_ (blk_kept (u1_ BK2) hkp (fun hs_ => (fun e_ => (Kd.R_ne HO2.out BK2.out bi3y_) e_) hs_))
 have n2_ := A0_ (Kd.R_mono (ok' := fun k_ => no_ v4 k_) (Kd.R_keptB (HO1.out) hkp (fun k_ hk_ hs_ => (hk_.2) hs_)) (fun k_ hk_ => fun e_ => Or.elim (ho0.1 k_ e_.symm) (fun hs_ => hk_.2.1 hs_) (fun hn_ => Nat.not_le.2 hk_.2.2 hn_)))
 have n3_ := A0_ (Kd.R_mono (ok' := fun k_ => no_ (.slice Ao1 t1.length co1) k_) ho0 (fun k_ hk_ => Or.elim hk_ (fun hs_ => fun e_ => (((HO1.out).1 k_ e_.symm).2) hs_) (fun hn_ => (Kd.fresh' (Kd.R_lt bsm5_) k_ hn_))))
 have n4_ := A0_ (hb)
 clear BK1
 clear BK2
 clear HO1
 clear HB
 clear HO2
 have BK1 := n0_
 have BK2 := n1_
 have HO1 := n2_
 have HO3 := n3_
 have HB := n4_
 clear n0_ n1_ n2_ n3_ n4_
 (try clear hb)
 (try clear hkp)
 (try clear ho0)
 obtain ⟨Ao3, co3, eo3⟩ := Kd.R_slice HO3.out
 (first | subst eo3 | (injection eo3 with f1_ f2_ f3_; have f4_ := f1_.symm; have f5_ := f3_.symm; clear f1_ f2_ f3_; subst f4_; subst f5_))
 refine hK.out _ _ (c3_ BK1) (fun hHeld => ?_)
 clear hK K
 refine nm_ 11 ?_
 refine on_ 7 none (fun K hK => ?_)
 have hs14 : w6.cell? ⟨gb2, 0, none⟩ = some (.int .i64 0) := (kc_ BK2.out 0).trans rfl
 have hfs14 := kf_ BK2.out 0
 have hns1_0 := NB1_2.out
 have hms1_0 := NB2_1.out
 have hs15 : w6.cell? ⟨gb2, 1, none⟩ = some (.bool false) := (kc_ BK2.out 1).trans rfl
 have hfs15 := kf_ BK2.out 1
 have hns2_0 := NB1_2.out
 have hms2_0 := NB2_1.out
 have hs17 : w6.cell? ⟨gb2, 2, none⟩ = some (.slice none 0 0) := (kc_ BK2.out 2).trans rfl
 have hfs17 := kf_ BK2.out 2
 have hns3_0 := NB1_2.out
 have hms3_0 := NB2_1.out
 refine skip_ (w1 := ?_) (by rfl) rfl ?_ ?_
 rotate_left
 ·go_simp
  rfl
 refine hK.out _ _ ⟨((cell_far (p := ⟨gb2, _, none⟩) NB1_2.out _).trans (((cell_far (p := ⟨gb2, _, none⟩) NB1_2.out _).trans (((cell_far (p := ⟨gb2, _, none⟩) NB1_2.out _).trans (hHeld.1)))))), ((cell_far (p := ⟨gb2, _, none⟩) NB1_2.out _).trans (((cell_far (p := ⟨gb2, _, none⟩) NB1_2.out _).trans (((cell_far (p := ⟨gb2, _, none⟩) NB1_2.out _).trans (hHeld.2.1)))))), ((cell_far (p := ⟨gb2, _, none⟩) NB1_2.out _).trans (((cell_far (p := ⟨gb2, _, none⟩) NB1_2.out _).trans (((cell_far (p := ⟨gb2, _, none⟩) NB1_2.out _).trans (hHeld.2.2))))))⟩ (fun hHeld => ?_)
 clear hK K
 refine dn_ ?_
 try go_wp2
 refine bodyPost_ret (results_cell_row rfl _ _ gb2 24 #[.int .i64 t3, .bool t4, .slice Ao3 t5.length co3] (0, 0) _ rfl (u1_ BK2) Tryd.underlying24 rfl bfqv_) rfl ?_
 exact ⟨_, bnwh_, by (with_reducible repeat (first | apply ra_ | apply rn_ | apply rd_)); exact Kd.R_mono (rf_ (rf_ (rf_ (Kd.R_types HO3.out BK2.out bi3y_) k2_0 _) k2_0 _) k2_0 _) (fun _ hk => trivial), bfnq_⟩

def spec_l12Sit.f (k : Nat) (a0_0 : Int) (a0_1 : Bool) (l0_2 : List Int) (l0_3 : List Int) (a0_4 : Int) (a1 : Int) : Option (Int × Bool × List Int × List Int × Int) := (spec_l2With.f k a0_0 a0_1 l0_2 a1).bind fun bt267 => ((spec_l1Own.f l0_3).bind fun t272 => (if t272.length < 17592186044416 then (some (bt267.1, bt267.2.1, bt267.2.2, (t272 ++ [a1]), a0_4)) else (none)))
theorem spec_l12Sit.mono : ∀ a0 a1 a2 a3 a4 a5 k, LeO (spec_l12Sit.f k a0 a1 a2 a3 a4 a5) (spec_l12Sit.f (k + 1) a0 a1 a2 a3 a4 a5) := by
 intro a0 a1 a2 a3 a4 a5 k
 unfold spec_l12Sit.f
 repeat' with_reducible first | exact spec_l2With.mono .. | exact LeO.refl .. | exact LeO.none .. | refine LeO.ite ?_ ?_ | refine LeO.bind ?_ (fun _ => ?_)
theorem spec_l12Sit.calls (k : Nat) (a0_0 : Int) (a0_1 : Bool) (A0_2 : Option Addr) (c0_2 : Nat) (l0_2 : List Int) (A0_3 : Option Addr) (c0_3 : Nat) (l0_3 : List Int) (a0_4 : Int) (a1 : Int) (r1 : Int) (r2 : Bool) (r3 : List Int) (r4 : List Int) (r5 : Int) (w : World) (hr0_2 : Kd.C (Kd.int .i64) w A0_2 l0_2.length l0_2) (hc0_2 : l0_2.length ≤ c0_2) (hr0_3 : Kd.C (Kd.int .i64) w A0_3 l0_3.length l0_3) (hc0_3 : l0_3.length ≤ c0_3) (h : spec_l12Sit.f k a0_0 a0_1 l0_2 l0_3 a0_4 a1 = some (r1, r2, r3, r4, r5)) :
  Calls Tryd.prog 86 #[.agg #[.int .i64 a0_0, .bool a0_1, .slice A0_2 l0_2.length c0_2, .slice A0_3 l0_3.length c0_3, .int .i64 a0_4], .int .i64 a1] w fun e w' => ∃ v2_ v3_ : Value, e = .returned (.agg #[.int .i64 r1, .bool r2, v2_, v3_, .int .i64 r5]) ∧ Kd.R (Kd.int .i64) 3 w' w.heap.size (fun k_ => no_ v3_ k_) v2_ r3 ∧ Kd.R (Kd.int .i64) 3 w' w.heap.size (fun k_ => no_ v2_ k_) v3_ r4 ∧ Below w.heap.size w w' := by
 have hu26 := Tryd.underlying26
 have hu24 := Tryd.underlying24
 have HR0_2 := A0_ hr0_2
 have HC0_2 := A0_ hc0_2
 clear hr0_2 hc0_2
 have HR0_3 := A0_ hr0_3
 have HC0_3 := A0_ hc0_3
 clear hr0_3 hc0_3
 have HB := A0_ (Below.refl w.heap.size w)
 have H : ((spec_l2With.f k a0_0 a0_1 l0_2 a1).bind fun bt1 => ((spec_l1Own.f l0_3).bind fun t1 => (if t1.length < 17592186044416 then (some (bt1.1, bt1.2.1, bt1.2.2, (t1 ++ [a1]), a0_4)) else (none)))) = some (r1, r2, r3, r4, r5) := h
 clear h
 obtain ⟨⟨t2, t3, t4⟩, A2, H⟩ := o1_ H
 obtain ⟨t1, A4, H⟩ := o1_ H
 by_cases c1 : t1.length < 17592186044416
 case neg =>
  rw [if_neg c1] at H
  exact absurd H bxka_
 rw [if_pos c1] at H
 have LMc1 := A0_ c1
 clear c1
 obtain ⟨y1, hy1⟩ : ∃ y_ : List Int, y_ = (t1 ++ [a1]) := ⟨_, rfl⟩
 replace H : (some (t2, t3, t4, y1, a0_4)) = some (r1, r2, r3, r4, r5) := bgiq_
 have Ny1 := A0_ hy1
 clear hy1
 simp only [sj_, pj_] at H
 obtain ⟨rfl, rfl, rfl, rfl, rfl⟩ := H
 go_enter Tryd.func86, Tryd.ntmps86
 go_wp2_with (first | ((with_reducible refine gd_ (N := 2) rfl ?_); refine bx_ 2 #[.int .i64 a0_0, .bool a0_1, .slice A0_2 l0_2.length c0_2, .slice A0_3 l0_3.length c0_3, .int .i64 a0_4] 26 ?_; intro gb1 hg w1 BK1 hb; have GW1 := ge_ hg brt4_; have GE1 := GW1; replace HB := hb_ hb brt4_; clear hb hg) | ((with_reducible refine gd_ (N := 4) rfl ?_); refine bx_ 4 #[.int .i64 0, .bool false, .slice none 0 0, .slice none 0 0, .int .i64 0] 26 ?_; intro gb2 hg w2 BK2 hb; have GW2 := ge_ hg be6g_; have GE2 := GW2; replace HB := hb_ hb be6g_; have NB1_2 := nl_ hg BK1; have NB2_1 := ng_ hg BK1; replace BK1 := k1_ BK1 hb; clear hb hg; have hnb1 := NB1_2.out; have hnc1 := NB2_1.out; have hcz1 := z5_ BK1) | ((with_reducible refine gd_ (N := 5) rfl ?_); refine bx_ 5 #[.int .i64 0, .bool false, .slice none 0 0, .slice none 0 0, .int .i64 0] 26 ?_; intro gb3 hg w3 BK3 hb; have GW3 := ge_ hg bfnq_; have GE3 := GW3; replace HB := hb_ hb bfnq_; have NB1_3 := nl_ hg BK1; have NB3_1 := ng_ hg BK1; replace BK1 := k1_ BK1 hb; have NB2_3 := nl_ hg BK2; have NB3_2 := ng_ hg BK2; replace BK2 := k1_ BK2 hb; clear hb hg; have hnb2 := NB3_1.out; have hnc2 := NB1_3.out; have hnb3 := NB3_2.out; have hnc3 := NB2_3.out; have hcz2 := z5_ BK3; have hcz3 := z5_ BK1) | ((with_reducible refine gc_ (f := 89) rfl ?_); refine gl_ 10 Tryd.func89 #[.agg #[.int .i64 a0_0, .bool a0_1, .slice A0_2 l0_2.length c0_2], .int .i64 a1] ?_; (with_reducible refine (spec_l2With.calls k a0_0 a0_1 _ _ l0_2 a1 t2 t3 t4 _ ?side1 ?side2 A2.out).mono ?_); (case side1 => exact cb_ HR0_2.out b850_); (case side2 => exact HC0_2.out); rintro e w4 ⟨v1, rfl, ho0, hb⟩; refine ⟨_, rfl, ?_⟩; have HO1 := A0_ (Kd.R_lower ho0 (bz_ b850_)); replace BK1 := k1_ BK1 hb; replace BK2 := k1_ BK2 hb; replace BK3 := k2_ (.cells #[.int .i64 a0_0, .bool a0_1, .slice A0_2 l0_2.length c0_2, .slice A0_3 l0_3.length c0_3, .int .i64 a0_4] 26 (0, 0)) BK3 hb; replace HB := hb_ hb b850_; (try clear hb); (try clear ho0); have hcz4 := z5_ BK3; obtain ⟨Ao1, co1, eo1⟩ := Kd.R_slice HO1.out; subst eo1; have hcz5_0 : w4.cell? ⟨gb1, 0, none⟩ = some (.int .i64 a0_0) := (kc_ BK1.out 0).trans rfl; have hcz5_1 : w4.cell? ⟨gb1, 1, none⟩ = some (.bool a0_1) := (kc_ BK1.out 1).trans rfl; have hcz5_2 : w4.cell? ⟨gb1, 2, none⟩ = some (.slice A0_2 l0_2.length c0_2) := (kc_ BK1.out 2).trans rfl; have hcz5_3 : w4.cell? ⟨gb1, 3, none⟩ = some (.slice A0_3 l0_3.length c0_3) := (kc_ BK1.out 3).trans rfl; have hcz5_4 : w4.cell? ⟨gb1, 4, none⟩ = some (.int .i64 a0_4) := (kc_ BK1.out 4).trans rfl; have hfz5_0 := kf_ BK1.out 0; have hfz5_1 := kf_ BK1.out 1; have hfz5_2 := kf_ BK1.out 2; have hfz5_3 := kf_ BK1.out 3; have hfz5_4 := kf_ BK1.out 4) | ((with_reducible refine gc_ (f := 58) rfl ?_); refine gl_ 14 Tryd.func58 #[.slice A0_3 l0_3.length c0_3] ?_; (with_reducible refine (spec_l1Own.calls _ _ l0_3 t1 _ ?side1 ?side2 A4.out).mono ?_); (case side1 => exact cb_ HR0_3.out b850_); (case side2 => exact HC0_3.out); rintro e w5 ⟨v4, rfl, ho0, hb⟩; refine ⟨_, rfl, ?_⟩; have HO2 := A0_ (Kd.R_lower (Kd.R_new' ho0 (Kd.R_lt boj0_)) (bz_ b850_)); replace HO1 := A0_ (Kd.R_elder' boj0_ (Kd.R_base ho0) hb); replace BK1 := k1_ BK1 hb; replace BK2 := k1_ BK2 hb; replace BK3 := k2_ (.cells #[.int .i64 t2, .bool t3, .slice Ao1 t4.length co1, .slice A0_3 l0_3.length c0_3, .int .i64 a0_4] 26 (0, 0)) BK3 hb; replace HB := hb_ hb b850_; (try clear hb); (try clear ho0)) | ((with_reducible refine gate_builtin (b := .append) (xs := #[.tmp 14, .tmp 16]) rfl ?_); at_builtin; refine Kd.R_append (Kd.int .i64) (w0 := w) w.heap.size rfl (.tmp 14) (.tmp 16) 22 3 (.int .i64 0) 8 rfl Tryd.underlying22 info3 rfl bi3y_ bh19_ v4 t1 a1 [.int .i64 a1] (fun k_ => no_ (.slice Ao1 t4.length co1) k_) (fun _ => False) rfl rfl ?aP (fun _ hk => hk.elim) ?aF ?aO ?aB ?aS ?aL ?_; (case aP => exact rfl); (case aB => exact b850_); (case aF => exact (fun k_ hk => Kd.fresh' (Kd.R_lt bsm5_) k_ hk)); (case aO => exact b61e_); (case aS => exact (bz_ b850_)); (case aL => have := LMc1.out; omega); intro v5 w6 ho hb hg hat; rw [← Ny1.out] at ho; have n0_ := A0_ (blk_grown (g := gb1) (o := .cells #[.int .i64 a0_0, .bool a0_1, .slice A0_2 l0_2.length c0_2, .slice A0_3 l0_3.length c0_3, .int .i64 a0_4] 26 (0, 0)) (u1_ BK1) hg (Kd.R_ne HO2.out BK1.out bi3y_)); have n1_ := A0_ (blk_grown (g := gb2) (o := .cells #[.int .i64 0, .bool false, .slice none 0 0, .slice none 0 0, .int .i64 0] 26 (0, 0)) (u1_ BK2) hg (Kd.R_ne HO2.out BK2.out bi3y_)); have n2_ := A0_ (blk_grown (g := gb3) (o := .cells #[.int .i64 t2, .bool t3, .slice Ao1 t4.length co1, .slice A0_3 l0_3.length c0_3, .int .i64 a0_4] 26 (0, 0)) (u1_ BK3) hg (Kd.R_ne HO2.out BK3.out bi3y_)); have n3_ := A0_ (Kd.R_after (ok := (fun _ => True)) bsm5_ hg hat); have n4_ := A0_ (hb); have n5_ := A0_ (ho); clear BK1 BK2 BK3 HO1 HB HO2; have BK1 := n0_; have BK2 := n1_; have BK3 := n2_; have HO1 := n3_; have HB := n4_; have HO3 := n5_; clear n0_ n1_ n2_ n3_ n4_ n5_ ho hb hg hat; obtain ⟨Ao2, co2, eo2⟩ := Kd.R_slice HO3.out; subst eo2; have hcz6 := z5_ BK3; have hcz7 := z5_ BK2))
 refine bodyPost_ret (results_cell_row rfl _ _ gb2 26 #[.int .i64 t2, .bool t3, .slice Ao1 t4.length co1, .slice Ao2 y1.length co2, .int .i64 a0_4] (0, 0) _ rfl (u1_ BK2) Tryd.underlying26 rfl bfqv_) rfl ?_
 exact ⟨_, _, bnwh_, by (with_reducible repeat (first | apply ra_ | apply rn_ | apply rd_)); exact Kd.R_mono (rf_ (rf_ (rf_ (rf_ (rf_ (rf_ (Kd.R_types (Kd.R_types HO1.out BK3.out bi3y_) BK2.out bi3y_) (fun _ hk => hk.1.2) (.slice Ao2 y1.length co2)) k2_0 _) k2_0 _) k2_0 _) k2_0 _) k2_0 _) (fun _ hk => hk.1.1.2), by (with_reducible repeat (first | apply ra_ | apply rn_ | apply rd_)); exact Kd.R_mono (rf_ (rf_ (rf_ (rf_ (rf_ (rf_ (Kd.R_types (Kd.R_types HO3.out BK3.out bi3y_) BK2.out bi3y_) (fun _ hk => hk.1.2) (.slice Ao2 y1.length co2)) k2_0 _) k2_0 _) k2_0 _) k2_0 _) k2_0 _) (fun _ hk => hk.1.1), b850_⟩

def spec_l2Nearest.l0 : Nat → List Int → Int → Int → Int → Int → Int → Bool → List Int → Option (Int × Int)
 | 0, _, _, _, _, _, _, _, _ => none
 | k + 1, x1, x2, x8, x9, x10, x279000, x279001, x279002 => if x10 < (x1.length : Int) then (if 0 ≤ x10 then ((spec_l2Gap.f x279000 x279001 x279002 x2 (rd x1 x10)).bind fun t280 => (if x8 < 0 then (spec_l2Nearest.l0 k x1 x2 (rd x1 x10) t280 (wrap64 (x10 + 1)) x279000 x279001 x279002) else (if t280 < x9 then (spec_l2Nearest.l0 k x1 x2 (rd x1 x10) t280 (wrap64 (x10 + 1)) x279000 x279001 x279002) else (spec_l2Nearest.l0 k x1 x2 x8 x9 (wrap64 (x10 + 1)) x279000 x279001 x279002)))) else (none)) else (some (x8, x9))
def spec_l2Nearest.f (k : Nat) (a0_0 : Int) (a0_1 : Bool) (l0_2 : List Int) (l1 : List Int) (a2 : Int) : Option (Int × Int) := spec_l2Nearest.l0 k l1 a2 (-1) (-1) 0 a0_0 a0_1 l0_2
theorem spec_l2Nearest.mono_l : ∀ k, (∀ y0 y1 y2 y3 y4 y5 y6 y7, LeO (spec_l2Nearest.l0 k y0 y1 y2 y3 y4 y5 y6 y7) (spec_l2Nearest.l0 (k + 1) y0 y1 y2 y3 y4 y5 y6 y7))
 | 0 => fun _ _ _ _ _ _ _ _ r h => by simp [spec_l2Nearest.l0] at h
 | k + 1 => by
  have ih0 := spec_l2Nearest.mono_l k
  ·intro y0 y1 y2 y3 y4 y5 y6 y7
   unfold spec_l2Nearest.l0
   repeat' with_reducible first | exact ih0 .. | exact LeO.refl .. | exact LeO.none .. | refine LeO.ite ?_ ?_ | refine LeO.bind ?_ (fun _ => ?_)
theorem spec_l2Nearest.mono : ∀ a0 a1 a2 a3 a4 k, LeO (spec_l2Nearest.f k a0 a1 a2 a3 a4) (spec_l2Nearest.f (k + 1) a0 a1 a2 a3 a4) := by
 intro a0 a1 a2 a3 a4 k
 have ih0 := spec_l2Nearest.mono_l k
 unfold spec_l2Nearest.f
 repeat' with_reducible first | exact ih0 .. | exact LeO.refl .. | exact LeO.none .. | refine LeO.ite ?_ ?_ | refine LeO.bind ?_ (fun _ => ?_)
def spec_l2Nearest.T5 : Bool × List (List Nat × List Nat) := (true, [([], []), ([], []), ([], []), ([], []), ([2, 3], [2, 3]), ([4], [4]), ([0, 1, 5], [0, 1, 5]), ([6, 6, 0, 1, 2, 3, 4, 5, 6], [6])])
def spec_l2Nearest.B5 : List Nat := [0, 0, 0, 0, 12, 28, 63, 127]
theorem spec_l2Nearest.tab5 : rtab .any (opsOf Tryd.f131 5) = spec_l2Nearest.T5 := by kernel_rfl
theorem spec_l2Nearest.bits5 : waitsOk spec_l2Nearest.T5.2 spec_l2Nearest.B5 = true := by kernel_rfl
theorem spec_l2Nearest.calls (k : Nat) (a0_0 : Int) (a0_1 : Bool) (A0_2 : Option Addr) (c0_2 : Nat) (l0_2 : List Int) (A1 : Option Addr) (c1 : Nat) (l1 : List Int) (a2 : Int) (r1 : Int) (r2 : Int) (w : World) (hr0_2 : Kd.C (Kd.int .i64) w A0_2 l0_2.length l0_2) (hc0_2 : l0_2.length ≤ c0_2) (hr1 : Kd.C (Kd.int .i64) w A1 l1.length l1) (hc1 : l1.length ≤ c1) (h : spec_l2Nearest.f k a0_0 a0_1 l0_2 l1 a2 = some (r1, r2)) :
  Calls Tryd.prog 131 #[.agg #[.int .i64 a0_0, .bool a0_1, .slice A0_2 l0_2.length c0_2], .slice A1 l1.length c1, .int .i64 a2] w fun e w' => e = .returned (.tuple #[.int .i64 r1, .int .i64 r2]) ∧ Below w.heap.size w w' := by
 have hu24 := Tryd.underlying24
 have HR0_2 := A0_ hr0_2
 have HC0_2 := A0_ hc0_2
 clear hr0_2 hc0_2
 have HR1 := A0_ hr1
 have HC1 := A0_ hc1
 clear hr1 hc1
 have HB := A0_ (Below.refl w.heap.size w)
 have H : (spec_l2Nearest.l0 k l1 a2 (-1) (-1) 0 a0_0 a0_1 l0_2) = some (r1, r2) := h
 clear h
 have H' := A0_ H
 clear H
 go_enter Tryd.func131, Tryd.ntmps131
 go_wp2_with (first | ((with_reducible refine gd_ (N := 3) rfl ?_); refine bx_ 3 #[.int .i64 a0_0, .bool a0_1, .slice A0_2 l0_2.length c0_2] 24 ?_; intro gb1 hg w1 BK1 hb; have GW1 := ge_ hg brt4_; have GE1 := GW1; replace HB := hb_ hb brt4_; clear hb hg))
 go_loopg [8, 9, 10] k (fun kq v1 v2 v3 w' => ∃ (x8_1 : Int) (x9_1 : Int) (x10_1 : Int), v1 = .int .i64 x8_1 ∧ v2 = .int .i64 x9_1 ∧ v3 = .int .i64 x10_1 ∧ Aside0 (spec_l2Nearest.l0 kq l1 a2 x8_1 x9_1 x10_1 a0_0 a0_1 l0_2 = some (r1, r2)) ∧ Aside0 (kq ≤ k) ∧ Aside0 (w'.heap[gb1]? = some (.cells #[.int .i64 a0_0, .bool a0_1, (.slice A0_2 l0_2.length c0_2)] 24 (0, 0))) ∧ Aside0 (Below w.heap.size w w'))
 case atStart => exact ⟨((-1)), ((-1)), (0), b2ew_, b2ew_, b2ew_, H', ⟨Nat.le_refl _⟩, ⟨u1_ BK1⟩, ⟨be6g_⟩⟩
 clear H'
 try clear c1
 obtain ⟨x8_1, x9_1, x10_1, rfl, rfl, rfl, HA, HK1, BK1, HB⟩ := hrel
 cases gk with | zero => exact absurd HA.out (by simp [spec_l2Nearest.l0]) | succ k1 => ?_
 have H := HA.out
 clear HA
 simp only [spec_l2Nearest.l0] at H
 by_cases c2 : x10_1 < (l1.length : Int)
 case neg =>
  rw [if_neg c2] at H
  have c2b0 : decide (x10_1 < (l1.length : Int)) = false := decide_eq_false c2
  clear c2
  simp only [sj_, pj_] at H
  obtain ⟨rfl, rfl⟩ := H
  go_wp2
  go_ret2
  exact ⟨bnwh_, be6g_⟩
 rw [if_pos c2] at H
 have c2b0 : decide (x10_1 < (l1.length : Int)) = true := dt_ c2
 clear c2
 by_cases c3 : 0 ≤ x10_1
 case neg =>
  rw [if_neg c3] at H
  exact absurd H bxka_
 rw [if_pos c3] at H
 have c3b0 : decide (0 ≤ x10_1) = true := dt_ c3
 clear c3
 obtain ⟨t1, A3, H⟩ := o1_ H
 by_cases c4 : x8_1 < 0
 ·rw [if_pos c4] at H
  have c4b0 : decide (x8_1 < 0) = true := dt_ c4
  clear c4
  have H' := A0_ H
  clear H
  try go_wp2
  replace BK1 := A0_ (kd_ BK1.out)
  replace HB := A0_ (bd_ HB.out)
  have p1 : 0 ≤ (x10_1 : Int) := od_ bpil_
  have q1 : x10_1 < (l1.length : Int) := od_ bpil_
  obtain ⟨ad1, e1, hx1_0⟩ := Kd.at_int HR1.out x10_1 p1 q1
  have hw279_0 := hx1_0
  cases e1
  replace hx1_0 := (HB.out.cell (World.block_lt_of_cell? w _ hx1_0)).trans hx1_0
  replace p1 := eq_true p1
  replace q1 := eq_true q1
  refine start_ (n := 8) (S := fun w' => w'.cell? ⟨gb1, 0, none⟩ = some (.int .i64 a0_0) ∧ w'.cell? ⟨gb1, 1, none⟩ = some (.bool a0_1) ∧ w'.cell? ⟨gb1, 2, none⟩ = some (.slice A0_2 l0_2.length c0_2) ∧ w'.cell? (ad1.add (x10_1).toNat) = some (.int .i64 (rd l1 x10_1))) (ds := []) #[false, false, false, false, false, false, false, false] bfqv_ rfl rfl ⟨(kc_ BK1.out 0).trans rfl, (kc_ BK1.out 1).trans rfl, (kc_ BK1.out 2).trans rfl, ((HB.out.cell (World.block_lt_of_cell? w _ hw279_0)).trans hw279_0)⟩ (fun hHeld => ?_); refine with_tabW spec_l2Nearest.tab5 spec_l2Nearest.bits5 (fun HT_ HW_ => ?_)
  generalize wr.drew = w2 at BK1 HB hx1_0 hHeld ⊢
  refine pu_ 1 19 ?_
  refine pu_ 2 20 ?_
  refine pu_ 3 21 ?_
  refine pu_ 4 22 ?_
  refine tk_ 0 18 hHeld ?_
  refine tk_ 5 23 hHeld ?_
  refine on_ 6 (some 24) (fun K hK => ?_)
  refine gs_ Tryd.func80 #[.agg #[.int .i64 a0_0, .bool a0_1, .slice A0_2 l0_2.length c0_2], .int .i64 a2, .int .i64 (rd l1 x10_1)] ?_
  with_reducible refine (spec_l2Gap.calls a0_0 a0_1 _ _ l0_2 a2 (rd l1 x10_1) t1 _ ?side1 ?side2 A3.out).mono ?_
  (case side1 => exact b6n8_)
  (case side2 => exact HC0_2.out)
  rintro e w3 ⟨rfl, hb⟩
  refine ⟨_, rfl, ?_⟩
  replace BK1 := k1_ BK1 hb
  replace HB := hb_ hb be6g_
  (try clear hb)
  refine hK.out _ _ ⟨(kc_ BK1.out 0).trans rfl, (kc_ BK1.out 1).trans rfl, (kc_ BK1.out 2).trans rfl, ((HB.out.cell (World.block_lt_of_cell? w _ hw279_0)).trans hw279_0)⟩ (fun hHeld => ?_)
  clear hK K
  refine nm_ 24 ?_
  refine pu_ 7 11 ?_
  refine dn_ ?_
  have p2 : 0 ≤ (x10_1 : Int) := od_ bpil_
  have q2 : x10_1 < (l1.length : Int) := od_ bpil_
  obtain ⟨ad2, e2, hx2_0⟩ := Kd.at_int HR1.out x10_1 p2 q2
  obtain rfl : ad1 = ad2 := bs6y_
  replace hx2_0 := (HB.out.cell (World.block_lt_of_cell? w _ hx2_0)).trans hx2_0
  replace p2 := eq_true p2
  replace q2 := eq_true q2
  try go_wp2
  go_roundg k1
  case measure => have := HK1.out; omega
  exact ⟨(rd l1 x10_1), (t1), (wrap64 (x10_1 + 1)), b2ew_, b2ew_, b2ew_, H', ⟨bxjq_⟩, ⟨u1_ BK1⟩, ⟨be6g_⟩⟩
 rw [if_neg c4] at H
 have c4b0 : decide (x8_1 < 0) = false := decide_eq_false c4
 clear c4
 by_cases c5 : t1 < x9_1
 case neg =>
  rw [if_neg c5] at H
  have c5b0 : decide (t1 < x9_1) = false := decide_eq_false c5
  clear c5
  have H' := A0_ H
  clear H
  try go_wp2
  replace BK1 := A0_ (kd_ BK1.out)
  replace HB := A0_ (bd_ HB.out)
  have p1 : 0 ≤ (x10_1 : Int) := od_ bpil_
  have q1 : x10_1 < (l1.length : Int) := od_ bpil_
  obtain ⟨ad1, e1, hx1_0⟩ := Kd.at_int HR1.out x10_1 p1 q1
  have hw279_0 := hx1_0
  cases e1
  replace hx1_0 := (HB.out.cell (World.block_lt_of_cell? w _ hx1_0)).trans hx1_0
  replace p1 := eq_true p1
  replace q1 := eq_true q1
  refine start_ (n := 8) (S := fun w' => w'.cell? ⟨gb1, 0, none⟩ = some (.int .i64 a0_0) ∧ w'.cell? ⟨gb1, 1, none⟩ = some (.bool a0_1) ∧ w'.cell? ⟨gb1, 2, none⟩ = some (.slice A0_2 l0_2.length c0_2) ∧ w'.cell? (ad1.add (x10_1).toNat) = some (.int .i64 (rd l1 x10_1))) (ds := []) #[false, false, false, false, false, false, false, false] bfqv_ rfl rfl ⟨(kc_ BK1.out 0).trans rfl, (kc_ BK1.out 1).trans rfl, (kc_ BK1.out 2).trans rfl, ((HB.out.cell (World.block_lt_of_cell? w _ hw279_0)).trans hw279_0)⟩ (fun hHeld => ?_); refine with_tabW spec_l2Nearest.tab5 spec_l2Nearest.bits5 (fun HT_ HW_ => ?_)
  generalize wr.drew = w2 at BK1 HB hx1_0 hHeld ⊢
  refine pu_ 1 19 ?_
  refine pu_ 2 20 ?_
  refine pu_ 3 21 ?_
  refine pu_ 4 22 ?_
  refine tk_ 0 18 hHeld ?_
  refine tk_ 5 23 hHeld ?_
  refine on_ 6 (some 24) (fun K hK => ?_)
  refine gs_ Tryd.func80 #[.agg #[.int .i64 a0_0, .bool a0_1, .slice A0_2 l0_2.length c0_2], .int .i64 a2, .int .i64 (rd l1 x10_1)] ?_
  with_reducible refine (spec_l2Gap.calls a0_0 a0_1 _ _ l0_2 a2 (rd l1 x10_1) t1 _ ?side1 ?side2 A3.out).mono ?_
  (case side1 => exact b6n8_)
  (case side2 => exact HC0_2.out)
  rintro e w3 ⟨rfl, hb⟩
  refine ⟨_, rfl, ?_⟩
  replace BK1 := k1_ BK1 hb
  replace HB := hb_ hb be6g_
  (try clear hb)
  refine hK.out _ _ ⟨(kc_ BK1.out 0).trans rfl, (kc_ BK1.out 1).trans rfl, (kc_ BK1.out 2).trans rfl, ((HB.out.cell (World.block_lt_of_cell? w _ hw279_0)).trans hw279_0)⟩ (fun hHeld => ?_)
  clear hK K
  refine nm_ 24 ?_
  refine pu_ 7 11 ?_
  refine dn_ ?_
  try go_wp2
  go_roundg k1
  case measure => have := HK1.out; omega
  exact ⟨(x8_1), (x9_1), (wrap64 (x10_1 + 1)), b2ew_, b2ew_, b2ew_, H', ⟨bxjq_⟩, ⟨u1_ BK1⟩, ⟨be6g_⟩⟩
 rw [if_pos c5] at H
 have c5b0 : decide (t1 < x9_1) = true := dt_ c5
 clear c5
 have H' := A0_ H
 clear H
 try go_wp2
 replace BK1 := A0_ (kd_ BK1.out)
 replace HB := A0_ (bd_ HB.out)
 have p1 : 0 ≤ (x10_1 : Int) := od_ bpil_
 have q1 : x10_1 < (l1.length : Int) := od_ bpil_
 obtain ⟨ad1, e1, hx1_0⟩ := Kd.at_int HR1.out x10_1 p1 q1
 have hw279_0 := hx1_0
 cases e1
 replace hx1_0 := (HB.out.cell (World.block_lt_of_cell? w _ hx1_0)).trans hx1_0
 replace p1 := eq_true p1
 replace q1 := eq_true q1
 refine start_ (n := 8) (S := fun w' => w'.cell? ⟨gb1, 0, none⟩ = some (.int .i64 a0_0) ∧ w'.cell? ⟨gb1, 1, none⟩ = some (.bool a0_1) ∧ w'.cell? ⟨gb1, 2, none⟩ = some (.slice A0_2 l0_2.length c0_2) ∧ w'.cell? (ad1.add (x10_1).toNat) = some (.int .i64 (rd l1 x10_1))) (ds := []) #[false, false, false, false, false, false, false, false] bfqv_ rfl rfl ⟨(kc_ BK1.out 0).trans rfl, (kc_ BK1.out 1).trans rfl, (kc_ BK1.out 2).trans rfl, ((HB.out.cell (World.block_lt_of_cell? w _ hw279_0)).trans hw279_0)⟩ (fun hHeld => ?_); refine with_tabW spec_l2Nearest.tab5 spec_l2Nearest.bits5 (fun HT_ HW_ => ?_)
 generalize wr.drew = w2 at BK1 HB hx1_0 hHeld ⊢
 refine pu_ 1 19 ?_
 refine pu_ 2 20 ?_
 refine pu_ 3 21 ?_
 refine pu_ 4 22 ?_
 refine tk_ 0 18 hHeld ?_
 refine tk_ 5 23 hHeld ?_
 refine on_ 6 (some 24) (fun K hK => ?_)
 refine gs_ Tryd.func80 #[.agg #[.int .i64 a0_0, .bool a0_1, .slice A0_2 l0_2.length c0_2], .int .i64 a2, .int .i64 (rd l1 x10_1)] ?_
 with_reducible refine (spec_l2Gap.calls a0_0 a0_1 _ _ l0_2 a2 (rd l1 x10_1) t1 _ ?side1 ?side2 A3.out).mono ?_
 (case side1 => exact b6n8_)
 (case side2 => exact HC0_2.out)
 rintro e w3 ⟨rfl, hb⟩
 refine ⟨_, rfl, ?_⟩
 replace BK1 := k1_ BK1 hb
 replace HB := hb_ hb be6g_
 (try clear hb)
 refine hK.out _ _ ⟨(kc_ BK1.out 0).trans rfl, (kc_ BK1.out 1).trans rfl, (kc_ BK1.out 2).trans rfl, ((HB.out.cell (World.block_lt_of_cell? w _ hw279_0)).trans hw279_0)⟩ (fun hHeld => ?_)
 clear hK K
 refine nm_ 24 ?_
 refine pu_ 7 11 ?_
 refine dn_ ?_
 have p2 : 0 ≤ (x10_1 : Int) := od_ bpil_
 have q2 : x10_1 < (l1.length : Int) := od_ bpil_
 obtain ⟨ad2, e2, hx2_0⟩ := Kd.at_int HR1.out x10_1 p2 q2
 obtain rfl : ad1 = ad2 := bs6y_
 replace hx2_0 := (HB.out.cell (World.block_lt_of_cell? w _ hx2_0)).trans hx2_0
 replace p2 := eq_true p2
 replace q2 := eq_true q2
 try go_wp2
 go_roundg k1
 case measure => have := HK1.out; omega
 exact ⟨(rd l1 x10_1), (t1), (wrap64 (x10_1 + 1)), b2ew_, b2ew_, b2ew_, H', ⟨bxjq_⟩, ⟨u1_ BK1⟩, ⟨be6g_⟩⟩

def spec_l2Farthest.f (k : Nat) (a0_0 : Int) (a0_1 : Bool) (l0_2 : List Int) (a1 : Int) : Option (Int) := (spec_l2Nearest.f k a0_0 a0_1 l0_2 l0_2 a1).bind fun bt284 => (some bt284.2)
theorem spec_l2Farthest.mono : ∀ a0 a1 a2 a3 k, LeO (spec_l2Farthest.f k a0 a1 a2 a3) (spec_l2Farthest.f (k + 1) a0 a1 a2 a3) := by
 intro a0 a1 a2 a3 k
 unfold spec_l2Farthest.f
 repeat' with_reducible first | exact spec_l2Nearest.mono .. | exact LeO.refl .. | exact LeO.none .. | refine LeO.ite ?_ ?_ | refine LeO.bind ?_ (fun _ => ?_)
theorem spec_l2Farthest.calls (k : Nat) (a0_0 : Int) (a0_1 : Bool) (A0_2 : Option Addr) (c0_2 : Nat) (l0_2 : List Int) (a1 : Int) (r : Int) (w : World) (hr0_2 : Kd.C (Kd.int .i64) w A0_2 l0_2.length l0_2) (hc0_2 : l0_2.length ≤ c0_2) (h : spec_l2Farthest.f k a0_0 a0_1 l0_2 a1 = some r) :
  Calls Tryd.prog 128 #[.agg #[.int .i64 a0_0, .bool a0_1, .slice A0_2 l0_2.length c0_2], .int .i64 a1] w fun e w' => e = .returned (.int .i64 r) ∧ Below w.heap.size w w' := by
 have hu24 := Tryd.underlying24
 have HR0_2 := A0_ hr0_2
 have HC0_2 := A0_ hc0_2
 clear hr0_2 hc0_2
 have HB := A0_ (Below.refl w.heap.size w)
 have H : ((spec_l2Nearest.f k a0_0 a0_1 l0_2 l0_2 a1).bind fun bt1 => (some bt1.2)) = some r := h
 clear h
 obtain ⟨⟨t1, t2⟩, A2, H⟩ := o1_ H
 replace H : (some t2) = some r := H
 obtain rfl := si_ H
 go_enter Tryd.func128, Tryd.ntmps128
 go_wp2_with (first | ((with_reducible refine gd_ (N := 2) rfl ?_); refine bx_ 2 #[.int .i64 a0_0, .bool a0_1, .slice A0_2 l0_2.length c0_2] 24 ?_; intro gb1 hg w1 BK1 hb; have GW1 := ge_ hg brt4_; have GE1 := GW1; replace HB := hb_ hb brt4_; clear hb hg; have hcz1 := c3_ BK1) | ((with_reducible refine gc_ (f := 131) rfl ?_); refine gl_ 12 Tryd.func131 #[.agg #[.int .i64 a0_0, .bool a0_1, .slice A0_2 l0_2.length c0_2], .slice A0_2 l0_2.length c0_2, .int .i64 a1] ?_; (with_reducible refine (spec_l2Nearest.calls k a0_0 a0_1 _ _ l0_2 _ _ l0_2 a1 t1 t2 _ ?side1 ?side2 ?side3 ?side4 A2.out).mono ?_); (case side1 => exact b6n8_); (case side2 => exact HC0_2.out); (case side3 => exact b6n8_); (case side4 => exact HC0_2.out); rintro e w2 ⟨rfl, hb⟩; refine ⟨_, rfl, ?_⟩; replace BK1 := k1_ BK1 hb; replace HB := hb_ hb be6g_; (try clear hb)))
 go_ret
 exact ⟨bnwh_, be6g_⟩

def spec_l3Far.f (k : Nat) (a0_0 : Int) (a0_1 : Bool) (l0_2 : List Int) (a1 : Int) : Option (Int) := if (l0_2.length : Int) = 0 then (some a0_0) else ((spec_l2Farthest.f k a0_0 a0_1 l0_2 a1).bind fun t287 => (some t287))
theorem spec_l3Far.mono : ∀ a0 a1 a2 a3 k, LeO (spec_l3Far.f k a0 a1 a2 a3) (spec_l3Far.f (k + 1) a0 a1 a2 a3) := by
 intro a0 a1 a2 a3 k
 unfold spec_l3Far.f
 repeat' with_reducible first | exact spec_l2Farthest.mono .. | exact LeO.refl .. | exact LeO.none .. | refine LeO.ite ?_ ?_ | refine LeO.bind ?_ (fun _ => ?_)
theorem spec_l3Far.calls (k : Nat) (a0_0 : Int) (a0_1 : Bool) (A0_2 : Option Addr) (c0_2 : Nat) (l0_2 : List Int) (a1 : Int) (r : Int) (w : World) (hr0_2 : Kd.C (Kd.int .i64) w A0_2 l0_2.length l0_2) (hc0_2 : l0_2.length ≤ c0_2) (h : spec_l3Far.f k a0_0 a0_1 l0_2 a1 = some r) :
  Calls Tryd.prog 119 #[.agg #[.int .i64 a0_0, .bool a0_1, .slice A0_2 l0_2.length c0_2], .int .i64 a1] w fun e w' => e = .returned (.int .i64 r) ∧ Below w.heap.size w w' := by
 have hu24 := Tryd.underlying24
 have HR0_2 := A0_ hr0_2
 have HC0_2 := A0_ hc0_2
 clear hr0_2 hc0_2
 have HB := A0_ (Below.refl w.heap.size w)
 have H : (if (l0_2.length : Int) = 0 then (some a0_0) else ((spec_l2Farthest.f k a0_0 a0_1 l0_2 a1).bind fun t1 => (some t1))) = some r := h
 clear h
 by_cases c1 : (l0_2.length : Int) = 0
 ·rw [if_pos c1] at H
  obtain ⟨c1b0, c1b1⟩ := et_ c1
  clear c1
  obtain rfl := si_ H
  go_enter Tryd.func119, Tryd.ntmps119
  go_wp2_with (first | ((with_reducible refine gd_ (N := 2) rfl ?_); refine bx_ 2 #[.int .i64 a0_0, .bool a0_1, .slice A0_2 l0_2.length c0_2] 24 ?_; intro gb1 hg w1 BK1 hb; have GW1 := ge_ hg brt4_; have GE1 := GW1; replace HB := hb_ hb brt4_; clear hb hg; have hcz1 := c3_ BK1))
  go_ret
  exact ⟨bnwh_, be6g_⟩
 rw [if_neg c1] at H
 obtain ⟨c1b0, c1b1⟩ := ef_ c1
 have c1b2 : ¬ (l0_2 = []) := fun h_ => c1 (by rw [h_]; rfl)
 obtain ⟨t1, A2, H⟩ := o1_ H
 replace H : (some t1) = some r := H
 obtain rfl := si_ H
 go_enter Tryd.func119, Tryd.ntmps119
 go_wp2_with (first | ((with_reducible refine gd_ (N := 2) rfl ?_); refine bx_ 2 #[.int .i64 a0_0, .bool a0_1, .slice A0_2 l0_2.length c0_2] 24 ?_; intro gb1 hg w1 BK1 hb; have GW1 := ge_ hg brt4_; have GE1 := GW1; replace HB := hb_ hb brt4_; clear hb hg; have hcz1 := c3_ BK1) | ((with_reducible refine gc_ (f := 128) rfl ?_); refine gl_ 13 Tryd.func128 #[.agg #[.int .i64 a0_0, .bool a0_1, .slice A0_2 l0_2.length c0_2], .int .i64 a1] ?_; (with_reducible refine (spec_l2Farthest.calls k a0_0 a0_1 _ _ l0_2 a1 t1 _ ?side1 ?side2 A2.out).mono ?_); (case side1 => exact b6n8_); (case side2 => exact HC0_2.out); rintro e w2 ⟨rfl, hb⟩; refine ⟨_, rfl, ?_⟩; replace BK1 := k1_ BK1 hb; replace HB := hb_ hb be6g_; (try clear hb)))
 go_ret
 exact ⟨bnwh_, be6g_⟩

def spec_l3All.l0 : Nat → List Int → Int → Int → Bool → List Int → Option (List Int)
 | 0, _, _, _, _, _ => none
 | k + 1, x3, x4, x289000, x289001, x289002 => if x4 < x289000 then ((spec_l3Far.f k x289000 x289001 x289002 x4).bind fun t292 => (if x3.length < 17592186044416 then (spec_l3All.l0 k (x3 ++ [t292]) (wrap64 (x4 + 1)) x289000 x289001 x289002) else (none))) else (some x3)
def spec_l3All.f (k : Nat) (a0_0 : Int) (a0_1 : Bool) (l0_2 : List Int) : Option (List Int) := spec_l3All.l0 k (([] : List Int)) 0 a0_0 a0_1 l0_2
theorem spec_l3All.mono_l : ∀ k, (∀ y0 y1 y2 y3 y4, LeO (spec_l3All.l0 k y0 y1 y2 y3 y4) (spec_l3All.l0 (k + 1) y0 y1 y2 y3 y4))
 | 0 => fun _ _ _ _ _ r h => by simp [spec_l3All.l0] at h
 | k + 1 => by
  have ih0 := spec_l3All.mono_l k
  ·intro y0 y1 y2 y3 y4
   unfold spec_l3All.l0
   repeat' with_reducible first | exact ih0 .. | exact spec_l3Far.mono .. | exact LeO.refl .. | exact LeO.none .. | refine LeO.ite ?_ ?_ | refine LeO.bind ?_ (fun _ => ?_)
theorem spec_l3All.mono : ∀ a0 a1 a2 k, LeO (spec_l3All.f k a0 a1 a2) (spec_l3All.f (k + 1) a0 a1 a2) := by
 intro a0 a1 a2 k
 have ih0 := spec_l3All.mono_l k
 unfold spec_l3All.f
 repeat' with_reducible first | exact ih0 .. | exact spec_l3Far.mono .. | exact LeO.refl .. | exact LeO.none .. | refine LeO.ite ?_ ?_ | refine LeO.bind ?_ (fun _ => ?_)
theorem spec_l3All.calls (k : Nat) (a0_0 : Int) (a0_1 : Bool) (A0_2 : Option Addr) (c0_2 : Nat) (l0_2 : List Int) (r : List Int) (w : World) (hr0_2 : Kd.C (Kd.int .i64) w A0_2 l0_2.length l0_2) (hc0_2 : l0_2.length ≤ c0_2) (h : spec_l3All.f k a0_0 a0_1 l0_2 = some r) :
  Calls Tryd.prog 101 #[.agg #[.int .i64 a0_0, .bool a0_1, .slice A0_2 l0_2.length c0_2]] w fun e w' => ∃ v0_ : Value, e = .returned (v0_) ∧ Kd.R (Kd.int .i64) 3 w' w.heap.size (fun _ => True) v0_ r ∧ Below w.heap.size w w' := by
 have hu24 := Tryd.underlying24
 have HR0_2 := A0_ hr0_2
 have HC0_2 := A0_ hc0_2
 clear hr0_2 hc0_2
 have HB := A0_ (Below.refl w.heap.size w)
 have H : (spec_l3All.l0 k (([] : List Int)) 0 a0_0 a0_1 l0_2) = some r := h
 clear h
 obtain ⟨y1, hy1⟩ : ∃ y_ : List Int, y_ = (([] : List Int)) := ⟨_, rfl⟩
 replace H : (spec_l3All.l0 k y1 0 a0_0 a0_1 l0_2) = some r := bgiq_
 have Ny1 := A0_ hy1
 clear hy1
 have H' := A0_ H
 clear H
 go_enter Tryd.func101, Tryd.ntmps101
 go_wp2_with (first | ((with_reducible refine gd_ (N := 1) rfl ?_); refine bx_ 1 #[.int .i64 a0_0, .bool a0_1, .slice A0_2 l0_2.length c0_2] 24 ?_; intro gb1 hg w1 BK1 hb; have GW1 := ge_ hg brt4_; have GE1 := GW1; replace HB := hb_ hb brt4_; clear hb hg) | ((with_reducible refine gd_ (N := 5) rfl ?_); refine Kd.R_lit (Kd.int .i64) _ 3 ?hg (N := 5) ?hd (xs := ([] : List Int)) (inner := []) (ok := fun _ => True) (okp := fun _ => True) ?hr ?hp (fun _ hk => hk) trivial (Below.refl _ _) (Nat.le_refl _) bxka_ ?_; (case hd => rfl); (case hg => rfl); (case hr => go_simp; first | done | rfl); (case hp => exact (Reps.none _ _)); intro v1 w2 ho4 hb hg_ hnew_; clear hg_ hnew_; (first | rw [← Ny1.out] at ho4 | (simp only [Int.reduceToNat] at ho4; rw [← Ny1.out] at ho4)); have HO1 := A0_ (Kd.R_lower ho4 (bz_ be6g_)); replace BK1 := k1_ BK1 hb; replace HB := hb_ hb be6g_; clear hb ho4))
 go_loopg [3, 4] k (fun kq v2 v3 w' => ∃ (x3_1 : List Int) (x4_1 : Int), v3 = .int .i64 x4_1 ∧ Aside0 (spec_l3All.l0 kq x3_1 x4_1 a0_0 a0_1 l0_2 = some r) ∧ Aside0 (kq ≤ k) ∧ Aside0 (Kd.R (Kd.int .i64) 3 w' w.heap.size (fun _ => True) v2 x3_1) ∧ Aside0 (w'.heap[gb1]? = some (.cells #[.int .i64 a0_0, .bool a0_1, (.slice A0_2 l0_2.length c0_2)] 24 (0, 0))) ∧ Aside0 (Below w.heap.size w w'))
 case atStart => exact ⟨(y1), (0), b2ew_, H', ⟨Nat.le_refl _⟩, ⟨bsm5_⟩, ⟨u1_ BK1⟩, ⟨be6g_⟩⟩
 clear H'
 obtain ⟨x3_1, x4_1, rfl, HA, HK1, HO_1, BK1, HB⟩ := hrel
 cases gk with | zero => exact absurd HA.out (by simp [spec_l3All.l0]) | succ k1 => ?_
 have H := HA.out
 clear HA
 simp only [spec_l3All.l0] at H
 by_cases c1 : x4_1 < a0_0
 case neg =>
  rw [if_neg c1] at H
  have c1b0 : decide (x4_1 < a0_0) = false := decide_eq_false c1
  clear c1
  obtain rfl := si_ H
  have hcz1 := c3_ BK1
  go_wp2
  go_ret
  exact ⟨_, bnwh_, bwik_, be6g_⟩
 rw [if_pos c1] at H
 have c1b0 : decide (x4_1 < a0_0) = true := dt_ c1
 clear c1
 obtain ⟨t1, A2, H⟩ := o1_ H
 by_cases c2 : x3_1.length < 17592186044416
 case neg =>
  rw [if_neg c2] at H
  exact absurd H bxka_
 rw [if_pos c2] at H
 have LMc1 := A0_ c2
 clear c2
 obtain ⟨y2, hy2⟩ : ∃ y_ : List Int, y_ = (x3_1 ++ [t1]) := ⟨_, rfl⟩
 replace H : (spec_l3All.l0 k1 y2 (wrap64 (x4_1 + 1)) a0_0 a0_1 l0_2) = some r := bscs_
 have Ny2 := A0_ hy2
 clear hy2
 have H' := A0_ H
 clear H
 have hcz1 := c3_ BK1
 go_wp2_with (first | ((with_reducible refine gc_ (f := 119) rfl ?_); refine gl_ 15 Tryd.func119 #[.agg #[.int .i64 a0_0, .bool a0_1, .slice A0_2 l0_2.length c0_2], .int .i64 x4_1] ?_; (with_reducible refine (spec_l3Far.calls k1 a0_0 a0_1 _ _ l0_2 x4_1 t1 _ ?side1 ?side2 A2.out).mono ?_); (case side1 => exact b6n8_); (case side2 => exact HC0_2.out); rintro e w3 ⟨rfl, hb⟩; refine ⟨_, rfl, ?_⟩; replace HO_1 := A0_ (Kd.R_below bwik_ hb); replace BK1 := k1_ BK1 hb; replace HB := hb_ hb be6g_; (try clear hb)) | ((with_reducible refine gate_builtin (b := .append) (xs := #[.tmp 12, .tmp 16]) rfl ?_); at_builtin; refine Kd.R_append (Kd.int .i64) (w0 := w) w.heap.size rfl (.tmp 12) (.tmp 16) 22 3 (.int .i64 0) 8 rfl Tryd.underlying22 info3 rfl bi3y_ bh19_ u3 x3_1 t1 [.int .i64 t1] (fun _ => True) (fun _ => False) rfl rfl ?aP (fun _ hk => hk.elim) ?aF ?aO ?aB ?aS ?aL ?_; (case aP => exact rfl); (case aB => exact be6g_); (case aF => exact (fun _ _ => trivial)); (case aO => exact bwik_); (case aS => exact (bz_ be6g_)); (case aL => have := LMc1.out; omega); intro v4 w4 ho hb hg hat; rw [← Ny2.out] at ho; have n0_ := A0_ (blk_grown (g := gb1) (o := .cells #[.int .i64 a0_0, .bool a0_1, .slice A0_2 l0_2.length c0_2] 24 (0, 0)) (u1_ BK1) hg (Kd.R_ne HO_1.out BK1.out bi3y_)); have n1_ := A0_ (hb); have n2_ := A0_ (ho); clear BK1 HB HO_1; have BK1 := n0_; have HB := n1_; have HO2 := n2_; clear n0_ n1_ n2_ ho hb hg hat))
 go_roundg k1
 case measure => have := HK1.out; omega
 exact ⟨(y2), (wrap64 (x4_1 + 1)), b2ew_, H', ⟨bxjq_⟩, ⟨b9so_⟩, ⟨u1_ BK1⟩, ⟨be6g_⟩⟩

mutual
def spec_l3Polite.l0 : Nat → List Int → List Int → Int → Int → Int → Bool → List Int → Option (List Int)
 | 0, _, _, _, _, _, _, _ => none
 | k + 1, x3, x4, x5, x6, x297000, x297001, x297002 => if x6 < x297000 then (if 0 ≤ x6 then (if x6 < (x4.length : Int) then ((spec_l1Most.f x5 (rd x4 x6)).bind fun t304 => (spec_l3Polite.l0 k x3 x4 t304 (wrap64 (x6 + 1)) x297000 x297001 x297002)) else (none)) else (none)) else (spec_l3Polite.l1 k x3 x4 x5 0 x297000 x297001 x297002)
def spec_l3Polite.l1 : Nat → List Int → List Int → Int → Int → Int → Bool → List Int → Option (List Int)
 | 0, _, _, _, _, _, _, _ => none
 | k + 1, x3, x4, x5, x7, x297000, x297001, x297002 => if x7 < x297000 then (spec_l3Polite.j2 k x3 x4 x5 x7 (decide (x5 > 0)) x297000 x297001 x297002) else (spec_l3Polite.j2 k x3 x4 x5 x7 false x297000 x297001 x297002)
def spec_l3Polite.j2 : Nat → List Int → List Int → Int → Int → Bool → Int → Bool → List Int → Option (List Int)
 | 0, _, _, _, _, _, _, _, _ => none
 | k + 1, x3, x4, x5, x7, x30, x297000, x297001, x297002 => if x30 = true then (if 0 ≤ x7 then (if x7 < (x4.length : Int) then (if (rd x4 x7) = x5 then (if x3.length < 17592186044416 then (spec_l3Polite.l1 k (x3 ++ [x7]) x4 x5 (wrap64 (x7 + 1)) x297000 x297001 x297002) else (none)) else (spec_l3Polite.l1 k x3 x4 x5 (wrap64 (x7 + 1)) x297000 x297001 x297002)) else (none)) else (none)) else (some x3)
end
def spec_l3Polite.f (k : Nat) (a0_0 : Int) (a0_1 : Bool) (l0_2 : List Int) : Option (List Int) := (spec_l3All.f k a0_0 a0_1 l0_2).bind fun t300 => (spec_l3Polite.l0 k (([] : List Int)) t300 0 0 a0_0 a0_1 l0_2)
theorem spec_l3Polite.mono_l : ∀ k, (∀ y0 y1 y2 y3 y4 y5 y6, LeO (spec_l3Polite.l0 k y0 y1 y2 y3 y4 y5 y6) (spec_l3Polite.l0 (k + 1) y0 y1 y2 y3 y4 y5 y6)) ∧ (∀ y0 y1 y2 y3 y4 y5 y6, LeO (spec_l3Polite.l1 k y0 y1 y2 y3 y4 y5 y6) (spec_l3Polite.l1 (k + 1) y0 y1 y2 y3 y4 y5 y6)) ∧ (∀ y0 y1 y2 y3 y4 y5 y6 y7, LeO (spec_l3Polite.j2 k y0 y1 y2 y3 y4 y5 y6 y7) (spec_l3Polite.j2 (k + 1) y0 y1 y2 y3 y4 y5 y6 y7))
 | 0 => ⟨fun _ _ _ _ _ _ _ r h => by simp [spec_l3Polite.l0] at h, fun _ _ _ _ _ _ _ r h => by simp [spec_l3Polite.l1] at h, fun _ _ _ _ _ _ _ _ r h => by simp [spec_l3Polite.j2] at h⟩
 | k + 1 => by
  obtain ⟨ih0, ih1, ih2⟩ := spec_l3Polite.mono_l k
  refine ⟨?_, ?_, ?_⟩
  ·intro y0 y1 y2 y3 y4 y5 y6
   unfold spec_l3Polite.l0
   repeat' with_reducible first | exact ih0 .. | exact ih1 .. | exact ih2 .. | exact spec_l3All.mono .. | exact LeO.refl .. | exact LeO.none .. | refine LeO.ite ?_ ?_ | refine LeO.bind ?_ (fun _ => ?_)
  ·intro y0 y1 y2 y3 y4 y5 y6
   unfold spec_l3Polite.l1
   repeat' with_reducible first | exact ih0 .. | exact ih1 .. | exact ih2 .. | exact spec_l3All.mono .. | exact LeO.refl .. | exact LeO.none .. | refine LeO.ite ?_ ?_ | refine LeO.bind ?_ (fun _ => ?_)
  ·intro y0 y1 y2 y3 y4 y5 y6 y7
   unfold spec_l3Polite.j2
   repeat' with_reducible first | exact ih0 .. | exact ih1 .. | exact ih2 .. | exact spec_l3All.mono .. | exact LeO.refl .. | exact LeO.none .. | refine LeO.ite ?_ ?_ | refine LeO.bind ?_ (fun _ => ?_)
theorem spec_l3Polite.mono : ∀ a0 a1 a2 k, LeO (spec_l3Polite.f k a0 a1 a2) (spec_l3Polite.f (k + 1) a0 a1 a2) := by
 intro a0 a1 a2 k
 obtain ⟨ih0, ih1, ih2⟩ := spec_l3Polite.mono_l k
 unfold spec_l3Polite.f
 repeat' with_reducible first | exact ih0 .. | exact ih1 .. | exact ih2 .. | exact spec_l3All.mono .. | exact LeO.refl .. | exact LeO.none .. | refine LeO.ite ?_ ?_ | refine LeO.bind ?_ (fun _ => ?_)
theorem spec_l3Polite.calls (k : Nat) (a0_0 : Int) (a0_1 : Bool) (A0_2 : Option Addr) (c0_2 : Nat) (l0_2 : List Int) (r : List Int) (w : World) (hr0_2 : Kd.C (Kd.int .i64) w A0_2 l0_2.length l0_2) (hc0_2 : l0_2.length ≤ c0_2) (h : spec_l3Polite.f k a0_0 a0_1 l0_2 = some r) :
  Calls Tryd.prog 87 #[.agg #[.int .i64 a0_0, .bool a0_1, .slice A0_2 l0_2.length c0_2]] w fun e w' => ∃ v0_ : Value, e = .returned (v0_) ∧ Kd.R (Kd.int .i64) 3 w' w.heap.size (fun _ => True) v0_ r ∧ Below w.heap.size w w' := by
 have hu24 := Tryd.underlying24
 have HR0_2 := A0_ hr0_2
 have HC0_2 := A0_ hc0_2
 clear hr0_2 hc0_2
 have HB := A0_ (Below.refl w.heap.size w)
 have H : ((spec_l3All.f k a0_0 a0_1 l0_2).bind fun t1 => (spec_l3Polite.l0 k (([] : List Int)) t1 0 0 a0_0 a0_1 l0_2)) = some r := h
 clear h
 obtain ⟨y1, hy1⟩ : ∃ y_ : List Int, y_ = (([] : List Int)) := ⟨_, rfl⟩
 replace H : ((spec_l3All.f k a0_0 a0_1 l0_2).bind fun t1 => (spec_l3Polite.l0 k y1 t1 0 0 a0_0 a0_1 l0_2)) = some r := bgiq_
 have Ny1 := A0_ hy1
 clear hy1
 obtain ⟨t1, A2, H⟩ := o1_ H
 have H' := A0_ H
 clear H
 go_enter Tryd.func87, Tryd.ntmps87
 go_wp2_with (first | ((with_reducible refine gd_ (N := 1) rfl ?_); refine bx_ 1 #[.int .i64 a0_0, .bool a0_1, .slice A0_2 l0_2.length c0_2] 24 ?_; intro gb1 hg w1 BK1 hb; have GW1 := ge_ hg brt4_; have GE1 := GW1; replace HB := hb_ hb brt4_; clear hb hg) | ((with_reducible refine gd_ (N := 8) rfl ?_); refine Kd.R_lit (Kd.int .i64) _ 3 ?hg (N := 8) ?hd (xs := ([] : List Int)) (inner := []) (ok := fun _ => True) (okp := fun _ => True) ?hr ?hp (fun _ hk => hk) trivial (Below.refl _ _) (Nat.le_refl _) bxka_ ?_; (case hd => rfl); (case hg => rfl); (case hr => go_simp; first | done | rfl); (case hp => exact (Reps.none _ _)); intro v1 w2 ho5 hb hg_ hnew_; clear hg_ hnew_; (first | rw [← Ny1.out] at ho5 | (simp only [Int.reduceToNat] at ho5; rw [← Ny1.out] at ho5)); have HO1 := A0_ (Kd.R_lower ho5 (bz_ be6g_)); replace BK1 := k1_ BK1 hb; replace HB := hb_ hb be6g_; clear hb ho5; have hcz1 := c3_ BK1) | ((with_reducible refine gc_ (f := 101) rfl ?_); refine gl_ 10 Tryd.func101 #[.agg #[.int .i64 a0_0, .bool a0_1, .slice A0_2 l0_2.length c0_2]] ?_; (with_reducible refine (spec_l3All.calls k a0_0 a0_1 _ _ l0_2 t1 _ ?side1 ?side2 A2.out).mono ?_); (case side1 => exact b6n8_); (case side2 => exact HC0_2.out); rintro e w3 ⟨v2, rfl, ho0, hb⟩; refine ⟨_, rfl, ?_⟩; have HO2 := A0_ (Kd.R_lower (Kd.R_new' ho0 (Kd.R_lt bsm5_)) (bz_ be6g_)); replace HO1 := A0_ (Kd.R_elder' bsm5_ (Kd.R_base ho0) hb); replace BK1 := k1_ BK1 hb; replace HB := hb_ hb be6g_; (try clear hb); (try clear ho0)))
 go_loopg [5, 6] k (fun kq v3 v4 w' => ∃ (x5_1 : Int) (x6_1 : Int), v3 = .int .i64 x5_1 ∧ v4 = .int .i64 x6_1 ∧ Aside0 (spec_l3Polite.l0 kq y1 t1 x5_1 x6_1 a0_0 a0_1 l0_2 = some r) ∧ Aside0 (kq ≤ k) ∧ Aside0 (Kd.R (Kd.int .i64) 3 w' w.heap.size (fun k_ => no_ v2 k_) v1 y1) ∧ Aside0 (Kd.R (Kd.int .i64) 3 w' w.heap.size (fun k_ => no_ v1 k_) v2 t1) ∧ Aside0 (w'.heap[gb1]? = some (.cells #[.int .i64 a0_0, .bool a0_1, (.slice A0_2 l0_2.length c0_2)] 24 (0, 0))) ∧ Aside0 (Below w.heap.size w w'))
 case atStart => exact ⟨(0), (0), b2ew_, b2ew_, H', ⟨Nat.le_refl _⟩, ⟨b48f_⟩, ⟨b61e_⟩, ⟨u1_ BK1⟩, ⟨be6g_⟩⟩
 clear H'
 (try clear hcz1)
 obtain ⟨x5_1, x6_1, rfl, rfl, HA, HK1, HO_1, HO_2, BK1, HB⟩ := hrel
 cases gk with | zero => exact absurd HA.out (by simp [spec_l3Polite.l0]) | succ k1 => ?_
 have H := HA.out
 clear HA
 simp only [spec_l3Polite.l0] at H
 by_cases c1 : x6_1 < a0_0
 ·rw [if_pos c1] at H
  have c1b0 : decide (x6_1 < a0_0) = true := dt_ c1
  clear c1
  by_cases c2 : 0 ≤ x6_1
  case neg =>
   rw [if_neg c2] at H
   exact absurd H bxka_
  rw [if_pos c2] at H
  have c2b0 : decide (0 ≤ x6_1) = true := dt_ c2
  clear c2
  by_cases c3 : x6_1 < (t1.length : Int)
  case neg =>
   rw [if_neg c3] at H
   exact absurd H bxka_
  rw [if_pos c3] at H
  have c3b0 : decide (x6_1 < (t1.length : Int)) = true := dt_ c3
  clear c3
  obtain ⟨t2, A4, H⟩ := o1_ H
  have H' := A0_ H
  clear H
  have hcz2 := c3_ BK1
  obtain ⟨Ao1, co1, eo1⟩ := Kd.R_slice HO_2.out
  subst eo1
  have p1 : 0 ≤ (x6_1 : Int) := od_ bpil_
  have q1 : x6_1 < (t1.length : Int) := od_ bpil_
  obtain ⟨ad1, e1, hx1_0⟩ := Kd.at_int (rr_ HO_2.out).2.2 x6_1 p1 q1
  cases e1
  replace p1 := eq_true p1
  replace q1 := eq_true q1
  go_wp2_with (first | ((with_reducible refine gc_ (f := 96) rfl ?_); refine gl_ 22 Tryd.func96 #[.int .i64 x5_1, .int .i64 (rd t1 x6_1)] ?_; (with_reducible refine (spec_l1Most.calls x5_1 (rd t1 x6_1) t2 _ A4.out).mono ?_); rintro e w' ⟨rfl, ⟨nd, rfl⟩⟩; refine ⟨_, rfl, ?_⟩))
  go_roundg k1
  case measure => have := HK1.out; omega
  exact ⟨(t2), (wrap64 (x6_1 + 1)), b2ew_, b2ew_, H', ⟨bxjq_⟩, ⟨bwik_⟩, ⟨b7sq_⟩, ⟨u1_ BK1⟩, ⟨be6g_⟩⟩
 rw [if_neg c1] at H
 have c1b0 : decide (x6_1 < a0_0) = false := decide_eq_false c1
 clear c1
 have H' := A0_ H
 clear H
 have hcz2 := c3_ BK1
 go_wp2
 go_loopg [3, 7] k1 (fun kq v5 v6 w' => ∃ (x3_2 : List Int) (x7_2 : Int), v6 = .int .i64 x7_2 ∧ Aside0 (spec_l3Polite.l1 kq x3_2 t1 x5_1 x7_2 a0_0 a0_1 l0_2 = some r) ∧ Aside0 (kq ≤ k1) ∧ Aside0 (Kd.R (Kd.int .i64) 3 w' w.heap.size (fun k_ => no_ v2 k_) v5 x3_2) ∧ Aside0 (Kd.R (Kd.int .i64) 3 w' w.heap.size (fun k_ => no_ v5 k_) v2 t1) ∧ Aside0 (w'.heap[gb1]? = some (.cells #[.int .i64 a0_0, .bool a0_1, (.slice A0_2 l0_2.length c0_2)] 24 (0, 0))) ∧ Aside0 (Below w.heap.size w w'))
 case atStart => exact ⟨(y1), (0), b2ew_, H', ⟨Nat.le_refl _⟩, ⟨bwik_⟩, ⟨b7sq_⟩, ⟨u1_ BK1⟩, ⟨be6g_⟩⟩
 clear H'
 try clear c1
 try clear c1b0
 (try clear hcz2); (try clear hcz1)
 obtain ⟨x3_2, x7_2, rfl, HA, HK2, HO_1, HO_2, BK1, HB⟩ := hrel
 cases gk with | zero => exact absurd HA.out (by simp [spec_l3Polite.l1]) | succ k2 => ?_
 have H := HA.out
 clear HA
 simp only [spec_l3Polite.l1] at H
 have HC15 := A0_ H
 clear H
 go_upto_region 8 with (fail)
 go_cut [30] (fun v7 wc => ∃ (kq : Nat) (x30_14 : Bool), v7 = .bool x30_14 ∧ Aside0 (spec_l3Polite.j2 kq x3_2 t1 x5_1 x7_2 x30_14 a0_0 a0_1 l0_2 = some r) ∧ Aside0 (kq ≤ k2) ∧ Aside0 (Kd.R (Kd.int .i64) 3 wc w.heap.size (fun k_ => no_ v2 k_) u3 x3_2) ∧ Aside0 (Kd.R (Kd.int .i64) 3 wc w.heap.size (fun k_ => no_ u3 k_) v2 t1) ∧ Aside0 (wc.heap[gb1]? = some (.cells #[.int .i64 a0_0, .bool a0_1, (.slice A0_2 l0_2.length c0_2)] 24 (0, 0))) ∧ Aside0 (Below w.heap.size w wc))
 case first =>
  have H := HC15.out
  clear HC15
  by_cases c2 : x7_2 < a0_0
  ·rw [if_pos c2] at H
   have c2b0 : decide (x7_2 < a0_0) = true := dt_ c2
   clear c2
   (first | rw [c2b0] | (simp only [i64_w, i32_w]; rw [c2b0]) | skip)
   have H' := A0_ H
   clear H
   have hcz3 := c3_ BK1
   go_wp2
   go_meet
   exact ⟨_, (decide (x5_1 > 0)), b2ew_, H', ⟨by have := HK1.out; have := HK2.out; first | omega | exact Nat.le_refl _⟩, ⟨bwik_⟩, ⟨b7sq_⟩, ⟨u1_ BK1⟩, ⟨be6g_⟩⟩
  rw [if_neg c2] at H
  have c2b0 : decide (x7_2 < a0_0) = false := decide_eq_false c2
  clear c2
  (first | rw [c2b0] | (simp only [i64_w, i32_w]; rw [c2b0]) | skip)
  have H' := A0_ H
  clear H
  have hcz3 := c3_ BK1
  go_wp2
  go_meet
  exact ⟨_, (false), b2ew_, H', ⟨by have := HK1.out; have := HK2.out; first | omega | exact Nat.le_refl _⟩, ⟨bwik_⟩, ⟨b7sq_⟩, ⟨u1_ BK1⟩, ⟨be6g_⟩⟩
 clear HC15
 try clear c1
 try clear c1b0
 (try clear hcz2); (try clear hcz1)
 obtain ⟨kq, x30_14, rfl, HA, HJ1, HO_1, HO_2, BK1, HB⟩ := hcut
 cases kq with | zero => exact absurd HA.out (by simp [spec_l3Polite.j2]) | succ kj1 => ?_
 have H := HA.out
 clear HA
 simp only [spec_l3Polite.j2] at H
 by_cases c2 : x30_14 = true
 case neg =>
  obtain rfl := bf_.mpr c2
  rw [if_neg ft_] at H
  obtain rfl := si_ H
  go_wp2
  go_ret
  exact ⟨_, bnwh_, bzf8_, be6g_⟩
 subst c2
 rw [if_pos rfl] at H
 by_cases c3 : 0 ≤ x7_2
 case neg =>
  rw [if_neg c3] at H
  exact absurd H bxka_
 rw [if_pos c3] at H
 have c3b0 : decide (0 ≤ x7_2) = true := dt_ c3
 clear c3
 by_cases c4 : x7_2 < (t1.length : Int)
 case neg =>
  rw [if_neg c4] at H
  exact absurd H bxka_
 rw [if_pos c4] at H
 have c4b0 : decide (x7_2 < (t1.length : Int)) = true := dt_ c4
 clear c4
 by_cases c5 : (rd t1 x7_2) = x5_1
 case neg =>
  rw [if_neg c5] at H
  obtain ⟨c5b0, c5b1⟩ := ef_ c5
  have H' := A0_ H
  clear H
  obtain ⟨Ao1, co1, eo1⟩ := Kd.R_slice HO_2.out
  subst eo1
  have p1 : 0 ≤ (x7_2 : Int) := od_ bpil_
  have q1 : x7_2 < (t1.length : Int) := od_ bpil_
  obtain ⟨ad1, e1, hx1_0⟩ := Kd.at_int (rr_ HO_2.out).2.2 x7_2 p1 q1
  cases e1
  replace p1 := eq_true p1
  replace q1 := eq_true q1
  go_wp2
  go_roundg kj1
  case measure => have := HK1.out; have := HK2.out; have := HJ1.out; omega
  exact ⟨(x3_2), (wrap64 (x7_2 + 1)), b2ew_, H', ⟨by have := HK1.out; have := HK2.out; have := HJ1.out; omega⟩, ⟨bwik_⟩, ⟨b7sq_⟩, ⟨u1_ BK1⟩, ⟨be6g_⟩⟩
 rw [if_pos c5] at H
 obtain ⟨c5b0, c5b1⟩ := et_ c5
 clear c5
 by_cases c6 : x3_2.length < 17592186044416
 case neg =>
  rw [if_neg c6] at H
  exact absurd H bxka_
 rw [if_pos c6] at H
 have LMc1 := A0_ c6
 clear c6
 obtain ⟨y2, hy2⟩ : ∃ y_ : List Int, y_ = (x3_2 ++ [x7_2]) := ⟨_, rfl⟩
 replace H : (spec_l3Polite.l1 kj1 y2 t1 x5_1 (wrap64 (x7_2 + 1)) a0_0 a0_1 l0_2) = some r := bscs_
 have Ny2 := A0_ hy2
 clear hy2
 have H' := A0_ H
 clear H
 obtain ⟨Ao1, co1, eo1⟩ := Kd.R_slice HO_2.out
 subst eo1
 have p1 : 0 ≤ (x7_2 : Int) := od_ bpil_
 have q1 : x7_2 < (t1.length : Int) := od_ bpil_
 obtain ⟨ad1, e1, hx1_0⟩ := Kd.at_int (rr_ HO_2.out).2.2 x7_2 p1 q1
 cases e1
 replace p1 := eq_true p1
 replace q1 := eq_true q1
 go_wp2_with (first | ((with_reducible refine gate_builtin (b := .append) (xs := #[.tmp 39, .tmp 41]) rfl ?_); at_builtin; refine Kd.R_append (Kd.int .i64) (w0 := w) w.heap.size rfl (.tmp 39) (.tmp 41) 22 3 (.int .i64 0) 8 rfl Tryd.underlying22 info3 rfl bi3y_ bh19_ u3 x3_2 x7_2 [.int .i64 x7_2] (fun k_ => no_ (.slice (some ad1) t1.length co1) k_) (fun _ => False) rfl rfl ?aP (fun _ hk => hk.elim) ?aF ?aO ?aB ?aS ?aL ?_; (case aP => exact rfl); (case aB => exact be6g_); (case aF => exact (fun k_ hk => Kd.fresh' (Kd.R_lt b7sq_) k_ hk)); (case aO => exact bwik_); (case aS => exact (bz_ be6g_)); (case aL => have := LMc1.out; omega); intro v8 w4 ho hb hg hat; rw [← Ny2.out] at ho; have n0_ := A0_ (Kd.R_after (ok := (fun _ => True)) bapr_ hg hat); have n1_ := A0_ (blk_grown (g := gb1) (o := .cells #[.int .i64 a0_0, .bool a0_1, .slice A0_2 l0_2.length c0_2] 24 (0, 0)) (u1_ BK1) hg (Kd.R_ne HO_1.out BK1.out bi3y_)); have n2_ := A0_ (hb); have n3_ := A0_ (ho); clear HO_2 BK1 HB HO_1; have HO_2 := n0_; have BK1 := n1_; have HB := n2_; have HO3 := n3_; clear n0_ n1_ n2_ n3_ ho hb hg hat))
 go_roundg kj1
 case measure => have := HK1.out; have := HK2.out; have := HJ1.out; omega
 exact ⟨(y2), (wrap64 (x7_2 + 1)), b2ew_, H', ⟨by have := HK1.out; have := HK2.out; have := HJ1.out; omega⟩, ⟨buiy_⟩, ⟨by (with_reducible repeat (first | apply ra_ | apply rn_ | apply rd_)); exact Kd.R_mono HO_2.out (fun _ hk => hk.2)⟩, ⟨u1_ BK1⟩, ⟨be6g_⟩⟩

def spec_l2Without.l0 : Nat → Int → List Int → Int → Int → Bool → List Int → Option (Int × Bool × List Int)
 | 0, _, _, _, _, _, _ => none
 | k + 1, x1, x5, x6, x310000, x310001, x310002 => if x6 < (x310002.length : Int) then (if 0 ≤ x6 then (if (rd x310002 x6) = x1 then (spec_l2Without.l0 k x1 x5 (wrap64 (x6 + 1)) x310000 x310001 x310002) else (if x5.length < 17592186044416 then (spec_l2Without.l0 k x1 (x5 ++ [rd x310002 x6]) (wrap64 (x6 + 1)) x310000 x310001 x310002) else (none))) else (none)) else ((spec_l2Made.f x310000 x310001 x310002 x5).bind fun bt319 => (some (bt319.1, bt319.2.1, bt319.2.2)))
def spec_l2Without.f (k : Nat) (a0_0 : Int) (a0_1 : Bool) (l0_2 : List Int) (a1 : Int) : Option (Int × Bool × List Int) := spec_l2Without.l0 k a1 (([] : List Int)) 0 a0_0 a0_1 l0_2
theorem spec_l2Without.mono_l : ∀ k, (∀ y0 y1 y2 y3 y4 y5, LeO (spec_l2Without.l0 k y0 y1 y2 y3 y4 y5) (spec_l2Without.l0 (k + 1) y0 y1 y2 y3 y4 y5))
 | 0 => fun _ _ _ _ _ _ r h => by simp [spec_l2Without.l0] at h
 | k + 1 => by
  have ih0 := spec_l2Without.mono_l k
  ·intro y0 y1 y2 y3 y4 y5
   unfold spec_l2Without.l0
   repeat' with_reducible first | exact ih0 .. | exact LeO.refl .. | exact LeO.none .. | refine LeO.ite ?_ ?_ | refine LeO.bind ?_ (fun _ => ?_)
theorem spec_l2Without.mono : ∀ a0 a1 a2 a3 k, LeO (spec_l2Without.f k a0 a1 a2 a3) (spec_l2Without.f (k + 1) a0 a1 a2 a3) := by
 intro a0 a1 a2 a3 k
 have ih0 := spec_l2Without.mono_l k
 unfold spec_l2Without.f
 repeat' with_reducible first | exact ih0 .. | exact LeO.refl .. | exact LeO.none .. | refine LeO.ite ?_ ?_ | refine LeO.bind ?_ (fun _ => ?_)
theorem spec_l2Without.calls (k : Nat) (a0_0 : Int) (a0_1 : Bool) (A0_2 : Option Addr) (c0_2 : Nat) (l0_2 : List Int) (a1 : Int) (r1 : Int) (r2 : Bool) (r3 : List Int) (w : World) (hr0_2 : Kd.C (Kd.int .i64) w A0_2 l0_2.length l0_2) (hc0_2 : l0_2.length ≤ c0_2) (h : spec_l2Without.f k a0_0 a0_1 l0_2 a1 = some (r1, r2, r3)) :
  Calls Tryd.prog 88 #[.agg #[.int .i64 a0_0, .bool a0_1, .slice A0_2 l0_2.length c0_2], .int .i64 a1] w fun e w' => ∃ v2_ : Value, e = .returned (.agg #[.int .i64 r1, .bool r2, v2_]) ∧ Kd.R (Kd.int .i64) 3 w' w.heap.size (fun _ => True) v2_ r3 ∧ Below w.heap.size w w' := by
 have hu24 := Tryd.underlying24
 have HR0_2 := A0_ hr0_2
 have HC0_2 := A0_ hc0_2
 clear hr0_2 hc0_2
 have HB := A0_ (Below.refl w.heap.size w)
 have H : (spec_l2Without.l0 k a1 (([] : List Int)) 0 a0_0 a0_1 l0_2) = some (r1, r2, r3) := h
 clear h
 obtain ⟨y1, hy1⟩ : ∃ y_ : List Int, y_ = (([] : List Int)) := ⟨_, rfl⟩
 replace H : (spec_l2Without.l0 k a1 y1 0 a0_0 a0_1 l0_2) = some (r1, r2, r3) := bgiq_
 have Ny1 := A0_ hy1
 clear hy1
 have H' := A0_ H
 clear H
 go_enter Tryd.func88, Tryd.ntmps88
 go_wp2_with (first | ((with_reducible refine gd_ (N := 2) rfl ?_); refine bx_ 2 #[.int .i64 a0_0, .bool a0_1, .slice A0_2 l0_2.length c0_2] 24 ?_; intro gb1 hg w1 BK1 hb; have GW1 := ge_ hg brt4_; have GE1 := GW1; replace HB := hb_ hb brt4_; clear hb hg) | ((with_reducible refine gd_ (N := 4) rfl ?_); refine bx_ 4 #[.int .i64 0, .bool false, .slice none 0 0] 24 ?_; intro gb2 hg w2 BK2 hb; have GW2 := ge_ hg be6g_; have GE2 := GW2; replace HB := hb_ hb be6g_; have NB1_2 := nl_ hg BK1; have NB2_1 := ng_ hg BK1; replace BK1 := k1_ BK1 hb; clear hb hg) | ((with_reducible refine gd_ (N := 7) rfl ?_); refine Kd.R_lit (Kd.int .i64) _ 3 ?hg (N := 7) ?hd (xs := ([] : List Int)) (inner := []) (ok := fun _ => True) (okp := fun _ => True) ?hr ?hp (fun _ hk => hk) trivial (Below.refl _ _) (Nat.le_refl _) bxka_ ?_; (case hd => rfl); (case hg => rfl); (case hr => go_simp; first | done | rfl); (case hp => exact (Reps.none _ _)); intro v1 w3 ho6 hb hg_ hnew_; clear hg_ hnew_; (first | rw [← Ny1.out] at ho6 | (simp only [Int.reduceToNat] at ho6; rw [← Ny1.out] at ho6)); have HO1 := A0_ (Kd.R_lower ho6 (bz_ bfnq_)); replace BK1 := k1_ BK1 hb; replace BK2 := k1_ BK2 hb; replace HB := hb_ hb bfnq_; clear hb ho6))
 go_loopg [5, 6] k (fun kq v3 v4 w' => ∃ (x5_1 : List Int) (x6_1 : Int), v4 = .int .i64 x6_1 ∧ Aside0 (spec_l2Without.l0 kq a1 x5_1 x6_1 a0_0 a0_1 l0_2 = some (r1, r2, r3)) ∧ Aside0 (kq ≤ k) ∧ Aside0 (Kd.R (Kd.int .i64) 3 w' w.heap.size (fun _ => True) v3 x5_1) ∧ Aside0 (w'.heap[gb1]? = some (.cells #[.int .i64 a0_0, .bool a0_1, (.slice A0_2 l0_2.length c0_2)] 24 (0, 0))) ∧ Aside0 (w'.heap[gb2]? = some (.cells #[.int .i64 0, .bool false, (.slice none 0 0)] 24 (0, 0))) ∧ Aside0 (Below w.heap.size w w'))
 case atStart => exact ⟨(y1), (0), b2ew_, H', ⟨Nat.le_refl _⟩, ⟨bsm5_⟩, ⟨u1_ BK1⟩, ⟨u1_ BK2⟩, ⟨bfnq_⟩⟩
 clear H'
 obtain ⟨x5_1, x6_1, rfl, HA, HK1, HO_1, BK1, BK2, HB⟩ := hrel
 cases gk with | zero => exact absurd HA.out (by simp [spec_l2Without.l0]) | succ k1 => ?_
 have H := HA.out
 clear HA
 simp only [spec_l2Without.l0] at H
 by_cases c1 : x6_1 < (l0_2.length : Int)
 case neg =>
  rw [if_neg c1] at H
  have c1b0 : decide (x6_1 < (l0_2.length : Int)) = false := decide_eq_false c1
  clear c1
  obtain ⟨⟨t1, t2, t3⟩, A2, H⟩ := o1_ H
  replace H : (some (t1, t2, t3)) = some (r1, r2, r3) := H
  simp only [sj_, pj_] at H
  obtain ⟨rfl, rfl, rfl⟩ := H
  have hnb1 := NB1_2.out
  have hnc1 := NB2_1.out
  have hcz1 := z3_ BK1
  obtain ⟨Ao1, co1, eo1⟩ := Kd.R_slice HO_1.out
  subst eo1
  go_wp2_with (first | ((with_reducible refine gc_ (f := 102) rfl ?_); refine gl_ 32 Tryd.func102 #[.agg #[.int .i64 a0_0, .bool a0_1, .slice A0_2 l0_2.length c0_2], .slice Ao1 x5_1.length co1] ?_; (with_reducible refine (spec_l2Made.calls a0_0 a0_1 _ _ l0_2 (fun k_ => some k_ = (.slice Ao1 x5_1.length co1 : Value).ownBlock) (.slice Ao1 x5_1.length co1) x5_1 t1 t2 t3 w _ ?side1 ?side2 ?side3 ?side4 A2.out).mono ?_); (case side1 => exact bfnq_); (case side2 => exact Kd.C_kept_came (Kd.heap_int .i64) HR0_2.out bfnq_ (fun k_ hs_ => (fun e_ => Kd.R_base HO_1.out k_ e_.symm) hs_)); (case side3 => exact HC0_2.out); (case side4 => exact Kd.R_tight rfl HO_1.out); rintro e w4 ⟨v5, rfl, ho0, hb, hkp⟩; refine ⟨_, rfl, ?_⟩; have n0_ := A0_ (blk_kept (u1_ BK1) hkp (fun hs_ => (fun e_ => (Kd.R_ne HO_1.out BK1.out bi3y_) e_) hs_)); have n1_ := A0_ (blk_kept (u1_ BK2) hkp (fun hs_ => (fun e_ => (Kd.R_ne HO_1.out BK2.out bi3y_) e_) hs_)); have n2_ := A0_ (Kd.R_mono (ok' := fun k_ => True) ho0 (fun k_ hk_ => trivial)); have n3_ := A0_ (hb); clear BK1 BK2 HB HO_1; have BK1 := n0_; have BK2 := n1_; have HO2 := n2_; have HB := n3_; clear n0_ n1_ n2_ n3_; (try clear hb); (try clear hkp); (try clear ho0); have hcz2 := z3_ BK2; obtain ⟨Ao2, co2, eo2⟩ := Kd.R_slice HO2.out; subst eo2))
  refine bodyPost_ret (results_cell_row rfl _ _ gb2 24 #[.int .i64 t1, .bool t2, .slice Ao2 t3.length co2] (0, 0) _ rfl (u1_ BK2) Tryd.underlying24 rfl bfqv_) rfl ?_
  exact ⟨_, bnwh_, by (with_reducible repeat (first | apply ra_ | apply rn_ | apply rd_)); exact Kd.R_mono (rf_ (rf_ (rf_ (Kd.R_types HO2.out BK2.out bi3y_) k2_0 _) k2_0 _) k2_0 _) (fun _ hk => trivial), bfnq_⟩
 rw [if_pos c1] at H
 have c1b0 : decide (x6_1 < (l0_2.length : Int)) = true := dt_ c1
 clear c1
 by_cases c2 : 0 ≤ x6_1
 case neg =>
  rw [if_neg c2] at H
  exact absurd H bxka_
 rw [if_pos c2] at H
 have c2b0 : decide (0 ≤ x6_1) = true := dt_ c2
 clear c2
 by_cases c3 : (rd l0_2 x6_1) = a1
 ·rw [if_pos c3] at H
  obtain ⟨c3b0, c3b1⟩ := et_ c3
  clear c3
  have H' := A0_ H
  clear H
  have hnb1 := NB1_2.out
  have hnc1 := NB2_1.out
  have hcz1 := z3_ BK1
  have p1 : 0 ≤ (x6_1 : Int) := od_ bpil_
  have q1 : x6_1 < (l0_2.length : Int) := od_ bpil_
  obtain ⟨ad1, e1, hx1_0⟩ := Kd.at_int HR0_2.out x6_1 p1 q1
  cases e1
  replace hx1_0 := (HB.out.cell (World.block_lt_of_cell? w _ hx1_0)).trans hx1_0
  replace p1 := eq_true p1
  replace q1 := eq_true q1
  go_wp2
  go_roundg k1
  case measure => have := HK1.out; omega
  exact ⟨(x5_1), (wrap64 (x6_1 + 1)), b2ew_, H', ⟨bxjq_⟩, ⟨bwik_⟩, ⟨u1_ BK1⟩, ⟨u1_ BK2⟩, ⟨bfnq_⟩⟩
 rw [if_neg c3] at H
 obtain ⟨c3b0, c3b1⟩ := ef_ c3
 by_cases c4 : x5_1.length < 17592186044416
 case neg =>
  rw [if_neg c4] at H
  exact absurd H bxka_
 rw [if_pos c4] at H
 have LMc1 := A0_ c4
 clear c4
 obtain ⟨y2, hy2⟩ : ∃ y_ : List Int, y_ = (x5_1 ++ [rd l0_2 x6_1]) := ⟨_, rfl⟩
 replace H : (spec_l2Without.l0 k1 a1 y2 (wrap64 (x6_1 + 1)) a0_0 a0_1 l0_2) = some (r1, r2, r3) := bscs_
 have Ny2 := A0_ hy2
 clear hy2
 have H' := A0_ H
 clear H
 have hnb1 := NB1_2.out
 have hnc1 := NB2_1.out
 have hcz1 := z3_ BK1
 have p1 : 0 ≤ (x6_1 : Int) := od_ bpil_
 have q1 : x6_1 < (l0_2.length : Int) := od_ bpil_
 obtain ⟨ad1, e1, hx1_0⟩ := Kd.at_int HR0_2.out x6_1 p1 q1
 cases e1
 replace hx1_0 := (HB.out.cell (World.block_lt_of_cell? w _ hx1_0)).trans hx1_0
 replace p1 := eq_true p1
 replace q1 := eq_true q1
 have p2 : 0 ≤ (x6_1 : Int) := od_ bpil_
 have q2 : x6_1 < (l0_2.length : Int) := od_ bpil_
 obtain ⟨ad2, e2, hx2_0⟩ := Kd.at_int HR0_2.out x6_1 p2 q2
 obtain rfl : ad1 = ad2 := bs6y_
 replace hx2_0 := (HB.out.cell (World.block_lt_of_cell? w _ hx2_0)).trans hx2_0
 replace p2 := eq_true p2
 replace q2 := eq_true q2
 go_wp2_with (first | ((with_reducible refine gate_builtin (b := .append) (xs := #[.tmp 22, .tmp 28]) rfl ?_); at_builtin; refine Kd.R_append (Kd.int .i64) (w0 := w) w.heap.size rfl (.tmp 22) (.tmp 28) 22 3 (.int .i64 0) 8 rfl Tryd.underlying22 info3 rfl bi3y_ bh19_ u5 x5_1 (rd l0_2 x6_1) [.int .i64 (rd l0_2 x6_1)] (fun _ => True) (fun _ => False) rfl rfl ?aP (fun _ hk => hk.elim) ?aF ?aO ?aB ?aS ?aL ?_; (case aP => exact rfl); (case aB => exact bfnq_); (case aF => exact (fun _ _ => trivial)); (case aO => exact bwik_); (case aS => exact (bz_ bfnq_)); (case aL => have := LMc1.out; omega); intro v5 w4 ho hb hg hat; rw [← Ny2.out] at ho; have n0_ := A0_ (blk_grown (g := gb1) (o := .cells #[.int .i64 a0_0, .bool a0_1, .slice (some ad1) l0_2.length c0_2] 24 (0, 0)) (u1_ BK1) hg (Kd.R_ne HO_1.out BK1.out bi3y_)); have n1_ := A0_ (blk_grown (g := gb2) (o := .cells #[.int .i64 0, .bool false, .slice none 0 0] 24 (0, 0)) (u1_ BK2) hg (Kd.R_ne HO_1.out BK2.out bi3y_)); have n2_ := A0_ (hb); have n3_ := A0_ (ho); clear BK1 BK2 HB HO_1; have BK1 := n0_; have BK2 := n1_; have HB := n2_; have HO2 := n3_; clear n0_ n1_ n2_ n3_ ho hb hg hat))
 go_roundg k1
 case measure => have := HK1.out; omega
 exact ⟨(y2), (wrap64 (x6_1 + 1)), b2ew_, H', ⟨bxjq_⟩, ⟨b9so_⟩, ⟨u1_ BK1⟩, ⟨u1_ BK2⟩, ⟨bfnq_⟩⟩

end Go.Proofs.YtbohmfnjgjijdaaDoor.QFnGuests
-- packed
-- squeezed
