-- Written by px.py, a program of this session, over the kit's printer: some functions have a definition and a proof of this session's own.
import Derived.Test.YtbohmfnjgjijdaaDoorQFnExactDoWorkx0
namespace Go.Proofs.YtbohmfnjgjijdaaDoor.QFnExactDoWork
open Go.RowKit Go.Proofs.YtbohmfnjgjijdaaDoorW.PrintWords Go.Proofs.YtbohmfnjgjijdaaDoorW.PrintLast Go.Proofs.YtbohmfnjgjijdaaDoorW.PrintMore
attribute [local go_sem] max2_int min2_int max_two min_two max_three min_three max_four min_four   -- for this text's walks alone
set_option linter.unusedVariables false
set_option linter.unusedSimpArgs false
set_option maxHeartbeats 8000000
set_option maxRecDepth 100000

def laws_eqIntS.l0 : Nat → List Int → List Int → Int → Option (Bool)
 | 0, _, _, _ => none
 | k + 1, x0, x1, x5 => if x5 < (x0.length : Int) then (if 0 ≤ x5 then (if x5 < (x1.length : Int) then (if (rd x0 x5) = (rd x1 x5) then (laws_eqIntS.l0 k x0 x1 (wrap64 (x5 + 1))) else (some false)) else (none)) else (none)) else (some true)
def laws_eqIntS.f (k : Nat) (l0 : List Int) (l1 : List Int) : Option (Bool) := if (l0.length : Int) = (l1.length : Int) then (laws_eqIntS.l0 k l0 l1 0) else (some false)
theorem laws_eqIntS.mono_l : ∀ k, (∀ y0 y1 y2, LeO (laws_eqIntS.l0 k y0 y1 y2) (laws_eqIntS.l0 (k + 1) y0 y1 y2))
 | 0 => fun _ _ _ r h => by simp [laws_eqIntS.l0] at h
 | k + 1 => by
  have ih0 := laws_eqIntS.mono_l k
  ·intro y0 y1 y2
   unfold laws_eqIntS.l0
   repeat' with_reducible first | exact ih0 .. | exact LeO.refl .. | exact LeO.none .. | refine LeO.ite ?_ ?_ | refine LeO.bind ?_ (fun _ => ?_)
theorem laws_eqIntS.mono : ∀ a0 a1 k, LeO (laws_eqIntS.f k a0 a1) (laws_eqIntS.f (k + 1) a0 a1) := by
 intro a0 a1 k
 have ih0 := laws_eqIntS.mono_l k
 unfold laws_eqIntS.f
 repeat' with_reducible first | exact ih0 .. | exact LeO.refl .. | exact LeO.none .. | refine LeO.ite ?_ ?_ | refine LeO.bind ?_ (fun _ => ?_)
theorem laws_eqIntS.calls (k : Nat) (A0 : Option Addr) (c0 : Nat) (l0 : List Int) (A1 : Option Addr) (c1 : Nat) (l1 : List Int) (r : Bool) (w : World) (hr0 : Kd.C (Kd.int .i64) w A0 l0.length l0) (hc0 : l0.length ≤ c0) (hr1 : Kd.C (Kd.int .i64) w A1 l1.length l1) (hc1 : l1.length ≤ c1) (h : laws_eqIntS.f k l0 l1 = some r) :
  Calls Tryd.prog 16 #[.slice A0 l0.length c0, .slice A1 l1.length c1] w fun e w' => e = .returned (.bool r) ∧ Drawn0 w w' := by
 have HR0 := A0_ hr0
 have HC0 := A0_ hc0
 clear hr0 hc0
 have HR1 := A0_ hr1
 have HC1 := A0_ hc1
 clear hr1 hc1
 have H : (if (l0.length : Int) = (l1.length : Int) then (laws_eqIntS.l0 k l0 l1 0) else (some false)) = some r := h
 clear h
 by_cases c2 : (l0.length : Int) = (l1.length : Int)
 case neg =>
  rw [if_neg c2] at H
  obtain ⟨c2b0, c2b1⟩ := ef_ c2
  have c2b2 : (l0.length == l1.length) = false := bds5_
  obtain rfl := si_ H
  go_enter Tryd.func16, Tryd.ntmps16
  go_wp2
  repeat (go_quiet (fail); try go_wp2)
  go_ret
  exact ⟨b04z_, boaj_⟩
 rw [if_pos c2] at H
 obtain ⟨c2b0, c2b1⟩ := et_ c2
 have c2b2 : (l0.length == l1.length) = true := bds5_
 clear c2
 have H' := A0_ H
 clear H
 go_enter Tryd.func16, Tryd.ntmps16
 go_wp2
 repeat (go_quiet (fail); try go_wp2)
 go_loopg [5] k (fun kq v1 w' => ∃ (x5_1 : Int), v1 = .int .i64 x5_1 ∧ Aside0 (laws_eqIntS.l0 kq l0 l1 x5_1 = some r) ∧ Aside0 (kq ≤ k) ∧ Drawn0 w w')
 case atStart => exact ⟨(0), b2ew_, H', ⟨Nat.le_refl _⟩, boaj_⟩
 clear H'
 try clear c1
 try clear c2
 try clear c2b0
 try clear c2b1
 try clear c2b2
 obtain ⟨x5_1, rfl, HA, HK1, ⟨m1, rfl⟩⟩ := hrel
 cases gk with | zero => exact absurd HA.out (by simp [laws_eqIntS.l0]) | succ k1 => ?_
 have H := HA.out
 clear HA
 simp only [laws_eqIntS.l0] at H
 by_cases c3 : x5_1 < (l0.length : Int)
 case neg =>
  rw [if_neg c3] at H
  have c3b0 : decide (x5_1 < (l0.length : Int)) = false := decide_eq_false c3
  clear c3
  obtain rfl := si_ H
  go_wp2
  repeat (go_quiet (fail); try go_wp2)
  go_ret
  exact ⟨b04z_, boaj_⟩
 rw [if_pos c3] at H
 have c3b0 : decide (x5_1 < (l0.length : Int)) = true := dt_ c3
 clear c3
 by_cases c4 : 0 ≤ x5_1
 case neg =>
  rw [if_neg c4] at H
  exact absurd H bxka_
 rw [if_pos c4] at H
 have c4b0 : decide (0 ≤ x5_1) = true := dt_ c4
 clear c4
 by_cases c5 : x5_1 < (l1.length : Int)
 case neg =>
  rw [if_neg c5] at H
  exact absurd H bxka_
 rw [if_pos c5] at H
 have c5b0 : decide (x5_1 < (l1.length : Int)) = true := dt_ c5
 clear c5
 by_cases c6 : (rd l0 x5_1) = (rd l1 x5_1)
 case neg =>
  rw [if_neg c6] at H
  obtain ⟨c6b0, c6b1⟩ := ef_ c6
  obtain rfl := si_ H
  have p1 : 0 ≤ (x5_1 : Int) := od_ bpil_
  have q1 : x5_1 < (l0.length : Int) := od_ bpil_
  obtain ⟨ad1, e1, hx1_0⟩ := Kd.at_int HR0.out x5_1 p1 q1
  cases e1
  replace p1 := eq_true p1
  replace q1 := eq_true q1
  have p2 : 0 ≤ (x5_1 : Int) := od_ bpil_
  have q2 : x5_1 < (l1.length : Int) := od_ bpil_
  obtain ⟨ad2, e2, hx2_0⟩ := Kd.at_int HR1.out x5_1 p2 q2
  cases e2
  replace p2 := eq_true p2
  replace q2 := eq_true q2
  go_wp2
  repeat (go_quiet (fail); try go_wp2)
  go_ret
  exact ⟨b04z_, boaj_⟩
 rw [if_pos c6] at H
 obtain ⟨c6b0, c6b1⟩ := et_ c6
 clear c6
 have H' := A0_ H
 clear H
 have p1 : 0 ≤ (x5_1 : Int) := od_ bpil_
 have q1 : x5_1 < (l0.length : Int) := od_ bpil_
 obtain ⟨ad1, e1, hx1_0⟩ := Kd.at_int HR0.out x5_1 p1 q1
 cases e1
 replace p1 := eq_true p1
 replace q1 := eq_true q1
 have p2 : 0 ≤ (x5_1 : Int) := od_ bpil_
 have q2 : x5_1 < (l1.length : Int) := od_ bpil_
 obtain ⟨ad2, e2, hx2_0⟩ := Kd.at_int HR1.out x5_1 p2 q2
 cases e2
 replace p2 := eq_true p2
 replace q2 := eq_true q2
 go_wp2
 repeat (go_quiet (fail); try go_wp2)
 go_roundg k1
 case measure => have := HK1.out; omega
 exact ⟨(wrap64 (x5_1 + 1)), b2ew_, H', ⟨bxjq_⟩, boaj_⟩

def laws_eqRow.f (k : Nat) (a0_0 : Int) (a0_1 : Bool) (l0_2 : List Int) (a1_0 : Int) (a1_1 : Bool) (l1_2 : List Int) : Option (Bool) := if a0_0 = a1_0 then (if (a0_1 != a1_1) = true then (some false) else ((laws_eqIntS.f k l0_2 l1_2).bind fun t105 => (if t105 = true then (some true) else (some false)))) else (some false)
theorem laws_eqRow.mono : ∀ a0 a1 a2 a3 a4 a5 k, LeO (laws_eqRow.f k a0 a1 a2 a3 a4 a5) (laws_eqRow.f (k + 1) a0 a1 a2 a3 a4 a5) := by
 intro a0 a1 a2 a3 a4 a5 k
 unfold laws_eqRow.f
 repeat' with_reducible first | exact laws_eqIntS.mono .. | exact LeO.refl .. | exact LeO.none .. | refine LeO.ite ?_ ?_ | refine LeO.bind ?_ (fun _ => ?_)
theorem laws_eqRow.calls (k : Nat) (a0_0 : Int) (a0_1 : Bool) (A0_2 : Option Addr) (c0_2 : Nat) (l0_2 : List Int) (a1_0 : Int) (a1_1 : Bool) (A1_2 : Option Addr) (c1_2 : Nat) (l1_2 : List Int) (r : Bool) (w : World) (hr0_2 : Kd.C (Kd.int .i64) w A0_2 l0_2.length l0_2) (hc0_2 : l0_2.length ≤ c0_2) (hr1_2 : Kd.C (Kd.int .i64) w A1_2 l1_2.length l1_2) (hc1_2 : l1_2.length ≤ c1_2) (h : laws_eqRow.f k a0_0 a0_1 l0_2 a1_0 a1_1 l1_2 = some r) :
  Calls Tryd.prog 35 #[.agg #[.int .i64 a0_0, .bool a0_1, .slice A0_2 l0_2.length c0_2], .agg #[.int .i64 a1_0, .bool a1_1, .slice A1_2 l1_2.length c1_2]] w fun e w' => e = .returned (.bool r) ∧ Below w.heap.size w w' := by
 have hu24 := Tryd.underlying24
 have HR0_2 := A0_ hr0_2
 have HC0_2 := A0_ hc0_2
 clear hr0_2 hc0_2
 have HR1_2 := A0_ hr1_2
 have HC1_2 := A0_ hc1_2
 clear hr1_2 hc1_2
 have HB := A0_ (Below.refl w.heap.size w)
 have H : (if a0_0 = a1_0 then (if (a0_1 != a1_1) = true then (some false) else ((laws_eqIntS.f k l0_2 l1_2).bind fun t1 => (if t1 = true then (some true) else (some false)))) else (some false)) = some r := h
 clear h
 by_cases c2 : a0_0 = a1_0
 case neg =>
  rw [if_neg c2] at H
  obtain ⟨c2b0, c2b1⟩ := ef_ c2
  obtain rfl := si_ H
  go_enter Tryd.func35, Tryd.ntmps35
  go_wp2_with (first | ((with_reducible refine gd_ (N := 2) rfl ?_); refine bx_ 2 #[.int .i64 a0_0, .bool a0_1, .slice A0_2 l0_2.length c0_2] 24 ?_; intro gb1 hg w1 BK1 hb; have GW1 := ge_ hg brt4_; have GE1 := GW1; replace HB := hb_ hb brt4_; clear hb hg) | ((with_reducible refine gd_ (N := 3) rfl ?_); refine bx_ 3 #[.int .i64 a1_0, .bool a1_1, .slice A1_2 l1_2.length c1_2] 24 ?_; intro gb2 hg w2 BK2 hb; have GW2 := ge_ hg be6g_; have GE2 := GW2; replace HB := hb_ hb be6g_; have NB1_2 := nl_ hg BK1; have NB2_1 := ng_ hg BK1; replace BK1 := k1_ BK1 hb; clear hb hg; have hnb1 := NB1_2.out; have hnc1 := NB2_1.out; have hcz1 := c3_ BK1; have hcz2 := c3_ BK2))
  go_ret
  exact ⟨bnwh_, bfnq_⟩
 rw [if_pos c2] at H
 obtain ⟨c2b0, c2b1⟩ := et_ c2
 clear c2
 by_cases c3 : (a0_1 != a1_1) = true
 ·rw [if_pos c3] at H
  have c3b0 : (a0_1 != a1_1) = true := c3
  (try (have c3b1 : decide (a0_1 = a1_1) = false := by simpa using c3))
  (try (have c3b2 : (a0_1 == a1_1) = false := by simpa using c3))
  (try (have c3b3 : ¬ (a0_1 = a1_1) := by simpa using c3))
  clear c3
  obtain rfl := si_ H
  go_enter Tryd.func35, Tryd.ntmps35
  go_wp2_with (first | ((with_reducible refine gd_ (N := 2) rfl ?_); refine bx_ 2 #[.int .i64 a0_0, .bool a0_1, .slice A0_2 l0_2.length c0_2] 24 ?_; intro gb1 hg w1 BK1 hb; have GW1 := ge_ hg brt4_; have GE1 := GW1; replace HB := hb_ hb brt4_; clear hb hg) | ((with_reducible refine gd_ (N := 3) rfl ?_); refine bx_ 3 #[.int .i64 a1_0, .bool a1_1, .slice A1_2 l1_2.length c1_2] 24 ?_; intro gb2 hg w2 BK2 hb; have GW2 := ge_ hg be6g_; have GE2 := GW2; replace HB := hb_ hb be6g_; have NB1_2 := nl_ hg BK1; have NB2_1 := ng_ hg BK1; replace BK1 := k1_ BK1 hb; clear hb hg; have hnb1 := NB1_2.out; have hnc1 := NB2_1.out; have hcz1 := c3_ BK1; have hcz2 := c3_ BK2))
  go_ret
  exact ⟨bnwh_, bfnq_⟩
 rw [if_neg c3] at H
 have c3b0 : (a0_1 != a1_1) = false := by simpa using c3
 (try (have c3b1 : decide (a0_1 = a1_1) = true := by simpa using c3))
 (try (have c3b2 : (a0_1 == a1_1) = true := by simpa using c3))
 clear c3
 obtain ⟨t1, A3, H⟩ := o1_ H
 by_cases c4 : t1 = true
 ·subst c4
  rw [if_pos rfl] at H
  obtain rfl := si_ H
  go_enter Tryd.func35, Tryd.ntmps35
  go_wp2_with (first | ((with_reducible refine gd_ (N := 2) rfl ?_); refine bx_ 2 #[.int .i64 a0_0, .bool a0_1, .slice A0_2 l0_2.length c0_2] 24 ?_; intro gb1 hg w1 BK1 hb; have GW1 := ge_ hg brt4_; have GE1 := GW1; replace HB := hb_ hb brt4_; clear hb hg) | ((with_reducible refine gd_ (N := 3) rfl ?_); refine bx_ 3 #[.int .i64 a1_0, .bool a1_1, .slice A1_2 l1_2.length c1_2] 24 ?_; intro gb2 hg w2 BK2 hb; have GW2 := ge_ hg be6g_; have GE2 := GW2; replace HB := hb_ hb be6g_; have NB1_2 := nl_ hg BK1; have NB2_1 := ng_ hg BK1; replace BK1 := k1_ BK1 hb; clear hb hg; have hnb1 := NB1_2.out; have hnc1 := NB2_1.out; have hcz1 := c3_ BK1; have hcz2 := c3_ BK2) | ((with_reducible refine gc_ (f := 16) rfl ?_); refine gl_ 19 Tryd.func16 #[.slice A0_2 l0_2.length c0_2, .slice A1_2 l1_2.length c1_2] ?_; (with_reducible refine (laws_eqIntS.calls k _ _ l0_2 _ _ l1_2 true _ ?side1 ?side2 ?side3 ?side4 A3.out).mono ?_); (case side1 => exact b6n8_); (case side2 => exact HC0_2.out); (case side3 => exact bjp5_); (case side4 => exact HC1_2.out); rintro e w' ⟨rfl, ⟨nd, rfl⟩⟩; refine ⟨_, rfl, ?_⟩))
  go_ret
  exact ⟨bnwh_, bfnq_⟩
 obtain rfl := bf_.mpr c4
 rw [if_neg ft_] at H
 obtain rfl := si_ H
 go_enter Tryd.func35, Tryd.ntmps35
 go_wp2_with (first | ((with_reducible refine gd_ (N := 2) rfl ?_); refine bx_ 2 #[.int .i64 a0_0, .bool a0_1, .slice A0_2 l0_2.length c0_2] 24 ?_; intro gb1 hg w1 BK1 hb; have GW1 := ge_ hg brt4_; have GE1 := GW1; replace HB := hb_ hb brt4_; clear hb hg) | ((with_reducible refine gd_ (N := 3) rfl ?_); refine bx_ 3 #[.int .i64 a1_0, .bool a1_1, .slice A1_2 l1_2.length c1_2] 24 ?_; intro gb2 hg w2 BK2 hb; have GW2 := ge_ hg be6g_; have GE2 := GW2; replace HB := hb_ hb be6g_; have NB1_2 := nl_ hg BK1; have NB2_1 := ng_ hg BK1; replace BK1 := k1_ BK1 hb; clear hb hg; have hnb1 := NB1_2.out; have hnc1 := NB2_1.out; have hcz1 := c3_ BK1; have hcz2 := c3_ BK2) | ((with_reducible refine gc_ (f := 16) rfl ?_); refine gl_ 19 Tryd.func16 #[.slice A0_2 l0_2.length c0_2, .slice A1_2 l1_2.length c1_2] ?_; (with_reducible refine (laws_eqIntS.calls k _ _ l0_2 _ _ l1_2 false _ ?side1 ?side2 ?side3 ?side4 A3.out).mono ?_); (case side1 => exact b6n8_); (case side2 => exact HC0_2.out); (case side3 => exact bjp5_); (case side4 => exact HC1_2.out); rintro e w' ⟨rfl, ⟨nd, rfl⟩⟩; refine ⟨_, rfl, ?_⟩))
 go_ret
 exact ⟨bnwh_, bfnq_⟩

def laws_eqHouse.f (k : Nat) (a0_0 : Int) (a0_1 : Bool) (l0_2 : List Int) (l0_3 : List Int) (a0_4 : Int) (a1_0 : Int) (a1_1 : Bool) (l1_2 : List Int) (l1_3 : List Int) (a1_4 : Int) : Option (Bool) := (laws_eqRow.f k a0_0 a0_1 l0_2 a1_0 a1_1 l1_2).bind fun t108 => (if t108 = true then ((laws_eqIntS.f k l0_3 l1_3).bind fun t109 => (if t109 = true then (if a0_4 = a1_4 then (some true) else (some false)) else (some false))) else (some false))
theorem laws_eqHouse.mono : ∀ a0 a1 a2 a3 a4 a5 a6 a7 a8 a9 k, LeO (laws_eqHouse.f k a0 a1 a2 a3 a4 a5 a6 a7 a8 a9) (laws_eqHouse.f (k + 1) a0 a1 a2 a3 a4 a5 a6 a7 a8 a9) := by
 intro a0 a1 a2 a3 a4 a5 a6 a7 a8 a9 k
 unfold laws_eqHouse.f
 repeat' with_reducible first | exact laws_eqIntS.mono .. | exact laws_eqRow.mono .. | exact LeO.refl .. | exact LeO.none .. | refine LeO.ite ?_ ?_ | refine LeO.bind ?_ (fun _ => ?_)
theorem laws_eqHouse.calls (k : Nat) (a0_0 : Int) (a0_1 : Bool) (A0_2 : Option Addr) (c0_2 : Nat) (l0_2 : List Int) (A0_3 : Option Addr) (c0_3 : Nat) (l0_3 : List Int) (a0_4 : Int) (a1_0 : Int) (a1_1 : Bool) (A1_2 : Option Addr) (c1_2 : Nat) (l1_2 : List Int) (A1_3 : Option Addr) (c1_3 : Nat) (l1_3 : List Int) (a1_4 : Int) (r : Bool) (w : World) (hr0_2 : Kd.C (Kd.int .i64) w A0_2 l0_2.length l0_2) (hc0_2 : l0_2.length ≤ c0_2) (hr0_3 : Kd.C (Kd.int .i64) w A0_3 l0_3.length l0_3) (hc0_3 : l0_3.length ≤ c0_3) (hr1_2 : Kd.C (Kd.int .i64) w A1_2 l1_2.length l1_2) (hc1_2 : l1_2.length ≤ c1_2) (hr1_3 : Kd.C (Kd.int .i64) w A1_3 l1_3.length l1_3) (hc1_3 : l1_3.length ≤ c1_3) (h : laws_eqHouse.f k a0_0 a0_1 l0_2 l0_3 a0_4 a1_0 a1_1 l1_2 l1_3 a1_4 = some r) :
  Calls Tryd.prog 9 #[.agg #[.int .i64 a0_0, .bool a0_1, .slice A0_2 l0_2.length c0_2, .slice A0_3 l0_3.length c0_3, .int .i64 a0_4], .agg #[.int .i64 a1_0, .bool a1_1, .slice A1_2 l1_2.length c1_2, .slice A1_3 l1_3.length c1_3, .int .i64 a1_4]] w fun e w' => e = .returned (.bool r) ∧ Below w.heap.size w w' := by
 have hu26 := Tryd.underlying26
 have hu24 := Tryd.underlying24
 have HR0_2 := A0_ hr0_2
 have HC0_2 := A0_ hc0_2
 clear hr0_2 hc0_2
 have HR0_3 := A0_ hr0_3
 have HC0_3 := A0_ hc0_3
 clear hr0_3 hc0_3
 have HR1_2 := A0_ hr1_2
 have HC1_2 := A0_ hc1_2
 clear hr1_2 hc1_2
 have HR1_3 := A0_ hr1_3
 have HC1_3 := A0_ hc1_3
 clear hr1_3 hc1_3
 have HB := A0_ (Below.refl w.heap.size w)
 have H : ((laws_eqRow.f k a0_0 a0_1 l0_2 a1_0 a1_1 l1_2).bind fun t1 => (if t1 = true then ((laws_eqIntS.f k l0_3 l1_3).bind fun t2 => (if t2 = true then (if a0_4 = a1_4 then (some true) else (some false)) else (some false))) else (some false))) = some r := h
 clear h
 obtain ⟨t1, A3, H⟩ := o1_ H
 by_cases c2 : t1 = true
 case neg =>
  obtain rfl := bf_.mpr c2
  rw [if_neg ft_] at H
  obtain rfl := si_ H
  go_enter Tryd.func9, Tryd.ntmps9
  go_wp2_with (first | ((with_reducible refine gd_ (N := 2) rfl ?_); refine bx_ 2 #[.int .i64 a0_0, .bool a0_1, .slice A0_2 l0_2.length c0_2, .slice A0_3 l0_3.length c0_3, .int .i64 a0_4] 26 ?_; intro gb1 hg w1 BK1 hb; have GW1 := ge_ hg brt4_; have GE1 := GW1; replace HB := hb_ hb brt4_; clear hb hg) | ((with_reducible refine gd_ (N := 3) rfl ?_); refine bx_ 3 #[.int .i64 a1_0, .bool a1_1, .slice A1_2 l1_2.length c1_2, .slice A1_3 l1_3.length c1_3, .int .i64 a1_4] 26 ?_; intro gb2 hg w2 BK2 hb; have GW2 := ge_ hg be6g_; have GE2 := GW2; replace HB := hb_ hb be6g_; have NB1_2 := nl_ hg BK1; have NB2_1 := ng_ hg BK1; replace BK1 := k1_ BK1 hb; clear hb hg; have hnb1 := NB1_2.out; have hnc1 := NB2_1.out; have hcz1 := c5_ BK1; have hcz2 := c5_ BK2) | ((with_reducible refine gc_ (f := 35) rfl ?_); refine gl_ 9 Tryd.func35 #[.agg #[.int .i64 a0_0, .bool a0_1, .slice A0_2 l0_2.length c0_2], .agg #[.int .i64 a1_0, .bool a1_1, .slice A1_2 l1_2.length c1_2]] ?_; (with_reducible refine (laws_eqRow.calls k a0_0 a0_1 _ _ l0_2 a1_0 a1_1 _ _ l1_2 false _ ?side1 ?side2 ?side3 ?side4 A3.out).mono ?_); (case side1 => exact b6n8_); (case side2 => exact HC0_2.out); (case side3 => exact bjp5_); (case side4 => exact HC1_2.out); rintro e w3 ⟨rfl, hb⟩; refine ⟨_, rfl, ?_⟩; replace BK1 := k1_ BK1 hb; replace BK2 := k1_ BK2 hb; replace HB := hb_ hb bfnq_; (try clear hb)))
  go_ret
  exact ⟨bnwh_, bfnq_⟩
 subst c2
 rw [if_pos rfl] at H
 obtain ⟨t2, A5, H⟩ := o1_ H
 by_cases c3 : t2 = true
 case neg =>
  obtain rfl := bf_.mpr c3
  rw [if_neg ft_] at H
  obtain rfl := si_ H
  go_enter Tryd.func9, Tryd.ntmps9
  go_wp2_with (first | ((with_reducible refine gd_ (N := 2) rfl ?_); refine bx_ 2 #[.int .i64 a0_0, .bool a0_1, .slice A0_2 l0_2.length c0_2, .slice A0_3 l0_3.length c0_3, .int .i64 a0_4] 26 ?_; intro gb1 hg w1 BK1 hb; have GW1 := ge_ hg brt4_; have GE1 := GW1; replace HB := hb_ hb brt4_; clear hb hg) | ((with_reducible refine gd_ (N := 3) rfl ?_); refine bx_ 3 #[.int .i64 a1_0, .bool a1_1, .slice A1_2 l1_2.length c1_2, .slice A1_3 l1_3.length c1_3, .int .i64 a1_4] 26 ?_; intro gb2 hg w2 BK2 hb; have GW2 := ge_ hg be6g_; have GE2 := GW2; replace HB := hb_ hb be6g_; have NB1_2 := nl_ hg BK1; have NB2_1 := ng_ hg BK1; replace BK1 := k1_ BK1 hb; clear hb hg; have hnb1 := NB1_2.out; have hnc1 := NB2_1.out; have hcz1 := c5_ BK1; have hcz2 := c5_ BK2) | ((with_reducible refine gc_ (f := 35) rfl ?_); refine gl_ 9 Tryd.func35 #[.agg #[.int .i64 a0_0, .bool a0_1, .slice A0_2 l0_2.length c0_2], .agg #[.int .i64 a1_0, .bool a1_1, .slice A1_2 l1_2.length c1_2]] ?_; (with_reducible refine (laws_eqRow.calls k a0_0 a0_1 _ _ l0_2 a1_0 a1_1 _ _ l1_2 true _ ?side1 ?side2 ?side3 ?side4 A3.out).mono ?_); (case side1 => exact b6n8_); (case side2 => exact HC0_2.out); (case side3 => exact bjp5_); (case side4 => exact HC1_2.out); rintro e w3 ⟨rfl, hb⟩; refine ⟨_, rfl, ?_⟩; replace BK1 := k1_ BK1 hb; replace BK2 := k1_ BK2 hb; replace HB := hb_ hb bfnq_; (try clear hb); have hcz3 := c5_ BK1; have hcz4 := c5_ BK2) | ((with_reducible refine gc_ (f := 16) rfl ?_); refine gl_ 15 Tryd.func16 #[.slice A0_3 l0_3.length c0_3, .slice A1_3 l1_3.length c1_3] ?_; (with_reducible refine (laws_eqIntS.calls k _ _ l0_3 _ _ l1_3 false _ ?side1 ?side2 ?side3 ?side4 A5.out).mono ?_); (case side1 => exact bkan_); (case side2 => exact HC0_3.out); (case side3 => exact b4bh_); (case side4 => exact HC1_3.out); rintro e w' ⟨rfl, ⟨nd, rfl⟩⟩; refine ⟨_, rfl, ?_⟩))
  go_ret
  exact ⟨bnwh_, bfnq_⟩
 subst c3
 rw [if_pos rfl] at H
 by_cases c4 : a0_4 = a1_4
 case neg =>
  rw [if_neg c4] at H
  obtain ⟨c4b0, c4b1⟩ := ef_ c4
  obtain rfl := si_ H
  go_enter Tryd.func9, Tryd.ntmps9
  go_wp2_with (first | ((with_reducible refine gd_ (N := 2) rfl ?_); refine bx_ 2 #[.int .i64 a0_0, .bool a0_1, .slice A0_2 l0_2.length c0_2, .slice A0_3 l0_3.length c0_3, .int .i64 a0_4] 26 ?_; intro gb1 hg w1 BK1 hb; have GW1 := ge_ hg brt4_; have GE1 := GW1; replace HB := hb_ hb brt4_; clear hb hg) | ((with_reducible refine gd_ (N := 3) rfl ?_); refine bx_ 3 #[.int .i64 a1_0, .bool a1_1, .slice A1_2 l1_2.length c1_2, .slice A1_3 l1_3.length c1_3, .int .i64 a1_4] 26 ?_; intro gb2 hg w2 BK2 hb; have GW2 := ge_ hg be6g_; have GE2 := GW2; replace HB := hb_ hb be6g_; have NB1_2 := nl_ hg BK1; have NB2_1 := ng_ hg BK1; replace BK1 := k1_ BK1 hb; clear hb hg; have hnb1 := NB1_2.out; have hnc1 := NB2_1.out; have hcz1 := c5_ BK1; have hcz2 := c5_ BK2) | ((with_reducible refine gc_ (f := 35) rfl ?_); refine gl_ 9 Tryd.func35 #[.agg #[.int .i64 a0_0, .bool a0_1, .slice A0_2 l0_2.length c0_2], .agg #[.int .i64 a1_0, .bool a1_1, .slice A1_2 l1_2.length c1_2]] ?_; (with_reducible refine (laws_eqRow.calls k a0_0 a0_1 _ _ l0_2 a1_0 a1_1 _ _ l1_2 true _ ?side1 ?side2 ?side3 ?side4 A3.out).mono ?_); (case side1 => exact b6n8_); (case side2 => exact HC0_2.out); (case side3 => exact bjp5_); (case side4 => exact HC1_2.out); rintro e w3 ⟨rfl, hb⟩; refine ⟨_, rfl, ?_⟩; replace BK1 := k1_ BK1 hb; replace BK2 := k1_ BK2 hb; replace HB := hb_ hb bfnq_; (try clear hb); have hcz3 := c5_ BK1; have hcz4 := c5_ BK2) | ((with_reducible refine gc_ (f := 16) rfl ?_); refine gl_ 15 Tryd.func16 #[.slice A0_3 l0_3.length c0_3, .slice A1_3 l1_3.length c1_3] ?_; (with_reducible refine (laws_eqIntS.calls k _ _ l0_3 _ _ l1_3 true _ ?side1 ?side2 ?side3 ?side4 A5.out).mono ?_); (case side1 => exact bkan_); (case side2 => exact HC0_3.out); (case side3 => exact b4bh_); (case side4 => exact HC1_3.out); rintro e w' ⟨rfl, ⟨nd, rfl⟩⟩; refine ⟨_, rfl, ?_⟩))
  go_ret
  exact ⟨bnwh_, bfnq_⟩
 rw [if_pos c4] at H
 obtain ⟨c4b0, c4b1⟩ := et_ c4
 clear c4
 obtain rfl := si_ H
 go_enter Tryd.func9, Tryd.ntmps9
 go_wp2_with (first | ((with_reducible refine gd_ (N := 2) rfl ?_); refine bx_ 2 #[.int .i64 a0_0, .bool a0_1, .slice A0_2 l0_2.length c0_2, .slice A0_3 l0_3.length c0_3, .int .i64 a0_4] 26 ?_; intro gb1 hg w1 BK1 hb; have GW1 := ge_ hg brt4_; have GE1 := GW1; replace HB := hb_ hb brt4_; clear hb hg) | ((with_reducible refine gd_ (N := 3) rfl ?_); refine bx_ 3 #[.int .i64 a1_0, .bool a1_1, .slice A1_2 l1_2.length c1_2, .slice A1_3 l1_3.length c1_3, .int .i64 a1_4] 26 ?_; intro gb2 hg w2 BK2 hb; have GW2 := ge_ hg be6g_; have GE2 := GW2; replace HB := hb_ hb be6g_; have NB1_2 := nl_ hg BK1; have NB2_1 := ng_ hg BK1; replace BK1 := k1_ BK1 hb; clear hb hg; have hnb1 := NB1_2.out; have hnc1 := NB2_1.out; have hcz1 := c5_ BK1; have hcz2 := c5_ BK2) | ((with_reducible refine gc_ (f := 35) rfl ?_); refine gl_ 9 Tryd.func35 #[.agg #[.int .i64 a0_0, .bool a0_1, .slice A0_2 l0_2.length c0_2], .agg #[.int .i64 a1_0, .bool a1_1, .slice A1_2 l1_2.length c1_2]] ?_; (with_reducible refine (laws_eqRow.calls k a0_0 a0_1 _ _ l0_2 a1_0 a1_1 _ _ l1_2 true _ ?side1 ?side2 ?side3 ?side4 A3.out).mono ?_); (case side1 => exact b6n8_); (case side2 => exact HC0_2.out); (case side3 => exact bjp5_); (case side4 => exact HC1_2.out); rintro e w3 ⟨rfl, hb⟩; refine ⟨_, rfl, ?_⟩; replace BK1 := k1_ BK1 hb; replace BK2 := k1_ BK2 hb; replace HB := hb_ hb bfnq_; (try clear hb); have hcz3 := c5_ BK1; have hcz4 := c5_ BK2) | ((with_reducible refine gc_ (f := 16) rfl ?_); refine gl_ 15 Tryd.func16 #[.slice A0_3 l0_3.length c0_3, .slice A1_3 l1_3.length c1_3] ?_; (with_reducible refine (laws_eqIntS.calls k _ _ l0_3 _ _ l1_3 true _ ?side1 ?side2 ?side3 ?side4 A5.out).mono ?_); (case side1 => exact bkan_); (case side2 => exact HC0_3.out); (case side3 => exact b4bh_); (case side4 => exact HC1_3.out); rintro e w' ⟨rfl, ⟨nd, rfl⟩⟩; refine ⟨_, rfl, ?_⟩))
 go_ret
 exact ⟨bnwh_, bfnq_⟩

def laws_markIntS.l0 : Nat → List Int → Int → Int → Option (Int × List Int)
 | 0, _, _, _ => none
 | k + 1, x0, x1, x5 => if x5 < (x0.length : Int) then (if 0 ≤ x5 then (laws_markIntS.l0 k (x0.set (x5 : Int).toNat x1) (wrap64 (x1 + 1)) (wrap64 (x5 + 1))) else (none)) else (some (x1, x0))
def laws_markIntS.f (k : Nat) (l0 : List Int) (a1 : Int) : Option (Int × List Int) := laws_markIntS.l0 k l0 a1 0
theorem laws_markIntS.mono_l : ∀ k, (∀ y0 y1 y2, LeO (laws_markIntS.l0 k y0 y1 y2) (laws_markIntS.l0 (k + 1) y0 y1 y2))
 | 0 => fun _ _ _ r h => by simp [laws_markIntS.l0] at h
 | k + 1 => by
  have ih0 := laws_markIntS.mono_l k
  ·intro y0 y1 y2
   unfold laws_markIntS.l0
   repeat' with_reducible first | exact ih0 .. | exact LeO.refl .. | exact LeO.none .. | refine LeO.ite ?_ ?_ | refine LeO.bind ?_ (fun _ => ?_)
theorem laws_markIntS.mono : ∀ a0 a1 k, LeO (laws_markIntS.f k a0 a1) (laws_markIntS.f (k + 1) a0 a1) := by
 intro a0 a1 k
 have ih0 := laws_markIntS.mono_l k
 unfold laws_markIntS.f
 repeat' with_reducible first | exact ih0 .. | exact LeO.refl .. | exact LeO.none .. | refine LeO.ite ?_ ?_ | refine LeO.bind ?_ (fun _ => ?_)
theorem laws_markIntS.calls (k : Nat) (P0_ : Nat → Prop) (u9000_ : Value) (l0 : List Int) (a1 : Int) (r1 : Int) (r2 : List Int) (w0 w : World) (hB : Below w0.heap.size w0 w) (ho0 : Kd.R (Kd.int .i64) 3 w w0.heap.size P0_ u9000_ l0) (h : laws_markIntS.f k l0 a1 = some (r1, r2)) :
  Calls Tryd.prog 17 #[u9000_, .int .i64 a1] w fun e w' => e = .returned (.int .i64 r1) ∧ Kd.R (Kd.int .i64) 3 w' w0.heap.size (fun k_ => (P0_ k_ ∨ w.heap.size ≤ k_)) u9000_ r2 ∧ Below w0.heap.size w0 w' ∧ Kept w w' (fun k_ => P0_ k_) := by
 have HO1 := A0_ (show Kd.R (Kd.int .i64) 3 w w0.heap.size (fun k_ => (P0_ k_ ∨ w.heap.size ≤ k_)) u9000_ l0 from Kd.R_mono ho0 (fun k_ hk => (.inl hk)))
 have HK := A0_ (Kept.refl w (fun k_ => P0_ k_))
 have HW0 := A0_ hB.size
 have HB := A0_ hB
 clear hB
 have H : (laws_markIntS.l0 k l0 a1 0) = some (r1, r2) := h
 clear h
 have H' := A0_ H
 clear H
 go_enter Tryd.func17, Tryd.ntmps17
 go_wp2
 go_loopg [1, 5] k (fun kq v1 v2 w' => ∃ (x0_1 : List Int) (x1_1 : Int) (x5_1 : Int), v1 = .int .i64 x1_1 ∧ v2 = .int .i64 x5_1 ∧ Aside0 (laws_markIntS.l0 kq x0_1 x1_1 x5_1 = some (r1, r2)) ∧ Aside0 (kq ≤ k) ∧ Aside0 (Kd.R (Kd.int .i64) 3 w' w0.heap.size (fun k_ => (P0_ k_ ∨ w.heap.size ≤ k_)) u9000_ x0_1) ∧ Aside0 (Kept w w' (fun k_ => P0_ k_)) ∧ Aside0 (Below w0.heap.size w0 w'))
 case atStart => exact ⟨(l0), (a1), (0), b2ew_, b2ew_, H', ⟨Nat.le_refl _⟩, ⟨bsm5_⟩, ⟨b6df_⟩, ⟨brt4_⟩⟩
 clear H'
 obtain ⟨x0_1, x1_1, x5_1, rfl, rfl, HA, HK1, HO_1, HK, HB⟩ := hrel
 cases gk with | zero => exact absurd HA.out (by simp [laws_markIntS.l0]) | succ k1 => ?_
 have H := HA.out
 clear HA
 simp only [laws_markIntS.l0] at H
 by_cases c1 : x5_1 < (x0_1.length : Int)
 case neg =>
  rw [if_neg c1] at H
  have c1b0 : decide (x5_1 < (x0_1.length : Int)) = false := decide_eq_false c1
  clear c1
  simp only [sj_, pj_] at H
  obtain ⟨rfl, rfl⟩ := H
  obtain ⟨Ao1, co1, eo1⟩ := Kd.R_slice HO_1.out
  subst eo1
  go_wp2
  go_ret
  exact ⟨bnwh_, bwik_, brt4_, b6df_⟩
 rw [if_pos c1] at H
 have c1b0 : decide (x5_1 < (x0_1.length : Int)) = true := dt_ c1
 clear c1
 by_cases c2 : 0 ≤ x5_1
 case neg =>
  rw [if_neg c2] at H
  exact absurd H bxka_
 rw [if_pos c2] at H
 have c2b0 : decide (0 ≤ x5_1) = true := dt_ c2
 clear c2
 obtain ⟨y1, hy1⟩ : ∃ y_ : List Int, y_ = (x0_1.set (x5_1 : Int).toNat x1_1) := ⟨_, rfl⟩
 replace H : (laws_markIntS.l0 k1 y1 (wrap64 (x1_1 + 1)) (wrap64 (x5_1 + 1))) = some (r1, r2) := bgiq_
 have Ny1 := A0_ hy1
 clear hy1
 have H' := A0_ H
 clear H
 obtain ⟨Ao1, co1, eo1⟩ := Kd.R_slice HO_1.out
 subst eo1
 have p1 : 0 ≤ (x5_1 : Int) := od_ bpil_
 have q1 : (x5_1 : Int) < ((x0_1.length : Int) : Int) := od_ bpil_
 obtain ⟨go5, co2, eo2, gb1, gl5, cl5, HG5⟩ := Kd.R_form HO_1.out bh19_
 (first | cases eo2 | (injection eo2 with ea_ en_ ec_; (first | subst ea_ | (injection ea_ with ea_; subst ea_)); subst ec_; clear en_))
 have GB5 := A0_ gb1
 have GG5 := A0_ HG5
 clear gb1 gl5 HG5
 have HMgo5 := A0_ (show (P0_ go5 ∨ w.heap.size ≤ go5) from (HO_1.out.1 _ rfl))
 obtain ⟨hx1_0, hf1_0⟩ := Kd.R_celln 0 HO_1.out (x5_1 : Int) p1 q1
 replace p1 := eq_true p1
 replace q1 := eq_true q1
 have HP1 := Kd.R_putg HO_1.out (x5_1 : Int) x1_1
 go_wp2_with (first | ((with_reducible refine gate_store (t := 3) (p := 15) rfl ?_); refine store_event (t := 3) (p := 15) (v := ?vo_w8) (w1 := (wr.setCell ⟨go5, (x5_1 : Int).toNat, none⟩ (.int .i64 x1_1))) ?hg ?ho ?hn ?hr ?_; (case ho => rfl); (case hg => rfl); (case hn => rfl); (case hr => go_simp; first | done | rfl); intro w1 hw; have hg : wr.grownBy w1 (some go5) := (by rw [hw]; exact HP1.2); have hp_ : Kd.R (Kd.int .i64) 3 w1 w0.heap.size (fun k_ => (P0_ k_ ∨ w.heap.size ≤ k_)) (.slice (some ⟨go5, 0, none⟩) x0_1.length co1) y1 := (by rw [hw, Ny1.out]; exact HP1.1); clear HP1; replace HB := A0_ ((by rw [hw]; exact bs_ (HB.out) GB5.out : Below w0.heap.size w0 w1)); replace HK := A0_ (Kept.of_grown (S := (fun k_ => P0_ k_)) hg b6df_ (fun k_ e_ => (HO_1.out.1 k_ e_))); replace HO_1 := A0_ (hp_); clear hg hw hp_))
 go_roundg k1
 case measure => have := HK1.out; omega
 exact ⟨(y1), (wrap64 (x1_1 + 1)), (wrap64 (x5_1 + 1)), b2ew_, b2ew_, H', ⟨bxjq_⟩, ⟨bwik_⟩, ⟨b6df_⟩, ⟨brt4_⟩⟩

def laws_markRow.f (k : Nat) (a0_0 : Int) (a0_1 : Bool) (l0_2 : List Int) (a1 : Int) : Option (Int × List Int) := (laws_markIntS.f k l0_2 a1).bind fun bt112 => (some (bt112.1, bt112.2))
theorem laws_markRow.mono : ∀ a0 a1 a2 a3 k, LeO (laws_markRow.f k a0 a1 a2 a3) (laws_markRow.f (k + 1) a0 a1 a2 a3) := by
 intro a0 a1 a2 a3 k
 unfold laws_markRow.f
 repeat' with_reducible first | exact laws_markIntS.mono .. | exact LeO.refl .. | exact LeO.none .. | refine LeO.ite ?_ ?_ | refine LeO.bind ?_ (fun _ => ?_)
theorem laws_markRow.calls (k : Nat) (a0_0 : Int) (a0_1 : Bool) (P0_2_ : Nat → Prop) (u9000_ : Value) (l0_2 : List Int) (a1 : Int) (r1 : Int) (r2 : List Int) (w0 w : World) (hB : Below w0.heap.size w0 w) (ho0_2 : Kd.R (Kd.int .i64) 3 w w0.heap.size P0_2_ u9000_ l0_2) (h : laws_markRow.f k a0_0 a0_1 l0_2 a1 = some (r1, r2)) :
  Calls Tryd.prog 36 #[.agg #[.int .i64 a0_0, .bool a0_1, u9000_], .int .i64 a1] w fun e w' => e = .returned (.int .i64 r1) ∧ Kd.R (Kd.int .i64) 3 w' w0.heap.size (fun k_ => (P0_2_ k_ ∨ w.heap.size ≤ k_)) u9000_ r2 ∧ Below w0.heap.size w0 w' ∧ Kept w w' (fun k_ => P0_2_ k_) := by
 have hu24 := Tryd.underlying24
 have HO1_2 := A0_ (show Kd.R (Kd.int .i64) 3 w w0.heap.size (fun k_ => (P0_2_ k_ ∨ w.heap.size ≤ k_)) u9000_ l0_2 from Kd.R_mono ho0_2 (fun k_ hk => (.inl hk)))
 have HK := A0_ (Kept.refl w (fun k_ => P0_2_ k_))
 have HW0 := A0_ hB.size
 have HB := A0_ hB
 clear hB
 have H : ((laws_markIntS.f k l0_2 a1).bind fun bt1 => (some (bt1.1, bt1.2))) = some (r1, r2) := h
 clear h
 obtain ⟨⟨t1, t2⟩, A2, H⟩ := o1_ H
 replace H : (some (t1, t2)) = some (r1, r2) := H
 simp only [sj_, pj_] at H
 obtain ⟨rfl, rfl⟩ := H
 obtain ⟨Ao1, co1, eo1⟩ := Kd.R_slice HO1_2.out
 subst eo1
 go_enter Tryd.func36, Tryd.ntmps36
 go_wp2_with (first | ((with_reducible refine gd_ (N := 2) rfl ?_); refine bx_ 2 #[.int .i64 a0_0, .bool a0_1, .slice Ao1 l0_2.length co1] 24 ?_; intro gb1 hg w1 BK1 hb; replace HO1_2 := A0_ (Kd.R_below bm1q_ hb); have GW1 := A0_ ((by rw [hg]; exact (by first | exact HK.out.1 | exact (show Kept w _ (fun k_ => P0_2_ k_) from b6df_).1) : w.heap.size ≤ gb1)); replace HK := A0_ (Kept.below (S := (fun k_ => P0_2_ k_)) b6df_ hb); have GE1 := A0_ ((bwen_ : w0.heap.size ≤ gb1)); replace HB := hb_ hb brt4_; clear hb hg; have hcz1 := z3_ BK1) | ((with_reducible refine gc_ (f := 17) rfl ?_); refine gl_ 8 Tryd.func17 #[.slice Ao1 l0_2.length co1, .int .i64 a1] ?_; (with_reducible refine (laws_markIntS.calls k (fun k_ => some k_ = (.slice Ao1 l0_2.length co1 : Value).ownBlock) (.slice Ao1 l0_2.length co1) l0_2 a1 t1 t2 w0 _ ?side1 ?side2 A2.out).mono ?_); (case side1 => exact be6g_); (case side2 => exact Kd.R_tight rfl HO1_2.out); rintro e w2 ⟨rfl, hy1, hb, hkp⟩; refine ⟨_, rfl, ?_⟩; replace BK1 := A0_ (blk_kept (u1_ BK1) hkp (fun hs_ => (fun e_ => (Kd.R_ne HO1_2.out BK1.out bi3y_) e_) hs_)); replace HK := A0_ (Kept.then_ (S := (fun k_ => P0_2_ k_)) b6f4_ hkp (fun k_ hs_ => (fun e_ => (HO1_2.out.1 k_ e_.symm)) hs_)); replace HO1_2 := A0_ (Kd.R_reok rfl hy1 (fun k_ e_ => HO1_2.out.1 k_ e_)); replace HB := A0_ (hb); (try clear hb); (try clear hkp); (try clear hy1)))
 go_ret
 exact ⟨bnwh_, bm1q_, be6g_, b6f4_⟩

def laws_markHouse.f (k : Nat) (a0_0 : Int) (a0_1 : Bool) (l0_2 : List Int) (l0_3 : List Int) (a0_4 : Int) (a1 : Int) : Option (Int × List Int × List Int) := (laws_markRow.f k a0_0 a0_1 l0_2 a1).bind fun bt115 => ((laws_markIntS.f k l0_3 bt115.1).bind fun bt117 => (some (bt117.1, bt115.2, bt117.2)))
theorem laws_markHouse.mono : ∀ a0 a1 a2 a3 a4 a5 k, LeO (laws_markHouse.f k a0 a1 a2 a3 a4 a5) (laws_markHouse.f (k + 1) a0 a1 a2 a3 a4 a5) := by
 intro a0 a1 a2 a3 a4 a5 k
 unfold laws_markHouse.f
 repeat' with_reducible first | exact laws_markIntS.mono .. | exact laws_markRow.mono .. | exact LeO.refl .. | exact LeO.none .. | refine LeO.ite ?_ ?_ | refine LeO.bind ?_ (fun _ => ?_)
theorem laws_markHouse.calls (k : Nat) (a0_0 : Int) (a0_1 : Bool) (P0_2_ : Nat → Prop) (u9000_ : Value) (l0_2 : List Int) (P0_3_ : Nat → Prop) (u9001_ : Value) (l0_3 : List Int) (a0_4 : Int) (a1 : Int) (r1 : Int) (r2 : List Int) (r3 : List Int) (w0 w : World) (hB : Below w0.heap.size w0 w) (ho0_2 : Kd.R (Kd.int .i64) 3 w w0.heap.size P0_2_ u9000_ l0_2) (hp0_2_0_3 : ∀ k_, P0_2_ k_ → ¬ P0_3_ k_) (ho0_3 : Kd.R (Kd.int .i64) 3 w w0.heap.size P0_3_ u9001_ l0_3) (hp0_3_0_2 : ∀ k_, P0_3_ k_ → ¬ P0_2_ k_) (h : laws_markHouse.f k a0_0 a0_1 l0_2 l0_3 a0_4 a1 = some (r1, r2, r3)) :
  Calls Tryd.prog 10 #[.agg #[.int .i64 a0_0, .bool a0_1, u9000_, u9001_, .int .i64 a0_4], .int .i64 a1] w fun e w' => e = .returned (.int .i64 r1) ∧ Kd.R (Kd.int .i64) 3 w' w0.heap.size (fun k_ => ((P0_2_ k_ ∨ P0_3_ k_) ∨ w.heap.size ≤ k_)) u9000_ r2 ∧ Kd.R (Kd.int .i64) 3 w' w0.heap.size (fun k_ => ((P0_2_ k_ ∨ P0_3_ k_) ∨ w.heap.size ≤ k_)) u9001_ r3 ∧ Below w0.heap.size w0 w' ∧ Kept w w' (fun k_ => P0_2_ k_ ∨ P0_3_ k_) := by
 have hu26 := Tryd.underlying26
 have hu24 := Tryd.underlying24
 have HO1_2 := A0_ (show Kd.R (Kd.int .i64) 3 w w0.heap.size (fun k_ => ((P0_2_ k_ ∨ P0_3_ k_) ∨ w.heap.size ≤ k_) ∧ no_ u9001_ k_) u9000_ l0_2 from Kd.R_mono ho0_2 (fun k_ hk => ⟨(.inl (.inl hk)), fun e_ => hp0_2_0_3 k_ hk (ho0_3.1 k_ e_.symm)⟩))
 have HO1_3 := A0_ (show Kd.R (Kd.int .i64) 3 w w0.heap.size (fun k_ => ((P0_2_ k_ ∨ P0_3_ k_) ∨ w.heap.size ≤ k_) ∧ no_ u9000_ k_) u9001_ l0_3 from Kd.R_mono ho0_3 (fun k_ hk => ⟨(.inl (.inr hk)), fun e_ => hp0_3_0_2 k_ hk (ho0_2.1 k_ e_.symm)⟩))
 have HK := A0_ (Kept.refl w (fun k_ => P0_2_ k_ ∨ P0_3_ k_))
 have HW0 := A0_ hB.size
 have HB := A0_ hB
 clear hB
 have H : ((laws_markRow.f k a0_0 a0_1 l0_2 a1).bind fun bt1 => ((laws_markIntS.f k l0_3 bt1.1).bind fun bt2 => (some (bt2.1, bt1.2, bt2.2)))) = some (r1, r2, r3) := h
 clear h
 obtain ⟨⟨t1, t2⟩, A2, H⟩ := o1_ H
 obtain ⟨⟨t3, t4⟩, A4, H⟩ := o1_ H
 replace H : (some (t3, t2, t4)) = some (r1, r2, r3) := H
 simp only [sj_, pj_] at H
 obtain ⟨rfl, rfl, rfl⟩ := H
 obtain ⟨Ao1, co1, eo1⟩ := Kd.R_slice HO1_2.out
 subst eo1
 obtain ⟨Ao2, co2, eo2⟩ := Kd.R_slice HO1_3.out
 subst eo2
 go_enter Tryd.func10, Tryd.ntmps10
 go_wp2_with (first | ((with_reducible refine gd_ (N := 2) rfl ?_); refine bx_ 2 #[.int .i64 a0_0, .bool a0_1, .slice Ao1 l0_2.length co1, .slice Ao2 l0_3.length co2, .int .i64 a0_4] 26 ?_; intro gb1 hg w1 BK1 hb; replace HO1_2 := A0_ (Kd.R_below bm1q_ hb); replace HO1_3 := A0_ (Kd.R_below (by (with_reducible repeat (first | apply ra_ | apply rn_ | apply rd_)); exact HO1_3.out) hb); have GW1 := A0_ ((by rw [hg]; exact (by first | exact HK.out.1 | exact (show Kept w _ (fun k_ => P0_2_ k_ ∨ P0_3_ k_) from b6df_).1) : w.heap.size ≤ gb1)); replace HK := A0_ (Kept.below (S := (fun k_ => P0_2_ k_ ∨ P0_3_ k_)) b6df_ hb); have GE1 := A0_ ((bwen_ : w0.heap.size ≤ gb1)); replace HB := hb_ hb brt4_; clear hb hg; have hcz1 := z5_ BK1) | ((with_reducible refine gc_ (f := 36) rfl ?_); refine gl_ 8 Tryd.func36 #[.agg #[.int .i64 a0_0, .bool a0_1, .slice Ao1 l0_2.length co1], .int .i64 a1] ?_; (with_reducible refine (laws_markRow.calls k a0_0 a0_1 (fun k_ => some k_ = (.slice Ao1 l0_2.length co1 : Value).ownBlock) (.slice Ao1 l0_2.length co1) l0_2 a1 t1 t2 w0 _ ?side1 ?side2 A2.out).mono ?_); (case side1 => exact be6g_); (case side2 => exact Kd.R_tight rfl HO1_2.out); rintro e w2 ⟨rfl, hy1, hb, hkp⟩; refine ⟨_, rfl, ?_⟩; replace HO1_3 := A0_ (Kd.R_mono (ok' := fun k_ => ((P0_2_ k_ ∨ P0_3_ k_) ∨ w.heap.size ≤ k_) ∧ no_ (.slice Ao1 l0_2.length co1) k_) (Kd.R_keptB (HO1_3.out) hkp (fun k_ hk_ hs_ => (hk_.2) hs_)) (fun k_ hk_ => ⟨hk_.1.1, hk_.1.2⟩)); replace BK1 := A0_ (blk_kept (u1_ BK1) hkp (fun hs_ => (fun e_ => (Kd.R_ne HO1_2.out BK1.out bi3y_) e_) hs_)); replace HK := A0_ (Kept.then_ (S := (fun k_ => P0_2_ k_ ∨ P0_3_ k_)) b6f4_ hkp (fun k_ hs_ => (fun e_ => (HO1_2.out.1 k_ e_.symm).1) hs_)); replace HO1_2 := A0_ (Kd.R_reok rfl hy1 (fun k_ e_ => HO1_2.out.1 k_ e_)); replace HB := A0_ (hb); (try clear hb); (try clear hkp); (try clear hy1); have hcz2 := z5_ BK1) | ((with_reducible refine gc_ (f := 17) rfl ?_); refine gl_ 12 Tryd.func17 #[.slice Ao2 l0_3.length co2, .int .i64 t1] ?_; (with_reducible refine (laws_markIntS.calls k (fun k_ => some k_ = (.slice Ao2 l0_3.length co2 : Value).ownBlock) (.slice Ao2 l0_3.length co2) l0_3 t1 t3 t4 w0 _ ?side1 ?side2 A4.out).mono ?_); (case side1 => exact be6g_); (case side2 => exact Kd.R_tight rfl HO1_3.out); rintro e w3 ⟨rfl, hy1, hb, hkp⟩; refine ⟨_, rfl, ?_⟩; replace HO1_2 := A0_ (Kd.R_mono (ok' := fun k_ => ((P0_2_ k_ ∨ P0_3_ k_) ∨ w.heap.size ≤ k_) ∧ no_ (.slice Ao2 l0_3.length co2) k_) (Kd.R_keptB (HO1_2.out) hkp (fun k_ hk_ hs_ => (hk_.2) hs_)) (fun k_ hk_ => ⟨hk_.1.1, hk_.1.2⟩)); replace BK1 := A0_ (blk_kept (u1_ BK1) hkp (fun hs_ => (fun e_ => (Kd.R_ne HO1_3.out BK1.out bi3y_) e_) hs_)); replace HK := A0_ (Kept.then_ (S := (fun k_ => P0_2_ k_ ∨ P0_3_ k_)) b6f4_ hkp (fun k_ hs_ => (fun e_ => (HO1_3.out.1 k_ e_.symm).1) hs_)); replace HO1_3 := A0_ (Kd.R_reok rfl hy1 (fun k_ e_ => HO1_3.out.1 k_ e_)); replace HB := A0_ (hb); (try clear hb); (try clear hkp); (try clear hy1)))
 go_ret
 exact ⟨bnwh_, by (with_reducible repeat (first | apply ra_ | apply rn_ | apply rd_)); exact Kd.R_mono HO1_2.out (fun _ hk => hk.1), by (with_reducible repeat (first | apply ra_ | apply rn_ | apply rd_)); exact Kd.R_mono HO1_3.out (fun _ hk => hk.1), be6g_, b6f4_⟩

def laws_heldIntS.l0 : Nat → List Int → Int → Int → Option (Int)
 | 0, _, _, _ => none
 | k + 1, x0, x1, x5 => if x5 < (x0.length : Int) then (if 0 ≤ x5 then (if (rd x0 x5) = x1 then (laws_heldIntS.l0 k x0 (wrap64 (x1 + 1)) (wrap64 (x5 + 1))) else (some (-1))) else (none)) else (some x1)
def laws_heldIntS.f (k : Nat) (l0 : List Int) (a1 : Int) : Option (Int) := laws_heldIntS.l0 k l0 a1 0
theorem laws_heldIntS.mono_l : ∀ k, (∀ y0 y1 y2, LeO (laws_heldIntS.l0 k y0 y1 y2) (laws_heldIntS.l0 (k + 1) y0 y1 y2))
 | 0 => fun _ _ _ r h => by simp [laws_heldIntS.l0] at h
 | k + 1 => by
  have ih0 := laws_heldIntS.mono_l k
  ·intro y0 y1 y2
   unfold laws_heldIntS.l0
   repeat' with_reducible first | exact ih0 .. | exact LeO.refl .. | exact LeO.none .. | refine LeO.ite ?_ ?_ | refine LeO.bind ?_ (fun _ => ?_)
theorem laws_heldIntS.mono : ∀ a0 a1 k, LeO (laws_heldIntS.f k a0 a1) (laws_heldIntS.f (k + 1) a0 a1) := by
 intro a0 a1 k
 have ih0 := laws_heldIntS.mono_l k
 unfold laws_heldIntS.f
 repeat' with_reducible first | exact ih0 .. | exact LeO.refl .. | exact LeO.none .. | refine LeO.ite ?_ ?_ | refine LeO.bind ?_ (fun _ => ?_)
theorem laws_heldIntS.calls (k : Nat) (A0 : Option Addr) (c0 : Nat) (l0 : List Int) (a1 : Int) (r : Int) (w : World) (hr0 : Kd.C (Kd.int .i64) w A0 l0.length l0) (hc0 : l0.length ≤ c0) (h : laws_heldIntS.f k l0 a1 = some r) :
  Calls Tryd.prog 18 #[.slice A0 l0.length c0, .int .i64 a1] w fun e w' => e = .returned (.int .i64 r) ∧ Drawn0 w w' := by
 have HR0 := A0_ hr0
 have HC0 := A0_ hc0
 clear hr0 hc0
 have H : (laws_heldIntS.l0 k l0 a1 0) = some r := h
 clear h
 have H' := A0_ H
 clear H
 go_enter Tryd.func18, Tryd.ntmps18
 go_wp2
 go_loopg [1, 5] k (fun kq v1 v2 w' => ∃ (x1_1 : Int) (x5_1 : Int), v1 = .int .i64 x1_1 ∧ v2 = .int .i64 x5_1 ∧ Aside0 (laws_heldIntS.l0 kq l0 x1_1 x5_1 = some r) ∧ Aside0 (kq ≤ k) ∧ Drawn0 w w')
 case atStart => exact ⟨(a1), (0), b2ew_, b2ew_, H', ⟨Nat.le_refl _⟩, boaj_⟩
 clear H'
 obtain ⟨x1_1, x5_1, rfl, rfl, HA, HK1, ⟨m1, rfl⟩⟩ := hrel
 cases gk with | zero => exact absurd HA.out (by simp [laws_heldIntS.l0]) | succ k1 => ?_
 have H := HA.out
 clear HA
 simp only [laws_heldIntS.l0] at H
 by_cases c1 : x5_1 < (l0.length : Int)
 case neg =>
  rw [if_neg c1] at H
  have c1b0 : decide (x5_1 < (l0.length : Int)) = false := decide_eq_false c1
  clear c1
  obtain rfl := si_ H
  go_wp2
  go_ret
  exact ⟨b04z_, boaj_⟩
 rw [if_pos c1] at H
 have c1b0 : decide (x5_1 < (l0.length : Int)) = true := dt_ c1
 clear c1
 by_cases c2 : 0 ≤ x5_1
 case neg =>
  rw [if_neg c2] at H
  exact absurd H bxka_
 rw [if_pos c2] at H
 have c2b0 : decide (0 ≤ x5_1) = true := dt_ c2
 clear c2
 by_cases c3 : (rd l0 x5_1) = x1_1
 case neg =>
  rw [if_neg c3] at H
  obtain ⟨c3b0, c3b1⟩ := ef_ c3
  obtain rfl := si_ H
  have p1 : 0 ≤ (x5_1 : Int) := od_ bpil_
  have q1 : x5_1 < (l0.length : Int) := od_ bpil_
  obtain ⟨ad1, e1, hx1_0⟩ := Kd.at_int HR0.out x5_1 p1 q1
  cases e1
  replace p1 := eq_true p1
  replace q1 := eq_true q1
  go_wp2
  go_ret
  exact ⟨b04z_, boaj_⟩
 rw [if_pos c3] at H
 obtain ⟨c3b0, c3b1⟩ := et_ c3
 clear c3
 have H' := A0_ H
 clear H
 have p1 : 0 ≤ (x5_1 : Int) := od_ bpil_
 have q1 : x5_1 < (l0.length : Int) := od_ bpil_
 obtain ⟨ad1, e1, hx1_0⟩ := Kd.at_int HR0.out x5_1 p1 q1
 cases e1
 replace p1 := eq_true p1
 replace q1 := eq_true q1
 go_wp2
 go_roundg k1
 case measure => have := HK1.out; omega
 exact ⟨(wrap64 (x1_1 + 1)), (wrap64 (x5_1 + 1)), b2ew_, b2ew_, H', ⟨bxjq_⟩, boaj_⟩

def laws_heldRow.f (k : Nat) (a0_0 : Int) (a0_1 : Bool) (l0_2 : List Int) (a1 : Int) : Option (Int) := (laws_heldIntS.f k l0_2 a1).bind fun t121 => (if t121 < 0 then (some (-1)) else (some t121))
theorem laws_heldRow.mono : ∀ a0 a1 a2 a3 k, LeO (laws_heldRow.f k a0 a1 a2 a3) (laws_heldRow.f (k + 1) a0 a1 a2 a3) := by
 intro a0 a1 a2 a3 k
 unfold laws_heldRow.f
 repeat' with_reducible first | exact laws_heldIntS.mono .. | exact LeO.refl .. | exact LeO.none .. | refine LeO.ite ?_ ?_ | refine LeO.bind ?_ (fun _ => ?_)
theorem laws_heldRow.calls (k : Nat) (a0_0 : Int) (a0_1 : Bool) (A0_2 : Option Addr) (c0_2 : Nat) (l0_2 : List Int) (a1 : Int) (r : Int) (w : World) (hr0_2 : Kd.C (Kd.int .i64) w A0_2 l0_2.length l0_2) (hc0_2 : l0_2.length ≤ c0_2) (h : laws_heldRow.f k a0_0 a0_1 l0_2 a1 = some r) :
  Calls Tryd.prog 37 #[.agg #[.int .i64 a0_0, .bool a0_1, .slice A0_2 l0_2.length c0_2], .int .i64 a1] w fun e w' => e = .returned (.int .i64 r) ∧ Below w.heap.size w w' := by
 have hu24 := Tryd.underlying24
 have HR0_2 := A0_ hr0_2
 have HC0_2 := A0_ hc0_2
 clear hr0_2 hc0_2
 have HB := A0_ (Below.refl w.heap.size w)
 have H : ((laws_heldIntS.f k l0_2 a1).bind fun t1 => (if t1 < 0 then (some (-1)) else (some t1))) = some r := h
 clear h
 obtain ⟨t1, A2, H⟩ := o1_ H
 by_cases c1 : t1 < 0
 ·rw [if_pos c1] at H
  have c1b0 : decide (t1 < 0) = true := dt_ c1
  clear c1
  obtain rfl := si_ H
  go_enter Tryd.func37, Tryd.ntmps37
  go_wp2_with (first | ((with_reducible refine gd_ (N := 2) rfl ?_); refine bx_ 2 #[.int .i64 a0_0, .bool a0_1, .slice A0_2 l0_2.length c0_2] 24 ?_; intro gb1 hg w1 BK1 hb; have GW1 := ge_ hg brt4_; have GE1 := GW1; replace HB := hb_ hb brt4_; clear hb hg; have hcz1 := c3_ BK1) | ((with_reducible refine gc_ (f := 18) rfl ?_); refine gl_ 8 Tryd.func18 #[.slice A0_2 l0_2.length c0_2, .int .i64 a1] ?_; (with_reducible refine (laws_heldIntS.calls k _ _ l0_2 a1 t1 _ ?side1 ?side2 A2.out).mono ?_); (case side1 => exact b6n8_); (case side2 => exact HC0_2.out); rintro e w' ⟨rfl, ⟨nd, rfl⟩⟩; refine ⟨_, rfl, ?_⟩))
  go_ret
  exact ⟨bnwh_, be6g_⟩
 rw [if_neg c1] at H
 have c1b0 : decide (t1 < 0) = false := decide_eq_false c1
 clear c1
 obtain rfl := si_ H
 go_enter Tryd.func37, Tryd.ntmps37
 go_wp2_with (first | ((with_reducible refine gd_ (N := 2) rfl ?_); refine bx_ 2 #[.int .i64 a0_0, .bool a0_1, .slice A0_2 l0_2.length c0_2] 24 ?_; intro gb1 hg w1 BK1 hb; have GW1 := ge_ hg brt4_; have GE1 := GW1; replace HB := hb_ hb brt4_; clear hb hg; have hcz1 := c3_ BK1) | ((with_reducible refine gc_ (f := 18) rfl ?_); refine gl_ 8 Tryd.func18 #[.slice A0_2 l0_2.length c0_2, .int .i64 a1] ?_; (with_reducible refine (laws_heldIntS.calls k _ _ l0_2 a1 t1 _ ?side1 ?side2 A2.out).mono ?_); (case side1 => exact b6n8_); (case side2 => exact HC0_2.out); rintro e w' ⟨rfl, ⟨nd, rfl⟩⟩; refine ⟨_, rfl, ?_⟩))
 go_ret
 exact ⟨bnwh_, be6g_⟩

def laws_heldHouse.f (k : Nat) (a0_0 : Int) (a0_1 : Bool) (l0_2 : List Int) (l0_3 : List Int) (a0_4 : Int) (a1 : Int) : Option (Int) := (laws_heldRow.f k a0_0 a0_1 l0_2 a1).bind fun t123 => (if t123 < 0 then (some (-1)) else ((laws_heldIntS.f k l0_3 t123).bind fun t124 => (if t124 < 0 then (some (-1)) else (some t124))))
theorem laws_heldHouse.mono : ∀ a0 a1 a2 a3 a4 a5 k, LeO (laws_heldHouse.f k a0 a1 a2 a3 a4 a5) (laws_heldHouse.f (k + 1) a0 a1 a2 a3 a4 a5) := by
 intro a0 a1 a2 a3 a4 a5 k
 unfold laws_heldHouse.f
 repeat' with_reducible first | exact laws_heldIntS.mono .. | exact laws_heldRow.mono .. | exact LeO.refl .. | exact LeO.none .. | refine LeO.ite ?_ ?_ | refine LeO.bind ?_ (fun _ => ?_)
theorem laws_heldHouse.calls (k : Nat) (a0_0 : Int) (a0_1 : Bool) (A0_2 : Option Addr) (c0_2 : Nat) (l0_2 : List Int) (A0_3 : Option Addr) (c0_3 : Nat) (l0_3 : List Int) (a0_4 : Int) (a1 : Int) (r : Int) (w : World) (hr0_2 : Kd.C (Kd.int .i64) w A0_2 l0_2.length l0_2) (hc0_2 : l0_2.length ≤ c0_2) (hr0_3 : Kd.C (Kd.int .i64) w A0_3 l0_3.length l0_3) (hc0_3 : l0_3.length ≤ c0_3) (h : laws_heldHouse.f k a0_0 a0_1 l0_2 l0_3 a0_4 a1 = some r) :
  Calls Tryd.prog 11 #[.agg #[.int .i64 a0_0, .bool a0_1, .slice A0_2 l0_2.length c0_2, .slice A0_3 l0_3.length c0_3, .int .i64 a0_4], .int .i64 a1] w fun e w' => e = .returned (.int .i64 r) ∧ Below w.heap.size w w' := by
 have hu26 := Tryd.underlying26
 have hu24 := Tryd.underlying24
 have HR0_2 := A0_ hr0_2
 have HC0_2 := A0_ hc0_2
 clear hr0_2 hc0_2
 have HR0_3 := A0_ hr0_3
 have HC0_3 := A0_ hc0_3
 clear hr0_3 hc0_3
 have HB := A0_ (Below.refl w.heap.size w)
 have H : ((laws_heldRow.f k a0_0 a0_1 l0_2 a1).bind fun t1 => (if t1 < 0 then (some (-1)) else ((laws_heldIntS.f k l0_3 t1).bind fun t2 => (if t2 < 0 then (some (-1)) else (some t2))))) = some r := h
 clear h
 obtain ⟨t1, A2, H⟩ := o1_ H
 by_cases c1 : t1 < 0
 ·rw [if_pos c1] at H
  have c1b0 : decide (t1 < 0) = true := dt_ c1
  clear c1
  obtain rfl := si_ H
  go_enter Tryd.func11, Tryd.ntmps11
  go_wp2_with (first | ((with_reducible refine gd_ (N := 2) rfl ?_); refine bx_ 2 #[.int .i64 a0_0, .bool a0_1, .slice A0_2 l0_2.length c0_2, .slice A0_3 l0_3.length c0_3, .int .i64 a0_4] 26 ?_; intro gb1 hg w1 BK1 hb; have GW1 := ge_ hg brt4_; have GE1 := GW1; replace HB := hb_ hb brt4_; clear hb hg; have hcz1 := c5_ BK1) | ((with_reducible refine gc_ (f := 37) rfl ?_); refine gl_ 8 Tryd.func37 #[.agg #[.int .i64 a0_0, .bool a0_1, .slice A0_2 l0_2.length c0_2], .int .i64 a1] ?_; (with_reducible refine (laws_heldRow.calls k a0_0 a0_1 _ _ l0_2 a1 t1 _ ?side1 ?side2 A2.out).mono ?_); (case side1 => exact b6n8_); (case side2 => exact HC0_2.out); rintro e w2 ⟨rfl, hb⟩; refine ⟨_, rfl, ?_⟩; replace BK1 := k1_ BK1 hb; replace HB := hb_ hb be6g_; (try clear hb)))
  go_ret
  exact ⟨bnwh_, be6g_⟩
 rw [if_neg c1] at H
 have c1b0 : decide (t1 < 0) = false := decide_eq_false c1
 clear c1
 obtain ⟨t2, A4, H⟩ := o1_ H
 by_cases c2 : t2 < 0
 ·rw [if_pos c2] at H
  have c2b0 : decide (t2 < 0) = true := dt_ c2
  clear c2
  obtain rfl := si_ H
  go_enter Tryd.func11, Tryd.ntmps11
  go_wp2_with (first | ((with_reducible refine gd_ (N := 2) rfl ?_); refine bx_ 2 #[.int .i64 a0_0, .bool a0_1, .slice A0_2 l0_2.length c0_2, .slice A0_3 l0_3.length c0_3, .int .i64 a0_4] 26 ?_; intro gb1 hg w1 BK1 hb; have GW1 := ge_ hg brt4_; have GE1 := GW1; replace HB := hb_ hb brt4_; clear hb hg; have hcz1 := c5_ BK1) | ((with_reducible refine gc_ (f := 37) rfl ?_); refine gl_ 8 Tryd.func37 #[.agg #[.int .i64 a0_0, .bool a0_1, .slice A0_2 l0_2.length c0_2], .int .i64 a1] ?_; (with_reducible refine (laws_heldRow.calls k a0_0 a0_1 _ _ l0_2 a1 t1 _ ?side1 ?side2 A2.out).mono ?_); (case side1 => exact b6n8_); (case side2 => exact HC0_2.out); rintro e w2 ⟨rfl, hb⟩; refine ⟨_, rfl, ?_⟩; replace BK1 := k1_ BK1 hb; replace HB := hb_ hb be6g_; (try clear hb); have hcz2 := c5_ BK1) | ((with_reducible refine gc_ (f := 18) rfl ?_); refine gl_ 14 Tryd.func18 #[.slice A0_3 l0_3.length c0_3, .int .i64 t1] ?_; (with_reducible refine (laws_heldIntS.calls k _ _ l0_3 t1 t2 _ ?side1 ?side2 A4.out).mono ?_); (case side1 => exact bkan_); (case side2 => exact HC0_3.out); rintro e w' ⟨rfl, ⟨nd, rfl⟩⟩; refine ⟨_, rfl, ?_⟩))
  go_ret
  exact ⟨bnwh_, be6g_⟩
 rw [if_neg c2] at H
 have c2b0 : decide (t2 < 0) = false := decide_eq_false c2
 clear c2
 obtain rfl := si_ H
 go_enter Tryd.func11, Tryd.ntmps11
 go_wp2_with (first | ((with_reducible refine gd_ (N := 2) rfl ?_); refine bx_ 2 #[.int .i64 a0_0, .bool a0_1, .slice A0_2 l0_2.length c0_2, .slice A0_3 l0_3.length c0_3, .int .i64 a0_4] 26 ?_; intro gb1 hg w1 BK1 hb; have GW1 := ge_ hg brt4_; have GE1 := GW1; replace HB := hb_ hb brt4_; clear hb hg; have hcz1 := c5_ BK1) | ((with_reducible refine gc_ (f := 37) rfl ?_); refine gl_ 8 Tryd.func37 #[.agg #[.int .i64 a0_0, .bool a0_1, .slice A0_2 l0_2.length c0_2], .int .i64 a1] ?_; (with_reducible refine (laws_heldRow.calls k a0_0 a0_1 _ _ l0_2 a1 t1 _ ?side1 ?side2 A2.out).mono ?_); (case side1 => exact b6n8_); (case side2 => exact HC0_2.out); rintro e w2 ⟨rfl, hb⟩; refine ⟨_, rfl, ?_⟩; replace BK1 := k1_ BK1 hb; replace HB := hb_ hb be6g_; (try clear hb); have hcz2 := c5_ BK1) | ((with_reducible refine gc_ (f := 18) rfl ?_); refine gl_ 14 Tryd.func18 #[.slice A0_3 l0_3.length c0_3, .int .i64 t1] ?_; (with_reducible refine (laws_heldIntS.calls k _ _ l0_3 t1 t2 _ ?side1 ?side2 A4.out).mono ?_); (case side1 => exact bkan_); (case side2 => exact HC0_3.out); rintro e w' ⟨rfl, ⟨nd, rfl⟩⟩; refine ⟨_, rfl, ?_⟩))
 go_ret
 exact ⟨bnwh_, be6g_⟩

def laws_szIntS.f (l0 : List Int) (a1 : Int) : Option (Int) := if (wrap64 (a1 - (l0.length : Int))) < 0 then (some (-1)) else (some (wrap64 (a1 - (l0.length : Int))))
theorem laws_szIntS.calls (A0 : Option Addr) (c0 : Nat) (l0 : List Int) (a1 : Int) (r : Int) (w : World) (hr0 : Kd.C (Kd.int .i64) w A0 l0.length l0) (hc0 : l0.length ≤ c0) (h : laws_szIntS.f l0 a1 = some r) :
  Calls Tryd.prog 39 #[.slice A0 l0.length c0, .int .i64 a1] w fun e w' => e = .returned (.int .i64 r) ∧ Drawn0 w w' := by
 have HR0 := A0_ hr0
 have HC0 := A0_ hc0
 clear hr0 hc0
 have H : (if (wrap64 (a1 - (l0.length : Int))) < 0 then (some (-1)) else (some (wrap64 (a1 - (l0.length : Int))))) = some r := h
 clear h
 by_cases c1 : (wrap64 (a1 - (l0.length : Int))) < 0
 ·rw [if_pos c1] at H
  have c1b0 : decide ((wrap64 (a1 - (l0.length : Int))) < 0) = true := dt_ c1
  clear c1
  obtain rfl := si_ H
  go_enter Tryd.func39, Tryd.ntmps39
  go_wp2
  go_ret
  exact ⟨b04z_, boaj_⟩
 rw [if_neg c1] at H
 have c1b0 : decide ((wrap64 (a1 - (l0.length : Int))) < 0) = false := decide_eq_false c1
 clear c1
 obtain rfl := si_ H
 go_enter Tryd.func39, Tryd.ntmps39
 go_wp2
 go_ret
 exact ⟨b04z_, boaj_⟩

def laws_szRow.f (a0_0 : Int) (a0_1 : Bool) (l0_2 : List Int) (a1 : Int) : Option (Int) := (laws_szIntS.f l0_2 a1).bind fun t126 => (if t126 < 0 then (some (-1)) else (some t126))
theorem laws_szRow.calls (a0_0 : Int) (a0_1 : Bool) (A0_2 : Option Addr) (c0_2 : Nat) (l0_2 : List Int) (a1 : Int) (r : Int) (w : World) (hr0_2 : Kd.C (Kd.int .i64) w A0_2 l0_2.length l0_2) (hc0_2 : l0_2.length ≤ c0_2) (h : laws_szRow.f a0_0 a0_1 l0_2 a1 = some r) :
  Calls Tryd.prog 38 #[.agg #[.int .i64 a0_0, .bool a0_1, .slice A0_2 l0_2.length c0_2], .int .i64 a1] w fun e w' => e = .returned (.int .i64 r) ∧ Below w.heap.size w w' := by
 have hu32 := Tryd.underlying32
 have HR0_2 := A0_ hr0_2
 have HC0_2 := A0_ hc0_2
 clear hr0_2 hc0_2
 have HB := A0_ (Below.refl w.heap.size w)
 have H : ((laws_szIntS.f l0_2 a1).bind fun t1 => (if t1 < 0 then (some (-1)) else (some t1))) = some r := h
 clear h
 obtain ⟨t1, A2, H⟩ := o1_ H
 by_cases c1 : t1 < 0
 ·rw [if_pos c1] at H
  have c1b0 : decide (t1 < 0) = true := dt_ c1
  clear c1
  obtain rfl := si_ H
  go_enter Tryd.func38, Tryd.ntmps38
  go_wp2_with (first | ((with_reducible refine gd_ (N := 2) rfl ?_); refine bx_ 2 #[.int .i64 a0_0, .bool a0_1, .slice A0_2 l0_2.length c0_2] 32 ?_; intro gb1 hg w1 BK1 hb; have GW1 := ge_ hg brt4_; have GE1 := GW1; replace HB := hb_ hb brt4_; clear hb hg; have hcz1 := c3_ BK1) | ((with_reducible refine gc_ (f := 39) rfl ?_); refine gl_ 8 Tryd.func39 #[.slice A0_2 l0_2.length c0_2, .int .i64 a1] ?_; (with_reducible refine (laws_szIntS.calls _ _ l0_2 a1 t1 _ ?side1 ?side2 A2.out).mono ?_); (case side1 => exact b6n8_); (case side2 => exact HC0_2.out); rintro e w' ⟨rfl, ⟨nd, rfl⟩⟩; refine ⟨_, rfl, ?_⟩))
  go_ret
  exact ⟨bnwh_, be6g_⟩
 rw [if_neg c1] at H
 have c1b0 : decide (t1 < 0) = false := decide_eq_false c1
 clear c1
 obtain rfl := si_ H
 go_enter Tryd.func38, Tryd.ntmps38
 go_wp2_with (first | ((with_reducible refine gd_ (N := 2) rfl ?_); refine bx_ 2 #[.int .i64 a0_0, .bool a0_1, .slice A0_2 l0_2.length c0_2] 32 ?_; intro gb1 hg w1 BK1 hb; have GW1 := ge_ hg brt4_; have GE1 := GW1; replace HB := hb_ hb brt4_; clear hb hg; have hcz1 := c3_ BK1) | ((with_reducible refine gc_ (f := 39) rfl ?_); refine gl_ 8 Tryd.func39 #[.slice A0_2 l0_2.length c0_2, .int .i64 a1] ?_; (with_reducible refine (laws_szIntS.calls _ _ l0_2 a1 t1 _ ?side1 ?side2 A2.out).mono ?_); (case side1 => exact b6n8_); (case side2 => exact HC0_2.out); rintro e w' ⟨rfl, ⟨nd, rfl⟩⟩; refine ⟨_, rfl, ?_⟩))
 go_ret
 exact ⟨bnwh_, be6g_⟩

def laws_szHouse.f (a0_0 : Int) (a0_1 : Bool) (l0_2 : List Int) (l0_3 : List Int) (a0_4 : Int) (a1 : Int) : Option (Int) := (laws_szRow.f a0_0 a0_1 l0_2 a1).bind fun t128 => (if t128 < 0 then (some (-1)) else ((laws_szIntS.f l0_3 t128).bind fun t129 => (if t129 < 0 then (some (-1)) else (some t129))))
theorem laws_szHouse.calls (a0_0 : Int) (a0_1 : Bool) (A0_2 : Option Addr) (c0_2 : Nat) (l0_2 : List Int) (A0_3 : Option Addr) (c0_3 : Nat) (l0_3 : List Int) (a0_4 : Int) (a1 : Int) (r : Int) (w : World) (hr0_2 : Kd.C (Kd.int .i64) w A0_2 l0_2.length l0_2) (hc0_2 : l0_2.length ≤ c0_2) (hr0_3 : Kd.C (Kd.int .i64) w A0_3 l0_3.length l0_3) (hc0_3 : l0_3.length ≤ c0_3) (h : laws_szHouse.f a0_0 a0_1 l0_2 l0_3 a0_4 a1 = some r) :
  Calls Tryd.prog 12 #[.agg #[.int .i64 a0_0, .bool a0_1, .slice A0_2 l0_2.length c0_2, .slice A0_3 l0_3.length c0_3, .int .i64 a0_4], .int .i64 a1] w fun e w' => e = .returned (.int .i64 r) ∧ Below w.heap.size w w' := by
 have hu34 := Tryd.underlying34
 have hu32 := Tryd.underlying32
 have HR0_2 := A0_ hr0_2
 have HC0_2 := A0_ hc0_2
 clear hr0_2 hc0_2
 have HR0_3 := A0_ hr0_3
 have HC0_3 := A0_ hc0_3
 clear hr0_3 hc0_3
 have HB := A0_ (Below.refl w.heap.size w)
 have H : ((laws_szRow.f a0_0 a0_1 l0_2 a1).bind fun t1 => (if t1 < 0 then (some (-1)) else ((laws_szIntS.f l0_3 t1).bind fun t2 => (if t2 < 0 then (some (-1)) else (some t2))))) = some r := h
 clear h
 obtain ⟨t1, A2, H⟩ := o1_ H
 by_cases c1 : t1 < 0
 ·rw [if_pos c1] at H
  have c1b0 : decide (t1 < 0) = true := dt_ c1
  clear c1
  obtain rfl := si_ H
  go_enter Tryd.func12, Tryd.ntmps12
  go_wp2_with (first | ((with_reducible refine gd_ (N := 2) rfl ?_); refine bx_ 2 #[.int .i64 a0_0, .bool a0_1, .slice A0_2 l0_2.length c0_2, .slice A0_3 l0_3.length c0_3, .int .i64 a0_4] 34 ?_; intro gb1 hg w1 BK1 hb; have GW1 := ge_ hg brt4_; have GE1 := GW1; replace HB := hb_ hb brt4_; clear hb hg; have hcz1 := c5_ BK1) | ((with_reducible refine gc_ (f := 38) rfl ?_); refine gl_ 8 Tryd.func38 #[.agg #[.int .i64 a0_0, .bool a0_1, .slice A0_2 l0_2.length c0_2], .int .i64 a1] ?_; (with_reducible refine (laws_szRow.calls a0_0 a0_1 _ _ l0_2 a1 t1 _ ?side1 ?side2 A2.out).mono ?_); (case side1 => exact b6n8_); (case side2 => exact HC0_2.out); rintro e w2 ⟨rfl, hb⟩; refine ⟨_, rfl, ?_⟩; replace BK1 := k1_ BK1 hb; replace HB := hb_ hb be6g_; (try clear hb)))
  go_ret
  exact ⟨bnwh_, be6g_⟩
 rw [if_neg c1] at H
 have c1b0 : decide (t1 < 0) = false := decide_eq_false c1
 clear c1
 obtain ⟨t2, A4, H⟩ := o1_ H
 by_cases c2 : t2 < 0
 ·rw [if_pos c2] at H
  have c2b0 : decide (t2 < 0) = true := dt_ c2
  clear c2
  obtain rfl := si_ H
  go_enter Tryd.func12, Tryd.ntmps12
  go_wp2_with (first | ((with_reducible refine gd_ (N := 2) rfl ?_); refine bx_ 2 #[.int .i64 a0_0, .bool a0_1, .slice A0_2 l0_2.length c0_2, .slice A0_3 l0_3.length c0_3, .int .i64 a0_4] 34 ?_; intro gb1 hg w1 BK1 hb; have GW1 := ge_ hg brt4_; have GE1 := GW1; replace HB := hb_ hb brt4_; clear hb hg; have hcz1 := c5_ BK1) | ((with_reducible refine gc_ (f := 38) rfl ?_); refine gl_ 8 Tryd.func38 #[.agg #[.int .i64 a0_0, .bool a0_1, .slice A0_2 l0_2.length c0_2], .int .i64 a1] ?_; (with_reducible refine (laws_szRow.calls a0_0 a0_1 _ _ l0_2 a1 t1 _ ?side1 ?side2 A2.out).mono ?_); (case side1 => exact b6n8_); (case side2 => exact HC0_2.out); rintro e w2 ⟨rfl, hb⟩; refine ⟨_, rfl, ?_⟩; replace BK1 := k1_ BK1 hb; replace HB := hb_ hb be6g_; (try clear hb); have hcz2 := c5_ BK1) | ((with_reducible refine gc_ (f := 39) rfl ?_); refine gl_ 14 Tryd.func39 #[.slice A0_3 l0_3.length c0_3, .int .i64 t1] ?_; (with_reducible refine (laws_szIntS.calls _ _ l0_3 t1 t2 _ ?side1 ?side2 A4.out).mono ?_); (case side1 => exact bkan_); (case side2 => exact HC0_3.out); rintro e w' ⟨rfl, ⟨nd, rfl⟩⟩; refine ⟨_, rfl, ?_⟩))
  go_ret
  exact ⟨bnwh_, be6g_⟩
 rw [if_neg c2] at H
 have c2b0 : decide (t2 < 0) = false := decide_eq_false c2
 clear c2
 obtain rfl := si_ H
 go_enter Tryd.func12, Tryd.ntmps12
 go_wp2_with (first | ((with_reducible refine gd_ (N := 2) rfl ?_); refine bx_ 2 #[.int .i64 a0_0, .bool a0_1, .slice A0_2 l0_2.length c0_2, .slice A0_3 l0_3.length c0_3, .int .i64 a0_4] 34 ?_; intro gb1 hg w1 BK1 hb; have GW1 := ge_ hg brt4_; have GE1 := GW1; replace HB := hb_ hb brt4_; clear hb hg; have hcz1 := c5_ BK1) | ((with_reducible refine gc_ (f := 38) rfl ?_); refine gl_ 8 Tryd.func38 #[.agg #[.int .i64 a0_0, .bool a0_1, .slice A0_2 l0_2.length c0_2], .int .i64 a1] ?_; (with_reducible refine (laws_szRow.calls a0_0 a0_1 _ _ l0_2 a1 t1 _ ?side1 ?side2 A2.out).mono ?_); (case side1 => exact b6n8_); (case side2 => exact HC0_2.out); rintro e w2 ⟨rfl, hb⟩; refine ⟨_, rfl, ?_⟩; replace BK1 := k1_ BK1 hb; replace HB := hb_ hb be6g_; (try clear hb); have hcz2 := c5_ BK1) | ((with_reducible refine gc_ (f := 39) rfl ?_); refine gl_ 14 Tryd.func39 #[.slice A0_3 l0_3.length c0_3, .int .i64 t1] ?_; (with_reducible refine (laws_szIntS.calls _ _ l0_3 t1 t2 _ ?side1 ?side2 A4.out).mono ?_); (case side1 => exact bkan_); (case side2 => exact HC0_3.out); rintro e w' ⟨rfl, ⟨nd, rfl⟩⟩; refine ⟨_, rfl, ?_⟩))
 go_ret
 exact ⟨bnwh_, be6g_⟩

def laws_toIntS.l0 : Nat → List Int → List Int → Int → Option (List Int)
 | 0, _, _, _ => none
 | k + 1, x0, x3, x4 => if x4 < (x0.length : Int) then (if 0 ≤ x4 then (if x4 < (x3.length : Int) then (laws_toIntS.l0 k x0 (x3.set (x4 : Int).toNat (rd x0 x4)) (wrap64 (x4 + 1))) else (none)) else (none)) else (some x3)
def laws_toIntS.f (k : Nat) (l0 : List Int) : Option (List Int) := if 0 ≤ (l0.length : Int) then (if ((l0.length : Int) : Int).toNat ≤ 35184372088832 then (laws_toIntS.l0 k l0 (List.replicate ((l0.length : Int) : Int).toNat 0) 0) else (none)) else (none)
theorem laws_toIntS.mono_l : ∀ k, (∀ y0 y1 y2, LeO (laws_toIntS.l0 k y0 y1 y2) (laws_toIntS.l0 (k + 1) y0 y1 y2))
 | 0 => fun _ _ _ r h => by simp [laws_toIntS.l0] at h
 | k + 1 => by
  have ih0 := laws_toIntS.mono_l k
  ·intro y0 y1 y2
   unfold laws_toIntS.l0
   repeat' with_reducible first | exact ih0 .. | exact LeO.refl .. | exact LeO.none .. | refine LeO.ite ?_ ?_ | refine LeO.bind ?_ (fun _ => ?_)
theorem laws_toIntS.mono : ∀ a0 k, LeO (laws_toIntS.f k a0) (laws_toIntS.f (k + 1) a0) := by
 intro a0 k
 have ih0 := laws_toIntS.mono_l k
 unfold laws_toIntS.f
 repeat' with_reducible first | exact ih0 .. | exact LeO.refl .. | exact LeO.none .. | refine LeO.ite ?_ ?_ | refine LeO.bind ?_ (fun _ => ?_)
theorem laws_toIntS.calls (k : Nat) (A0 : Option Addr) (c0 : Nat) (l0 : List Int) (r : List Int) (w : World) (hr0 : Kd.C (Kd.int .i64) w A0 l0.length l0) (hc0 : l0.length ≤ c0) (h : laws_toIntS.f k l0 = some r) :
  Calls Tryd.prog 42 #[.slice A0 l0.length c0] w fun e w' => ∃ v0_ : Value, e = .returned (v0_) ∧ Kd.R (Kd.int .i64) 3 w' w.heap.size (fun _ => True) v0_ r ∧ Below w.heap.size w w' := by
 have HR0 := A0_ hr0
 have HC0 := A0_ hc0
 clear hr0 hc0
 have HB := A0_ (Below.refl w.heap.size w)
 have H : (if 0 ≤ (l0.length : Int) then (if ((l0.length : Int) : Int).toNat ≤ 35184372088832 then (laws_toIntS.l0 k l0 (List.replicate ((l0.length : Int) : Int).toNat 0) 0) else (none)) else (none)) = some r := h
 clear h
 by_cases c1 : 0 ≤ (l0.length : Int)
 case neg =>
  rw [if_neg c1] at H
  exact absurd H bxka_
 rw [if_pos c1] at H
 have c1b0 := eq_true c1
 have c1b1 : decide (0 ≤ (l0.length : Int)) = true := dt_ c1
 clear c1
 by_cases c2 : ((l0.length : Int) : Int).toNat ≤ 35184372088832
 case neg =>
  rw [if_neg c2] at H
  exact absurd H bxka_
 rw [if_pos c2] at H
 have c2b0 := eq_true c2
 have c2b1 : decide (((l0.length : Int) : Int).toNat ≤ 35184372088832) = true := dt_ c2
 clear c2
 obtain ⟨y1, hy1⟩ : ∃ y_ : List Int, y_ = (List.replicate ((l0.length : Int) : Int).toNat 0) := ⟨_, rfl⟩
 replace H : (laws_toIntS.l0 k l0 y1 0) = some r := bgiq_
 have Ny1 := A0_ hy1
 clear hy1
 have H' := A0_ H
 clear H
 go_enter Tryd.func42, Tryd.ntmps42
 go_wp2_with (first | ((with_reducible refine gd_ (N := 7) rfl ?_); refine Kd.R_make (Kd.int .i64) _ 3 rfl (N := 7) rfl 22 _ _ rfl (l0.length : Int) rfl rfl Tryd.underlying22 (.int .i64 0) 8 info3 rfl bi3y_ bh19_ 0 (ok := fun _ => True) (okp := fun _ => True) rfl (fun _ hk => hk) trivial (od_ bpil_) (Nat.le_trans (Nat.mul_le_mul_right _ (od_ bpil_ : (l0.length : Int).toNat ≤ 35184372088832)) bh19_) (Below.refl _ _) (Nat.le_refl _) ?_; intro v1 w1 ho5 hb hg_ hnew_; clear hg_ hnew_; (first | rw [← Ny1.out] at ho5 | (simp only [Int.reduceToNat] at ho5; rw [← Ny1.out] at ho5)); have HO1 := A0_ (Kd.R_lower ho5 (bz_ brt4_)); replace HB := hb_ hb brt4_; clear hb ho5))
 go_loopg [4] k (fun kq v2 w' => ∃ (x3_1 : List Int) (x4_1 : Int), v2 = .int .i64 x4_1 ∧ Aside0 (laws_toIntS.l0 kq l0 x3_1 x4_1 = some r) ∧ Aside0 (kq ≤ k) ∧ Aside0 (Kd.R (Kd.int .i64) 3 w' w.heap.size (fun _ => True) v1 x3_1) ∧ Aside0 (Below w.heap.size w w'))
 case atStart => exact ⟨(y1), (0), b2ew_, H', ⟨Nat.le_refl _⟩, ⟨bsm5_⟩, ⟨brt4_⟩⟩
 clear H'
 try clear c1
 try clear c1b0
 try clear c1b1
 try clear c2
 try clear c2b0
 try clear c2b1
 obtain ⟨x3_1, x4_1, rfl, HA, HK1, HO_1, HB⟩ := hrel
 cases gk with | zero => exact absurd HA.out (by simp [laws_toIntS.l0]) | succ k1 => ?_
 have H := HA.out
 clear HA
 simp only [laws_toIntS.l0] at H
 by_cases c3 : x4_1 < (l0.length : Int)
 case neg =>
  rw [if_neg c3] at H
  have c3b0 : decide (x4_1 < (l0.length : Int)) = false := decide_eq_false c3
  clear c3
  obtain rfl := si_ H
  go_wp2
  go_ret
  exact ⟨_, bnwh_, bwik_, brt4_⟩
 rw [if_pos c3] at H
 have c3b0 : decide (x4_1 < (l0.length : Int)) = true := dt_ c3
 clear c3
 by_cases c4 : 0 ≤ x4_1
 case neg =>
  rw [if_neg c4] at H
  exact absurd H bxka_
 rw [if_pos c4] at H
 have c4b0 : decide (0 ≤ x4_1) = true := dt_ c4
 clear c4
 by_cases c5 : x4_1 < (x3_1.length : Int)
 case neg =>
  rw [if_neg c5] at H
  exact absurd H bxka_
 rw [if_pos c5] at H
 have c5b0 : decide (x4_1 < (x3_1.length : Int)) = true := dt_ c5
 clear c5
 obtain ⟨y2, hy2⟩ : ∃ y_ : List Int, y_ = (x3_1.set (x4_1 : Int).toNat (rd l0 x4_1)) := ⟨_, rfl⟩
 replace H : (laws_toIntS.l0 k1 l0 y2 (wrap64 (x4_1 + 1))) = some r := bscs_
 have Ny2 := A0_ hy2
 clear hy2
 have H' := A0_ H
 clear H
 have p1 : 0 ≤ (x4_1 : Int) := od_ bpil_
 have q1 : x4_1 < (l0.length : Int) := od_ bpil_
 obtain ⟨ad1, e1, hx1_0⟩ := Kd.at_int HR0.out x4_1 p1 q1
 cases e1
 replace hx1_0 := (HB.out.cell (World.block_lt_of_cell? w _ hx1_0)).trans hx1_0
 replace p1 := eq_true p1
 replace q1 := eq_true q1
 have p2 : 0 ≤ (x4_1 : Int) := od_ bpil_
 have q2 : (x4_1 : Int) < ((x3_1.length : Int) : Int) := od_ bpil_
 obtain ⟨go9, co1, eo1, gb1, gl9, cl9, HG9⟩ := Kd.R_form HO_1.out bh19_
 (first | cases eo1 | (injection eo1 with ea_ en_ ec_; (first | subst ea_ | (injection ea_ with ea_; subst ea_)); subst ec_; clear en_))
 have GB9 := A0_ gb1
 have GG9 := A0_ HG9
 clear gb1 gl9 HG9
 obtain ⟨hx2_0, hf1_0⟩ := Kd.R_celln 0 HO_1.out (x4_1 : Int) p2 q2
 replace p2 := eq_true p2
 replace q2 := eq_true q2
 have HP1 := Kd.R_putg HO_1.out (x4_1 : Int) (rd l0 x4_1)
 go_wp2_with (first | ((with_reducible refine gate_store (t := 3) (p := 20) rfl ?_); refine store_event (t := 3) (p := 20) (v := ?vo_w11) (w1 := (wr.setCell ⟨go9, (x4_1 : Int).toNat, none⟩ (.int .i64 (rd l0 x4_1)))) ?hg ?ho ?hn ?hr ?_; (case ho => rfl); (case hg => rfl); (case hn => rfl); (case hr => go_simp; first | done | rfl); intro w2 hw; have hg : wr.grownBy w2 (some go9) := (by rw [hw]; exact HP1.2); have hp_ : Kd.R (Kd.int .i64) 3 w2 w.heap.size (fun _ => True) (.slice (some ⟨go9, 0, none⟩) x3_1.length co1) y2 := (by rw [hw, Ny2.out]; exact HP1.1); clear HP1; replace HO_1 := A0_ (hp_); replace HB := A0_ ((by rw [hw]; exact bs_ (HB.out) GB9.out : Below w.heap.size w w2)); clear hg hw hp_))
 go_roundg k1
 case measure => have := HK1.out; omega
 exact ⟨(y2), (wrap64 (x4_1 + 1)), b2ew_, H', ⟨bxjq_⟩, ⟨bwik_⟩, ⟨brt4_⟩⟩

def laws_toRow.f (k : Nat) (a0_0 : Int) (a0_1 : Bool) (l0_2 : List Int) : Option (Int × Bool × List Int) := (laws_toIntS.f k l0_2).bind fun t138 => (some (a0_0, a0_1, t138))
theorem laws_toRow.mono : ∀ a0 a1 a2 k, LeO (laws_toRow.f k a0 a1 a2) (laws_toRow.f (k + 1) a0 a1 a2) := by
 intro a0 a1 a2 k
 unfold laws_toRow.f
 repeat' with_reducible first | exact laws_toIntS.mono .. | exact LeO.refl .. | exact LeO.none .. | refine LeO.ite ?_ ?_ | refine LeO.bind ?_ (fun _ => ?_)
theorem laws_toRow.calls (k : Nat) (a0_0 : Int) (a0_1 : Bool) (A0_2 : Option Addr) (c0_2 : Nat) (l0_2 : List Int) (r1 : Int) (r2 : Bool) (r3 : List Int) (w : World) (hr0_2 : Kd.C (Kd.int .i64) w A0_2 l0_2.length l0_2) (hc0_2 : l0_2.length ≤ c0_2) (h : laws_toRow.f k a0_0 a0_1 l0_2 = some (r1, r2, r3)) :
  Calls Tryd.prog 41 #[.agg #[.int .i64 a0_0, .bool a0_1, .slice A0_2 l0_2.length c0_2]] w fun e w' => ∃ v2_ : Value, e = .returned (.agg #[.int .i64 r1, .bool r2, v2_]) ∧ Kd.R (Kd.int .i64) 3 w' w.heap.size (fun _ => True) v2_ r3 ∧ Below w.heap.size w w' := by
 have hu32 := Tryd.underlying32
 have hu24 := Tryd.underlying24
 have HR0_2 := A0_ hr0_2
 have HC0_2 := A0_ hc0_2
 clear hr0_2 hc0_2
 have HB := A0_ (Below.refl w.heap.size w)
 have H : ((laws_toIntS.f k l0_2).bind fun t1 => (some (a0_0, a0_1, t1))) = some (r1, r2, r3) := h
 clear h
 obtain ⟨t1, A2, H⟩ := o1_ H
 replace H : (some (a0_0, a0_1, t1)) = some (r1, r2, r3) := H
 simp only [sj_, pj_] at H
 obtain ⟨rfl, rfl, rfl⟩ := H
 go_enter Tryd.func41, Tryd.ntmps41
 go_wp2_with (first | ((with_reducible refine gd_ (N := 1) rfl ?_); refine bx_ 1 #[.int .i64 a0_0, .bool a0_1, .slice A0_2 l0_2.length c0_2] 32 ?_; intro gb1 hg w1 BK1 hb; have GW1 := ge_ hg brt4_; have GE1 := GW1; replace HB := hb_ hb brt4_; clear hb hg) | ((with_reducible refine gd_ (N := 2) rfl ?_); refine bx_ 2 #[.int .i64 0, .bool false, .slice none 0 0] 24 ?_; intro gb2 hg w2 BK2 hb; have GW2 := ge_ hg be6g_; have GE2 := GW2; replace HB := hb_ hb be6g_; have NB1_2 := nl_ hg BK1; have NB2_1 := ng_ hg BK1; replace BK1 := k1_ BK1 hb; clear hb hg) | ((with_reducible refine gd_ (N := 3) rfl ?_); refine bx_ 3 #[.int .i64 0, .bool false, .slice none 0 0] 24 ?_; intro gb3 hg w3 BK3 hb; have GW3 := ge_ hg bfnq_; have GE3 := GW3; replace HB := hb_ hb bfnq_; have NB1_3 := nl_ hg BK1; have NB3_1 := ng_ hg BK1; replace BK1 := k1_ BK1 hb; have NB2_3 := nl_ hg BK2; have NB3_2 := ng_ hg BK2; replace BK2 := k1_ BK2 hb; clear hb hg; have hnb1 := NB1_2.out; have hnc1 := NB2_1.out; have hnb2 := NB1_3.out; have hnc2 := NB3_1.out; have hcz1 := z3_ BK1; have hnb3 := NB3_2.out; have hnc3 := NB2_3.out; have hcz2_0 : w3.cell? ⟨gb3, 0, none⟩ = some (.int .i64 0) := (kc_ BK3.out 0).trans rfl; have hcz2_1 : w3.cell? ⟨gb3, 1, none⟩ = some (.bool false) := (kc_ BK3.out 1).trans rfl; have hcz2_2 : w3.cell? ⟨gb3, 2, none⟩ = some (.slice none 0 0) := (kc_ BK3.out 2).trans rfl; have hfz2_0 := kf_ BK3.out 0; have hfz2_1 := kf_ BK3.out 1; have hfz2_2 := kf_ BK3.out 2) | ((with_reducible refine gc_ (f := 42) rfl ?_); refine gl_ 12 Tryd.func42 #[.slice A0_2 l0_2.length c0_2] ?_; (with_reducible refine (laws_toIntS.calls k _ _ l0_2 t1 _ ?side1 ?side2 A2.out).mono ?_); (case side1 => exact cb_ HR0_2.out b850_); (case side2 => exact HC0_2.out); rintro e w4 ⟨v1, rfl, ho0, hb⟩; refine ⟨_, rfl, ?_⟩; have HO1 := A0_ (Kd.R_lower ho0 (bz_ b850_)); replace BK1 := k1_ BK1 hb; replace BK2 := k1_ BK2 hb; replace BK3 := k2_ (.cells #[.int .i64 a0_0, .bool a0_1, .slice none 0 0] 24 (0, 0)) BK3 hb; replace HB := hb_ hb b850_; (try clear hb); (try clear ho0); obtain ⟨Ao1, co1, eo1⟩ := Kd.R_slice HO1.out; subst eo1; have hcz3 := z3_ BK3; have hcz4 := z3_ BK2))
 refine bodyPost_ret (results_cell_row rfl _ _ gb2 24 #[.int .i64 a0_0, .bool a0_1, .slice Ao1 t1.length co1] (0, 0) _ rfl (u1_ BK2) Tryd.underlying24 rfl bfqv_) rfl ?_
 exact ⟨_, bnwh_, by (with_reducible repeat (first | apply ra_ | apply rn_ | apply rd_)); exact Kd.R_mono (rf_ (rf_ (rf_ (rf_ (Kd.R_types (Kd.R_types HO1.out BK3.out bi3y_) BK2.out bi3y_) (fun _ hk => hk.1.2) (.slice Ao1 t1.length co1)) k2_0 _) k2_0 _) k2_0 _) (fun _ hk => trivial), b850_⟩

def laws_toHouse.f (k : Nat) (a0_0 : Int) (a0_1 : Bool) (l0_2 : List Int) (l0_3 : List Int) (a0_4 : Int) : Option (Int × Bool × List Int × List Int × Int) := (laws_toRow.f k a0_0 a0_1 l0_2).bind fun bt144 => ((laws_toIntS.f k l0_3).bind fun t149 => (some (bt144.1, bt144.2.1, bt144.2.2, t149, a0_4)))
theorem laws_toHouse.mono : ∀ a0 a1 a2 a3 a4 k, LeO (laws_toHouse.f k a0 a1 a2 a3 a4) (laws_toHouse.f (k + 1) a0 a1 a2 a3 a4) := by
 intro a0 a1 a2 a3 a4 k
 unfold laws_toHouse.f
 repeat' with_reducible first | exact laws_toIntS.mono .. | exact laws_toRow.mono .. | exact LeO.refl .. | exact LeO.none .. | refine LeO.ite ?_ ?_ | refine LeO.bind ?_ (fun _ => ?_)
theorem laws_toHouse.calls (k : Nat) (a0_0 : Int) (a0_1 : Bool) (A0_2 : Option Addr) (c0_2 : Nat) (l0_2 : List Int) (A0_3 : Option Addr) (c0_3 : Nat) (l0_3 : List Int) (a0_4 : Int) (r1 : Int) (r2 : Bool) (r3 : List Int) (r4 : List Int) (r5 : Int) (w : World) (hr0_2 : Kd.C (Kd.int .i64) w A0_2 l0_2.length l0_2) (hc0_2 : l0_2.length ≤ c0_2) (hr0_3 : Kd.C (Kd.int .i64) w A0_3 l0_3.length l0_3) (hc0_3 : l0_3.length ≤ c0_3) (h : laws_toHouse.f k a0_0 a0_1 l0_2 l0_3 a0_4 = some (r1, r2, r3, r4, r5)) :
  Calls Tryd.prog 14 #[.agg #[.int .i64 a0_0, .bool a0_1, .slice A0_2 l0_2.length c0_2, .slice A0_3 l0_3.length c0_3, .int .i64 a0_4]] w fun e w' => ∃ v2_ v3_ : Value, e = .returned (.agg #[.int .i64 r1, .bool r2, v2_, v3_, .int .i64 r5]) ∧ Kd.R (Kd.int .i64) 3 w' w.heap.size (fun k_ => no_ v3_ k_) v2_ r3 ∧ Kd.R (Kd.int .i64) 3 w' w.heap.size (fun k_ => no_ v2_ k_) v3_ r4 ∧ Below w.heap.size w w' := by
 have hu34 := Tryd.underlying34
 have hu26 := Tryd.underlying26
 have hu32 := Tryd.underlying32
 have hu24 := Tryd.underlying24
 have HR0_2 := A0_ hr0_2
 have HC0_2 := A0_ hc0_2
 clear hr0_2 hc0_2
 have HR0_3 := A0_ hr0_3
 have HC0_3 := A0_ hc0_3
 clear hr0_3 hc0_3
 have HB := A0_ (Below.refl w.heap.size w)
 have H : ((laws_toRow.f k a0_0 a0_1 l0_2).bind fun bt1 => ((laws_toIntS.f k l0_3).bind fun t1 => (some (bt1.1, bt1.2.1, bt1.2.2, t1, a0_4)))) = some (r1, r2, r3, r4, r5) := h
 clear h
 obtain ⟨⟨t2, t3, t4⟩, A2, H⟩ := o1_ H
 obtain ⟨t1, A4, H⟩ := o1_ H
 replace H : (some (t2, t3, t4, t1, a0_4)) = some (r1, r2, r3, r4, r5) := H
 simp only [sj_, pj_] at H
 obtain ⟨rfl, rfl, rfl, rfl, rfl⟩ := H
 go_enter Tryd.func14, Tryd.ntmps14
 go_wp2_with (first | ((with_reducible refine gd_ (N := 1) rfl ?_); refine bx_ 1 #[.int .i64 a0_0, .bool a0_1, .slice A0_2 l0_2.length c0_2, .slice A0_3 l0_3.length c0_3, .int .i64 a0_4] 34 ?_; intro gb1 hg w1 BK1 hb; have GW1 := ge_ hg brt4_; have GE1 := GW1; replace HB := hb_ hb brt4_; clear hb hg) | ((with_reducible refine gd_ (N := 2) rfl ?_); refine bx_ 2 #[.int .i64 0, .bool false, .slice none 0 0, .slice none 0 0, .int .i64 0] 26 ?_; intro gb2 hg w2 BK2 hb; have GW2 := ge_ hg be6g_; have GE2 := GW2; replace HB := hb_ hb be6g_; have NB1_2 := nl_ hg BK1; have NB2_1 := ng_ hg BK1; replace BK1 := k1_ BK1 hb; clear hb hg) | ((with_reducible refine gd_ (N := 3) rfl ?_); refine bx_ 3 #[.int .i64 0, .bool false, .slice none 0 0, .slice none 0 0, .int .i64 0] 26 ?_; intro gb3 hg w3 BK3 hb; have GW3 := ge_ hg bfnq_; have GE3 := GW3; replace HB := hb_ hb bfnq_; have NB1_3 := nl_ hg BK1; have NB3_1 := ng_ hg BK1; replace BK1 := k1_ BK1 hb; have NB2_3 := nl_ hg BK2; have NB3_2 := ng_ hg BK2; replace BK2 := k1_ BK2 hb; clear hb hg; have hnb1 := NB1_2.out; have hnc1 := NB2_1.out; have hnb2 := NB1_3.out; have hnc2 := NB3_1.out; have hcz1 := z5_ BK1) | ((with_reducible refine gc_ (f := 41) rfl ?_); refine gl_ 6 Tryd.func41 #[.agg #[.int .i64 a0_0, .bool a0_1, .slice A0_2 l0_2.length c0_2]] ?_; (with_reducible refine (laws_toRow.calls k a0_0 a0_1 _ _ l0_2 t2 t3 t4 _ ?side1 ?side2 A2.out).mono ?_); (case side1 => exact b6n8_); (case side2 => exact HC0_2.out); rintro e w4 ⟨v1, rfl, ho0, hb⟩; refine ⟨_, rfl, ?_⟩; have HO1 := A0_ (Kd.R_lower ho0 (bz_ b850_)); replace BK1 := k1_ BK1 hb; replace BK2 := k1_ BK2 hb; replace BK3 := k1_ BK3 hb; replace HB := hb_ hb b850_; (try clear hb); (try clear ho0); have hnb3 := NB3_2.out; have hnc3 := NB2_3.out; have hcz2 := z5_ BK3; obtain ⟨Ao1, co1, eo1⟩ := Kd.R_slice HO1.out; subst eo1; have hcz3_0 : w4.cell? ⟨gb1, 0, none⟩ = some (.int .i64 a0_0) := (kc_ BK1.out 0).trans rfl; have hcz3_1 : w4.cell? ⟨gb1, 1, none⟩ = some (.bool a0_1) := (kc_ BK1.out 1).trans rfl; have hcz3_2 : w4.cell? ⟨gb1, 2, none⟩ = some (.slice A0_2 l0_2.length c0_2) := (kc_ BK1.out 2).trans rfl; have hcz3_3 : w4.cell? ⟨gb1, 3, none⟩ = some (.slice A0_3 l0_3.length c0_3) := (kc_ BK1.out 3).trans rfl; have hcz3_4 : w4.cell? ⟨gb1, 4, none⟩ = some (.int .i64 a0_4) := (kc_ BK1.out 4).trans rfl; have hfz3_0 := kf_ BK1.out 0; have hfz3_1 := kf_ BK1.out 1; have hfz3_2 := kf_ BK1.out 2; have hfz3_3 := kf_ BK1.out 3; have hfz3_4 := kf_ BK1.out 4) | ((with_reducible refine gc_ (f := 42) rfl ?_); refine gl_ 10 Tryd.func42 #[.slice A0_3 l0_3.length c0_3] ?_; (with_reducible refine (laws_toIntS.calls k _ _ l0_3 t1 _ ?side1 ?side2 A4.out).mono ?_); (case side1 => exact cb_ HR0_3.out b850_); (case side2 => exact HC0_3.out); rintro e w5 ⟨v4, rfl, ho0, hb⟩; refine ⟨_, rfl, ?_⟩; have HO2 := A0_ (Kd.R_lower (Kd.R_new' ho0 (Kd.R_lt boj0_)) (bz_ b850_)); replace HO1 := A0_ (Kd.R_elder' boj0_ (Kd.R_base ho0) hb); replace BK1 := k1_ BK1 hb; replace BK2 := k1_ BK2 hb; replace BK3 := k2_ (.cells #[.int .i64 t2, .bool t3, .slice Ao1 t4.length co1, .slice none 0 0, .int .i64 0] 26 (0, 0)) BK3 hb; replace HB := hb_ hb b850_; (try clear hb); (try clear ho0); obtain ⟨Ao2, co2, eo2⟩ := Kd.R_slice HO2.out; subst eo2; have hcz4 := z5_ BK3; have hcz5 := z5_ BK1; have hcz6 := z5_ BK2))
 refine bodyPost_ret (results_cell_row rfl _ _ gb2 26 #[.int .i64 t2, .bool t3, .slice Ao1 t4.length co1, .slice Ao2 t1.length co2, .int .i64 a0_4] (0, 0) _ rfl (u1_ BK2) Tryd.underlying26 rfl bfqv_) rfl ?_
 exact ⟨_, _, bnwh_, by (with_reducible repeat (first | apply ra_ | apply rn_ | apply rd_)); exact Kd.R_mono (rf_ (rf_ (rf_ (rf_ (rf_ (rf_ (rf_ (Kd.R_types (Kd.R_types HO1.out BK3.out bi3y_) BK2.out bi3y_) (fun _ hk => hk.1.2) (.slice Ao2 t1.length co2)) (fun _ hk => hk.1.2) (.int .i64 a0_4)) k2_0 _) k2_0 _) k2_0 _) k2_0 _) k2_0 _) (fun _ hk => hk.1.1.2), by (with_reducible repeat (first | apply ra_ | apply rn_ | apply rd_)); exact Kd.R_mono (rf_ (rf_ (rf_ (rf_ (rf_ (rf_ (rf_ (Kd.R_types (Kd.R_types HO2.out BK3.out bi3y_) BK2.out bi3y_) (fun _ hk => hk.1.2) (.slice Ao2 t1.length co2)) (fun _ hk => hk.1.2) (.int .i64 a0_4)) k2_0 _) k2_0 _) k2_0 _) k2_0 _) k2_0 _) (fun _ hk => hk.1.1.2), b850_⟩

def spec_l1In.f (a0 : Int) (a1 : Int) (a2 : Int) : Option (Bool) := if a0 ≥ a1 then (some (decide (a0 ≤ a2))) else (some false)
theorem spec_l1In.calls (a0 : Int) (a1 : Int) (a2 : Int) (r : Bool) (w : World) (h : spec_l1In.f a0 a1 a2 = some r) :
  Calls Tryd.prog 60 #[.int .i64 a0, .int .i64 a1, .int .i64 a2] w fun e w' => e = .returned (.bool r) ∧ Drawn0 w w' := by
 have H : (if a0 ≥ a1 then (some (decide (a0 ≤ a2))) else (some false)) = some r := h
 clear h
 by_cases c1 : a0 ≥ a1
 ·rw [if_pos c1] at H
  have c1b0 : decide (a1 ≤ a0) = true := dt_ c1
  clear c1
  obtain rfl := si_ H
  go_enter Tryd.func60, Tryd.ntmps60
  go_wp2
  go_ret
  exact ⟨b04z_, boaj_⟩
 rw [if_neg c1] at H
 have c1b0 : decide (a1 ≤ a0) = false := decide_eq_false c1
 clear c1
 obtain rfl := si_ H
 go_enter Tryd.func60, Tryd.ntmps60
 go_wp2
 go_ret
 exact ⟨b04z_, boaj_⟩

def spec_l1Rising.l0 : Nat → List Int → Int → Int → Int → Option (Bool)
 | 0, _, _, _, _ => none
 | k + 1, x0, x1, x2, x7 => if x7 < (x0.length : Int) then (if 0 ≤ x7 then ((spec_l1In.f (rd x0 x7) x1 x2).bind fun t153 => (if t153 = true then (if x7 > 0 then (if 0 ≤ (wrap64 (x7 - 1)) then (if (wrap64 (x7 - 1)) < (x0.length : Int) then (if (rd x0 (wrap64 (x7 - 1))) ≥ (rd x0 x7) then (some false) else (spec_l1Rising.l0 k x0 x1 x2 (wrap64 (x7 + 1)))) else (none)) else (none)) else (spec_l1Rising.l0 k x0 x1 x2 (wrap64 (x7 + 1)))) else (some false))) else (none)) else (some true)
def spec_l1Rising.f (k : Nat) (l0 : List Int) (a1 : Int) (a2 : Int) : Option (Bool) := spec_l1Rising.l0 k l0 a1 a2 0
theorem spec_l1Rising.mono_l : ∀ k, (∀ y0 y1 y2 y3, LeO (spec_l1Rising.l0 k y0 y1 y2 y3) (spec_l1Rising.l0 (k + 1) y0 y1 y2 y3))
 | 0 => fun _ _ _ _ r h => by simp [spec_l1Rising.l0] at h
 | k + 1 => by
  have ih0 := spec_l1Rising.mono_l k
  ·intro y0 y1 y2 y3
   unfold spec_l1Rising.l0
   repeat' with_reducible first | exact ih0 .. | exact LeO.refl .. | exact LeO.none .. | refine LeO.ite ?_ ?_ | refine LeO.bind ?_ (fun _ => ?_)
theorem spec_l1Rising.mono : ∀ a0 a1 a2 k, LeO (spec_l1Rising.f k a0 a1 a2) (spec_l1Rising.f (k + 1) a0 a1 a2) := by
 intro a0 a1 a2 k
 have ih0 := spec_l1Rising.mono_l k
 unfold spec_l1Rising.f
 repeat' with_reducible first | exact ih0 .. | exact LeO.refl .. | exact LeO.none .. | refine LeO.ite ?_ ?_ | refine LeO.bind ?_ (fun _ => ?_)
theorem spec_l1Rising.calls (k : Nat) (A0 : Option Addr) (c0 : Nat) (l0 : List Int) (a1 : Int) (a2 : Int) (r : Bool) (w : World) (hr0 : Kd.C (Kd.int .i64) w A0 l0.length l0) (hc0 : l0.length ≤ c0) (h : spec_l1Rising.f k l0 a1 a2 = some r) :
  Calls Tryd.prog 79 #[.slice A0 l0.length c0, .int .i64 a1, .int .i64 a2] w fun e w' => e = .returned (.bool r) ∧ Drawn0 w w' := by
 have HR0 := A0_ hr0
 have HC0 := A0_ hc0
 clear hr0 hc0
 have H : (spec_l1Rising.l0 k l0 a1 a2 0) = some r := h
 clear h
 have H' := A0_ H
 clear H
 go_enter Tryd.func79, Tryd.ntmps79
 go_wp2
 repeat (go_quiet (fail); try go_wp2)
 go_loopg [7] k (fun kq v1 w' => ∃ (x7_1 : Int), v1 = .int .i64 x7_1 ∧ Aside0 (spec_l1Rising.l0 kq l0 a1 a2 x7_1 = some r) ∧ Aside0 (kq ≤ k) ∧ Drawn0 w w')
 case atStart => exact ⟨(0), b2ew_, H', ⟨Nat.le_refl _⟩, boaj_⟩
 clear H'
 obtain ⟨x7_1, rfl, HA, HK1, ⟨m1, rfl⟩⟩ := hrel
 cases gk with | zero => exact absurd HA.out (by simp [spec_l1Rising.l0]) | succ k1 => ?_
 have H := HA.out
 clear HA
 simp only [spec_l1Rising.l0] at H
 by_cases c1 : x7_1 < (l0.length : Int)
 case neg =>
  rw [if_neg c1] at H
  have c1b0 : decide (x7_1 < (l0.length : Int)) = false := decide_eq_false c1
  clear c1
  obtain rfl := si_ H
  go_wp2
  repeat (go_quiet (fail); try go_wp2)
  go_ret
  exact ⟨b04z_, boaj_⟩
 rw [if_pos c1] at H
 have c1b0 : decide (x7_1 < (l0.length : Int)) = true := dt_ c1
 clear c1
 by_cases c2 : 0 ≤ x7_1
 case neg =>
  rw [if_neg c2] at H
  exact absurd H bxka_
 rw [if_pos c2] at H
 have c2b0 : decide (0 ≤ x7_1) = true := dt_ c2
 clear c2
 obtain ⟨t1, A2, H⟩ := o1_ H
 by_cases c3 : t1 = true
 case neg =>
  obtain rfl := bf_.mpr c3
  rw [if_neg ft_] at H
  obtain rfl := si_ H
  have p1 : 0 ≤ (x7_1 : Int) := od_ bpil_
  have q1 : x7_1 < (l0.length : Int) := od_ bpil_
  obtain ⟨ad1, e1, hx1_0⟩ := Kd.at_int HR0.out x7_1 p1 q1
  cases e1
  replace p1 := eq_true p1
  replace q1 := eq_true q1
  go_wp2_with (first | (go_at_call 60; (with_reducible refine (spec_l1In.calls (rd l0 x7_1) a1 a2 false _ A2.out).mono ?_); rintro e w' ⟨rfl, ⟨nd, rfl⟩⟩; (try first | exact ⟨rfl, _, World.drewN_drewN _ _ _⟩ | exact ⟨rfl, _, Eq.trans (World.drewN_drewN _ _ _) (congrArg (World.drewN _) (Nat.add_assoc _ _ _))⟩)))
  repeat (go_quiet (first | (go_at_call 60; (with_reducible refine (spec_l1In.calls (rd l0 x7_1) a1 a2 false _ A2.out).mono ?_); rintro e w' ⟨rfl, ⟨nd, rfl⟩⟩; (try first | exact ⟨rfl, _, World.drewN_drewN _ _ _⟩ | exact ⟨rfl, _, Eq.trans (World.drewN_drewN _ _ _) (congrArg (World.drewN _) (Nat.add_assoc _ _ _))⟩))); try go_wp2_with (first | (go_at_call 60; (with_reducible refine (spec_l1In.calls (rd l0 x7_1) a1 a2 false _ A2.out).mono ?_); rintro e w' ⟨rfl, ⟨nd, rfl⟩⟩; (try first | exact ⟨rfl, _, World.drewN_drewN _ _ _⟩ | exact ⟨rfl, _, Eq.trans (World.drewN_drewN _ _ _) (congrArg (World.drewN _) (Nat.add_assoc _ _ _))⟩))))
  go_ret
  exact ⟨b04z_, boaj_⟩
 subst c3
 rw [if_pos rfl] at H
 by_cases c4 : x7_1 > 0
 case neg =>
  rw [if_neg c4] at H
  have c4b0 : decide (0 < x7_1) = false := decide_eq_false c4
  clear c4
  have H' := A0_ H
  clear H
  have p1 : 0 ≤ (x7_1 : Int) := od_ bpil_
  have q1 : x7_1 < (l0.length : Int) := od_ bpil_
  obtain ⟨ad1, e1, hx1_0⟩ := Kd.at_int HR0.out x7_1 p1 q1
  cases e1
  replace p1 := eq_true p1
  replace q1 := eq_true q1
  go_wp2_with (first | (go_at_call 60; (with_reducible refine (spec_l1In.calls (rd l0 x7_1) a1 a2 true _ A2.out).mono ?_); rintro e w' ⟨rfl, ⟨nd, rfl⟩⟩; (try first | exact ⟨rfl, _, World.drewN_drewN _ _ _⟩ | exact ⟨rfl, _, Eq.trans (World.drewN_drewN _ _ _) (congrArg (World.drewN _) (Nat.add_assoc _ _ _))⟩)))
  repeat (go_quiet (first | (go_at_call 60; (with_reducible refine (spec_l1In.calls (rd l0 x7_1) a1 a2 true _ A2.out).mono ?_); rintro e w' ⟨rfl, ⟨nd, rfl⟩⟩; (try first | exact ⟨rfl, _, World.drewN_drewN _ _ _⟩ | exact ⟨rfl, _, Eq.trans (World.drewN_drewN _ _ _) (congrArg (World.drewN _) (Nat.add_assoc _ _ _))⟩))); try go_wp2_with (first | (go_at_call 60; (with_reducible refine (spec_l1In.calls (rd l0 x7_1) a1 a2 true _ A2.out).mono ?_); rintro e w' ⟨rfl, ⟨nd, rfl⟩⟩; (try first | exact ⟨rfl, _, World.drewN_drewN _ _ _⟩ | exact ⟨rfl, _, Eq.trans (World.drewN_drewN _ _ _) (congrArg (World.drewN _) (Nat.add_assoc _ _ _))⟩))))
  go_roundg k1
  case measure => have := HK1.out; omega
  exact ⟨(wrap64 (x7_1 + 1)), b2ew_, H', ⟨bxjq_⟩, boaj_⟩
 rw [if_pos c4] at H
 have c4b0 : decide (0 < x7_1) = true := dt_ c4
 clear c4
 obtain ⟨ji1, hji1⟩ : ∃ j_ : Int, (wrap64 (x7_1 - 1)) = j_ := ⟨_, rfl⟩
 replace H : (if 0 ≤ (ji1) then (if (ji1) < (l0.length : Int) then (if (rd l0 (ji1)) ≥ (rd l0 x7_1) then (some false) else (spec_l1Rising.l0 k1 l0 a1 a2 (wrap64 (x7_1 + 1)))) else (none)) else (none)) = some r := bmns_
 (try rw [hji1] at A2)
 have hji9w : (IntKind.i64.wrap (x7_1 - 1)) = ji1 := (i64_w _).trans hji1
 by_cases c5 : 0 ≤ (ji1)
 case neg =>
  rw [if_neg c5] at H
  exact absurd H bxka_
 rw [if_pos c5] at H
 have c5b0 : decide (0 ≤ (ji1)) = true := dt_ c5
 clear c5
 by_cases c6 : (ji1) < (l0.length : Int)
 case neg =>
  rw [if_neg c6] at H
  exact absurd H bxka_
 rw [if_pos c6] at H
 have c6b0 : decide ((ji1) < (l0.length : Int)) = true := dt_ c6
 clear c6
 by_cases c7 : (rd l0 (ji1)) ≥ (rd l0 x7_1)
 ·rw [if_pos c7] at H
  have c7b0 : decide ((rd l0 x7_1) ≤ (rd l0 (ji1))) = true := dt_ c7
  clear c7
  obtain rfl := si_ H
  have p1 : 0 ≤ (x7_1 : Int) := od_ bpil_
  have q1 : x7_1 < (l0.length : Int) := od_ bpil_
  obtain ⟨ad1, e1, hx1_0⟩ := Kd.at_int HR0.out x7_1 p1 q1
  cases e1
  replace p1 := eq_true p1
  replace q1 := eq_true q1
  go_wp2_with (first | (go_at_call 60; (with_reducible refine (spec_l1In.calls (rd l0 x7_1) a1 a2 true _ A2.out).mono ?_); rintro e w' ⟨rfl, ⟨nd, rfl⟩⟩; (try first | exact ⟨rfl, _, World.drewN_drewN _ _ _⟩ | exact ⟨rfl, _, Eq.trans (World.drewN_drewN _ _ _) (congrArg (World.drewN _) (Nat.add_assoc _ _ _))⟩); have p2 : 0 ≤ ((ji1) : Int) := od_ bpil_; have q2 : (ji1) < (l0.length : Int) := od_ bpil_; obtain ⟨ad2, e2, hx2_0⟩ := Kd.at_int HR0.out (ji1) p2 q2; obtain rfl : ad1 = ad2 := bs6y_; replace p2 := eq_true p2; replace q2 := eq_true q2; have p3 : 0 ≤ (x7_1 : Int) := od_ bpil_; have q3 : x7_1 < (l0.length : Int) := od_ bpil_; obtain ⟨ad3, e3, hx3_0⟩ := Kd.at_int HR0.out x7_1 p3 q3; obtain rfl : ad1 = ad3 := (by injection e3); replace p3 := eq_true p3; replace q3 := eq_true q3))
  repeat (go_quiet (first | (go_at_call 60; (with_reducible refine (spec_l1In.calls (rd l0 x7_1) a1 a2 true _ A2.out).mono ?_); rintro e w' ⟨rfl, ⟨nd, rfl⟩⟩; (try first | exact ⟨rfl, _, World.drewN_drewN _ _ _⟩ | exact ⟨rfl, _, Eq.trans (World.drewN_drewN _ _ _) (congrArg (World.drewN _) (Nat.add_assoc _ _ _))⟩); have p2 : 0 ≤ ((ji1) : Int) := od_ bpil_; have q2 : (ji1) < (l0.length : Int) := od_ bpil_; obtain ⟨ad2, e2, hx2_0⟩ := Kd.at_int HR0.out (ji1) p2 q2; obtain rfl : ad1 = ad2 := bs6y_; replace p2 := eq_true p2; replace q2 := eq_true q2; have p3 : 0 ≤ (x7_1 : Int) := od_ bpil_; have q3 : x7_1 < (l0.length : Int) := od_ bpil_; obtain ⟨ad3, e3, hx3_0⟩ := Kd.at_int HR0.out x7_1 p3 q3; obtain rfl : ad1 = ad3 := (by injection e3); replace p3 := eq_true p3; replace q3 := eq_true q3)); try go_wp2_with (first | (go_at_call 60; (with_reducible refine (spec_l1In.calls (rd l0 x7_1) a1 a2 true _ A2.out).mono ?_); rintro e w' ⟨rfl, ⟨nd, rfl⟩⟩; (try first | exact ⟨rfl, _, World.drewN_drewN _ _ _⟩ | exact ⟨rfl, _, Eq.trans (World.drewN_drewN _ _ _) (congrArg (World.drewN _) (Nat.add_assoc _ _ _))⟩); have p2 : 0 ≤ ((ji1) : Int) := od_ bpil_; have q2 : (ji1) < (l0.length : Int) := od_ bpil_; obtain ⟨ad2, e2, hx2_0⟩ := Kd.at_int HR0.out (ji1) p2 q2; obtain rfl : ad1 = ad2 := bs6y_; replace p2 := eq_true p2; replace q2 := eq_true q2; have p3 : 0 ≤ (x7_1 : Int) := od_ bpil_; have q3 : x7_1 < (l0.length : Int) := od_ bpil_; obtain ⟨ad3, e3, hx3_0⟩ := Kd.at_int HR0.out x7_1 p3 q3; obtain rfl : ad1 = ad3 := (by injection e3); replace p3 := eq_true p3; replace q3 := eq_true q3)))
  go_ret
  exact ⟨b1tc_, boaj_⟩
 rw [if_neg c7] at H
 have c7b0 : decide ((rd l0 x7_1) ≤ (rd l0 (ji1))) = false := decide_eq_false c7
 clear c7
 have H' := A0_ H
 clear H
 have p1 : 0 ≤ (x7_1 : Int) := od_ bpil_
 have q1 : x7_1 < (l0.length : Int) := od_ bpil_
 obtain ⟨ad1, e1, hx1_0⟩ := Kd.at_int HR0.out x7_1 p1 q1
 cases e1
 replace p1 := eq_true p1
 replace q1 := eq_true q1
 go_wp2_with (first | (go_at_call 60; (with_reducible refine (spec_l1In.calls (rd l0 x7_1) a1 a2 true _ A2.out).mono ?_); rintro e w' ⟨rfl, ⟨nd, rfl⟩⟩; (try first | exact ⟨rfl, _, World.drewN_drewN _ _ _⟩ | exact ⟨rfl, _, Eq.trans (World.drewN_drewN _ _ _) (congrArg (World.drewN _) (Nat.add_assoc _ _ _))⟩); have p2 : 0 ≤ ((ji1) : Int) := od_ bpil_; have q2 : (ji1) < (l0.length : Int) := od_ bpil_; obtain ⟨ad2, e2, hx2_0⟩ := Kd.at_int HR0.out (ji1) p2 q2; obtain rfl : ad1 = ad2 := bs6y_; replace p2 := eq_true p2; replace q2 := eq_true q2; have p3 : 0 ≤ (x7_1 : Int) := od_ bpil_; have q3 : x7_1 < (l0.length : Int) := od_ bpil_; obtain ⟨ad3, e3, hx3_0⟩ := Kd.at_int HR0.out x7_1 p3 q3; obtain rfl : ad1 = ad3 := (by injection e3); replace p3 := eq_true p3; replace q3 := eq_true q3))
 repeat (go_quiet (first | (go_at_call 60; (with_reducible refine (spec_l1In.calls (rd l0 x7_1) a1 a2 true _ A2.out).mono ?_); rintro e w' ⟨rfl, ⟨nd, rfl⟩⟩; (try first | exact ⟨rfl, _, World.drewN_drewN _ _ _⟩ | exact ⟨rfl, _, Eq.trans (World.drewN_drewN _ _ _) (congrArg (World.drewN _) (Nat.add_assoc _ _ _))⟩); have p2 : 0 ≤ ((ji1) : Int) := od_ bpil_; have q2 : (ji1) < (l0.length : Int) := od_ bpil_; obtain ⟨ad2, e2, hx2_0⟩ := Kd.at_int HR0.out (ji1) p2 q2; obtain rfl : ad1 = ad2 := bs6y_; replace p2 := eq_true p2; replace q2 := eq_true q2; have p3 : 0 ≤ (x7_1 : Int) := od_ bpil_; have q3 : x7_1 < (l0.length : Int) := od_ bpil_; obtain ⟨ad3, e3, hx3_0⟩ := Kd.at_int HR0.out x7_1 p3 q3; obtain rfl : ad1 = ad3 := (by injection e3); replace p3 := eq_true p3; replace q3 := eq_true q3)); try go_wp2_with (first | (go_at_call 60; (with_reducible refine (spec_l1In.calls (rd l0 x7_1) a1 a2 true _ A2.out).mono ?_); rintro e w' ⟨rfl, ⟨nd, rfl⟩⟩; (try first | exact ⟨rfl, _, World.drewN_drewN _ _ _⟩ | exact ⟨rfl, _, Eq.trans (World.drewN_drewN _ _ _) (congrArg (World.drewN _) (Nat.add_assoc _ _ _))⟩); have p2 : 0 ≤ ((ji1) : Int) := od_ bpil_; have q2 : (ji1) < (l0.length : Int) := od_ bpil_; obtain ⟨ad2, e2, hx2_0⟩ := Kd.at_int HR0.out (ji1) p2 q2; obtain rfl : ad1 = ad2 := bs6y_; replace p2 := eq_true p2; replace q2 := eq_true q2; have p3 : 0 ≤ (x7_1 : Int) := od_ bpil_; have q3 : x7_1 < (l0.length : Int) := od_ bpil_; obtain ⟨ad3, e3, hx3_0⟩ := Kd.at_int HR0.out x7_1 p3 q3; obtain rfl : ad1 = ad3 := (by injection e3); replace p3 := eq_true p3; replace q3 := eq_true q3)))
 go_roundg k1
 case measure => have := HK1.out; omega
 exact ⟨(wrap64 (x7_1 + 1)), b2ew_, H', ⟨bxjq_⟩, boaj_⟩

def spec_l2Row.f (k : Nat) (a0_0 : Int) (a0_1 : Bool) (l0_2 : List Int) : Option (Bool) := (spec_l1In.f a0_0 2 24).bind fun t157 => (if t157 = true then (if a0_1 = true then (if a0_0 > 2 then ((spec_l1Rising.f k l0_2 0 (wrap64 (a0_0 - 1))).bind fun t158 => (some t158)) else (some false)) else ((spec_l1Rising.f k l0_2 0 (wrap64 (a0_0 - 1))).bind fun t159 => (some t159))) else (some false))
theorem spec_l2Row.mono : ∀ a0 a1 a2 k, LeO (spec_l2Row.f k a0 a1 a2) (spec_l2Row.f (k + 1) a0 a1 a2) := by
 intro a0 a1 a2 k
 unfold spec_l2Row.f
 repeat' with_reducible first | exact spec_l1Rising.mono .. | exact LeO.refl .. | exact LeO.none .. | refine LeO.ite ?_ ?_ | refine LeO.bind ?_ (fun _ => ?_)
theorem spec_l2Row.calls (k : Nat) (a0_0 : Int) (a0_1 : Bool) (A0_2 : Option Addr) (c0_2 : Nat) (l0_2 : List Int) (r : Bool) (w : World) (hr0_2 : Kd.C (Kd.int .i64) w A0_2 l0_2.length l0_2) (hc0_2 : l0_2.length ≤ c0_2) (h : spec_l2Row.f k a0_0 a0_1 l0_2 = some r) :
  Calls Tryd.prog 59 #[.agg #[.int .i64 a0_0, .bool a0_1, .slice A0_2 l0_2.length c0_2]] w fun e w' => e = .returned (.bool r) ∧ Below w.heap.size w w' := by
 have hu24 := Tryd.underlying24
 have HR0_2 := A0_ hr0_2
 have HC0_2 := A0_ hc0_2
 clear hr0_2 hc0_2
 have HB := A0_ (Below.refl w.heap.size w)
 have H : ((spec_l1In.f a0_0 2 24).bind fun t1 => (if t1 = true then (if a0_1 = true then (if a0_0 > 2 then ((spec_l1Rising.f k l0_2 0 (wrap64 (a0_0 - 1))).bind fun t2 => (some t2)) else (some false)) else ((spec_l1Rising.f k l0_2 0 (wrap64 (a0_0 - 1))).bind fun t3 => (some t3))) else (some false))) = some r := h
 clear h
 obtain ⟨t1, A2, H⟩ := o1_ H
 by_cases c1 : t1 = true
 case neg =>
  obtain rfl := bf_.mpr c1
  rw [if_neg ft_] at H
  obtain rfl := si_ H
  go_enter Tryd.func59, Tryd.ntmps59
  go_wp2_with (first | ((with_reducible refine gd_ (N := 1) rfl ?_); refine bx_ 1 #[.int .i64 a0_0, .bool a0_1, .slice A0_2 l0_2.length c0_2] 24 ?_; intro gb1 hg w1 BK1 hb; have GW1 := ge_ hg brt4_; have GE1 := GW1; replace HB := hb_ hb brt4_; clear hb hg; have hcz1 := c3_ BK1) | ((with_reducible refine gc_ (f := 60) rfl ?_); refine gl_ 5 Tryd.func60 #[.int .i64 a0_0, .int .i64 2, .int .i64 24] ?_; (with_reducible refine (spec_l1In.calls a0_0 2 24 false _ A2.out).mono ?_); rintro e w' ⟨rfl, ⟨nd, rfl⟩⟩; refine ⟨_, rfl, ?_⟩))
  go_ret
  exact ⟨bnwh_, be6g_⟩
 subst c1
 rw [if_pos rfl] at H
 by_cases c2 : a0_1 = true
 case neg =>
  obtain rfl := bf_.mpr c2
  rw [if_neg ft_] at H
  obtain ⟨t3, A4, H⟩ := o1_ H
  replace H : (some t3) = some r := H
  obtain rfl := si_ H
  go_enter Tryd.func59, Tryd.ntmps59
  go_wp2_with (first | ((with_reducible refine gd_ (N := 1) rfl ?_); refine bx_ 1 #[.int .i64 a0_0, .bool false, .slice A0_2 l0_2.length c0_2] 24 ?_; intro gb1 hg w1 BK1 hb; have GW1 := ge_ hg brt4_; have GE1 := GW1; replace HB := hb_ hb brt4_; clear hb hg; have hcz1 := c3_ BK1) | ((with_reducible refine gc_ (f := 60) rfl ?_); refine gl_ 5 Tryd.func60 #[.int .i64 a0_0, .int .i64 2, .int .i64 24] ?_; (with_reducible refine (spec_l1In.calls a0_0 2 24 true _ A2.out).mono ?_); rintro e w' ⟨rfl, ⟨nd, rfl⟩⟩; refine ⟨_, rfl, ?_⟩) | (go_at_call 79; (with_reducible refine (spec_l1Rising.calls k _ _ l0_2 0 (wrap64 (a0_0 - 1)) t3 _ ?side1 ?side2 A4.out).mono ?_); (case side1 => exact b83h_); (case side2 => exact HC0_2.out); rintro e w' ⟨rfl, ⟨nd, rfl⟩⟩))
  go_ret
  exact ⟨bnwh_, be6g_⟩
 subst c2
 rw [if_pos rfl] at H
 by_cases c3 : a0_0 > 2
 case neg =>
  rw [if_neg c3] at H
  have c3b0 : decide (2 < a0_0) = false := decide_eq_false c3
  clear c3
  obtain rfl := si_ H
  go_enter Tryd.func59, Tryd.ntmps59
  go_wp2_with (first | ((with_reducible refine gd_ (N := 1) rfl ?_); refine bx_ 1 #[.int .i64 a0_0, .bool true, .slice A0_2 l0_2.length c0_2] 24 ?_; intro gb1 hg w1 BK1 hb; have GW1 := ge_ hg brt4_; have GE1 := GW1; replace HB := hb_ hb brt4_; clear hb hg; have hcz1 := c3_ BK1) | ((with_reducible refine gc_ (f := 60) rfl ?_); refine gl_ 5 Tryd.func60 #[.int .i64 a0_0, .int .i64 2, .int .i64 24] ?_; (with_reducible refine (spec_l1In.calls a0_0 2 24 true _ A2.out).mono ?_); rintro e w' ⟨rfl, ⟨nd, rfl⟩⟩; refine ⟨_, rfl, ?_⟩))
  go_ret
  exact ⟨bnwh_, be6g_⟩
 rw [if_pos c3] at H
 have c3b0 : decide (2 < a0_0) = true := dt_ c3
 clear c3
 obtain ⟨t2, A4, H⟩ := o1_ H
 replace H : (some t2) = some r := H
 obtain rfl := si_ H
 go_enter Tryd.func59, Tryd.ntmps59
 go_wp2_with (first | ((with_reducible refine gd_ (N := 1) rfl ?_); refine bx_ 1 #[.int .i64 a0_0, .bool true, .slice A0_2 l0_2.length c0_2] 24 ?_; intro gb1 hg w1 BK1 hb; have GW1 := ge_ hg brt4_; have GE1 := GW1; replace HB := hb_ hb brt4_; clear hb hg; have hcz1 := c3_ BK1) | ((with_reducible refine gc_ (f := 60) rfl ?_); refine gl_ 5 Tryd.func60 #[.int .i64 a0_0, .int .i64 2, .int .i64 24] ?_; (with_reducible refine (spec_l1In.calls a0_0 2 24 true _ A2.out).mono ?_); rintro e w' ⟨rfl, ⟨nd, rfl⟩⟩; refine ⟨_, rfl, ?_⟩) | (go_at_call 79; (with_reducible refine (spec_l1Rising.calls k _ _ l0_2 0 (wrap64 (a0_0 - 1)) t2 _ ?side1 ?side2 A4.out).mono ?_); (case side1 => exact b83h_); (case side2 => exact HC0_2.out); rintro e w' ⟨rfl, ⟨nd, rfl⟩⟩))
 go_ret
 exact ⟨bnwh_, be6g_⟩

def spec_l1Has.l0 : Nat → List Int → Int → Int → Option (Bool)
 | 0, _, _, _ => none
 | k + 1, x0, x1, x5 => if x5 < (x0.length : Int) then (if 0 ≤ x5 then (if (rd x0 x5) = x1 then (some true) else (spec_l1Has.l0 k x0 x1 (wrap64 (x5 + 1)))) else (none)) else (some false)
def spec_l1Has.f (k : Nat) (l0 : List Int) (a1 : Int) : Option (Bool) := spec_l1Has.l0 k l0 a1 0
theorem spec_l1Has.mono_l : ∀ k, (∀ y0 y1 y2, LeO (spec_l1Has.l0 k y0 y1 y2) (spec_l1Has.l0 (k + 1) y0 y1 y2))
 | 0 => fun _ _ _ r h => by simp [spec_l1Has.l0] at h
 | k + 1 => by
  have ih0 := spec_l1Has.mono_l k
  ·intro y0 y1 y2
   unfold spec_l1Has.l0
   repeat' with_reducible first | exact ih0 .. | exact LeO.refl .. | exact LeO.none .. | refine LeO.ite ?_ ?_ | refine LeO.bind ?_ (fun _ => ?_)
theorem spec_l1Has.mono : ∀ a0 a1 k, LeO (spec_l1Has.f k a0 a1) (spec_l1Has.f (k + 1) a0 a1) := by
 intro a0 a1 k
 have ih0 := spec_l1Has.mono_l k
 unfold spec_l1Has.f
 repeat' with_reducible first | exact ih0 .. | exact LeO.refl .. | exact LeO.none .. | refine LeO.ite ?_ ?_ | refine LeO.bind ?_ (fun _ => ?_)
theorem spec_l1Has.calls (k : Nat) (A0 : Option Addr) (c0 : Nat) (l0 : List Int) (a1 : Int) (r : Bool) (w : World) (hr0 : Kd.C (Kd.int .i64) w A0 l0.length l0) (hc0 : l0.length ≤ c0) (h : spec_l1Has.f k l0 a1 = some r) :
  Calls Tryd.prog 61 #[.slice A0 l0.length c0, .int .i64 a1] w fun e w' => e = .returned (.bool r) ∧ Drawn0 w w' := by
 have HR0 := A0_ hr0
 have HC0 := A0_ hc0
 clear hr0 hc0
 have H : (spec_l1Has.l0 k l0 a1 0) = some r := h
 clear h
 have H' := A0_ H
 clear H
 go_enter Tryd.func61, Tryd.ntmps61
 go_wp2
 go_loopg [5] k (fun kq v1 w' => ∃ (x5_1 : Int), v1 = .int .i64 x5_1 ∧ Aside0 (spec_l1Has.l0 kq l0 a1 x5_1 = some r) ∧ Aside0 (kq ≤ k) ∧ Drawn0 w w')
 case atStart => exact ⟨(0), b2ew_, H', ⟨Nat.le_refl _⟩, boaj_⟩
 clear H'
 obtain ⟨x5_1, rfl, HA, HK1, ⟨m1, rfl⟩⟩ := hrel
 cases gk with | zero => exact absurd HA.out (by simp [spec_l1Has.l0]) | succ k1 => ?_
 have H := HA.out
 clear HA
 simp only [spec_l1Has.l0] at H
 by_cases c1 : x5_1 < (l0.length : Int)
 case neg =>
  rw [if_neg c1] at H
  have c1b0 : decide (x5_1 < (l0.length : Int)) = false := decide_eq_false c1
  clear c1
  obtain rfl := si_ H
  go_wp2
  go_ret
  exact ⟨b04z_, boaj_⟩
 rw [if_pos c1] at H
 have c1b0 : decide (x5_1 < (l0.length : Int)) = true := dt_ c1
 clear c1
 by_cases c2 : 0 ≤ x5_1
 case neg =>
  rw [if_neg c2] at H
  exact absurd H bxka_
 rw [if_pos c2] at H
 have c2b0 : decide (0 ≤ x5_1) = true := dt_ c2
 clear c2
 by_cases c3 : (rd l0 x5_1) = a1
 ·rw [if_pos c3] at H
  obtain ⟨c3b0, c3b1⟩ := et_ c3
  clear c3
  obtain rfl := si_ H
  have p1 : 0 ≤ (x5_1 : Int) := od_ bpil_
  have q1 : x5_1 < (l0.length : Int) := od_ bpil_
  obtain ⟨ad1, e1, hx1_0⟩ := Kd.at_int HR0.out x5_1 p1 q1
  cases e1
  replace p1 := eq_true p1
  replace q1 := eq_true q1
  go_wp2
  go_ret
  exact ⟨b04z_, boaj_⟩
 rw [if_neg c3] at H
 obtain ⟨c3b0, c3b1⟩ := ef_ c3
 have H' := A0_ H
 clear H
 have p1 : 0 ≤ (x5_1 : Int) := od_ bpil_
 have q1 : x5_1 < (l0.length : Int) := od_ bpil_
 obtain ⟨ad1, e1, hx1_0⟩ := Kd.at_int HR0.out x5_1 p1 q1
 cases e1
 replace p1 := eq_true p1
 replace q1 := eq_true q1
 go_wp2
 go_roundg k1
 case measure => have := HK1.out; omega
 exact ⟨(wrap64 (x5_1 + 1)), b2ew_, H', ⟨bxjq_⟩, boaj_⟩

mutual
def spec_l12Good.j0 : Nat → Bool → Int → Bool → List Int → List Int → Int → Option (Bool)
 | 0, _, _, _, _, _, _ => none
 | k + 1, x23, x162000, x162001, x162002, x162003, x162004 => if x23 = true then (some false) else (spec_l12Good.l0 k 0 x162000 x162001 x162002 x162003 x162004)
def spec_l12Good.l0 : Nat → Int → Int → Bool → List Int → List Int → Int → Option (Bool)
 | 0, _, _, _, _, _, _ => none
 | k + 1, x3, x162000, x162001, x162002, x162003, x162004 => if x3 < (x162002.length : Int) then (if 0 ≤ x3 then ((spec_l1Has.f k x162003 (rd x162002 x3)).bind fun t165 => (if t165 = true then (spec_l12Good.l0 k (wrap64 (x3 + 1)) x162000 x162001 x162002 x162003 x162004) else (some false))) else (none)) else (some true)
end
def spec_l12Good.f (k : Nat) (a0_0 : Int) (a0_1 : Bool) (l0_2 : List Int) (l0_3 : List Int) (a0_4 : Int) : Option (Bool) := (spec_l2Row.f k a0_0 a0_1 l0_2).bind fun t162 => (if t162 = true then (if (l0_3.length : Int) = (l0_2.length : Int) then ((spec_l1In.f a0_4 0 1000).bind fun t163 => (spec_l12Good.j0 k (!t163) a0_0 a0_1 l0_2 l0_3 a0_4)) else (spec_l12Good.j0 k true a0_0 a0_1 l0_2 l0_3 a0_4)) else (spec_l12Good.j0 k true a0_0 a0_1 l0_2 l0_3 a0_4))
theorem spec_l12Good.mono_l : ∀ k, (∀ y0 y1 y2 y3 y4 y5, LeO (spec_l12Good.j0 k y0 y1 y2 y3 y4 y5) (spec_l12Good.j0 (k + 1) y0 y1 y2 y3 y4 y5)) ∧ (∀ y0 y1 y2 y3 y4 y5, LeO (spec_l12Good.l0 k y0 y1 y2 y3 y4 y5) (spec_l12Good.l0 (k + 1) y0 y1 y2 y3 y4 y5))
 | 0 => ⟨fun _ _ _ _ _ _ r h => by simp [spec_l12Good.j0] at h, fun _ _ _ _ _ _ r h => by simp [spec_l12Good.l0] at h⟩
 | k + 1 => by
  obtain ⟨ih0, ih1⟩ := spec_l12Good.mono_l k
  refine ⟨?_, ?_⟩
  ·intro y0 y1 y2 y3 y4 y5
   unfold spec_l12Good.j0
   repeat' with_reducible first | exact ih0 .. | exact ih1 .. | exact spec_l1Has.mono .. | exact spec_l2Row.mono .. | exact LeO.refl .. | exact LeO.none .. | refine LeO.ite ?_ ?_ | refine LeO.bind ?_ (fun _ => ?_)
  ·intro y0 y1 y2 y3 y4 y5
   unfold spec_l12Good.l0
   repeat' with_reducible first | exact ih0 .. | exact ih1 .. | exact spec_l1Has.mono .. | exact spec_l2Row.mono .. | exact LeO.refl .. | exact LeO.none .. | refine LeO.ite ?_ ?_ | refine LeO.bind ?_ (fun _ => ?_)
theorem spec_l12Good.mono : ∀ a0 a1 a2 a3 a4 k, LeO (spec_l12Good.f k a0 a1 a2 a3 a4) (spec_l12Good.f (k + 1) a0 a1 a2 a3 a4) := by
 intro a0 a1 a2 a3 a4 k
 obtain ⟨ih0, ih1⟩ := spec_l12Good.mono_l k
 unfold spec_l12Good.f
 repeat' with_reducible first | exact ih0 .. | exact ih1 .. | exact spec_l1Has.mono .. | exact spec_l2Row.mono .. | exact LeO.refl .. | exact LeO.none .. | refine LeO.ite ?_ ?_ | refine LeO.bind ?_ (fun _ => ?_)
theorem spec_l12Good.calls (k : Nat) (a0_0 : Int) (a0_1 : Bool) (A0_2 : Option Addr) (c0_2 : Nat) (l0_2 : List Int) (A0_3 : Option Addr) (c0_3 : Nat) (l0_3 : List Int) (a0_4 : Int) (r : Bool) (w : World) (hr0_2 : Kd.C (Kd.int .i64) w A0_2 l0_2.length l0_2) (hc0_2 : l0_2.length ≤ c0_2) (hr0_3 : Kd.C (Kd.int .i64) w A0_3 l0_3.length l0_3) (hc0_3 : l0_3.length ≤ c0_3) (h : spec_l12Good.f k a0_0 a0_1 l0_2 l0_3 a0_4 = some r) :
  Calls Tryd.prog 32 #[.agg #[.int .i64 a0_0, .bool a0_1, .slice A0_2 l0_2.length c0_2, .slice A0_3 l0_3.length c0_3, .int .i64 a0_4]] w fun e w' => e = .returned (.bool r) ∧ Below w.heap.size w w' := by
 have hu26 := Tryd.underlying26
 have hu24 := Tryd.underlying24
 have HR0_2 := A0_ hr0_2
 have HC0_2 := A0_ hc0_2
 clear hr0_2 hc0_2
 have HR0_3 := A0_ hr0_3
 have HC0_3 := A0_ hc0_3
 clear hr0_3 hc0_3
 have HB := A0_ (Below.refl w.heap.size w)
 have H : ((spec_l2Row.f k a0_0 a0_1 l0_2).bind fun t1 => (if t1 = true then (if (l0_3.length : Int) = (l0_2.length : Int) then ((spec_l1In.f a0_4 0 1000).bind fun t2 => (spec_l12Good.j0 k (!t2) a0_0 a0_1 l0_2 l0_3 a0_4)) else (spec_l12Good.j0 k true a0_0 a0_1 l0_2 l0_3 a0_4)) else (spec_l12Good.j0 k true a0_0 a0_1 l0_2 l0_3 a0_4))) = some r := h
 clear h
 have HC2 := A0_ H
 clear H
 go_enter Tryd.func32, Tryd.ntmps32
 go_upto_region 1 with (first | ((with_reducible refine gd_ (N := 1) rfl ?_); (try (refine gate_guard (by rfl) ?_; dsimp only)); refine bx_ 1 #[.int .i64 a0_0, .bool a0_1, .slice A0_2 l0_2.length c0_2, .slice A0_3 l0_3.length c0_3, .int .i64 a0_4] 26 ?_; intro gb1 hg w1 BK1 hb; have GW1 := ge_ hg brt4_; have GE1 := GW1; replace HB := hb_ hb brt4_; clear hb hg))
 repeat (go_quiet (first | ((with_reducible refine gd_ (N := 1) rfl ?_); (try (refine gate_guard (by rfl) ?_; dsimp only)); refine bx_ 1 #[.int .i64 a0_0, .bool a0_1, .slice A0_2 l0_2.length c0_2, .slice A0_3 l0_3.length c0_3, .int .i64 a0_4] 26 ?_; intro gb1 hg w1 BK1 hb; have GW1 := ge_ hg brt4_; have GE1 := GW1; replace HB := hb_ hb brt4_; clear hb hg)); go_upto_region 1 with (first | ((with_reducible refine gd_ (N := 1) rfl ?_); (try (refine gate_guard (by rfl) ?_; dsimp only)); refine bx_ 1 #[.int .i64 a0_0, .bool a0_1, .slice A0_2 l0_2.length c0_2, .slice A0_3 l0_3.length c0_3, .int .i64 a0_4] 26 ?_; intro gb1 hg w1 BK1 hb; have GW1 := ge_ hg brt4_; have GE1 := GW1; replace HB := hb_ hb brt4_; clear hb hg)))
 (try simp only [Act.put, sa_, sz_, ss_])
 go_cut [23] (fun v1 wc => ∃ (kq : Nat) (x23_1 : Bool), v1 = .bool x23_1 ∧ Aside0 (spec_l12Good.j0 kq x23_1 a0_0 a0_1 l0_2 l0_3 a0_4 = some r) ∧ Aside0 (kq ≤ k) ∧ Aside0 (wc.heap[gb1]? = some (.cells #[.int .i64 a0_0, .bool a0_1, (.slice A0_2 l0_2.length c0_2), (.slice A0_3 l0_3.length c0_3), .int .i64 a0_4] 26 (0, 0))) ∧ Aside0 (Below w.heap.size w wc))
 case first =>
  have H := HC2.out
  clear HC2
  obtain ⟨t1, A2, H⟩ := o1_ H
  by_cases c1 : t1 = true
  case neg =>
   obtain rfl := bf_.mpr c1
   rw [if_neg ft_] at H
   have H' := A0_ H
   clear H
   have hcz1 := c5_ BK1
   go_wp2_with (first | (go_at_call 59; (with_reducible refine (spec_l2Row.calls k a0_0 a0_1 _ _ l0_2 false _ ?side1 ?side2 A2.out).mono ?_); (case side1 => exact b6n8_); (case side2 => exact HC0_2.out); rintro e w2 ⟨rfl, hb⟩; replace BK1 := k1_ BK1 hb; replace HB := hb_ hb be6g_; (try clear hb)))
   repeat (go_quiet (first | (go_at_call 59; (with_reducible refine (spec_l2Row.calls k a0_0 a0_1 _ _ l0_2 false _ ?side1 ?side2 A2.out).mono ?_); (case side1 => exact b6n8_); (case side2 => exact HC0_2.out); rintro e w2 ⟨rfl, hb⟩; replace BK1 := k1_ BK1 hb; replace HB := hb_ hb be6g_; (try clear hb))); try go_wp2_with (first | (go_at_call 59; (with_reducible refine (spec_l2Row.calls k a0_0 a0_1 _ _ l0_2 false _ ?side1 ?side2 A2.out).mono ?_); (case side1 => exact b6n8_); (case side2 => exact HC0_2.out); rintro e w2 ⟨rfl, hb⟩; replace BK1 := k1_ BK1 hb; replace HB := hb_ hb be6g_; (try clear hb))))
   go_meet
   exact ⟨_, (true), b2ew_, H', ⟨bbn0_⟩, ⟨u1_ BK1⟩, ⟨be6g_⟩⟩
  subst c1
  rw [if_pos rfl] at H
  by_cases c2 : (l0_3.length : Int) = (l0_2.length : Int)
  case neg =>
   rw [if_neg c2] at H
   obtain ⟨c2b0, c2b1⟩ := ef_ c2
   have c2b2 : (l0_3.length == l0_2.length) = false := bds5_
   (first | rw [c2b0] | (simp only [i64_w, i32_w]; rw [c2b0]) | skip)
   have H' := A0_ H
   clear H
   have hcz1 := c5_ BK1
   go_wp2_with (first | (go_at_call 59; (with_reducible refine (spec_l2Row.calls k a0_0 a0_1 _ _ l0_2 true _ ?side1 ?side2 A2.out).mono ?_); (case side1 => exact b6n8_); (case side2 => exact HC0_2.out); rintro e w2 ⟨rfl, hb⟩; replace BK1 := k1_ BK1 hb; replace HB := hb_ hb be6g_; (try clear hb); have hcz2 := c5_ BK1))
   repeat (go_quiet (first | (go_at_call 59; (with_reducible refine (spec_l2Row.calls k a0_0 a0_1 _ _ l0_2 true _ ?side1 ?side2 A2.out).mono ?_); (case side1 => exact b6n8_); (case side2 => exact HC0_2.out); rintro e w2 ⟨rfl, hb⟩; replace BK1 := k1_ BK1 hb; replace HB := hb_ hb be6g_; (try clear hb); have hcz2 := c5_ BK1)); try go_wp2_with (first | (go_at_call 59; (with_reducible refine (spec_l2Row.calls k a0_0 a0_1 _ _ l0_2 true _ ?side1 ?side2 A2.out).mono ?_); (case side1 => exact b6n8_); (case side2 => exact HC0_2.out); rintro e w2 ⟨rfl, hb⟩; replace BK1 := k1_ BK1 hb; replace HB := hb_ hb be6g_; (try clear hb); have hcz2 := c5_ BK1)))
   go_meet
   exact ⟨_, (true), b2ew_, H', ⟨bbn0_⟩, ⟨u1_ BK1⟩, ⟨be6g_⟩⟩
  rw [if_pos c2] at H
  obtain ⟨c2b0, c2b1⟩ := et_ c2
  have c2b2 : (l0_3.length == l0_2.length) = true := bds5_
  clear c2
  (first | rw [c2b0] | (simp only [i64_w, i32_w]; rw [c2b0]) | skip)
  obtain ⟨t2, A4, H⟩ := o1_ H
  have H' := A0_ H
  clear H
  have hcz1 := c5_ BK1
  go_wp2_with (first | (go_at_call 59; (with_reducible refine (spec_l2Row.calls k a0_0 a0_1 _ _ l0_2 true _ ?side1 ?side2 A2.out).mono ?_); (case side1 => exact b6n8_); (case side2 => exact HC0_2.out); rintro e w2 ⟨rfl, hb⟩; replace BK1 := k1_ BK1 hb; replace HB := hb_ hb be6g_; (try clear hb); have hcz2 := c5_ BK1) | (go_at_call 60; (with_reducible refine (spec_l1In.calls a0_4 0 1000 t2 _ A4.out).mono ?_); rintro e w' ⟨rfl, ⟨nd, rfl⟩⟩; (try first | exact ⟨rfl, _, World.drewN_drewN _ _ _⟩ | exact ⟨rfl, _, Eq.trans (World.drewN_drewN _ _ _) (congrArg (World.drewN _) (Nat.add_assoc _ _ _))⟩)))
  repeat (go_quiet (first | (go_at_call 59; (with_reducible refine (spec_l2Row.calls k a0_0 a0_1 _ _ l0_2 true _ ?side1 ?side2 A2.out).mono ?_); (case side1 => exact b6n8_); (case side2 => exact HC0_2.out); rintro e w2 ⟨rfl, hb⟩; replace BK1 := k1_ BK1 hb; replace HB := hb_ hb be6g_; (try clear hb); have hcz2 := c5_ BK1) | (go_at_call 60; (with_reducible refine (spec_l1In.calls a0_4 0 1000 t2 _ A4.out).mono ?_); rintro e w' ⟨rfl, ⟨nd, rfl⟩⟩; (try first | exact ⟨rfl, _, World.drewN_drewN _ _ _⟩ | exact ⟨rfl, _, Eq.trans (World.drewN_drewN _ _ _) (congrArg (World.drewN _) (Nat.add_assoc _ _ _))⟩))); try go_wp2_with (first | (go_at_call 59; (with_reducible refine (spec_l2Row.calls k a0_0 a0_1 _ _ l0_2 true _ ?side1 ?side2 A2.out).mono ?_); (case side1 => exact b6n8_); (case side2 => exact HC0_2.out); rintro e w2 ⟨rfl, hb⟩; replace BK1 := k1_ BK1 hb; replace HB := hb_ hb be6g_; (try clear hb); have hcz2 := c5_ BK1) | (go_at_call 60; (with_reducible refine (spec_l1In.calls a0_4 0 1000 t2 _ A4.out).mono ?_); rintro e w' ⟨rfl, ⟨nd, rfl⟩⟩; (try first | exact ⟨rfl, _, World.drewN_drewN _ _ _⟩ | exact ⟨rfl, _, Eq.trans (World.drewN_drewN _ _ _) (congrArg (World.drewN _) (Nat.add_assoc _ _ _))⟩))))
  go_meet
  exact ⟨_, (!t2), b2ew_, H', ⟨bbn0_⟩, ⟨u1_ BK1⟩, ⟨be6g_⟩⟩
 clear HC2
 obtain ⟨kq, x23_1, rfl, HA, HJ1, BK1, HB⟩ := hcut
 cases kq with | zero => exact absurd HA.out (by simp [spec_l12Good.j0]) | succ kj1 => ?_
 have H := HA.out
 clear HA
 simp only [spec_l12Good.j0] at H
 by_cases c1 : x23_1 = true
 ·subst c1
  rw [if_pos rfl] at H
  obtain rfl := si_ H
  go_wp2
  repeat (go_quiet (fail); try go_wp2)
  go_ret
  exact ⟨bnwh_, be6g_⟩
 obtain rfl := bf_.mpr c1
 rw [if_neg ft_] at H
 have H' := A0_ H
 clear H
 go_wp2
 repeat (go_quiet (fail); try go_wp2)
 go_loopg [3] kj1 (fun kq v2 w' => ∃ (x3_2 : Int), v2 = .int .i64 x3_2 ∧ Aside0 (spec_l12Good.l0 kq x3_2 a0_0 a0_1 l0_2 l0_3 a0_4 = some r) ∧ Aside0 (kq ≤ kj1) ∧ Aside0 (w'.heap[gb1]? = some (.cells #[.int .i64 a0_0, .bool a0_1, (.slice A0_2 l0_2.length c0_2), (.slice A0_3 l0_3.length c0_3), .int .i64 a0_4] 26 (0, 0))) ∧ Aside0 (Below w.heap.size w w'))
 case atStart => exact ⟨(0), b2ew_, H', ⟨Nat.le_refl _⟩, ⟨u1_ BK1⟩, ⟨be6g_⟩⟩
 clear H'
 try clear c1
 obtain ⟨x3_2, rfl, HA, HK1, BK1, HB⟩ := hrel
 cases gk with | zero => exact absurd HA.out (by simp [spec_l12Good.l0]) | succ k2 => ?_
 have H := HA.out
 clear HA
 simp only [spec_l12Good.l0] at H
 by_cases c2 : x3_2 < (l0_2.length : Int)
 case neg =>
  rw [if_neg c2] at H
  have c2b0 : decide (x3_2 < (l0_2.length : Int)) = false := decide_eq_false c2
  clear c2
  obtain rfl := si_ H
  have hcz1 := c5_ BK1
  go_wp2
  repeat (go_quiet (fail); try go_wp2)
  go_ret
  exact ⟨bnwh_, be6g_⟩
 rw [if_pos c2] at H
 have c2b0 : decide (x3_2 < (l0_2.length : Int)) = true := dt_ c2
 clear c2
 by_cases c3 : 0 ≤ x3_2
 case neg =>
  rw [if_neg c3] at H
  exact absurd H bxka_
 rw [if_pos c3] at H
 have c3b0 : decide (0 ≤ x3_2) = true := dt_ c3
 clear c3
 obtain ⟨t3, A2, H⟩ := o1_ H
 by_cases c4 : t3 = true
 case neg =>
  obtain rfl := bf_.mpr c4
  rw [if_neg ft_] at H
  obtain rfl := si_ H
  have hcz1 := c5_ BK1
  have p1 : 0 ≤ (x3_2 : Int) := od_ bpil_
  have q1 : x3_2 < (l0_2.length : Int) := od_ bpil_
  obtain ⟨ad1, e1, hx1_0⟩ := Kd.at_int HR0_2.out x3_2 p1 q1
  cases e1
  replace hx1_0 := (HB.out.cell (World.block_lt_of_cell? w _ hx1_0)).trans hx1_0
  replace p1 := eq_true p1
  replace q1 := eq_true q1
  go_wp2_with (first | (go_at_call 61; (with_reducible refine (spec_l1Has.calls k2 _ _ l0_3 (rd l0_2 x3_2) false _ ?side1 ?side2 A2.out).mono ?_); (case side1 => exact bkan_); (case side2 => exact HC0_3.out); rintro e w' ⟨rfl, ⟨nd, rfl⟩⟩; (try first | exact ⟨rfl, _, World.drewN_drewN _ _ _⟩ | exact ⟨rfl, _, Eq.trans (World.drewN_drewN _ _ _) (congrArg (World.drewN _) (Nat.add_assoc _ _ _))⟩)))
  repeat (go_quiet (first | (go_at_call 61; (with_reducible refine (spec_l1Has.calls k2 _ _ l0_3 (rd l0_2 x3_2) false _ ?side1 ?side2 A2.out).mono ?_); (case side1 => exact bkan_); (case side2 => exact HC0_3.out); rintro e w' ⟨rfl, ⟨nd, rfl⟩⟩; (try first | exact ⟨rfl, _, World.drewN_drewN _ _ _⟩ | exact ⟨rfl, _, Eq.trans (World.drewN_drewN _ _ _) (congrArg (World.drewN _) (Nat.add_assoc _ _ _))⟩))); try go_wp2_with (first | (go_at_call 61; (with_reducible refine (spec_l1Has.calls k2 _ _ l0_3 (rd l0_2 x3_2) false _ ?side1 ?side2 A2.out).mono ?_); (case side1 => exact bkan_); (case side2 => exact HC0_3.out); rintro e w' ⟨rfl, ⟨nd, rfl⟩⟩; (try first | exact ⟨rfl, _, World.drewN_drewN _ _ _⟩ | exact ⟨rfl, _, Eq.trans (World.drewN_drewN _ _ _) (congrArg (World.drewN _) (Nat.add_assoc _ _ _))⟩))))
  go_ret
  exact ⟨bnwh_, be6g_⟩
 subst c4
 rw [if_pos rfl] at H
 have H' := A0_ H
 clear H
 have hcz1 := c5_ BK1
 have p1 : 0 ≤ (x3_2 : Int) := od_ bpil_
 have q1 : x3_2 < (l0_2.length : Int) := od_ bpil_
 obtain ⟨ad1, e1, hx1_0⟩ := Kd.at_int HR0_2.out x3_2 p1 q1
 cases e1
 replace hx1_0 := (HB.out.cell (World.block_lt_of_cell? w _ hx1_0)).trans hx1_0
 replace p1 := eq_true p1
 replace q1 := eq_true q1
 go_wp2_with (first | (go_at_call 61; (with_reducible refine (spec_l1Has.calls k2 _ _ l0_3 (rd l0_2 x3_2) true _ ?side1 ?side2 A2.out).mono ?_); (case side1 => exact bkan_); (case side2 => exact HC0_3.out); rintro e w' ⟨rfl, ⟨nd, rfl⟩⟩; (try first | exact ⟨rfl, _, World.drewN_drewN _ _ _⟩ | exact ⟨rfl, _, Eq.trans (World.drewN_drewN _ _ _) (congrArg (World.drewN _) (Nat.add_assoc _ _ _))⟩)))
 repeat (go_quiet (first | (go_at_call 61; (with_reducible refine (spec_l1Has.calls k2 _ _ l0_3 (rd l0_2 x3_2) true _ ?side1 ?side2 A2.out).mono ?_); (case side1 => exact bkan_); (case side2 => exact HC0_3.out); rintro e w' ⟨rfl, ⟨nd, rfl⟩⟩; (try first | exact ⟨rfl, _, World.drewN_drewN _ _ _⟩ | exact ⟨rfl, _, Eq.trans (World.drewN_drewN _ _ _) (congrArg (World.drewN _) (Nat.add_assoc _ _ _))⟩))); try go_wp2_with (first | (go_at_call 61; (with_reducible refine (spec_l1Has.calls k2 _ _ l0_3 (rd l0_2 x3_2) true _ ?side1 ?side2 A2.out).mono ?_); (case side1 => exact bkan_); (case side2 => exact HC0_3.out); rintro e w' ⟨rfl, ⟨nd, rfl⟩⟩; (try first | exact ⟨rfl, _, World.drewN_drewN _ _ _⟩ | exact ⟨rfl, _, Eq.trans (World.drewN_drewN _ _ _) (congrArg (World.drewN _) (Nat.add_assoc _ _ _))⟩))))
 go_roundg k2
 case measure => have := HJ1.out; have := HK1.out; omega
 exact ⟨(wrap64 (x3_2 + 1)), b2ew_, H', ⟨by have := HJ1.out; have := HK1.out; omega⟩, ⟨u1_ BK1⟩, ⟨be6g_⟩⟩

def spec_l1Own.f (l0 : List Int) : Option (List Int) := (some (([] : List Int) : List Int)).bind fun y166 => (if y166.length + l0.length < 17592186044416 then (some (y166 ++ l0)) else (none))
theorem spec_l1Own.calls (A0 : Option Addr) (c0 : Nat) (l0 : List Int) (r : List Int) (w : World) (hr0 : Kd.C (Kd.int .i64) w A0 l0.length l0) (hc0 : l0.length ≤ c0) (h : spec_l1Own.f l0 = some r) :
  Calls Tryd.prog 58 #[.slice A0 l0.length c0] w fun e w' => ∃ v0_ : Value, e = .returned (v0_) ∧ Kd.R (Kd.int .i64) 3 w' w.heap.size (fun _ => True) v0_ r ∧ Below w.heap.size w w' := by
 have HR0 := A0_ hr0
 have HC0 := A0_ hc0
 clear hr0 hc0
 have HB := A0_ (Below.refl w.heap.size w)
 have H : ((some (([] : List Int) : List Int)).bind fun y1 => (if y1.length + l0.length < 17592186044416 then (some (y1 ++ l0)) else (none))) = some r := h
 clear h
 obtain ⟨y1, hy1⟩ : ∃ y_ : List Int, y_ = (([] : List Int)) := ⟨_, rfl⟩
 replace H : (if y1.length + l0.length < 17592186044416 then (some (y1 ++ l0)) else (none)) = some r := bgiq_
 have Ny1 := A0_ hy1
 clear hy1
 by_cases c1 : y1.length + l0.length < 17592186044416
 case neg =>
  rw [if_neg c1] at H
  exact absurd H bxka_
 rw [if_pos c1] at H
 have LMc1 := A0_ c1
 clear c1
 obtain ⟨y2, hy2⟩ : ∃ y_ : List Int, y_ = (y1 ++ l0) := ⟨_, rfl⟩
 replace H : (some y2) = some r := bscs_
 have Ny2 := A0_ hy2
 clear hy2
 obtain rfl := si_ H
 go_enter Tryd.func58, Tryd.ntmps58
 go_wp2_with (first | ((with_reducible refine gd_ (N := 3) rfl ?_); refine Kd.R_lit (Kd.int .i64) _ 3 ?hg (N := 3) ?hd (xs := ([] : List Int)) (inner := []) (ok := fun _ => True) (okp := fun _ => True) ?hr ?hp (fun _ hk => hk) trivial (Below.refl _ _) (Nat.le_refl _) bxka_ ?_; (case hd => rfl); (case hg => rfl); (case hr => go_simp; first | done | rfl); (case hp => exact (Reps.none _ _)); intro v1 w1 ho4 hb hg_ hnew_; clear hg_ hnew_; (first | rw [← Ny1.out] at ho4 | (simp only [Int.reduceToNat] at ho4; rw [← Ny1.out] at ho4)); have HO1 := A0_ (Kd.R_lower ho4 (bz_ brt4_)); replace HB := hb_ hb brt4_; clear hb ho4) | ((with_reducible refine gate_builtin (b := .append) (xs := #[.tmp 3, .tmp 4]) rfl ?_); at_builtin; refine Kd.R_append_rows (Kd.int .i64) (w0 := w) w.heap.size rfl (.tmp 3) (.tmp 4) 22 3 (.int .i64 0) 8 rfl Tryd.underlying22 info3 rfl bi3y_ bh19_ v1 y1 l0 _ _ _ (fun _ => True) (fun _ => False) rfl rfl ?aO ?aR (fun _ _ h => h) (fun _ h => h.elim) ?aF ?aB ?aS ?aL ?_; (case aR => exact bg0z_); (case aB => exact brt4_); (case aF => exact (fun _ _ => trivial)); (case aO => exact bsm5_); (case aS => exact (bz_ brt4_)); (case aL => have := LMc1.out; omega); intro v2 w2 ho hb hg hat; rw [← Ny2.out] at ho; have n0_ := A0_ (hb); have n1_ := A0_ (ho); clear HB HO1; have HB := n0_; have HO2 := n1_; clear n0_ n1_ ho hb hg hat))
 go_ret
 exact ⟨_, bnwh_, b9so_, brt4_⟩

def spec_l12Own.f (a0_0 : Int) (a0_1 : Bool) (l0_2 : List Int) (l0_3 : List Int) (a0_4 : Int) : Option (Int × Bool × List Int × List Int × Int) := (spec_l1Own.f l0_2).bind fun t175 => ((spec_l1Own.f l0_3).bind fun t178 => (some (a0_0, a0_1, t175, t178, a0_4)))
theorem spec_l12Own.calls (a0_0 : Int) (a0_1 : Bool) (A0_2 : Option Addr) (c0_2 : Nat) (l0_2 : List Int) (A0_3 : Option Addr) (c0_3 : Nat) (l0_3 : List Int) (a0_4 : Int) (r1 : Int) (r2 : Bool) (r3 : List Int) (r4 : List Int) (r5 : Int) (w : World) (hr0_2 : Kd.C (Kd.int .i64) w A0_2 l0_2.length l0_2) (hc0_2 : l0_2.length ≤ c0_2) (hr0_3 : Kd.C (Kd.int .i64) w A0_3 l0_3.length l0_3) (hc0_3 : l0_3.length ≤ c0_3) (h : spec_l12Own.f a0_0 a0_1 l0_2 l0_3 a0_4 = some (r1, r2, r3, r4, r5)) :
  Calls Tryd.prog 31 #[.agg #[.int .i64 a0_0, .bool a0_1, .slice A0_2 l0_2.length c0_2, .slice A0_3 l0_3.length c0_3, .int .i64 a0_4]] w fun e w' => ∃ v2_ v3_ : Value, e = .returned (.agg #[.int .i64 r1, .bool r2, v2_, v3_, .int .i64 r5]) ∧ Kd.R (Kd.int .i64) 3 w' w.heap.size (fun k_ => no_ v3_ k_) v2_ r3 ∧ Kd.R (Kd.int .i64) 3 w' w.heap.size (fun k_ => no_ v2_ k_) v3_ r4 ∧ Below w.heap.size w w' := by
 have hu26 := Tryd.underlying26
 have HR0_2 := A0_ hr0_2
 have HC0_2 := A0_ hc0_2
 clear hr0_2 hc0_2
 have HR0_3 := A0_ hr0_3
 have HC0_3 := A0_ hc0_3
 clear hr0_3 hc0_3
 have HB := A0_ (Below.refl w.heap.size w)
 have H : ((spec_l1Own.f l0_2).bind fun t1 => ((spec_l1Own.f l0_3).bind fun t2 => (some (a0_0, a0_1, t1, t2, a0_4)))) = some (r1, r2, r3, r4, r5) := h
 clear h
 obtain ⟨t1, A2, H⟩ := o1_ H
 obtain ⟨t2, A4, H⟩ := o1_ H
 replace H : (some (a0_0, a0_1, t1, t2, a0_4)) = some (r1, r2, r3, r4, r5) := H
 simp only [sj_, pj_] at H
 obtain ⟨rfl, rfl, rfl, rfl, rfl⟩ := H
 go_enter Tryd.func31, Tryd.ntmps31
 go_wp2_with (first | ((with_reducible refine gd_ (N := 1) rfl ?_); refine bx_ 1 #[.int .i64 a0_0, .bool a0_1, .slice A0_2 l0_2.length c0_2, .slice A0_3 l0_3.length c0_3, .int .i64 a0_4] 26 ?_; intro gb1 hg w1 BK1 hb; have GW1 := ge_ hg brt4_; have GE1 := GW1; replace HB := hb_ hb brt4_; clear hb hg) | ((with_reducible refine gd_ (N := 2) rfl ?_); refine bx_ 2 #[.int .i64 0, .bool false, .slice none 0 0, .slice none 0 0, .int .i64 0] 26 ?_; intro gb2 hg w2 BK2 hb; have GW2 := ge_ hg be6g_; have GE2 := GW2; replace HB := hb_ hb be6g_; have NB1_2 := nl_ hg BK1; have NB2_1 := ng_ hg BK1; replace BK1 := k1_ BK1 hb; clear hb hg; have hnb1 := NB1_2.out; have hnc1 := NB2_1.out; have hcz1 := z5_ BK1) | ((with_reducible refine gd_ (N := 3) rfl ?_); refine bx_ 3 #[.int .i64 0, .bool false, .slice none 0 0, .slice none 0 0, .int .i64 0] 26 ?_; intro gb3 hg w3 BK3 hb; have GW3 := ge_ hg bfnq_; have GE3 := GW3; replace HB := hb_ hb bfnq_; have NB1_3 := nl_ hg BK1; have NB3_1 := ng_ hg BK1; replace BK1 := k1_ BK1 hb; have NB2_3 := nl_ hg BK2; have NB3_2 := ng_ hg BK2; replace BK2 := k1_ BK2 hb; clear hb hg; have hnb2 := NB3_1.out; have hnc2 := NB1_3.out; have hnb3 := NB3_2.out; have hnc3 := NB2_3.out; have hcz2 := z5_ BK3; have hcz3 := z5_ BK1) | ((with_reducible refine gc_ (f := 58) rfl ?_); refine gl_ 8 Tryd.func58 #[.slice A0_2 l0_2.length c0_2] ?_; (with_reducible refine (spec_l1Own.calls _ _ l0_2 t1 _ ?side1 ?side2 A2.out).mono ?_); (case side1 => exact cb_ HR0_2.out b850_); (case side2 => exact HC0_2.out); rintro e w4 ⟨v1, rfl, ho0, hb⟩; refine ⟨_, rfl, ?_⟩; have HO1 := A0_ (Kd.R_lower ho0 (bz_ b850_)); replace BK1 := k1_ BK1 hb; replace BK2 := k1_ BK2 hb; replace BK3 := k2_ (.cells #[.int .i64 a0_0, .bool a0_1, .slice A0_2 l0_2.length c0_2, .slice A0_3 l0_3.length c0_3, .int .i64 a0_4] 26 (0, 0)) BK3 hb; replace HB := hb_ hb b850_; (try clear hb); (try clear ho0); obtain ⟨Ao1, co1, eo1⟩ := Kd.R_slice HO1.out; subst eo1; have hcz4 := z5_ BK3; have hcz5 := z5_ BK1) | ((with_reducible refine gc_ (f := 58) rfl ?_); refine gl_ 13 Tryd.func58 #[.slice A0_3 l0_3.length c0_3] ?_; (with_reducible refine (spec_l1Own.calls _ _ l0_3 t2 _ ?side1 ?side2 A4.out).mono ?_); (case side1 => exact cb_ HR0_3.out b850_); (case side2 => exact HC0_3.out); rintro e w5 ⟨v4, rfl, ho0, hb⟩; refine ⟨_, rfl, ?_⟩; have HO2 := A0_ (Kd.R_lower (Kd.R_new' ho0 (Kd.R_lt bn35_)) (bz_ b850_)); replace HO1 := A0_ (Kd.R_elder' bn35_ (Kd.R_base ho0) hb); replace BK1 := k1_ BK1 hb; replace BK2 := k1_ BK2 hb; replace BK3 := k2_ (.cells #[.int .i64 a0_0, .bool a0_1, .slice Ao1 t1.length co1, .slice A0_3 l0_3.length c0_3, .int .i64 a0_4] 26 (0, 0)) BK3 hb; replace HB := hb_ hb b850_; (try clear hb); (try clear ho0); obtain ⟨Ao2, co2, eo2⟩ := Kd.R_slice HO2.out; subst eo2; have hcz6 := z5_ BK3; have hcz7 := z5_ BK2))
 refine bodyPost_ret (results_cell_row rfl _ _ gb2 26 #[.int .i64 a0_0, .bool a0_1, .slice Ao1 t1.length co1, .slice Ao2 t2.length co2, .int .i64 a0_4] (0, 0) _ rfl (u1_ BK2) Tryd.underlying26 rfl bfqv_) rfl ?_
 exact ⟨_, _, bnwh_, by (with_reducible repeat (first | apply ra_ | apply rn_ | apply rd_)); exact Kd.R_mono (rf_ (rf_ (rf_ (rf_ (rf_ (rf_ (Kd.R_types (Kd.R_types HO1.out BK3.out bi3y_) BK2.out bi3y_) (fun _ hk => hk.1.2) (.slice Ao2 t2.length co2)) k2_0 _) k2_0 _) k2_0 _) k2_0 _) k2_0 _) (fun _ hk => hk.1.1.2), by (with_reducible repeat (first | apply ra_ | apply rn_ | apply rd_)); exact Kd.R_mono (rf_ (rf_ (rf_ (rf_ (rf_ (rf_ (Kd.R_types (Kd.R_types HO2.out BK3.out bi3y_) BK2.out bi3y_) (fun _ hk => hk.1.2) (.slice Ao2 t2.length co2)) k2_0 _) k2_0 _) k2_0 _) k2_0 _) k2_0 _) (fun _ hk => hk.1.1.2), b850_⟩

def spec_l2Is.f (k : Nat) (a0_0 : Int) (a0_1 : Bool) (l0_2 : List Int) (a1 : Int) : Option (Bool) := (spec_l1Has.f k l0_2 a1).bind fun t182 => (some t182)
theorem spec_l2Is.mono : ∀ a0 a1 a2 a3 k, LeO (spec_l2Is.f k a0 a1 a2 a3) (spec_l2Is.f (k + 1) a0 a1 a2 a3) := by
 intro a0 a1 a2 a3 k
 unfold spec_l2Is.f
 repeat' with_reducible first | exact spec_l1Has.mono .. | exact LeO.refl .. | exact LeO.none .. | refine LeO.ite ?_ ?_ | refine LeO.bind ?_ (fun _ => ?_)
theorem spec_l2Is.calls (k : Nat) (a0_0 : Int) (a0_1 : Bool) (A0_2 : Option Addr) (c0_2 : Nat) (l0_2 : List Int) (a1 : Int) (r : Bool) (w : World) (hr0_2 : Kd.C (Kd.int .i64) w A0_2 l0_2.length l0_2) (hc0_2 : l0_2.length ≤ c0_2) (h : spec_l2Is.f k a0_0 a0_1 l0_2 a1 = some r) :
  Calls Tryd.prog 64 #[.agg #[.int .i64 a0_0, .bool a0_1, .slice A0_2 l0_2.length c0_2], .int .i64 a1] w fun e w' => e = .returned (.bool r) ∧ Below w.heap.size w w' := by
 have hu24 := Tryd.underlying24
 have HR0_2 := A0_ hr0_2
 have HC0_2 := A0_ hc0_2
 clear hr0_2 hc0_2
 have HB := A0_ (Below.refl w.heap.size w)
 have H : ((spec_l1Has.f k l0_2 a1).bind fun t1 => (some t1)) = some r := h
 clear h
 obtain ⟨t1, A2, H⟩ := o1_ H
 replace H : (some t1) = some r := H
 obtain rfl := si_ H
 go_enter Tryd.func64, Tryd.ntmps64
 go_wp2_with (first | ((with_reducible refine gd_ (N := 2) rfl ?_); refine bx_ 2 #[.int .i64 a0_0, .bool a0_1, .slice A0_2 l0_2.length c0_2] 24 ?_; intro gb1 hg w1 BK1 hb; have GW1 := ge_ hg brt4_; have GE1 := GW1; replace HB := hb_ hb brt4_; clear hb hg; have hcz1 := c3_ BK1) | ((with_reducible refine gc_ (f := 61) rfl ?_); refine gl_ 8 Tryd.func61 #[.slice A0_2 l0_2.length c0_2, .int .i64 a1] ?_; (with_reducible refine (spec_l1Has.calls k _ _ l0_2 a1 t1 _ ?side1 ?side2 A2.out).mono ?_); (case side1 => exact b6n8_); (case side2 => exact HC0_2.out); rintro e w' ⟨rfl, ⟨nd, rfl⟩⟩; refine ⟨_, rfl, ?_⟩))
 go_ret
 exact ⟨bnwh_, be6g_⟩

def spec_l12Free.f (k : Nat) (a0_0 : Int) (a0_1 : Bool) (l0_2 : List Int) (l0_3 : List Int) (a0_4 : Int) (a1 : Int) : Option (Bool) := (spec_l1In.f a1 0 (wrap64 (a0_0 - 1))).bind fun t184 => (if t184 = true then ((spec_l2Is.f k a0_0 a0_1 l0_2 a1).bind fun t185 => (some (!t185))) else (some false))
theorem spec_l12Free.mono : ∀ a0 a1 a2 a3 a4 a5 k, LeO (spec_l12Free.f k a0 a1 a2 a3 a4 a5) (spec_l12Free.f (k + 1) a0 a1 a2 a3 a4 a5) := by
 intro a0 a1 a2 a3 a4 a5 k
 unfold spec_l12Free.f
 repeat' with_reducible first | exact spec_l2Is.mono .. | exact LeO.refl .. | exact LeO.none .. | refine LeO.ite ?_ ?_ | refine LeO.bind ?_ (fun _ => ?_)
theorem spec_l12Free.calls (k : Nat) (a0_0 : Int) (a0_1 : Bool) (A0_2 : Option Addr) (c0_2 : Nat) (l0_2 : List Int) (A0_3 : Option Addr) (c0_3 : Nat) (l0_3 : List Int) (a0_4 : Int) (a1 : Int) (r : Bool) (w : World) (hr0_2 : Kd.C (Kd.int .i64) w A0_2 l0_2.length l0_2) (hc0_2 : l0_2.length ≤ c0_2) (hr0_3 : Kd.C (Kd.int .i64) w A0_3 l0_3.length l0_3) (hc0_3 : l0_3.length ≤ c0_3) (h : spec_l12Free.f k a0_0 a0_1 l0_2 l0_3 a0_4 a1 = some r) :
  Calls Tryd.prog 84 #[.agg #[.int .i64 a0_0, .bool a0_1, .slice A0_2 l0_2.length c0_2, .slice A0_3 l0_3.length c0_3, .int .i64 a0_4], .int .i64 a1] w fun e w' => e = .returned (.bool r) ∧ Below w.heap.size w w' := by
 have hu26 := Tryd.underlying26
 have hu24 := Tryd.underlying24
 have HR0_2 := A0_ hr0_2
 have HC0_2 := A0_ hc0_2
 clear hr0_2 hc0_2
 have HR0_3 := A0_ hr0_3
 have HC0_3 := A0_ hc0_3
 clear hr0_3 hc0_3
 have HB := A0_ (Below.refl w.heap.size w)
 have H : ((spec_l1In.f a1 0 (wrap64 (a0_0 - 1))).bind fun t1 => (if t1 = true then ((spec_l2Is.f k a0_0 a0_1 l0_2 a1).bind fun t2 => (some (!t2))) else (some false))) = some r := h
 clear h
 obtain ⟨t1, A2, H⟩ := o1_ H
 by_cases c1 : t1 = true
 case neg =>
  obtain rfl := bf_.mpr c1
  rw [if_neg ft_] at H
  obtain rfl := si_ H
  go_enter Tryd.func84, Tryd.ntmps84
  go_wp2_with (first | ((with_reducible refine gd_ (N := 2) rfl ?_); refine bx_ 2 #[.int .i64 a0_0, .bool a0_1, .slice A0_2 l0_2.length c0_2, .slice A0_3 l0_3.length c0_3, .int .i64 a0_4] 26 ?_; intro gb1 hg w1 BK1 hb; have GW1 := ge_ hg brt4_; have GE1 := GW1; replace HB := hb_ hb brt4_; clear hb hg; have hcz1 := c5_ BK1) | ((with_reducible refine gc_ (f := 60) rfl ?_); refine gl_ 10 Tryd.func60 #[.int .i64 a1, .int .i64 0, .int .i64 (wrap64 (a0_0 - 1))] ?_; (with_reducible refine (spec_l1In.calls a1 0 (wrap64 (a0_0 - 1)) false _ A2.out).mono ?_); rintro e w' ⟨rfl, ⟨nd, rfl⟩⟩; refine ⟨_, rfl, ?_⟩))
  go_ret
  exact ⟨bnwh_, be6g_⟩
 subst c1
 rw [if_pos rfl] at H
 obtain ⟨t2, A4, H⟩ := o1_ H
 replace H : (some (!t2)) = some r := H
 obtain rfl := si_ H
 go_enter Tryd.func84, Tryd.ntmps84
 go_wp2_with (first | ((with_reducible refine gd_ (N := 2) rfl ?_); refine bx_ 2 #[.int .i64 a0_0, .bool a0_1, .slice A0_2 l0_2.length c0_2, .slice A0_3 l0_3.length c0_3, .int .i64 a0_4] 26 ?_; intro gb1 hg w1 BK1 hb; have GW1 := ge_ hg brt4_; have GE1 := GW1; replace HB := hb_ hb brt4_; clear hb hg; have hcz1 := c5_ BK1) | ((with_reducible refine gc_ (f := 60) rfl ?_); refine gl_ 10 Tryd.func60 #[.int .i64 a1, .int .i64 0, .int .i64 (wrap64 (a0_0 - 1))] ?_; (with_reducible refine (spec_l1In.calls a1 0 (wrap64 (a0_0 - 1)) true _ A2.out).mono ?_); rintro e w' ⟨rfl, ⟨nd, rfl⟩⟩; refine ⟨_, rfl, ?_⟩) | (go_at_call 64; (with_reducible refine (spec_l2Is.calls k a0_0 a0_1 _ _ l0_2 a1 t2 _ ?side1 ?side2 A4.out).mono ?_); (case side1 => exact b83h_); (case side2 => exact HC0_2.out); rintro e w2 ⟨rfl, hb⟩; replace BK1 := k1_ BK1 hb; replace HB := hb_ hb be6g_; (try clear hb)))
 go_ret
 exact ⟨bnwh_, be6g_⟩

def spec_l12Taken.f (k : Nat) (a0_0 : Int) (a0_1 : Bool) (l0_2 : List Int) (l0_3 : List Int) (a0_4 : Int) (a1 : Int) : Option (Bool) := (spec_l1In.f a1 0 (wrap64 (a0_0 - 1))).bind fun t187 => (if t187 = true then ((spec_l2Is.f k a0_0 a0_1 l0_2 a1).bind fun t188 => (some t188)) else (some false))
theorem spec_l12Taken.mono : ∀ a0 a1 a2 a3 a4 a5 k, LeO (spec_l12Taken.f k a0 a1 a2 a3 a4 a5) (spec_l12Taken.f (k + 1) a0 a1 a2 a3 a4 a5) := by
 intro a0 a1 a2 a3 a4 a5 k
 unfold spec_l12Taken.f
 repeat' with_reducible first | exact spec_l2Is.mono .. | exact LeO.refl .. | exact LeO.none .. | refine LeO.ite ?_ ?_ | refine LeO.bind ?_ (fun _ => ?_)
theorem spec_l12Taken.calls (k : Nat) (a0_0 : Int) (a0_1 : Bool) (A0_2 : Option Addr) (c0_2 : Nat) (l0_2 : List Int) (A0_3 : Option Addr) (c0_3 : Nat) (l0_3 : List Int) (a0_4 : Int) (a1 : Int) (r : Bool) (w : World) (hr0_2 : Kd.C (Kd.int .i64) w A0_2 l0_2.length l0_2) (hc0_2 : l0_2.length ≤ c0_2) (hr0_3 : Kd.C (Kd.int .i64) w A0_3 l0_3.length l0_3) (hc0_3 : l0_3.length ≤ c0_3) (h : spec_l12Taken.f k a0_0 a0_1 l0_2 l0_3 a0_4 a1 = some r) :
  Calls Tryd.prog 85 #[.agg #[.int .i64 a0_0, .bool a0_1, .slice A0_2 l0_2.length c0_2, .slice A0_3 l0_3.length c0_3, .int .i64 a0_4], .int .i64 a1] w fun e w' => e = .returned (.bool r) ∧ Below w.heap.size w w' := by
 have hu26 := Tryd.underlying26
 have hu24 := Tryd.underlying24
 have HR0_2 := A0_ hr0_2
 have HC0_2 := A0_ hc0_2
 clear hr0_2 hc0_2
 have HR0_3 := A0_ hr0_3
 have HC0_3 := A0_ hc0_3
 clear hr0_3 hc0_3
 have HB := A0_ (Below.refl w.heap.size w)
 have H : ((spec_l1In.f a1 0 (wrap64 (a0_0 - 1))).bind fun t1 => (if t1 = true then ((spec_l2Is.f k a0_0 a0_1 l0_2 a1).bind fun t2 => (some t2)) else (some false))) = some r := h
 clear h
 obtain ⟨t1, A2, H⟩ := o1_ H
 by_cases c1 : t1 = true
 case neg =>
  obtain rfl := bf_.mpr c1
  rw [if_neg ft_] at H
  obtain rfl := si_ H
  go_enter Tryd.func85, Tryd.ntmps85
  go_wp2_with (first | ((with_reducible refine gd_ (N := 2) rfl ?_); refine bx_ 2 #[.int .i64 a0_0, .bool a0_1, .slice A0_2 l0_2.length c0_2, .slice A0_3 l0_3.length c0_3, .int .i64 a0_4] 26 ?_; intro gb1 hg w1 BK1 hb; have GW1 := ge_ hg brt4_; have GE1 := GW1; replace HB := hb_ hb brt4_; clear hb hg; have hcz1 := c5_ BK1) | ((with_reducible refine gc_ (f := 60) rfl ?_); refine gl_ 10 Tryd.func60 #[.int .i64 a1, .int .i64 0, .int .i64 (wrap64 (a0_0 - 1))] ?_; (with_reducible refine (spec_l1In.calls a1 0 (wrap64 (a0_0 - 1)) false _ A2.out).mono ?_); rintro e w' ⟨rfl, ⟨nd, rfl⟩⟩; refine ⟨_, rfl, ?_⟩))
  go_ret
  exact ⟨bnwh_, be6g_⟩
 subst c1
 rw [if_pos rfl] at H
 obtain ⟨t2, A4, H⟩ := o1_ H
 replace H : (some t2) = some r := H
 obtain rfl := si_ H
 go_enter Tryd.func85, Tryd.ntmps85
 go_wp2_with (first | ((with_reducible refine gd_ (N := 2) rfl ?_); refine bx_ 2 #[.int .i64 a0_0, .bool a0_1, .slice A0_2 l0_2.length c0_2, .slice A0_3 l0_3.length c0_3, .int .i64 a0_4] 26 ?_; intro gb1 hg w1 BK1 hb; have GW1 := ge_ hg brt4_; have GE1 := GW1; replace HB := hb_ hb brt4_; clear hb hg; have hcz1 := c5_ BK1) | ((with_reducible refine gc_ (f := 60) rfl ?_); refine gl_ 10 Tryd.func60 #[.int .i64 a1, .int .i64 0, .int .i64 (wrap64 (a0_0 - 1))] ?_; (with_reducible refine (spec_l1In.calls a1 0 (wrap64 (a0_0 - 1)) true _ A2.out).mono ?_); rintro e w' ⟨rfl, ⟨nd, rfl⟩⟩; refine ⟨_, rfl, ?_⟩) | (go_at_call 64; (with_reducible refine (spec_l2Is.calls k a0_0 a0_1 _ _ l0_2 a1 t2 _ ?side1 ?side2 A4.out).mono ?_); (case side1 => exact b83h_); (case side2 => exact HC0_2.out); rintro e w2 ⟨rfl, hb⟩; replace BK1 := k1_ BK1 hb; replace HB := hb_ hb be6g_; (try clear hb)))
 go_ret
 exact ⟨bnwh_, be6g_⟩

def spec_l12May.f (k : Nat) (a0_0 : Int) (a0_1 : Bool) (l0_2 : List Int) (l0_3 : List Int) (a0_4 : Int) (a1_0 : Int) (a1_1 : Int) (a1_2 : Int) : Option (Bool) := if a1_0 = 1 then (if (l0_3.length : Int) < a0_0 then (if a1_1 = 0 then (some (a1_2 == 0)) else (some false)) else (some false)) else (if a1_0 = 2 then ((spec_l12Free.f k a0_0 a0_1 l0_2 l0_3 a0_4 a1_1).bind fun t191 => (if t191 = true then (some (a1_2 == 0)) else (some false))) else (if a1_0 = 3 then ((spec_l12Taken.f k a0_0 a0_1 l0_2 l0_3 a0_4 a1_1).bind fun t192 => (if t192 = true then (some (a1_2 == 0)) else (some false))) else (if a1_0 = 4 then ((spec_l12Taken.f k a0_0 a0_1 l0_2 l0_3 a0_4 a1_1).bind fun t193 => (if t193 = true then ((spec_l12Free.f k a0_0 a0_1 l0_2 l0_3 a0_4 a1_2).bind fun t194 => (some t194)) else (some false))) else (if a1_0 = 5 then (if a1_1 = 0 then (some (a1_2 == 0)) else (some false)) else (some false)))))
theorem spec_l12May.mono : ∀ a0 a1 a2 a3 a4 a5 a6 a7 k, LeO (spec_l12May.f k a0 a1 a2 a3 a4 a5 a6 a7) (spec_l12May.f (k + 1) a0 a1 a2 a3 a4 a5 a6 a7) := by
 intro a0 a1 a2 a3 a4 a5 a6 a7 k
 unfold spec_l12May.f
 repeat' with_reducible first | exact spec_l12Free.mono .. | exact spec_l12Taken.mono .. | exact LeO.refl .. | exact LeO.none .. | refine LeO.ite ?_ ?_ | refine LeO.bind ?_ (fun _ => ?_)
theorem spec_l12May.calls (k : Nat) (a0_0 : Int) (a0_1 : Bool) (A0_2 : Option Addr) (c0_2 : Nat) (l0_2 : List Int) (A0_3 : Option Addr) (c0_3 : Nat) (l0_3 : List Int) (a0_4 : Int) (a1_0 : Int) (a1_1 : Int) (a1_2 : Int) (r : Bool) (w : World) (hr0_2 : Kd.C (Kd.int .i64) w A0_2 l0_2.length l0_2) (hc0_2 : l0_2.length ≤ c0_2) (hr0_3 : Kd.C (Kd.int .i64) w A0_3 l0_3.length l0_3) (hc0_3 : l0_3.length ≤ c0_3) (h : spec_l12May.f k a0_0 a0_1 l0_2 l0_3 a0_4 a1_0 a1_1 a1_2 = some r) :
  Calls Tryd.prog 69 #[.agg #[.int .i64 a0_0, .bool a0_1, .slice A0_2 l0_2.length c0_2, .slice A0_3 l0_3.length c0_3, .int .i64 a0_4], .agg #[.int .i64 a1_0, .int .i64 a1_1, .int .i64 a1_2]] w fun e w' => e = .returned (.bool r) ∧ Below w.heap.size w w' := by
 have hu26 := Tryd.underlying26
 have hu45 := Tryd.underlying45
 have HR0_2 := A0_ hr0_2
 have HC0_2 := A0_ hc0_2
 clear hr0_2 hc0_2
 have HR0_3 := A0_ hr0_3
 have HC0_3 := A0_ hc0_3
 clear hr0_3 hc0_3
 have HB := A0_ (Below.refl w.heap.size w)
 have H : (if a1_0 = 1 then (if (l0_3.length : Int) < a0_0 then (if a1_1 = 0 then (some (a1_2 == 0)) else (some false)) else (some false)) else (if a1_0 = 2 then ((spec_l12Free.f k a0_0 a0_1 l0_2 l0_3 a0_4 a1_1).bind fun t1 => (if t1 = true then (some (a1_2 == 0)) else (some false))) else (if a1_0 = 3 then ((spec_l12Taken.f k a0_0 a0_1 l0_2 l0_3 a0_4 a1_1).bind fun t2 => (if t2 = true then (some (a1_2 == 0)) else (some false))) else (if a1_0 = 4 then ((spec_l12Taken.f k a0_0 a0_1 l0_2 l0_3 a0_4 a1_1).bind fun t3 => (if t3 = true then ((spec_l12Free.f k a0_0 a0_1 l0_2 l0_3 a0_4 a1_2).bind fun t4 => (some t4)) else (some false))) else (if a1_0 = 5 then (if a1_1 = 0 then (some (a1_2 == 0)) else (some false)) else (some false)))))) = some r := h
 clear h
 by_cases c1 : a1_0 = 1
 ·rw [if_pos c1] at H
  obtain ⟨c1b0, c1b1⟩ := et_ c1
  clear c1
  by_cases c2 : (l0_3.length : Int) < a0_0
  case neg =>
   rw [if_neg c2] at H
   have c2b0 : decide ((l0_3.length : Int) < a0_0) = false := decide_eq_false c2
   clear c2
   obtain rfl := si_ H
   go_enter Tryd.func69, Tryd.ntmps69
   go_wp2_with (first | ((with_reducible refine gd_ (N := 2) rfl ?_); refine bx_ 2 #[.int .i64 a0_0, .bool a0_1, .slice A0_2 l0_2.length c0_2, .slice A0_3 l0_3.length c0_3, .int .i64 a0_4] 26 ?_; intro gb1 hg w1 BK1 hb; have GW1 := ge_ hg brt4_; have GE1 := GW1; replace HB := hb_ hb brt4_; clear hb hg) | ((with_reducible refine gd_ (N := 3) rfl ?_); refine bx_ 3 #[.int .i64 a1_0, .int .i64 a1_1, .int .i64 a1_2] 45 ?_; intro gb2 hg w2 BK2 hb; have GW2 := ge_ hg be6g_; have GE2 := GW2; replace HB := hb_ hb be6g_; have NB1_2 := nl_ hg BK1; have NB2_1 := ng_ hg BK1; replace BK1 := k1_ BK1 hb; clear hb hg; have hnb1 := NB2_1.out; have hnc1 := NB1_2.out; have hcz1 := c3_ BK2; have hcz2 := c5_ BK1))
   go_ret
   exact ⟨bnwh_, bfnq_⟩
  rw [if_pos c2] at H
  have c2b0 : decide ((l0_3.length : Int) < a0_0) = true := dt_ c2
  clear c2
  by_cases c3 : a1_1 = 0
  case neg =>
   rw [if_neg c3] at H
   obtain ⟨c3b0, c3b1⟩ := ef_ c3
   obtain rfl := si_ H
   go_enter Tryd.func69, Tryd.ntmps69
   go_wp2_with (first | ((with_reducible refine gd_ (N := 2) rfl ?_); refine bx_ 2 #[.int .i64 a0_0, .bool a0_1, .slice A0_2 l0_2.length c0_2, .slice A0_3 l0_3.length c0_3, .int .i64 a0_4] 26 ?_; intro gb1 hg w1 BK1 hb; have GW1 := ge_ hg brt4_; have GE1 := GW1; replace HB := hb_ hb brt4_; clear hb hg) | ((with_reducible refine gd_ (N := 3) rfl ?_); refine bx_ 3 #[.int .i64 a1_0, .int .i64 a1_1, .int .i64 a1_2] 45 ?_; intro gb2 hg w2 BK2 hb; have GW2 := ge_ hg be6g_; have GE2 := GW2; replace HB := hb_ hb be6g_; have NB1_2 := nl_ hg BK1; have NB2_1 := ng_ hg BK1; replace BK1 := k1_ BK1 hb; clear hb hg; have hnb1 := NB2_1.out; have hnc1 := NB1_2.out; have hcz1 := c3_ BK2; have hcz2 := c5_ BK1))
   go_ret
   exact ⟨bnwh_, bfnq_⟩
  rw [if_pos c3] at H
  obtain ⟨c3b0, c3b1⟩ := et_ c3
  clear c3
  obtain rfl := si_ H
  go_enter Tryd.func69, Tryd.ntmps69
  go_wp2_with (first | ((with_reducible refine gd_ (N := 2) rfl ?_); refine bx_ 2 #[.int .i64 a0_0, .bool a0_1, .slice A0_2 l0_2.length c0_2, .slice A0_3 l0_3.length c0_3, .int .i64 a0_4] 26 ?_; intro gb1 hg w1 BK1 hb; have GW1 := ge_ hg brt4_; have GE1 := GW1; replace HB := hb_ hb brt4_; clear hb hg) | ((with_reducible refine gd_ (N := 3) rfl ?_); refine bx_ 3 #[.int .i64 a1_0, .int .i64 a1_1, .int .i64 a1_2] 45 ?_; intro gb2 hg w2 BK2 hb; have GW2 := ge_ hg be6g_; have GE2 := GW2; replace HB := hb_ hb be6g_; have NB1_2 := nl_ hg BK1; have NB2_1 := ng_ hg BK1; replace BK1 := k1_ BK1 hb; clear hb hg; have hnb1 := NB2_1.out; have hnc1 := NB1_2.out; have hcz1 := c3_ BK2; have hcz2 := c5_ BK1))
  go_ret
  exact ⟨bnwh_, bfnq_⟩
 rw [if_neg c1] at H
 obtain ⟨c1b0, c1b1⟩ := ef_ c1
 by_cases c2 : a1_0 = 2
 ·rw [if_pos c2] at H
  obtain ⟨c2b0, c2b1⟩ := et_ c2
  clear c2
  obtain ⟨t1, A2, H⟩ := o1_ H
  by_cases c3 : t1 = true
  case neg =>
   obtain rfl := bf_.mpr c3
   rw [if_neg ft_] at H
   obtain rfl := si_ H
   go_enter Tryd.func69, Tryd.ntmps69
   go_wp2_with (first | ((with_reducible refine gd_ (N := 2) rfl ?_); refine bx_ 2 #[.int .i64 a0_0, .bool a0_1, .slice A0_2 l0_2.length c0_2, .slice A0_3 l0_3.length c0_3, .int .i64 a0_4] 26 ?_; intro gb1 hg w1 BK1 hb; have GW1 := ge_ hg brt4_; have GE1 := GW1; replace HB := hb_ hb brt4_; clear hb hg) | ((with_reducible refine gd_ (N := 3) rfl ?_); refine bx_ 3 #[.int .i64 a1_0, .int .i64 a1_1, .int .i64 a1_2] 45 ?_; intro gb2 hg w2 BK2 hb; have GW2 := ge_ hg be6g_; have GE2 := GW2; replace HB := hb_ hb be6g_; have NB1_2 := nl_ hg BK1; have NB2_1 := ng_ hg BK1; replace BK1 := k1_ BK1 hb; clear hb hg; have hnb1 := NB2_1.out; have hnc1 := NB1_2.out; have hcz1 := c3_ BK2; have hcz2 := c5_ BK1) | ((with_reducible refine gc_ (f := 84) rfl ?_); refine gl_ 31 Tryd.func84 #[.agg #[.int .i64 a0_0, .bool a0_1, .slice A0_2 l0_2.length c0_2, .slice A0_3 l0_3.length c0_3, .int .i64 a0_4], .int .i64 a1_1] ?_; (with_reducible refine (spec_l12Free.calls k a0_0 a0_1 _ _ l0_2 _ _ l0_3 a0_4 a1_1 false _ ?side1 ?side2 ?side3 ?side4 A2.out).mono ?_); (case side1 => exact b6n8_); (case side2 => exact HC0_2.out); (case side3 => exact bkan_); (case side4 => exact HC0_3.out); rintro e w3 ⟨rfl, hb⟩; refine ⟨_, rfl, ?_⟩; replace BK1 := k1_ BK1 hb; replace BK2 := k1_ BK2 hb; replace HB := hb_ hb bfnq_; (try clear hb)))
   go_ret
   exact ⟨bnwh_, bfnq_⟩
  subst c3
  rw [if_pos rfl] at H
  obtain rfl := si_ H
  go_enter Tryd.func69, Tryd.ntmps69
  go_wp2_with (first | ((with_reducible refine gd_ (N := 2) rfl ?_); refine bx_ 2 #[.int .i64 a0_0, .bool a0_1, .slice A0_2 l0_2.length c0_2, .slice A0_3 l0_3.length c0_3, .int .i64 a0_4] 26 ?_; intro gb1 hg w1 BK1 hb; have GW1 := ge_ hg brt4_; have GE1 := GW1; replace HB := hb_ hb brt4_; clear hb hg) | ((with_reducible refine gd_ (N := 3) rfl ?_); refine bx_ 3 #[.int .i64 a1_0, .int .i64 a1_1, .int .i64 a1_2] 45 ?_; intro gb2 hg w2 BK2 hb; have GW2 := ge_ hg be6g_; have GE2 := GW2; replace HB := hb_ hb be6g_; have NB1_2 := nl_ hg BK1; have NB2_1 := ng_ hg BK1; replace BK1 := k1_ BK1 hb; clear hb hg; have hnb1 := NB2_1.out; have hnc1 := NB1_2.out; have hcz1 := c3_ BK2; have hcz2 := c5_ BK1) | ((with_reducible refine gc_ (f := 84) rfl ?_); refine gl_ 31 Tryd.func84 #[.agg #[.int .i64 a0_0, .bool a0_1, .slice A0_2 l0_2.length c0_2, .slice A0_3 l0_3.length c0_3, .int .i64 a0_4], .int .i64 a1_1] ?_; (with_reducible refine (spec_l12Free.calls k a0_0 a0_1 _ _ l0_2 _ _ l0_3 a0_4 a1_1 true _ ?side1 ?side2 ?side3 ?side4 A2.out).mono ?_); (case side1 => exact b6n8_); (case side2 => exact HC0_2.out); (case side3 => exact bkan_); (case side4 => exact HC0_3.out); rintro e w3 ⟨rfl, hb⟩; refine ⟨_, rfl, ?_⟩; replace BK1 := k1_ BK1 hb; replace BK2 := k1_ BK2 hb; replace HB := hb_ hb bfnq_; (try clear hb); have hcz3 := c3_ BK2))
  go_ret
  exact ⟨bnwh_, bfnq_⟩
 rw [if_neg c2] at H
 obtain ⟨c2b0, c2b1⟩ := ef_ c2
 by_cases c3 : a1_0 = 3
 ·rw [if_pos c3] at H
  obtain ⟨c3b0, c3b1⟩ := et_ c3
  clear c3
  obtain ⟨t2, A2, H⟩ := o1_ H
  by_cases c4 : t2 = true
  case neg =>
   obtain rfl := bf_.mpr c4
   rw [if_neg ft_] at H
   obtain rfl := si_ H
   go_enter Tryd.func69, Tryd.ntmps69
   go_wp2_with (first | ((with_reducible refine gd_ (N := 2) rfl ?_); refine bx_ 2 #[.int .i64 a0_0, .bool a0_1, .slice A0_2 l0_2.length c0_2, .slice A0_3 l0_3.length c0_3, .int .i64 a0_4] 26 ?_; intro gb1 hg w1 BK1 hb; have GW1 := ge_ hg brt4_; have GE1 := GW1; replace HB := hb_ hb brt4_; clear hb hg) | ((with_reducible refine gd_ (N := 3) rfl ?_); refine bx_ 3 #[.int .i64 a1_0, .int .i64 a1_1, .int .i64 a1_2] 45 ?_; intro gb2 hg w2 BK2 hb; have GW2 := ge_ hg be6g_; have GE2 := GW2; replace HB := hb_ hb be6g_; have NB1_2 := nl_ hg BK1; have NB2_1 := ng_ hg BK1; replace BK1 := k1_ BK1 hb; clear hb hg; have hnb1 := NB2_1.out; have hnc1 := NB1_2.out; have hcz1 := c3_ BK2; have hcz2 := c5_ BK1) | ((with_reducible refine gc_ (f := 85) rfl ?_); refine gl_ 42 Tryd.func85 #[.agg #[.int .i64 a0_0, .bool a0_1, .slice A0_2 l0_2.length c0_2, .slice A0_3 l0_3.length c0_3, .int .i64 a0_4], .int .i64 a1_1] ?_; (with_reducible refine (spec_l12Taken.calls k a0_0 a0_1 _ _ l0_2 _ _ l0_3 a0_4 a1_1 false _ ?side1 ?side2 ?side3 ?side4 A2.out).mono ?_); (case side1 => exact b6n8_); (case side2 => exact HC0_2.out); (case side3 => exact bkan_); (case side4 => exact HC0_3.out); rintro e w3 ⟨rfl, hb⟩; refine ⟨_, rfl, ?_⟩; replace BK1 := k1_ BK1 hb; replace BK2 := k1_ BK2 hb; replace HB := hb_ hb bfnq_; (try clear hb)))
   go_ret
   exact ⟨bnwh_, bfnq_⟩
  subst c4
  rw [if_pos rfl] at H
  obtain rfl := si_ H
  go_enter Tryd.func69, Tryd.ntmps69
  go_wp2_with (first | ((with_reducible refine gd_ (N := 2) rfl ?_); refine bx_ 2 #[.int .i64 a0_0, .bool a0_1, .slice A0_2 l0_2.length c0_2, .slice A0_3 l0_3.length c0_3, .int .i64 a0_4] 26 ?_; intro gb1 hg w1 BK1 hb; have GW1 := ge_ hg brt4_; have GE1 := GW1; replace HB := hb_ hb brt4_; clear hb hg) | ((with_reducible refine gd_ (N := 3) rfl ?_); refine bx_ 3 #[.int .i64 a1_0, .int .i64 a1_1, .int .i64 a1_2] 45 ?_; intro gb2 hg w2 BK2 hb; have GW2 := ge_ hg be6g_; have GE2 := GW2; replace HB := hb_ hb be6g_; have NB1_2 := nl_ hg BK1; have NB2_1 := ng_ hg BK1; replace BK1 := k1_ BK1 hb; clear hb hg; have hnb1 := NB2_1.out; have hnc1 := NB1_2.out; have hcz1 := c3_ BK2; have hcz2 := c5_ BK1) | ((with_reducible refine gc_ (f := 85) rfl ?_); refine gl_ 42 Tryd.func85 #[.agg #[.int .i64 a0_0, .bool a0_1, .slice A0_2 l0_2.length c0_2, .slice A0_3 l0_3.length c0_3, .int .i64 a0_4], .int .i64 a1_1] ?_; (with_reducible refine (spec_l12Taken.calls k a0_0 a0_1 _ _ l0_2 _ _ l0_3 a0_4 a1_1 true _ ?side1 ?side2 ?side3 ?side4 A2.out).mono ?_); (case side1 => exact b6n8_); (case side2 => exact HC0_2.out); (case side3 => exact bkan_); (case side4 => exact HC0_3.out); rintro e w3 ⟨rfl, hb⟩; refine ⟨_, rfl, ?_⟩; replace BK1 := k1_ BK1 hb; replace BK2 := k1_ BK2 hb; replace HB := hb_ hb bfnq_; (try clear hb); have hcz3 := c3_ BK2))
  go_ret
  exact ⟨bnwh_, bfnq_⟩
 rw [if_neg c3] at H
 obtain ⟨c3b0, c3b1⟩ := ef_ c3
 by_cases c4 : a1_0 = 4
 case neg =>
  rw [if_neg c4] at H
  obtain ⟨c4b0, c4b1⟩ := ef_ c4
  by_cases c5 : a1_0 = 5
  case neg =>
   rw [if_neg c5] at H
   obtain ⟨c5b0, c5b1⟩ := ef_ c5
   obtain rfl := si_ H
   go_enter Tryd.func69, Tryd.ntmps69
   go_wp2_with (first | ((with_reducible refine gd_ (N := 2) rfl ?_); refine bx_ 2 #[.int .i64 a0_0, .bool a0_1, .slice A0_2 l0_2.length c0_2, .slice A0_3 l0_3.length c0_3, .int .i64 a0_4] 26 ?_; intro gb1 hg w1 BK1 hb; have GW1 := ge_ hg brt4_; have GE1 := GW1; replace HB := hb_ hb brt4_; clear hb hg) | ((with_reducible refine gd_ (N := 3) rfl ?_); refine bx_ 3 #[.int .i64 a1_0, .int .i64 a1_1, .int .i64 a1_2] 45 ?_; intro gb2 hg w2 BK2 hb; have GW2 := ge_ hg be6g_; have GE2 := GW2; replace HB := hb_ hb be6g_; have NB1_2 := nl_ hg BK1; have NB2_1 := ng_ hg BK1; replace BK1 := k1_ BK1 hb; clear hb hg; have hnb1 := NB2_1.out; have hnc1 := NB1_2.out; have hcz1 := c3_ BK2))
   go_ret
   exact ⟨bnwh_, bfnq_⟩
  rw [if_pos c5] at H
  obtain ⟨c5b0, c5b1⟩ := et_ c5
  clear c5
  by_cases c6 : a1_1 = 0
  case neg =>
   rw [if_neg c6] at H
   obtain ⟨c6b0, c6b1⟩ := ef_ c6
   obtain rfl := si_ H
   go_enter Tryd.func69, Tryd.ntmps69
   go_wp2_with (first | ((with_reducible refine gd_ (N := 2) rfl ?_); refine bx_ 2 #[.int .i64 a0_0, .bool a0_1, .slice A0_2 l0_2.length c0_2, .slice A0_3 l0_3.length c0_3, .int .i64 a0_4] 26 ?_; intro gb1 hg w1 BK1 hb; have GW1 := ge_ hg brt4_; have GE1 := GW1; replace HB := hb_ hb brt4_; clear hb hg) | ((with_reducible refine gd_ (N := 3) rfl ?_); refine bx_ 3 #[.int .i64 a1_0, .int .i64 a1_1, .int .i64 a1_2] 45 ?_; intro gb2 hg w2 BK2 hb; have GW2 := ge_ hg be6g_; have GE2 := GW2; replace HB := hb_ hb be6g_; have NB1_2 := nl_ hg BK1; have NB2_1 := ng_ hg BK1; replace BK1 := k1_ BK1 hb; clear hb hg; have hnb1 := NB2_1.out; have hnc1 := NB1_2.out; have hcz1 := c3_ BK2))
   go_ret
   exact ⟨bnwh_, bfnq_⟩
  rw [if_pos c6] at H
  obtain ⟨c6b0, c6b1⟩ := et_ c6
  clear c6
  obtain rfl := si_ H
  go_enter Tryd.func69, Tryd.ntmps69
  go_wp2_with (first | ((with_reducible refine gd_ (N := 2) rfl ?_); refine bx_ 2 #[.int .i64 a0_0, .bool a0_1, .slice A0_2 l0_2.length c0_2, .slice A0_3 l0_3.length c0_3, .int .i64 a0_4] 26 ?_; intro gb1 hg w1 BK1 hb; have GW1 := ge_ hg brt4_; have GE1 := GW1; replace HB := hb_ hb brt4_; clear hb hg) | ((with_reducible refine gd_ (N := 3) rfl ?_); refine bx_ 3 #[.int .i64 a1_0, .int .i64 a1_1, .int .i64 a1_2] 45 ?_; intro gb2 hg w2 BK2 hb; have GW2 := ge_ hg be6g_; have GE2 := GW2; replace HB := hb_ hb be6g_; have NB1_2 := nl_ hg BK1; have NB2_1 := ng_ hg BK1; replace BK1 := k1_ BK1 hb; clear hb hg; have hnb1 := NB2_1.out; have hnc1 := NB1_2.out; have hcz1 := c3_ BK2))
  go_ret
  exact ⟨bnwh_, bfnq_⟩
 rw [if_pos c4] at H
 obtain ⟨c4b0, c4b1⟩ := et_ c4
 clear c4
 obtain ⟨t3, A2, H⟩ := o1_ H
 by_cases c5 : t3 = true
 case neg =>
  obtain rfl := bf_.mpr c5
  rw [if_neg ft_] at H
  obtain rfl := si_ H
  go_enter Tryd.func69, Tryd.ntmps69
  go_wp2_with (first | ((with_reducible refine gd_ (N := 2) rfl ?_); refine bx_ 2 #[.int .i64 a0_0, .bool a0_1, .slice A0_2 l0_2.length c0_2, .slice A0_3 l0_3.length c0_3, .int .i64 a0_4] 26 ?_; intro gb1 hg w1 BK1 hb; have GW1 := ge_ hg brt4_; have GE1 := GW1; replace HB := hb_ hb brt4_; clear hb hg) | ((with_reducible refine gd_ (N := 3) rfl ?_); refine bx_ 3 #[.int .i64 a1_0, .int .i64 a1_1, .int .i64 a1_2] 45 ?_; intro gb2 hg w2 BK2 hb; have GW2 := ge_ hg be6g_; have GE2 := GW2; replace HB := hb_ hb be6g_; have NB1_2 := nl_ hg BK1; have NB2_1 := ng_ hg BK1; replace BK1 := k1_ BK1 hb; clear hb hg; have hnb1 := NB2_1.out; have hnc1 := NB1_2.out; have hcz1 := c3_ BK2; have hcz2 := c5_ BK1) | ((with_reducible refine gc_ (f := 85) rfl ?_); refine gl_ 53 Tryd.func85 #[.agg #[.int .i64 a0_0, .bool a0_1, .slice A0_2 l0_2.length c0_2, .slice A0_3 l0_3.length c0_3, .int .i64 a0_4], .int .i64 a1_1] ?_; (with_reducible refine (spec_l12Taken.calls k a0_0 a0_1 _ _ l0_2 _ _ l0_3 a0_4 a1_1 false _ ?side1 ?side2 ?side3 ?side4 A2.out).mono ?_); (case side1 => exact b6n8_); (case side2 => exact HC0_2.out); (case side3 => exact bkan_); (case side4 => exact HC0_3.out); rintro e w3 ⟨rfl, hb⟩; refine ⟨_, rfl, ?_⟩; replace BK1 := k1_ BK1 hb; replace BK2 := k1_ BK2 hb; replace HB := hb_ hb bfnq_; (try clear hb)))
  go_ret
  exact ⟨bnwh_, bfnq_⟩
 subst c5
 rw [if_pos rfl] at H
 obtain ⟨t4, A4, H⟩ := o1_ H
 replace H : (some t4) = some r := H
 obtain rfl := si_ H
 go_enter Tryd.func69, Tryd.ntmps69
 go_wp2_with (first | ((with_reducible refine gd_ (N := 2) rfl ?_); refine bx_ 2 #[.int .i64 a0_0, .bool a0_1, .slice A0_2 l0_2.length c0_2, .slice A0_3 l0_3.length c0_3, .int .i64 a0_4] 26 ?_; intro gb1 hg w1 BK1 hb; have GW1 := ge_ hg brt4_; have GE1 := GW1; replace HB := hb_ hb brt4_; clear hb hg) | ((with_reducible refine gd_ (N := 3) rfl ?_); refine bx_ 3 #[.int .i64 a1_0, .int .i64 a1_1, .int .i64 a1_2] 45 ?_; intro gb2 hg w2 BK2 hb; have GW2 := ge_ hg be6g_; have GE2 := GW2; replace HB := hb_ hb be6g_; have NB1_2 := nl_ hg BK1; have NB2_1 := ng_ hg BK1; replace BK1 := k1_ BK1 hb; clear hb hg; have hnb1 := NB2_1.out; have hnc1 := NB1_2.out; have hcz1 := c3_ BK2; have hcz2 := c5_ BK1) | ((with_reducible refine gc_ (f := 85) rfl ?_); refine gl_ 53 Tryd.func85 #[.agg #[.int .i64 a0_0, .bool a0_1, .slice A0_2 l0_2.length c0_2, .slice A0_3 l0_3.length c0_3, .int .i64 a0_4], .int .i64 a1_1] ?_; (with_reducible refine (spec_l12Taken.calls k a0_0 a0_1 _ _ l0_2 _ _ l0_3 a0_4 a1_1 true _ ?side1 ?side2 ?side3 ?side4 A2.out).mono ?_); (case side1 => exact b6n8_); (case side2 => exact HC0_2.out); (case side3 => exact bkan_); (case side4 => exact HC0_3.out); rintro e w3 ⟨rfl, hb⟩; refine ⟨_, rfl, ?_⟩; replace BK1 := k1_ BK1 hb; replace BK2 := k1_ BK2 hb; replace HB := hb_ hb bfnq_; (try clear hb); have hcz3 := c5_ BK1; have hcz4 := c3_ BK2) | (go_at_call 84; (with_reducible refine (spec_l12Free.calls k a0_0 a0_1 _ _ l0_2 _ _ l0_3 a0_4 a1_2 t4 _ ?side1 ?side2 ?side3 ?side4 A4.out).mono ?_); (case side1 => exact b6n8_); (case side2 => exact HC0_2.out); (case side3 => exact bkan_); (case side4 => exact HC0_3.out); rintro e w4 ⟨rfl, hb⟩; replace BK1 := k1_ BK1 hb; replace BK2 := k1_ BK2 hb; replace HB := hb_ hb bfnq_; (try clear hb)))
 go_ret
 exact ⟨bnwh_, bfnq_⟩

def spec_l12Place.l0 : Nat → List Int → Int → Int → Option (Int)
 | 0, _, _, _ => none
 | k + 1, x0, x1, x5 => if 0 ≤ x5 then (if x5 < (x0.length : Int) then (if (rd x0 x5) = x1 then (some x5) else (spec_l12Place.l0 k x0 x1 (wrap64 (x5 + 1)))) else (none)) else (none)
def spec_l12Place.f (k : Nat) (l0 : List Int) (a1 : Int) : Option (Int) := spec_l12Place.l0 k l0 a1 0
theorem spec_l12Place.mono_l : ∀ k, (∀ y0 y1 y2, LeO (spec_l12Place.l0 k y0 y1 y2) (spec_l12Place.l0 (k + 1) y0 y1 y2))
 | 0 => fun _ _ _ r h => by simp [spec_l12Place.l0] at h
 | k + 1 => by
  have ih0 := spec_l12Place.mono_l k
  ·intro y0 y1 y2
   unfold spec_l12Place.l0
   repeat' with_reducible first | exact ih0 .. | exact LeO.refl .. | exact LeO.none .. | refine LeO.ite ?_ ?_ | refine LeO.bind ?_ (fun _ => ?_)
theorem spec_l12Place.mono : ∀ a0 a1 k, LeO (spec_l12Place.f k a0 a1) (spec_l12Place.f (k + 1) a0 a1) := by
 intro a0 a1 k
 have ih0 := spec_l12Place.mono_l k
 unfold spec_l12Place.f
 repeat' with_reducible first | exact ih0 .. | exact LeO.refl .. | exact LeO.none .. | refine LeO.ite ?_ ?_ | refine LeO.bind ?_ (fun _ => ?_)
theorem spec_l12Place.calls (k : Nat) (A0 : Option Addr) (c0 : Nat) (l0 : List Int) (a1 : Int) (r : Int) (w : World) (hr0 : Kd.C (Kd.int .i64) w A0 l0.length l0) (hc0 : l0.length ≤ c0) (h : spec_l12Place.f k l0 a1 = some r) :
  Calls Tryd.prog 52 #[.slice A0 l0.length c0, .int .i64 a1] w fun e w' => e = .returned (.int .i64 r) ∧ Drawn0 w w' := by
 have HR0 := A0_ hr0
 have HC0 := A0_ hc0
 clear hr0 hc0
 have H : (spec_l12Place.l0 k l0 a1 0) = some r := h
 clear h
 have H' := A0_ H
 clear H
 go_enter Tryd.func52, Tryd.ntmps52
 go_wp2
 go_loopg [5] k (fun kq v1 w' => ∃ (x5_1 : Int), v1 = .int .i64 x5_1 ∧ Aside0 (spec_l12Place.l0 kq l0 a1 x5_1 = some r) ∧ Aside0 (kq ≤ k) ∧ Drawn0 w w')
 case atStart => exact ⟨(0), b2ew_, H', ⟨Nat.le_refl _⟩, boaj_⟩
 clear H'
 obtain ⟨x5_1, rfl, HA, HK1, ⟨m1, rfl⟩⟩ := hrel
 cases gk with | zero => exact absurd HA.out (by simp [spec_l12Place.l0]) | succ k1 => ?_
 have H := HA.out
 clear HA
 simp only [spec_l12Place.l0] at H
 by_cases c1 : 0 ≤ x5_1
 case neg =>
  rw [if_neg c1] at H
  exact absurd H bxka_
 rw [if_pos c1] at H
 have c1b0 : decide (0 ≤ x5_1) = true := dt_ c1
 clear c1
 by_cases c2 : x5_1 < (l0.length : Int)
 case neg =>
  rw [if_neg c2] at H
  exact absurd H bxka_
 rw [if_pos c2] at H
 have c2b0 : decide (x5_1 < (l0.length : Int)) = true := dt_ c2
 clear c2
 by_cases c3 : (rd l0 x5_1) = a1
 ·rw [if_pos c3] at H
  obtain ⟨c3b0, c3b1⟩ := et_ c3
  clear c3
  obtain rfl := si_ H
  have p1 : 0 ≤ (x5_1 : Int) := od_ bpil_
  have q1 : x5_1 < (l0.length : Int) := od_ bpil_
  obtain ⟨ad1, e1, hx1_0⟩ := Kd.at_int HR0.out x5_1 p1 q1
  cases e1
  replace p1 := eq_true p1
  replace q1 := eq_true q1
  go_wp2
  go_ret
  exact ⟨b04z_, boaj_⟩
 rw [if_neg c3] at H
 obtain ⟨c3b0, c3b1⟩ := ef_ c3
 have H' := A0_ H
 clear H
 have p1 : 0 ≤ (x5_1 : Int) := od_ bpil_
 have q1 : x5_1 < (l0.length : Int) := od_ bpil_
 obtain ⟨ad1, e1, hx1_0⟩ := Kd.at_int HR0.out x5_1 p1 q1
 cases e1
 replace p1 := eq_true p1
 replace q1 := eq_true q1
 go_wp2
 go_roundg k1
 case measure => have := HK1.out; omega
 exact ⟨(wrap64 (x5_1 + 1)), b2ew_, H', ⟨bxjq_⟩, boaj_⟩

def spec_l2Made.f (a0_0 : Int) (a0_1 : Bool) (l0_2 : List Int) (l1 : List Int) : Option (Int × Bool × List Int) := some (a0_0, a0_1, l1)
theorem spec_l2Made.calls (a0_0 : Int) (a0_1 : Bool) (A0_2 : Option Addr) (c0_2 : Nat) (l0_2 : List Int) (P1_ : Nat → Prop) (u9000_ : Value) (l1 : List Int) (r1 : Int) (r2 : Bool) (r3 : List Int) (w0 w : World) (hB : Below w0.heap.size w0 w) (hr0_2 : ∀ W_, Kept w W_ (fun k_ => P1_ k_) → Kd.C (Kd.int .i64) W_ A0_2 l0_2.length l0_2) (hc0_2 : l0_2.length ≤ c0_2) (ho1 : Kd.R (Kd.int .i64) 3 w w0.heap.size P1_ u9000_ l1) (h : spec_l2Made.f a0_0 a0_1 l0_2 l1 = some (r1, r2, r3)) :
  Calls Tryd.prog 102 #[.agg #[.int .i64 a0_0, .bool a0_1, .slice A0_2 l0_2.length c0_2], u9000_] w fun e w' => ∃ v2_ : Value, e = .returned (.agg #[.int .i64 r1, .bool r2, v2_]) ∧ Kd.R (Kd.int .i64) 3 w' w0.heap.size (fun k_ => (P1_ k_ ∨ w.heap.size ≤ k_)) v2_ r3 ∧ Below w0.heap.size w0 w' ∧ Kept w w' (fun k_ => P1_ k_) := by
 have hu24 := Tryd.underlying24
 have HR0_2 := A0_ hr0_2
 have HC0_2 := A0_ hc0_2
 clear hr0_2 hc0_2
 have HO1 := A0_ (show Kd.R (Kd.int .i64) 3 w w0.heap.size (fun k_ => (P1_ k_ ∨ w.heap.size ≤ k_)) u9000_ l1 from Kd.R_mono ho1 (fun k_ hk => (.inl hk)))
 have HK := A0_ (Kept.refl w (fun k_ => P1_ k_))
 have HW0 := A0_ hB.size
 have HB := A0_ hB
 clear hB
 have H : (some (a0_0, a0_1, l1)) = some (r1, r2, r3) := h
 clear h
 simp only [sj_, pj_] at H
 obtain ⟨rfl, rfl, rfl⟩ := H
 go_enter Tryd.func102, Tryd.ntmps102
 go_wp2_with (first | ((with_reducible refine gd_ (N := 2) rfl ?_); refine bx_ 2 #[.int .i64 a0_0, .bool a0_1, .slice A0_2 l0_2.length c0_2] 24 ?_; intro gb1 hg w1 BK1 hb; replace HO1 := A0_ (Kd.R_below bsm5_ hb); have GW1 := A0_ ((by rw [hg]; exact (by first | exact HK.out.1 | exact (show Kept w _ (fun k_ => P1_ k_) from b6df_).1) : w.heap.size ≤ gb1)); replace HK := A0_ (Kept.below (S := (fun k_ => P1_ k_)) b6df_ hb); have GE1 := A0_ ((bwen_ : w0.heap.size ≤ gb1)); replace HB := hb_ hb brt4_; clear hb hg) | ((with_reducible refine gd_ (N := 4) rfl ?_); refine bx_ 4 #[.int .i64 0, .bool false, .slice none 0 0] 24 ?_; intro gb2 hg w2 BK2 hb; replace HO1 := A0_ (Kd.R_below bsm5_ hb); have GW2 := A0_ ((by rw [hg]; exact (by first | exact HK.out.1 | exact (show Kept w _ (fun k_ => P1_ k_) from b6f4_).1) : w.heap.size ≤ gb2)); replace HK := A0_ (Kept.below (S := (fun k_ => P1_ k_)) b6f4_ hb); have GE2 := A0_ ((by rw [hg]; exact (bz_ be6g_) : w0.heap.size ≤ gb2)); replace HB := hb_ hb be6g_; have NB1_2 := nl_ hg BK1; have NB2_1 := ng_ hg BK1; replace BK1 := k1_ BK1 hb; clear hb hg; have hnb1 := NB1_2.out; have hnc1 := NB2_1.out; have hcz1 := z3_ BK1; obtain ⟨Ao1, co1, eo1⟩ := Kd.R_slice HO1.out; subst eo1; have hcz2_0 : w2.cell? ⟨gb2, 0, none⟩ = some (.int .i64 0) := (kc_ BK2.out 0).trans rfl; have hcz2_1 : w2.cell? ⟨gb2, 1, none⟩ = some (.bool false) := (kc_ BK2.out 1).trans rfl; have hcz2_2 : w2.cell? ⟨gb2, 2, none⟩ = some (.slice none 0 0) := (kc_ BK2.out 2).trans rfl; have hfz2_0 := kf_ BK2.out 0; have hfz2_1 := kf_ BK2.out 1; have hfz2_2 := kf_ BK2.out 2))
 refine bodyPost_ret (results_cell_row rfl _ _ gb2 24 #[.int .i64 a0_0, .bool a0_1, .slice Ao1 l1.length co1] (0, 0) _ rfl (u1_ BK2) Tryd.underlying24 rfl bfqv_) rfl ?_
 exact ⟨_, bnwh_, by (with_reducible repeat (first | apply ra_ | apply rn_ | apply rd_)); exact Kd.R_mono (rf_ (rf_ (rf_ (Kd.R_types HO1.out BK2.out bi3y_) k2_0 _) k2_0 _) k2_0 _) (fun _ hk => hk.1), bfnq_, by repeat (with_reducible first | exact HK.out | apply Kept.alloc | apply Kept.drewN | apply Kept.drew | refine Kept.setCell ?_ (.inr GW1.out) _ | refine Kept.setCell ?_ (.inr GW2.out) _)⟩

def spec_l1Put.l0 : Nat → List Int → Int → Int → Option (List Int)
 | 0, _, _, _ => none
 | k + 1, x0, x1, x5 => if x5 < (x0.length : Int) then (if 0 ≤ x5 then (if (rd x0 x5) < x1 then (spec_l1Put.l0 k x0 x1 (wrap64 (x5 + 1))) else (if (rd x0 x5) = x1 then none else ((some (([] : List Int) : List Int)).bind fun y163 => (if x5 ≤ (x0.length : Int) then (if y163.length + (x0.take (x5 : Int).toNat).length < 17592186044416 then ((some (y163 ++ (x0.take (x5 : Int).toNat) : List Int)).bind fun y167 => ((some (([x1] : List Int) : List Int)).bind fun y170 => (if y167.length + y170.length < 17592186044416 then ((some (y167 ++ y170 : List Int)).bind fun y173 => (if y173.length + (x0.drop (x5 : Int).toNat).length < 17592186044416 then (some (y173 ++ (x0.drop (x5 : Int).toNat))) else (none))) else (none)))) else (none)) else (none))))) else (none)) else ((some (([] : List Int) : List Int)).bind fun y180 => (if 0 ≤ x5 then (if x5 ≤ (x0.length : Int) then (if y180.length + (x0.take (x5 : Int).toNat).length < 17592186044416 then ((some (y180 ++ (x0.take (x5 : Int).toNat) : List Int)).bind fun y184 => ((some (([x1] : List Int) : List Int)).bind fun y187 => (if y184.length + y187.length < 17592186044416 then ((some (y184 ++ y187 : List Int)).bind fun y190 => (if y190.length + (x0.drop (x5 : Int).toNat).length < 17592186044416 then (some (y190 ++ (x0.drop (x5 : Int).toNat))) else (none))) else (none)))) else (none)) else (none)) else (none)))
def spec_l1Put.f (k : Nat) (l0 : List Int) (a1 : Int) : Option (List Int) := spec_l1Put.l0 k l0 a1 0
theorem spec_l1Put.mono_l : ∀ k, (∀ y0 y1 y2, LeO (spec_l1Put.l0 k y0 y1 y2) (spec_l1Put.l0 (k + 1) y0 y1 y2))
 | 0 => fun _ _ _ r h => by simp [spec_l1Put.l0] at h
 | k + 1 => by
  have ih0 := spec_l1Put.mono_l k
  ·intro y0 y1 y2
   unfold spec_l1Put.l0
   repeat' with_reducible first | exact ih0 .. | exact LeO.refl .. | exact LeO.none .. | refine LeO.ite ?_ ?_ | refine LeO.bind ?_ (fun _ => ?_)
theorem spec_l1Put.mono : ∀ a0 a1 k, LeO (spec_l1Put.f k a0 a1) (spec_l1Put.f (k + 1) a0 a1) := by
 intro a0 a1 k
 have ih0 := spec_l1Put.mono_l k
 unfold spec_l1Put.f
 repeat' with_reducible first | exact ih0 .. | exact LeO.refl .. | exact LeO.none .. | refine LeO.ite ?_ ?_ | refine LeO.bind ?_ (fun _ => ?_)
def spec_l1Put.T6 : Bool × List (List Nat × List Nat) := (true, [([], []), ([], []), ([], []), ([1, 2], [1, 2]), ([0, 3], [0, 3]), ([], []), ([5], [5]), ([4, 6, 4], [4, 6]), ([], []), ([], []), ([8, 9], [8, 9]), ([7, 10, 7], [7, 10]), ([11, 11, 0, 1, 2, 3, 4, 5, 6, 7, 8, 9, 10, 11], [11])])
def spec_l1Put.B6 : List Nat := [0, 0, 0, 6, 15, 0, 32, 127, 0, 0, 768, 2047, 4095]
theorem spec_l1Put.tab6 : rtab .any (opsOf Tryd.f103 6) = spec_l1Put.T6 := by kernel_rfl
theorem spec_l1Put.bits6 : waitsOk spec_l1Put.T6.2 spec_l1Put.B6 = true := by kernel_rfl
theorem spec_l1Put.calls (k : Nat) (A0 : Option Addr) (c0 : Nat) (l0 : List Int) (a1 : Int) (r : List Int) (w : World) (hr0 : Kd.C (Kd.int .i64) w A0 l0.length l0) (hc0 : l0.length ≤ c0) (h : spec_l1Put.f k l0 a1 = some r) :
  Calls Tryd.prog 103 #[.slice A0 l0.length c0, .int .i64 a1] w fun e w' => ∃ v0_ : Value, e = .returned (v0_) ∧ Kd.R (Kd.int .i64) 3 w' w.heap.size (fun _ => True) v0_ r ∧ Below w.heap.size w w' := by
 have HR0 := A0_ hr0
 have HC0 := A0_ hc0
 clear hr0 hc0
 have HB := A0_ (Below.refl w.heap.size w)
 have H : (spec_l1Put.l0 k l0 a1 0) = some r := h
 clear h
 have H' := A0_ H
 clear H
 go_enter Tryd.func103, Tryd.ntmps103
 go_wp2
 go_loopg [5] k (fun kq v1 w' => ∃ (x5_1 : Int), v1 = .int .i64 x5_1 ∧ Aside0 (spec_l1Put.l0 kq l0 a1 x5_1 = some r) ∧ Aside0 (kq ≤ k) ∧ Aside0 (Below w.heap.size w w'))
 case atStart => exact ⟨(0), b2ew_, H', ⟨Nat.le_refl _⟩, ⟨brt4_⟩⟩
 clear H'
 obtain ⟨x5_1, rfl, HA, HK1, HB⟩ := hrel
 cases gk with | zero => exact absurd HA.out (by simp [spec_l1Put.l0]) | succ k1 => ?_
 have H := HA.out
 clear HA
 simp only [spec_l1Put.l0] at H
 by_cases c1 : x5_1 < (l0.length : Int)
 case neg =>
  rw [if_neg c1] at H
  have c1b0 : decide (x5_1 < (l0.length : Int)) = false := decide_eq_false c1
  clear c1
  obtain ⟨y1, hy1⟩ : ∃ y_ : List Int, y_ = (([] : List Int)) := ⟨_, rfl⟩
  replace H : (if 0 ≤ x5_1 then (if x5_1 ≤ (l0.length : Int) then (if y1.length + (l0.take (x5_1 : Int).toNat).length < 17592186044416 then ((some (y1 ++ (l0.take (x5_1 : Int).toNat) : List Int)).bind fun y2 => ((some (([a1] : List Int) : List Int)).bind fun y3 => (if y2.length + y3.length < 17592186044416 then ((some (y2 ++ y3 : List Int)).bind fun y4 => (if y4.length + (l0.drop (x5_1 : Int).toNat).length < 17592186044416 then (some (y4 ++ (l0.drop (x5_1 : Int).toNat))) else (none))) else (none)))) else (none)) else (none)) else (none)) = some r := bgiq_
  have Ny1 := A0_ hy1
  clear hy1
  by_cases c2 : 0 ≤ x5_1
  case neg =>
   rw [if_neg c2] at H
   exact absurd H bxka_
  rw [if_pos c2] at H
  have c2b0 := eq_true c2
  have c2b1 : decide (0 ≤ x5_1) = true := dt_ c2
  clear c2
  by_cases c3 : x5_1 ≤ (l0.length : Int)
  case neg =>
   rw [if_neg c3] at H
   exact absurd H bxka_
  rw [if_pos c3] at H
  have c3b0 := eq_true c3
  have c3b1 : decide (x5_1 ≤ (l0.length : Int)) = true := dt_ c3
  clear c3
  by_cases c4 : y1.length + (l0.take (x5_1 : Int).toNat).length < 17592186044416
  case neg =>
   rw [if_neg c4] at H
   exact absurd H bxka_
  rw [if_pos c4] at H
  have LMc1 := A0_ c4
  clear c4
  obtain ⟨y2, hy2⟩ : ∃ y_ : List Int, y_ = (y1 ++ (l0.take (x5_1 : Int).toNat)) := ⟨_, rfl⟩
  replace H : ((some (([a1] : List Int) : List Int)).bind fun y3 => (if y2.length + y3.length < 17592186044416 then ((some (y2 ++ y3 : List Int)).bind fun y4 => (if y4.length + (l0.drop (x5_1 : Int).toNat).length < 17592186044416 then (some (y4 ++ (l0.drop (x5_1 : Int).toNat))) else (none))) else (none))) = some r := bscs_
  have Ny2 := A0_ hy2
  clear hy2
  obtain ⟨y3, hy3⟩ : ∃ y_ : List Int, y_ = (([a1] : List Int)) := ⟨_, rfl⟩
  replace H : (if y2.length + y3.length < 17592186044416 then ((some (y2 ++ y3 : List Int)).bind fun y4 => (if y4.length + (l0.drop (x5_1 : Int).toNat).length < 17592186044416 then (some (y4 ++ (l0.drop (x5_1 : Int).toNat))) else (none))) else (none)) = some r := b2x6_
  have Ny3 := A0_ hy3
  clear hy3
  by_cases c5 : y2.length + y3.length < 17592186044416
  case neg =>
   rw [if_neg c5] at H
   exact absurd H bxka_
  rw [if_pos c5] at H
  have LMc2 := A0_ c5
  clear c5
  obtain ⟨y4, hy4⟩ : ∃ y_ : List Int, y_ = (y2 ++ y3) := ⟨_, rfl⟩
  replace H : (if y4.length + (l0.drop (x5_1 : Int).toNat).length < 17592186044416 then (some (y4 ++ (l0.drop (x5_1 : Int).toNat))) else (none)) = some r := bytg_
  have Ny4 := A0_ hy4
  clear hy4
  have c6b0 := eq_true (od_ bpil_ : 0 ≤ x5_1)
  have c7b0 := eq_true (od_ bpil_ : x5_1 ≤ (l0.length : Int))
  by_cases c8 : y4.length + (l0.drop (x5_1 : Int).toNat).length < 17592186044416
  case neg =>
   rw [if_neg c8] at H
   exact absurd H bxka_
  rw [if_pos c8] at H
  have LMc3 := A0_ c8
  clear c8
  obtain ⟨y5, hy5⟩ : ∃ y_ : List Int, y_ = (y4 ++ (l0.drop (x5_1 : Int).toNat)) := ⟨_, rfl⟩
  replace H : (some y5) = some r := byjl_
  have Ny5 := A0_ hy5
  clear hy5
  obtain rfl := si_ H
  try go_wp2
  replace HB := A0_ (bd_ HB.out)
  obtain ⟨i034, hi034, _, hsz34, _⟩ := info_parts info3
  obtain ⟨hcut34, hA34, hC34⟩ := print_take_of (P := Tryd.prog) (Value.int .i64) 0 22 3 .i64 Tryd.underlying22 hi034 hsz34 A0 c0 l0 x5_1 (od_ bpil_) (od_ bpil_) HC0.out
  have HR183 := A0_ (Kd.C_of_reads (h1 := fun _ => rfl) (hA34 _ (Kd.reads_of_C HR0.out)))
  have HC183 := A0_ hC34
  clear hA34 hC34 hi034 hsz34
  obtain ⟨i035, hi035, _, hsz35, _⟩ := info_parts info3
  obtain ⟨A1, hcut35, hA35, hC35⟩ := print_drop_of (P := Tryd.prog) (Value.int .i64) 0 22 3 .i64 Tryd.underlying22 hi035 hsz35 A0 c0 l0 x5_1 (od_ bpil_) (od_ bpil_) HC0.out
  have HR193 := A0_ (Kd.C_of_reads (h1 := fun _ => rfl) (hA35 _ (Kd.reads_of_C HR0.out)))
  have HC193 := A0_ hC35
  clear hA35 hC35 hi035 hsz35
  refine start_ (n := 13) (S := fun w' => True) (ds := []) #[false, false, false, false, false, false, false, false, false, false, false, false, false] bfqv_ rfl rfl trivial (fun hHeld => ?_); refine with_tabW spec_l1Put.tab6 spec_l1Put.bits6 (fun HT_ HW_ => ?_)
  generalize wr.drew = w1 at HB HR183 HR193 hHeld ⊢
  refine pu_ 1 34 ?_
  refine pu_ 2 35 ?_
  refine pu_ 3 36 ?_
  refine pu_ 5 38 ?_
  refine pu_ 8 41 ?_
  refine pu_ 9 42 ?_
  refine pu_ 10 43 ?_
  refine join_ (σ := Value × Value × Value) 3 #[true, true, true, true, true, true, true, false, true, true, true, false, false] (fun s_ => [(33, s_.1), (37, s_.2.1), (39, s_.2.2)]) (fun s_ w' => (Kd.R (Kd.int .i64) 3 w' w.heap.size (fun k_ => some k_ ≠ (s_.2.2 : Value).ownBlock) s_.2.1 y2) ∧ (Kd.R (Kd.int .i64) 3 w' w.heap.size (fun k_ => some k_ ≠ (s_.2.1 : Value).ownBlock) s_.2.2 y3) ∧ (Below w.heap.size w w')) ?_ ?_
  rotate_left
  ·intro hCont
   refine two_ (i := 0) (j := 6) (Ni := some 33) (Nj := some 39) #[true, true, true, true, false, true, false, false, true, true, true, false, false] #[false, true, true, true, false, true, true, false, true, true, true, false, false] rfl rfl rfl rfl (two_of HT_.out bfqv_) bi3y_ bi3y_ (fun K hK => ?_) (fun K hK => ?_)
   ·refine Kd.R_lit_step (Kd.int .i64) _ 3 ?hg (N := 33) ?hd (xs := ([] : List Int)) (inner := []) (ok := fun _ => True) (okp := fun _ => True) ?hr ?hp (fun _ hk => hk) trivial (Below.refl _ _) (Nat.le_refl _) bxka_ ?_; (case hd => rfl); (case hg => rfl); (case hr => go_simp; first | done | rfl); (case hp => exact (Reps.none _ _))
    intro v2 w2 ho37 hb hg_ hnew_
    clear hg_ hnew_
    (first | rw [← Ny1.out] at ho37 | (simp only [Int.reduceToNat] at ho37; rw [← Ny1.out] at ho37))
    have HO1 := A0_ (Kd.R_lower ho37 (bz_ brt4_))
    replace HB := hb_ hb brt4_
    clear hb ho37
    refine hK.out _ _ trivial (fun hHeld => ?_)
    clear hK K
    refine nm_ 33 ?_
    refine two_ (i := 4) (j := 6) (Ni := some 37) (Nj := some 39) #[true, true, true, true, true, true, false, false, true, true, true, false, false] #[true, true, true, true, false, true, true, false, true, true, true, false, false] rfl rfl rfl rfl (two_of HT_.out bfqv_) bi3y_ bi3y_ (fun K hK => ?_) (fun K hK => ?_)
    ·refine Kd.R_append_rows_step (Kd.int .i64) (w0 := w) w.heap.size (by rfl) (.tmp 33) (.tmp 36) 22 3 (.int .i64 0) 8 rfl Tryd.underlying22 info3 rfl bi3y_ bh19_ v2 y1 (l0.take (x5_1 : Int).toNat) _ _ _ (fun _ => True) (fun _ => False) rfl rfl ?aO ?aR (fun _ _ h => h) (fun _ h => h.elim) ?aF ?aB ?aS ?aL ?_
     (case aR => first | (have e_ : (l0.take (x5_1 : Int).toNat).length = x5_1.toNat := b668_; have hx_ := cb_ HR183.out HB.out; rw [e_] at hx_; repeat (first | exact hx_ | (with_reducible refine ca_ ?_ _) | (with_reducible refine cn_ ?_ _) | (with_reducible refine cd_ ?_))) | (repeat (first | exact (cb_ HR183.out HB.out) | (with_reducible refine ca_ ?_ _) | (with_reducible refine cn_ ?_ _) | (with_reducible refine cd_ ?_))))
     (case aB => exact brt4_)
     (case aF => exact (fun _ _ => trivial))
     (case aO => exact bsm5_)
     (case aS => exact (bz_ brt4_))
     (case aL => have := LMc1.out; have hlx_ := (show (l0.take (x5_1 : Int).toNat).length = x5_1.toNat from b668_); omega)
     intro v3 w3 ho hb hg hat
     rw [← Ny2.out] at ho
     have n0_ := A0_ (hb)
     have n1_ := A0_ (ho)
     clear HB
     clear HO1
     have HB := n0_
     have HO2 := n1_
     clear n0_ n1_
     clear ho hb hg hat
     refine hK.out _ _ trivial (fun hHeld => ?_)
     clear hK K
     refine nm_ 37 ?_
     refine on_ 6 (some 39) (fun K hK => ?_)
     refine Kd.R_lit_step (Kd.int .i64) _ 3 ?hg (N := 39) ?hd (xs := ([a1] : List Int)) (inner := [.int .i64 a1]) (ok := fun _ => True) (okp := fun _ => True) ?hr ?hp (fun _ hk => hk) trivial (Below.refl _ _) (Nat.le_refl _) bxka_ ?_; (case hd => rfl); (case hg => rfl); (case hr => go_simp; first | done | rfl); (case hp => exact (Reps.one (show Kd.M (Kd.int .i64) _ _ _ a1 [.int .i64 a1] from rfl) (Reps.none _ _)))
     intro v4 w4 ho40 hb hg_ hnew_
     clear hg_ hnew_
     (first | rw [← Ny3.out] at ho40 | (simp only [Int.reduceToNat] at ho40; rw [← Ny3.out] at ho40))
     have HO3 := A0_ (Kd.R_lower (Kd.R_new' ho40 (Kd.R_lt b9so_)) (bz_ brt4_))
     replace HO2 := A0_ (Kd.R_elder' b9so_ (Kd.R_base ho40) hb)
     replace HB := hb_ hb brt4_
     clear hb ho40
     refine hK.out _ _ trivial (fun hHeld => ?_)
     clear hK K
     refine nm_ 39 ?_
     exact norm_ bh00_ (hCont (v2, v3, v4) _ ⟨b61e_, (by (with_reducible repeat (first | apply ra_ | apply rn_ | apply rd_)); exact Kd.R_mono HO3.out (fun _ hk => hk.2)), brt4_⟩)
    refine Kd.R_lit_step (Kd.int .i64) _ 3 ?hg (N := 39) ?hd (xs := ([a1] : List Int)) (inner := [.int .i64 a1]) (ok := fun _ => True) (okp := fun _ => True) ?hr ?hp (fun _ hk => hk) trivial (Below.refl _ _) (Nat.le_refl _) bxka_ ?_; (case hd => rfl); (case hg => rfl); (case hr => go_simp; first | done | rfl); (case hp => exact (Reps.one (show Kd.M (Kd.int .i64) _ _ _ a1 [.int .i64 a1] from rfl) (Reps.none _ _)))
    intro v3 w3 ho39 hb hg_ hnew_
    clear hg_ hnew_
    (first | rw [← Ny3.out] at ho39 | (simp only [Int.reduceToNat] at ho39; rw [← Ny3.out] at ho39))
    have HO2 := A0_ (Kd.R_lower (Kd.R_new' ho39 (Kd.R_lt bsm5_)) (bz_ brt4_))
    replace HO1 := A0_ (Kd.R_elder' bsm5_ (Kd.R_base ho39) hb)
    replace HB := hb_ hb brt4_
    clear hb ho39
    refine hK.out _ _ trivial (fun hHeld => ?_)
    clear hK K
    refine nm_ 39 ?_
    refine on_ 4 (some 37) (fun K hK => ?_)
    refine Kd.R_append_rows_step (Kd.int .i64) (w0 := w) w.heap.size (by rfl) (.tmp 33) (.tmp 36) 22 3 (.int .i64 0) 8 rfl Tryd.underlying22 info3 rfl bi3y_ bh19_ v2 y1 (l0.take (x5_1 : Int).toNat) _ _ _ (fun k_ => no_ v3 k_) (fun _ => False) rfl rfl ?aO ?aR (fun _ _ h => h) (fun _ h => h.elim) ?aF ?aB ?aS ?aL ?_
    (case aR => first | (have e_ : (l0.take (x5_1 : Int).toNat).length = x5_1.toNat := b668_; have hx_ := cb_ HR183.out HB.out; rw [e_] at hx_; repeat (first | exact hx_ | (with_reducible refine ca_ ?_ _) | (with_reducible refine cn_ ?_ _) | (with_reducible refine cd_ ?_))) | (repeat (first | exact (cb_ HR183.out HB.out) | (with_reducible refine ca_ ?_ _) | (with_reducible refine cn_ ?_ _) | (with_reducible refine cd_ ?_))))
    (case aB => exact brt4_)
    (case aF => exact (fun k_ hk => Kd.fresh' (Kd.R_lt b9so_) k_ hk))
    (case aO => exact b48f_)
    (case aS => exact (bz_ brt4_))
    (case aL => have := LMc1.out; have hlx_ := (show (l0.take (x5_1 : Int).toNat).length = x5_1.toNat from b668_); omega)
    intro v4 w4 ho hb hg hat
    rw [← Ny2.out] at ho
    have n0_ := A0_ (Kd.R_after (ok := (fun _ => True)) b9so_ hg hat)
    have n1_ := A0_ (hb)
    have n2_ := A0_ (ho)
    clear HO2
    clear HB
    clear HO1
    have HO2 := n0_
    have HB := n1_
    have HO3 := n2_
    clear n0_ n1_ n2_
    clear ho hb hg hat
    refine hK.out _ _ trivial (fun hHeld => ?_)
    clear hK K
    refine nm_ 37 ?_
    exact norm_ bh00_ (hCont (v2, v4, v3) _ ⟨buiy_, b61e_, brt4_⟩)
   refine Kd.R_lit_step (Kd.int .i64) _ 3 ?hg (N := 39) ?hd (xs := ([a1] : List Int)) (inner := [.int .i64 a1]) (ok := fun _ => True) (okp := fun _ => True) ?hr ?hp (fun _ hk => hk) trivial (Below.refl _ _) (Nat.le_refl _) bxka_ ?_; (case hd => rfl); (case hg => rfl); (case hr => go_simp; first | done | rfl); (case hp => exact (Reps.one (show Kd.M (Kd.int .i64) _ _ _ a1 [.int .i64 a1] from rfl) (Reps.none _ _)))
   intro v2 w2 ho37 hb hg_ hnew_
   clear hg_ hnew_
   (first | rw [← Ny3.out] at ho37 | (simp only [Int.reduceToNat] at ho37; rw [← Ny3.out] at ho37))
   have HO1 := A0_ (Kd.R_lower ho37 (bz_ brt4_))
   replace HB := hb_ hb brt4_
   clear hb ho37
   refine hK.out _ _ trivial (fun hHeld => ?_)
   clear hK K
   refine nm_ 39 ?_
   refine on_ 0 (some 33) (fun K hK => ?_)
   refine Kd.R_lit_step (Kd.int .i64) _ 3 ?hg (N := 33) ?hd (xs := ([] : List Int)) (inner := []) (ok := fun _ => True) (okp := fun _ => True) ?hr ?hp (fun _ hk => hk) trivial (Below.refl _ _) (Nat.le_refl _) bxka_ ?_; (case hd => rfl); (case hg => rfl); (case hr => go_simp; first | done | rfl); (case hp => exact (Reps.none _ _))
   intro v3 w3 ho39 hb hg_ hnew_
   clear hg_ hnew_
   (first | rw [← Ny1.out] at ho39 | (simp only [Int.reduceToNat] at ho39; rw [← Ny1.out] at ho39))
   have HO2 := A0_ (Kd.R_lower (Kd.R_new' ho39 (Kd.R_lt bsm5_)) (bz_ brt4_))
   replace HO1 := A0_ (Kd.R_elder' bsm5_ (Kd.R_base ho39) hb)
   replace HB := hb_ hb brt4_
   clear hb ho39
   refine hK.out _ _ trivial (fun hHeld => ?_)
   clear hK K
   refine nm_ 33 ?_
   refine on_ 4 (some 37) (fun K hK => ?_)
   refine Kd.R_append_rows_step (Kd.int .i64) (w0 := w) w.heap.size (by rfl) (.tmp 33) (.tmp 36) 22 3 (.int .i64 0) 8 rfl Tryd.underlying22 info3 rfl bi3y_ bh19_ v3 y1 (l0.take (x5_1 : Int).toNat) _ _ _ (fun k_ => no_ v2 k_) (fun _ => False) rfl rfl ?aO ?aR (fun _ _ h => h) (fun _ h => h.elim) ?aF ?aB ?aS ?aL ?_
   (case aR => first | (have e_ : (l0.take (x5_1 : Int).toNat).length = x5_1.toNat := b668_; have hx_ := cb_ HR183.out HB.out; rw [e_] at hx_; repeat (first | exact hx_ | (with_reducible refine ca_ ?_ _) | (with_reducible refine cn_ ?_ _) | (with_reducible refine cd_ ?_))) | (repeat (first | exact (cb_ HR183.out HB.out) | (with_reducible refine ca_ ?_ _) | (with_reducible refine cn_ ?_ _) | (with_reducible refine cd_ ?_))))
   (case aB => exact brt4_)
   (case aF => exact (fun k_ hk => Kd.fresh' (Kd.R_lt bsm5_) k_ hk))
   (case aO => exact b61e_)
   (case aS => exact (bz_ brt4_))
   (case aL => have := LMc1.out; have hlx_ := (show (l0.take (x5_1 : Int).toNat).length = x5_1.toNat from b668_); omega)
   intro v4 w4 ho hb hg hat
   rw [← Ny2.out] at ho
   have n0_ := A0_ (Kd.R_after (ok := (fun _ => True)) bsm5_ hg hat)
   have n1_ := A0_ (hb)
   have n2_ := A0_ (ho)
   clear HO1
   clear HB
   clear HO2
   have HO1 := n0_
   have HB := n1_
   have HO3 := n2_
   clear n0_ n1_ n2_
   clear ho hb hg hat
   refine hK.out _ _ trivial (fun hHeld => ?_)
   clear hK K
   refine nm_ 37 ?_
   exact norm_ bh00_ (hCont (v3, v4, v2) _ ⟨buiy_, b48f_, brt4_⟩)
  rintro ⟨v2, v3, v4⟩ w2 ⟨h0_, h1_, h2_⟩
  try dsimp only at h0_ h1_ h2_
  have HO1 := A0_ h0_
  have HO2 := A0_ h1_
  replace HB := A0_ h2_
  clear h0_ h1_ h2_
  have hHeld := trivial
  obtain ⟨Ao1, co1, eo1⟩ := Kd.R_slice HO2.out
  (first | subst eo1 | (injection eo1 with f1_ f2_ f3_; have f4_ := f1_.symm; have f5_ := f3_.symm; clear f1_ f2_ f3_; subst f4_; subst f5_))
  refine nq_ ?_
  refine on_ 7 (some 40) (fun K hK => ?_)
  refine Kd.R_append_rows_step (Kd.int .i64) (w0 := w) w.heap.size (by rfl) (.tmp 37) (.tmp 39) 22 3 (.int .i64 0) 8 rfl Tryd.underlying22 info3 rfl bi3y_ bh19_ v3 y2 y3 _ _ _ (fun k_ => no_ (.slice Ao1 y3.length co1) k_) (fun _ => False) rfl rfl ?aO ?aR (fun _ _ h => h) (fun _ h => h.elim) ?aF ?aB ?aS ?aL ?_
  (case aR => exact ba04_)
  (case aB => exact brt4_)
  (case aF => exact (fun k_ hk => Kd.fresh' (Kd.R_lt b9so_) k_ hk))
  (case aO => exact bsm5_)
  (case aS => exact (bz_ brt4_))
  (case aL => have := LMc2.out; omega)
  intro v5 w3 ho hb hg hat
  rw [← Ny4.out] at ho
  have n0_ := A0_ (Kd.R_after (ok := (fun _ => True)) b38p_ hg hat)
  have n1_ := A0_ (hb)
  have n2_ := A0_ (ho)
  clear HO2
  clear HB
  clear HO1
  have HO2 := n0_
  have HB := n1_
  have HO3 := n2_
  clear n0_ n1_ n2_
  clear ho hb hg hat
  refine hK.out _ _ trivial (fun hHeld => ?_)
  clear hK K
  refine nm_ 40 ?_
  refine on_ 11 (some 44) (fun K hK => ?_)
  refine Kd.R_append_rows_step (Kd.int .i64) (w0 := w) w.heap.size (by rfl) (.tmp 40) (.tmp 43) 22 3 (.int .i64 0) 8 rfl Tryd.underlying22 info3 rfl bi3y_ bh19_ v5 y4 (l0.drop (x5_1 : Int).toNat) _ _ _ (fun k_ => no_ (.slice Ao1 y3.length co1) k_) (fun _ => False) rfl rfl ?aO ?aR (fun _ _ h => h) (fun _ h => h.elim) ?aF ?aB ?aS ?aL ?_
  (case aR => first | (rw [← show (l0.drop (x5_1 : Int).toNat).length = (l0.length - x5_1.toNat) from ld_]; repeat (first | exact (cb_ HR193.out HB.out) | (with_reducible refine ca_ ?_ _) | (with_reducible refine cn_ ?_ _) | (with_reducible refine cd_ ?_))) | (repeat (first | exact (cb_ HR193.out HB.out) | (with_reducible refine ca_ ?_ _) | (with_reducible refine cn_ ?_ _) | (with_reducible refine cd_ ?_))))
  (case aB => exact brt4_)
  (case aF => exact (fun k_ hk => Kd.fresh' (Kd.R_lt b9so_) k_ hk))
  (case aO => exact buiy_)
  (case aS => exact (bz_ brt4_))
  (case aL => have := LMc3.out; have hlx_ := (show (l0.drop (x5_1 : Int).toNat).length = (l0.length - x5_1.toNat) from ld_); omega)
  intro v6 w4 ho hb hg hat
  rw [← Ny5.out] at ho
  have n0_ := A0_ (Kd.R_after (ok := (fun _ => True)) b9so_ hg hat)
  have n1_ := A0_ (hb)
  have n2_ := A0_ (ho)
  clear HO2
  clear HB
  clear HO3
  have HO2 := n0_
  have HB := n1_
  have HO4 := n2_
  clear n0_ n1_ n2_
  clear ho hb hg hat
  refine hK.out _ _ trivial (fun hHeld => ?_)
  clear hK K
  refine nm_ 44 ?_
  refine pu_ 12 4 ?_
  refine dn_ ?_
  try go_wp2
  go_ret
  exact ⟨_, bnwh_, ba8y_, brt4_⟩
 rw [if_pos c1] at H
 have c1b0 : decide (x5_1 < (l0.length : Int)) = true := dt_ c1
 clear c1
 by_cases c2 : 0 ≤ x5_1
 case neg =>
  rw [if_neg c2] at H
  exact absurd H bxka_
 rw [if_pos c2] at H
 have c2b0 : decide (0 ≤ x5_1) = true := dt_ c2
 clear c2
 by_cases c3 : (rd l0 x5_1) < a1
 ·rw [if_pos c3] at H
  have c3b0 : decide ((rd l0 x5_1) < a1) = true := dt_ c3
  clear c3
  have H' := A0_ H
  clear H
  have p1 : 0 ≤ (x5_1 : Int) := od_ bpil_
  have q1 : x5_1 < (l0.length : Int) := od_ bpil_
  obtain ⟨ad1, e1, hx1_0⟩ := Kd.at_int HR0.out x5_1 p1 q1
  cases e1
  replace hx1_0 := (HB.out.cell (World.block_lt_of_cell? w _ hx1_0)).trans hx1_0
  replace p1 := eq_true p1
  replace q1 := eq_true q1
  go_wp2
  go_roundg k1
  case measure => have := HK1.out; omega
  exact ⟨(wrap64 (x5_1 + 1)), b2ew_, H', ⟨bxjq_⟩, ⟨brt4_⟩⟩
 rw [if_neg c3] at H
 have c3b0 : decide ((rd l0 x5_1) < a1) = false := decide_eq_false c3
 clear c3
 by_cases c4 : (rd l0 x5_1) = a1
 ·rw [if_pos c4] at H
  exact absurd H bxka_
 rw [if_neg c4] at H
 obtain ⟨c4b0, c4b1⟩ := ef_ c4
 obtain ⟨y1, hy1⟩ : ∃ y_ : List Int, y_ = (([] : List Int)) := ⟨_, rfl⟩
 replace H : (if x5_1 ≤ (l0.length : Int) then (if y1.length + (l0.take (x5_1 : Int).toNat).length < 17592186044416 then ((some (y1 ++ (l0.take (x5_1 : Int).toNat) : List Int)).bind fun y2 => ((some (([a1] : List Int) : List Int)).bind fun y3 => (if y2.length + y3.length < 17592186044416 then ((some (y2 ++ y3 : List Int)).bind fun y4 => (if y4.length + (l0.drop (x5_1 : Int).toNat).length < 17592186044416 then (some (y4 ++ (l0.drop (x5_1 : Int).toNat))) else (none))) else (none)))) else (none)) else (none)) = some r := bgiq_
 have Ny1 := A0_ hy1
 clear hy1
 have c5b0 := eq_true (od_ bpil_ : 0 ≤ x5_1)
 by_cases c6 : x5_1 ≤ (l0.length : Int)
 case neg =>
  rw [if_neg c6] at H
  exact absurd H bxka_
 rw [if_pos c6] at H
 have c6b0 := eq_true c6
 have c6b1 : decide (x5_1 ≤ (l0.length : Int)) = true := dt_ c6
 clear c6
 by_cases c7 : y1.length + (l0.take (x5_1 : Int).toNat).length < 17592186044416
 case neg =>
  rw [if_neg c7] at H
  exact absurd H bxka_
 rw [if_pos c7] at H
 have LMc1 := A0_ c7
 clear c7
 obtain ⟨y2, hy2⟩ : ∃ y_ : List Int, y_ = (y1 ++ (l0.take (x5_1 : Int).toNat)) := ⟨_, rfl⟩
 replace H : ((some (([a1] : List Int) : List Int)).bind fun y3 => (if y2.length + y3.length < 17592186044416 then ((some (y2 ++ y3 : List Int)).bind fun y4 => (if y4.length + (l0.drop (x5_1 : Int).toNat).length < 17592186044416 then (some (y4 ++ (l0.drop (x5_1 : Int).toNat))) else (none))) else (none))) = some r := bscs_
 have Ny2 := A0_ hy2
 clear hy2
 obtain ⟨y3, hy3⟩ : ∃ y_ : List Int, y_ = (([a1] : List Int)) := ⟨_, rfl⟩
 replace H : (if y2.length + y3.length < 17592186044416 then ((some (y2 ++ y3 : List Int)).bind fun y4 => (if y4.length + (l0.drop (x5_1 : Int).toNat).length < 17592186044416 then (some (y4 ++ (l0.drop (x5_1 : Int).toNat))) else (none))) else (none)) = some r := b2x6_
 have Ny3 := A0_ hy3
 clear hy3
 by_cases c8 : y2.length + y3.length < 17592186044416
 case neg =>
  rw [if_neg c8] at H
  exact absurd H bxka_
 rw [if_pos c8] at H
 have LMc2 := A0_ c8
 clear c8
 obtain ⟨y4, hy4⟩ : ∃ y_ : List Int, y_ = (y2 ++ y3) := ⟨_, rfl⟩
 replace H : (if y4.length + (l0.drop (x5_1 : Int).toNat).length < 17592186044416 then (some (y4 ++ (l0.drop (x5_1 : Int).toNat))) else (none)) = some r := bytg_
 have Ny4 := A0_ hy4
 clear hy4
 have c9b0 := eq_true (od_ bpil_ : 0 ≤ x5_1)
 have c10b0 := eq_true (od_ bpil_ : x5_1 ≤ (l0.length : Int))
 by_cases c11 : y4.length + (l0.drop (x5_1 : Int).toNat).length < 17592186044416
 case neg =>
  rw [if_neg c11] at H
  exact absurd H bxka_
 rw [if_pos c11] at H
 have LMc3 := A0_ c11
 clear c11
 obtain ⟨y5, hy5⟩ : ∃ y_ : List Int, y_ = (y4 ++ (l0.drop (x5_1 : Int).toNat)) := ⟨_, rfl⟩
 replace H : (some y5) = some r := byjl_
 have Ny5 := A0_ hy5
 clear hy5
 obtain rfl := si_ H
 have p1 : 0 ≤ (x5_1 : Int) := od_ bpil_
 have q1 : x5_1 < (l0.length : Int) := od_ bpil_
 obtain ⟨ad1, e1, hx1_0⟩ := Kd.at_int HR0.out x5_1 p1 q1
 cases e1
 replace hx1_0 := (HB.out.cell (World.block_lt_of_cell? w _ hx1_0)).trans hx1_0
 replace p1 := eq_true p1
 replace q1 := eq_true q1
 have p2 : 0 ≤ (x5_1 : Int) := od_ bpil_
 have q2 : x5_1 < (l0.length : Int) := od_ bpil_
 obtain ⟨ad2, e2, hx2_0⟩ := Kd.at_int HR0.out x5_1 p2 q2
 obtain rfl : ad1 = ad2 := bs6y_
 replace hx2_0 := (HB.out.cell (World.block_lt_of_cell? w _ hx2_0)).trans hx2_0
 replace p2 := eq_true p2
 replace q2 := eq_true q2
 try go_wp2
 replace HB := A0_ (bd_ HB.out)
 obtain ⟨i015, hi015, _, hsz15, _⟩ := info_parts info3
 obtain ⟨hcut15, hA15, hC15⟩ := print_take_of (P := Tryd.prog) (Value.int .i64) 0 22 3 .i64 Tryd.underlying22 hi015 hsz15 (some ad1) c0 l0 x5_1 (od_ bpil_) (od_ bpil_) HC0.out
 have HR166 := A0_ (Kd.C_of_reads (h1 := fun _ => rfl) (hA15 _ (Kd.reads_of_C HR0.out)))
 have HC166 := A0_ hC15
 clear hA15 hC15 hi015 hsz15
 obtain ⟨i016, hi016, _, hsz16, _⟩ := info_parts info3
 obtain ⟨A1, hcut16, hA16, hC16⟩ := print_drop_of (P := Tryd.prog) (Value.int .i64) 0 22 3 .i64 Tryd.underlying22 hi016 hsz16 (some ad1) c0 l0 x5_1 (od_ bpil_) (od_ bpil_) HC0.out
 have HR176 := A0_ (Kd.C_of_reads (h1 := fun _ => rfl) (hA16 _ (Kd.reads_of_C HR0.out)))
 have HC176 := A0_ hC16
 clear hA16 hC16 hi016 hsz16
 refine start_ (n := 13) (S := fun w' => True) (ds := []) #[false, false, false, false, false, false, false, false, false, false, false, false, false] bfqv_ rfl rfl trivial (fun hHeld => ?_); refine with_tabW spec_l1Put.tab6 spec_l1Put.bits6 (fun HT_ HW_ => ?_)
 generalize wr.drew = w1 at HB HR166 HR176 hHeld ⊢
 refine pu_ 1 34 ?_
 refine pu_ 2 35 ?_
 refine pu_ 3 36 ?_
 refine pu_ 5 38 ?_
 refine pu_ 8 41 ?_
 refine pu_ 9 42 ?_
 refine pu_ 10 43 ?_
 refine join_ (σ := Value × Value × Value) 3 #[true, true, true, true, true, true, true, false, true, true, true, false, false] (fun s_ => [(33, s_.1), (37, s_.2.1), (39, s_.2.2)]) (fun s_ w' => (Kd.R (Kd.int .i64) 3 w' w.heap.size (fun k_ => some k_ ≠ (s_.2.2 : Value).ownBlock) s_.2.1 y2) ∧ (Kd.R (Kd.int .i64) 3 w' w.heap.size (fun k_ => some k_ ≠ (s_.2.1 : Value).ownBlock) s_.2.2 y3) ∧ (Below w.heap.size w w')) ?_ ?_
 rotate_left
 ·intro hCont
  refine two_ (i := 0) (j := 6) (Ni := some 33) (Nj := some 39) #[true, true, true, true, false, true, false, false, true, true, true, false, false] #[false, true, true, true, false, true, true, false, true, true, true, false, false] rfl rfl rfl rfl (two_of HT_.out bfqv_) bi3y_ bi3y_ (fun K hK => ?_) (fun K hK => ?_)
  ·refine Kd.R_lit_step (Kd.int .i64) _ 3 ?hg (N := 33) ?hd (xs := ([] : List Int)) (inner := []) (ok := fun _ => True) (okp := fun _ => True) ?hr ?hp (fun _ hk => hk) trivial (Below.refl _ _) (Nat.le_refl _) bxka_ ?_; (case hd => rfl); (case hg => rfl); (case hr => go_simp; first | done | rfl); (case hp => exact (Reps.none _ _))
   intro v2 w2 ho18 hb hg_ hnew_
   clear hg_ hnew_
   (first | rw [← Ny1.out] at ho18 | (simp only [Int.reduceToNat] at ho18; rw [← Ny1.out] at ho18))
   have HO1 := A0_ (Kd.R_lower ho18 (bz_ brt4_))
   replace HB := hb_ hb brt4_
   clear hb ho18
   refine hK.out _ _ trivial (fun hHeld => ?_)
   clear hK K
   refine nm_ 33 ?_
   refine two_ (i := 4) (j := 6) (Ni := some 37) (Nj := some 39) #[true, true, true, true, true, true, false, false, true, true, true, false, false] #[true, true, true, true, false, true, true, false, true, true, true, false, false] rfl rfl rfl rfl (two_of HT_.out bfqv_) bi3y_ bi3y_ (fun K hK => ?_) (fun K hK => ?_)
   ·refine Kd.R_append_rows_step (Kd.int .i64) (w0 := w) w.heap.size (by rfl) (.tmp 33) (.tmp 36) 22 3 (.int .i64 0) 8 rfl Tryd.underlying22 info3 rfl bi3y_ bh19_ v2 y1 (l0.take (x5_1 : Int).toNat) _ _ _ (fun _ => True) (fun _ => False) rfl rfl ?aO ?aR (fun _ _ h => h) (fun _ h => h.elim) ?aF ?aB ?aS ?aL ?_
    (case aR => first | (have e_ : (l0.take (x5_1 : Int).toNat).length = x5_1.toNat := b668_; have hx_ := cb_ HR166.out HB.out; rw [e_] at hx_; repeat (first | exact hx_ | (with_reducible refine ca_ ?_ _) | (with_reducible refine cn_ ?_ _) | (with_reducible refine cd_ ?_))) | (repeat (first | exact (cb_ HR166.out HB.out) | (with_reducible refine ca_ ?_ _) | (with_reducible refine cn_ ?_ _) | (with_reducible refine cd_ ?_))))
    (case aB => exact brt4_)
    (case aF => exact (fun _ _ => trivial))
    (case aO => exact bsm5_)
    (case aS => exact (bz_ brt4_))
    (case aL => have := LMc1.out; have hlx_ := (show (l0.take (x5_1 : Int).toNat).length = x5_1.toNat from b668_); omega)
    intro v3 w3 ho hb hg hat
    rw [← Ny2.out] at ho
    have n0_ := A0_ (hb)
    have n1_ := A0_ (ho)
    clear HB
    clear HO1
    have HB := n0_
    have HO2 := n1_
    clear n0_ n1_
    clear ho hb hg hat
    refine hK.out _ _ trivial (fun hHeld => ?_)
    clear hK K
    refine nm_ 37 ?_
    refine on_ 6 (some 39) (fun K hK => ?_)
    refine Kd.R_lit_step (Kd.int .i64) _ 3 ?hg (N := 39) ?hd (xs := ([a1] : List Int)) (inner := [.int .i64 a1]) (ok := fun _ => True) (okp := fun _ => True) ?hr ?hp (fun _ hk => hk) trivial (Below.refl _ _) (Nat.le_refl _) bxka_ ?_; (case hd => rfl); (case hg => rfl); (case hr => go_simp; first | done | rfl); (case hp => exact (Reps.one (show Kd.M (Kd.int .i64) _ _ _ a1 [.int .i64 a1] from rfl) (Reps.none _ _)))
    intro v4 w4 ho21 hb hg_ hnew_
    clear hg_ hnew_
    (first | rw [← Ny3.out] at ho21 | (simp only [Int.reduceToNat] at ho21; rw [← Ny3.out] at ho21))
    have HO3 := A0_ (Kd.R_lower (Kd.R_new' ho21 (Kd.R_lt b9so_)) (bz_ brt4_))
    replace HO2 := A0_ (Kd.R_elder' b9so_ (Kd.R_base ho21) hb)
    replace HB := hb_ hb brt4_
    clear hb ho21
    refine hK.out _ _ trivial (fun hHeld => ?_)
    clear hK K
    refine nm_ 39 ?_
    exact norm_ bh00_ (hCont (v2, v3, v4) _ ⟨b61e_, (by (with_reducible repeat (first | apply ra_ | apply rn_ | apply rd_)); exact Kd.R_mono HO3.out (fun _ hk => hk.2)), brt4_⟩)
   refine Kd.R_lit_step (Kd.int .i64) _ 3 ?hg (N := 39) ?hd (xs := ([a1] : List Int)) (inner := [.int .i64 a1]) (ok := fun _ => True) (okp := fun _ => True) ?hr ?hp (fun _ hk => hk) trivial (Below.refl _ _) (Nat.le_refl _) bxka_ ?_; (case hd => rfl); (case hg => rfl); (case hr => go_simp; first | done | rfl); (case hp => exact (Reps.one (show Kd.M (Kd.int .i64) _ _ _ a1 [.int .i64 a1] from rfl) (Reps.none _ _)))
   intro v3 w3 ho20 hb hg_ hnew_
   clear hg_ hnew_
   (first | rw [← Ny3.out] at ho20 | (simp only [Int.reduceToNat] at ho20; rw [← Ny3.out] at ho20))
   have HO2 := A0_ (Kd.R_lower (Kd.R_new' ho20 (Kd.R_lt bsm5_)) (bz_ brt4_))
   replace HO1 := A0_ (Kd.R_elder' bsm5_ (Kd.R_base ho20) hb)
   replace HB := hb_ hb brt4_
   clear hb ho20
   refine hK.out _ _ trivial (fun hHeld => ?_)
   clear hK K
   refine nm_ 39 ?_
   refine on_ 4 (some 37) (fun K hK => ?_)
   refine Kd.R_append_rows_step (Kd.int .i64) (w0 := w) w.heap.size (by rfl) (.tmp 33) (.tmp 36) 22 3 (.int .i64 0) 8 rfl Tryd.underlying22 info3 rfl bi3y_ bh19_ v2 y1 (l0.take (x5_1 : Int).toNat) _ _ _ (fun k_ => no_ v3 k_) (fun _ => False) rfl rfl ?aO ?aR (fun _ _ h => h) (fun _ h => h.elim) ?aF ?aB ?aS ?aL ?_
   (case aR => first | (have e_ : (l0.take (x5_1 : Int).toNat).length = x5_1.toNat := b668_; have hx_ := cb_ HR166.out HB.out; rw [e_] at hx_; repeat (first | exact hx_ | (with_reducible refine ca_ ?_ _) | (with_reducible refine cn_ ?_ _) | (with_reducible refine cd_ ?_))) | (repeat (first | exact (cb_ HR166.out HB.out) | (with_reducible refine ca_ ?_ _) | (with_reducible refine cn_ ?_ _) | (with_reducible refine cd_ ?_))))
   (case aB => exact brt4_)
   (case aF => exact (fun k_ hk => Kd.fresh' (Kd.R_lt b9so_) k_ hk))
   (case aO => exact b48f_)
   (case aS => exact (bz_ brt4_))
   (case aL => have := LMc1.out; have hlx_ := (show (l0.take (x5_1 : Int).toNat).length = x5_1.toNat from b668_); omega)
   intro v4 w4 ho hb hg hat
   rw [← Ny2.out] at ho
   have n0_ := A0_ (Kd.R_after (ok := (fun _ => True)) b9so_ hg hat)
   have n1_ := A0_ (hb)
   have n2_ := A0_ (ho)
   clear HO2
   clear HB
   clear HO1
   have HO2 := n0_
   have HB := n1_
   have HO3 := n2_
   clear n0_ n1_ n2_
   clear ho hb hg hat
   refine hK.out _ _ trivial (fun hHeld => ?_)
   clear hK K
   refine nm_ 37 ?_
   exact norm_ bh00_ (hCont (v2, v4, v3) _ ⟨buiy_, b61e_, brt4_⟩)
  refine Kd.R_lit_step (Kd.int .i64) _ 3 ?hg (N := 39) ?hd (xs := ([a1] : List Int)) (inner := [.int .i64 a1]) (ok := fun _ => True) (okp := fun _ => True) ?hr ?hp (fun _ hk => hk) trivial (Below.refl _ _) (Nat.le_refl _) bxka_ ?_; (case hd => rfl); (case hg => rfl); (case hr => go_simp; first | done | rfl); (case hp => exact (Reps.one (show Kd.M (Kd.int .i64) _ _ _ a1 [.int .i64 a1] from rfl) (Reps.none _ _)))
  intro v2 w2 ho18 hb hg_ hnew_
  clear hg_ hnew_
  (first | rw [← Ny3.out] at ho18 | (simp only [Int.reduceToNat] at ho18; rw [← Ny3.out] at ho18))
  have HO1 := A0_ (Kd.R_lower ho18 (bz_ brt4_))
  replace HB := hb_ hb brt4_
  clear hb ho18
  refine hK.out _ _ trivial (fun hHeld => ?_)
  clear hK K
  refine nm_ 39 ?_
  refine on_ 0 (some 33) (fun K hK => ?_)
  refine Kd.R_lit_step (Kd.int .i64) _ 3 ?hg (N := 33) ?hd (xs := ([] : List Int)) (inner := []) (ok := fun _ => True) (okp := fun _ => True) ?hr ?hp (fun _ hk => hk) trivial (Below.refl _ _) (Nat.le_refl _) bxka_ ?_; (case hd => rfl); (case hg => rfl); (case hr => go_simp; first | done | rfl); (case hp => exact (Reps.none _ _))
  intro v3 w3 ho20 hb hg_ hnew_
  clear hg_ hnew_
  (first | rw [← Ny1.out] at ho20 | (simp only [Int.reduceToNat] at ho20; rw [← Ny1.out] at ho20))
  have HO2 := A0_ (Kd.R_lower (Kd.R_new' ho20 (Kd.R_lt bsm5_)) (bz_ brt4_))
  replace HO1 := A0_ (Kd.R_elder' bsm5_ (Kd.R_base ho20) hb)
  replace HB := hb_ hb brt4_
  clear hb ho20
  refine hK.out _ _ trivial (fun hHeld => ?_)
  clear hK K
  refine nm_ 33 ?_
  refine on_ 4 (some 37) (fun K hK => ?_)
  refine Kd.R_append_rows_step (Kd.int .i64) (w0 := w) w.heap.size (by rfl) (.tmp 33) (.tmp 36) 22 3 (.int .i64 0) 8 rfl Tryd.underlying22 info3 rfl bi3y_ bh19_ v3 y1 (l0.take (x5_1 : Int).toNat) _ _ _ (fun k_ => no_ v2 k_) (fun _ => False) rfl rfl ?aO ?aR (fun _ _ h => h) (fun _ h => h.elim) ?aF ?aB ?aS ?aL ?_
  (case aR => first | (have e_ : (l0.take (x5_1 : Int).toNat).length = x5_1.toNat := b668_; have hx_ := cb_ HR166.out HB.out; rw [e_] at hx_; repeat (first | exact hx_ | (with_reducible refine ca_ ?_ _) | (with_reducible refine cn_ ?_ _) | (with_reducible refine cd_ ?_))) | (repeat (first | exact (cb_ HR166.out HB.out) | (with_reducible refine ca_ ?_ _) | (with_reducible refine cn_ ?_ _) | (with_reducible refine cd_ ?_))))
  (case aB => exact brt4_)
  (case aF => exact (fun k_ hk => Kd.fresh' (Kd.R_lt bsm5_) k_ hk))
  (case aO => exact b61e_)
  (case aS => exact (bz_ brt4_))
  (case aL => have := LMc1.out; have hlx_ := (show (l0.take (x5_1 : Int).toNat).length = x5_1.toNat from b668_); omega)
  intro v4 w4 ho hb hg hat
  rw [← Ny2.out] at ho
  have n0_ := A0_ (Kd.R_after (ok := (fun _ => True)) bsm5_ hg hat)
  have n1_ := A0_ (hb)
  have n2_ := A0_ (ho)
  clear HO1
  clear HB
  clear HO2
  have HO1 := n0_
  have HB := n1_
  have HO3 := n2_
  clear n0_ n1_ n2_
  clear ho hb hg hat
  refine hK.out _ _ trivial (fun hHeld => ?_)
  clear hK K
  refine nm_ 37 ?_
  exact norm_ bh00_ (hCont (v3, v4, v2) _ ⟨buiy_, b48f_, brt4_⟩)
 rintro ⟨v2, v3, v4⟩ w2 ⟨h0_, h1_, h2_⟩
 try dsimp only at h0_ h1_ h2_
 have HO1 := A0_ h0_
 have HO2 := A0_ h1_
 replace HB := A0_ h2_
 clear h0_ h1_ h2_
 have hHeld := trivial
 obtain ⟨Ao1, co1, eo1⟩ := Kd.R_slice HO2.out
 (first | subst eo1 | (injection eo1 with f1_ f2_ f3_; have f4_ := f1_.symm; have f5_ := f3_.symm; clear f1_ f2_ f3_; subst f4_; subst f5_))
 refine nq_ ?_
 refine on_ 7 (some 40) (fun K hK => ?_)
 refine Kd.R_append_rows_step (Kd.int .i64) (w0 := w) w.heap.size (by rfl) (.tmp 37) (.tmp 39) 22 3 (.int .i64 0) 8 rfl Tryd.underlying22 info3 rfl bi3y_ bh19_ v3 y2 y3 _ _ _ (fun k_ => no_ (.slice Ao1 y3.length co1) k_) (fun _ => False) rfl rfl ?aO ?aR (fun _ _ h => h) (fun _ h => h.elim) ?aF ?aB ?aS ?aL ?_
 (case aR => exact ba04_)
 (case aB => exact brt4_)
 (case aF => exact (fun k_ hk => Kd.fresh' (Kd.R_lt b9so_) k_ hk))
 (case aO => exact bsm5_)
 (case aS => exact (bz_ brt4_))
 (case aL => have := LMc2.out; omega)
 intro v5 w3 ho hb hg hat
 rw [← Ny4.out] at ho
 have n0_ := A0_ (Kd.R_after (ok := (fun _ => True)) b38p_ hg hat)
 have n1_ := A0_ (hb)
 have n2_ := A0_ (ho)
 clear HO2
 clear HB
 clear HO1
 have HO2 := n0_
 have HB := n1_
 have HO3 := n2_
 clear n0_ n1_ n2_
 clear ho hb hg hat
 refine hK.out _ _ trivial (fun hHeld => ?_)
 clear hK K
 refine nm_ 40 ?_
 refine on_ 11 (some 44) (fun K hK => ?_)
 refine Kd.R_append_rows_step (Kd.int .i64) (w0 := w) w.heap.size (by rfl) (.tmp 40) (.tmp 43) 22 3 (.int .i64 0) 8 rfl Tryd.underlying22 info3 rfl bi3y_ bh19_ v5 y4 (l0.drop (x5_1 : Int).toNat) _ _ _ (fun k_ => no_ (.slice Ao1 y3.length co1) k_) (fun _ => False) rfl rfl ?aO ?aR (fun _ _ h => h) (fun _ h => h.elim) ?aF ?aB ?aS ?aL ?_
 (case aR => first | (rw [← show (l0.drop (x5_1 : Int).toNat).length = (l0.length - x5_1.toNat) from ld_]; repeat (first | exact (cb_ HR176.out HB.out) | (with_reducible refine ca_ ?_ _) | (with_reducible refine cn_ ?_ _) | (with_reducible refine cd_ ?_))) | (repeat (first | exact (cb_ HR176.out HB.out) | (with_reducible refine ca_ ?_ _) | (with_reducible refine cn_ ?_ _) | (with_reducible refine cd_ ?_))))
 (case aB => exact brt4_)
 (case aF => exact (fun k_ hk => Kd.fresh' (Kd.R_lt b9so_) k_ hk))
 (case aO => exact buiy_)
 (case aS => exact (bz_ brt4_))
 (case aL => have := LMc3.out; have hlx_ := (show (l0.drop (x5_1 : Int).toNat).length = (l0.length - x5_1.toNat) from ld_); omega)
 intro v6 w4 ho hb hg hat
 rw [← Ny5.out] at ho
 have n0_ := A0_ (Kd.R_after (ok := (fun _ => True)) b9so_ hg hat)
 have n1_ := A0_ (hb)
 have n2_ := A0_ (ho)
 clear HO2
 clear HB
 clear HO3
 have HO2 := n0_
 have HB := n1_
 have HO4 := n2_
 clear n0_ n1_ n2_
 clear ho hb hg hat
 refine hK.out _ _ trivial (fun hHeld => ?_)
 clear hK K
 refine nm_ 44 ?_
 refine pu_ 12 4 ?_
 refine dn_ ?_
 try go_wp2
 go_ret
 exact ⟨_, bnwh_, ba8y_, brt4_⟩

end Go.Proofs.YtbohmfnjgjijdaaDoor.QFnExactDoWork
-- packed
-- squeezed
