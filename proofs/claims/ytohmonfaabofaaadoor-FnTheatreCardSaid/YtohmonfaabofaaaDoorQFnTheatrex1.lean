-- Written by px.py, a program of this session, over the kit's printer: some functions have a definition and a proof of this session's own.
import Derived.Test.YtohmonfaabofaaaDoorQFnTheatrex0
namespace Go.Proofs.YtohmonfaabofaaaDoor.QFnTheatre
open Go.RowKit Go.Proofs.YtohmonfaabofaaaDoorW.PrintWords Go.Proofs.YtohmonfaabofaaaDoorW.PrintLast Go.Proofs.YtohmonfaabofaaaDoorW.PrintMore
attribute [local go_sem] max2_int min2_int max_two min_two max_three min_three max_four min_four   -- for this text's walks alone
set_option linter.unusedVariables false
set_option linter.unusedSimpArgs false
set_option maxHeartbeats 8000000
set_option maxRecDepth 100000

def spec_l1In.f (a0 : Int) (a1 : Int) (a2 : Int) : Option (Bool) := if a0 ≥ a1 then (some (decide (a0 ≤ a2))) else (some false)
theorem spec_l1In.calls (a0 : Int) (a1 : Int) (a2 : Int) (r : Bool) (w : World) (h : spec_l1In.f a0 a1 a2 = some r) :
  Calls Tryd.prog 65 #[.int .i64 a0, .int .i64 a1, .int .i64 a2] w fun e w' => e = .returned (.bool r) ∧ Drawn0 w w' := by
 have H : (if a0 ≥ a1 then (some (decide (a0 ≤ a2))) else (some false)) = some r := h
 clear h
 by_cases c1 : a0 ≥ a1
 ·rw [if_pos c1] at H
  have c1b0 : decide (a1 ≤ a0) = true := dt_ c1
  clear c1
  obtain rfl := si_ H
  go_enter Tryd.func65, Tryd.ntmps65
  go_wp2
  go_ret
  exact ⟨b04z_, boaj_⟩
 rw [if_neg c1] at H
 have c1b0 : decide (a1 ≤ a0) = false := decide_eq_false c1
 clear c1
 obtain rfl := si_ H
 go_enter Tryd.func65, Tryd.ntmps65
 go_wp2
 go_ret
 exact ⟨b04z_, boaj_⟩

def spec_l1Rising.l0 : Nat → List Int → Int → Int → Int → Option (Bool)
 | 0, _, _, _, _ => none
 | k + 1, x0, x1, x2, x7 => if x7 < (x0.length : Int) then (if 0 ≤ x7 then ((spec_l1In.f (rd x0 x7) x1 x2).bind fun t102 => (if t102 = true then (if x7 > 0 then (if 0 ≤ (wrap64 (x7 - 1)) then (if (wrap64 (x7 - 1)) < (x0.length : Int) then (if (rd x0 (wrap64 (x7 - 1))) ≥ (rd x0 x7) then (some false) else (spec_l1Rising.l0 k x0 x1 x2 (wrap64 (x7 + 1)))) else (none)) else (none)) else (spec_l1Rising.l0 k x0 x1 x2 (wrap64 (x7 + 1)))) else (some false))) else (none)) else (some true)
def spec_l1Rising.f (k : Nat) (l0 : List Int) (a1 : Int) (a2 : Int) : Option (Bool) := spec_l1Rising.l0 k l0 a1 a2 0
theorem spec_l1Rising.mono_l : ∀ k, (∀ y0 y1 y2 y3, LeO (spec_l1Rising.l0 k y0 y1 y2 y3) (spec_l1Rising.l0 (k + 1) y0 y1 y2 y3))
 | 0 => fun _ _ _ _ r h => by simp [spec_l1Rising.l0] at h
 | k + 1 => by
  have ih0 := spec_l1Rising.mono_l k
  ·intro y0 y1 y2 y3
   unfold spec_l1Rising.l0
   repeat' with_reducible first | exact ih0 .. | exact LeO.refl .. | exact LeO.none .. | refine LeO.ite ?_ ?_ | refine LeO.bind ?_ (fun _ => ?_)
theorem spec_l1Rising.mono : ∀ a0 a1 a2 k, LeO (spec_l1Rising.f k a0 a1 a2) (spec_l1Rising.f (k + 1) a0 a1 a2) := by
 intro a0 a1 a2 k
 have ih0 := spec_l1Rising.mono_l k
 unfold spec_l1Rising.f
 repeat' with_reducible first | exact ih0 .. | exact LeO.refl .. | exact LeO.none .. | refine LeO.ite ?_ ?_ | refine LeO.bind ?_ (fun _ => ?_)
theorem spec_l1Rising.calls (k : Nat) (A0 : Option Addr) (c0 : Nat) (l0 : List Int) (a1 : Int) (a2 : Int) (r : Bool) (w : World) (hr0 : Kd.C (Kd.int .i64) w A0 l0.length l0) (hc0 : l0.length ≤ c0) (h : spec_l1Rising.f k l0 a1 a2 = some r) :
  Calls Tryd.prog 90 #[.slice A0 l0.length c0, .int .i64 a1, .int .i64 a2] w fun e w' => e = .returned (.bool r) ∧ Drawn0 w w' := by
 have HR0 := A0_ hr0
 have HC0 := A0_ hc0
 clear hr0 hc0
 have H : (spec_l1Rising.l0 k l0 a1 a2 0) = some r := h
 clear h
 have H' := A0_ H
 clear H
 go_enter Tryd.func90, Tryd.ntmps90
 go_wp2
 repeat (go_quiet (fail); try go_wp2)
 go_loopg [7] k (fun kq v1 w' => ∃ (x7_1 : Int), v1 = .int .i64 x7_1 ∧ Aside0 (spec_l1Rising.l0 kq l0 a1 a2 x7_1 = some r) ∧ Aside0 (kq ≤ k) ∧ Drawn0 w w')
 case atStart => exact ⟨(0), b2ew_, H', ⟨Nat.le_refl _⟩, boaj_⟩
 clear H'
 obtain ⟨x7_1, rfl, HA, HK1, ⟨m1, rfl⟩⟩ := hrel
 cases gk with | zero => exact absurd HA.out (by simp [spec_l1Rising.l0]) | succ k1 => ?_
 have H := HA.out
 clear HA
 simp only [spec_l1Rising.l0] at H
 by_cases c1 : x7_1 < (l0.length : Int)
 case neg =>
  rw [if_neg c1] at H
  have c1b0 : decide (x7_1 < (l0.length : Int)) = false := decide_eq_false c1
  clear c1
  obtain rfl := si_ H
  go_wp2
  repeat (go_quiet (fail); try go_wp2)
  go_ret
  exact ⟨b04z_, boaj_⟩
 rw [if_pos c1] at H
 have c1b0 : decide (x7_1 < (l0.length : Int)) = true := dt_ c1
 clear c1
 by_cases c2 : 0 ≤ x7_1
 case neg =>
  rw [if_neg c2] at H
  exact absurd H bxka_
 rw [if_pos c2] at H
 have c2b0 : decide (0 ≤ x7_1) = true := dt_ c2
 clear c2
 obtain ⟨t1, A2, H⟩ := o1_ H
 by_cases c3 : t1 = true
 case neg =>
  obtain rfl := bf_.mpr c3
  rw [if_neg ft_] at H
  obtain rfl := si_ H
  have p1 : 0 ≤ (x7_1 : Int) := od_ bpil_
  have q1 : x7_1 < (l0.length : Int) := od_ bpil_
  obtain ⟨ad1, e1, hx1_0⟩ := Kd.at_int HR0.out x7_1 p1 q1
  cases e1
  replace p1 := eq_true p1
  replace q1 := eq_true q1
  go_wp2_with (first | (go_at_call 65; (with_reducible refine (spec_l1In.calls (rd l0 x7_1) a1 a2 false _ A2.out).mono ?_); rintro e w' ⟨rfl, ⟨nd, rfl⟩⟩; (try first | exact ⟨rfl, _, World.drewN_drewN _ _ _⟩ | exact ⟨rfl, _, Eq.trans (World.drewN_drewN _ _ _) (congrArg (World.drewN _) (Nat.add_assoc _ _ _))⟩)))
  repeat (go_quiet (first | (go_at_call 65; (with_reducible refine (spec_l1In.calls (rd l0 x7_1) a1 a2 false _ A2.out).mono ?_); rintro e w' ⟨rfl, ⟨nd, rfl⟩⟩; (try first | exact ⟨rfl, _, World.drewN_drewN _ _ _⟩ | exact ⟨rfl, _, Eq.trans (World.drewN_drewN _ _ _) (congrArg (World.drewN _) (Nat.add_assoc _ _ _))⟩))); try go_wp2_with (first | (go_at_call 65; (with_reducible refine (spec_l1In.calls (rd l0 x7_1) a1 a2 false _ A2.out).mono ?_); rintro e w' ⟨rfl, ⟨nd, rfl⟩⟩; (try first | exact ⟨rfl, _, World.drewN_drewN _ _ _⟩ | exact ⟨rfl, _, Eq.trans (World.drewN_drewN _ _ _) (congrArg (World.drewN _) (Nat.add_assoc _ _ _))⟩))))
  go_ret
  exact ⟨b04z_, boaj_⟩
 subst c3
 rw [if_pos rfl] at H
 by_cases c4 : x7_1 > 0
 case neg =>
  rw [if_neg c4] at H
  have c4b0 : decide (0 < x7_1) = false := decide_eq_false c4
  clear c4
  have H' := A0_ H
  clear H
  have p1 : 0 ≤ (x7_1 : Int) := od_ bpil_
  have q1 : x7_1 < (l0.length : Int) := od_ bpil_
  obtain ⟨ad1, e1, hx1_0⟩ := Kd.at_int HR0.out x7_1 p1 q1
  cases e1
  replace p1 := eq_true p1
  replace q1 := eq_true q1
  go_wp2_with (first | (go_at_call 65; (with_reducible refine (spec_l1In.calls (rd l0 x7_1) a1 a2 true _ A2.out).mono ?_); rintro e w' ⟨rfl, ⟨nd, rfl⟩⟩; (try first | exact ⟨rfl, _, World.drewN_drewN _ _ _⟩ | exact ⟨rfl, _, Eq.trans (World.drewN_drewN _ _ _) (congrArg (World.drewN _) (Nat.add_assoc _ _ _))⟩)))
  repeat (go_quiet (first | (go_at_call 65; (with_reducible refine (spec_l1In.calls (rd l0 x7_1) a1 a2 true _ A2.out).mono ?_); rintro e w' ⟨rfl, ⟨nd, rfl⟩⟩; (try first | exact ⟨rfl, _, World.drewN_drewN _ _ _⟩ | exact ⟨rfl, _, Eq.trans (World.drewN_drewN _ _ _) (congrArg (World.drewN _) (Nat.add_assoc _ _ _))⟩))); try go_wp2_with (first | (go_at_call 65; (with_reducible refine (spec_l1In.calls (rd l0 x7_1) a1 a2 true _ A2.out).mono ?_); rintro e w' ⟨rfl, ⟨nd, rfl⟩⟩; (try first | exact ⟨rfl, _, World.drewN_drewN _ _ _⟩ | exact ⟨rfl, _, Eq.trans (World.drewN_drewN _ _ _) (congrArg (World.drewN _) (Nat.add_assoc _ _ _))⟩))))
  go_roundg k1
  case measure => have := HK1.out; omega
  exact ⟨(wrap64 (x7_1 + 1)), b2ew_, H', ⟨bxjq_⟩, boaj_⟩
 rw [if_pos c4] at H
 have c4b0 : decide (0 < x7_1) = true := dt_ c4
 clear c4
 obtain ⟨ji1, hji1⟩ : ∃ j_ : Int, (wrap64 (x7_1 - 1)) = j_ := ⟨_, rfl⟩
 replace H : (if 0 ≤ (ji1) then (if (ji1) < (l0.length : Int) then (if (rd l0 (ji1)) ≥ (rd l0 x7_1) then (some false) else (spec_l1Rising.l0 k1 l0 a1 a2 (wrap64 (x7_1 + 1)))) else (none)) else (none)) = some r := bmns_
 (try rw [hji1] at A2)
 have hji9w : (IntKind.i64.wrap (x7_1 - 1)) = ji1 := (i64_w _).trans hji1
 by_cases c5 : 0 ≤ (ji1)
 case neg =>
  rw [if_neg c5] at H
  exact absurd H bxka_
 rw [if_pos c5] at H
 have c5b0 : decide (0 ≤ (ji1)) = true := dt_ c5
 clear c5
 by_cases c6 : (ji1) < (l0.length : Int)
 case neg =>
  rw [if_neg c6] at H
  exact absurd H bxka_
 rw [if_pos c6] at H
 have c6b0 : decide ((ji1) < (l0.length : Int)) = true := dt_ c6
 clear c6
 by_cases c7 : (rd l0 (ji1)) ≥ (rd l0 x7_1)
 ·rw [if_pos c7] at H
  have c7b0 : decide ((rd l0 x7_1) ≤ (rd l0 (ji1))) = true := dt_ c7
  clear c7
  obtain rfl := si_ H
  have p1 : 0 ≤ (x7_1 : Int) := od_ bpil_
  have q1 : x7_1 < (l0.length : Int) := od_ bpil_
  obtain ⟨ad1, e1, hx1_0⟩ := Kd.at_int HR0.out x7_1 p1 q1
  cases e1
  replace p1 := eq_true p1
  replace q1 := eq_true q1
  go_wp2_with (first | (go_at_call 65; (with_reducible refine (spec_l1In.calls (rd l0 x7_1) a1 a2 true _ A2.out).mono ?_); rintro e w' ⟨rfl, ⟨nd, rfl⟩⟩; (try first | exact ⟨rfl, _, World.drewN_drewN _ _ _⟩ | exact ⟨rfl, _, Eq.trans (World.drewN_drewN _ _ _) (congrArg (World.drewN _) (Nat.add_assoc _ _ _))⟩); have p2 : 0 ≤ ((ji1) : Int) := od_ bpil_; have q2 : (ji1) < (l0.length : Int) := od_ bpil_; obtain ⟨ad2, e2, hx2_0⟩ := Kd.at_int HR0.out (ji1) p2 q2; obtain rfl : ad1 = ad2 := bs6y_; replace p2 := eq_true p2; replace q2 := eq_true q2; have p3 : 0 ≤ (x7_1 : Int) := od_ bpil_; have q3 : x7_1 < (l0.length : Int) := od_ bpil_; obtain ⟨ad3, e3, hx3_0⟩ := Kd.at_int HR0.out x7_1 p3 q3; obtain rfl : ad1 = ad3 := (by injection e3); replace p3 := eq_true p3; replace q3 := eq_true q3))
  repeat (go_quiet (first | (go_at_call 65; (with_reducible refine (spec_l1In.calls (rd l0 x7_1) a1 a2 true _ A2.out).mono ?_); rintro e w' ⟨rfl, ⟨nd, rfl⟩⟩; (try first | exact ⟨rfl, _, World.drewN_drewN _ _ _⟩ | exact ⟨rfl, _, Eq.trans (World.drewN_drewN _ _ _) (congrArg (World.drewN _) (Nat.add_assoc _ _ _))⟩); have p2 : 0 ≤ ((ji1) : Int) := od_ bpil_; have q2 : (ji1) < (l0.length : Int) := od_ bpil_; obtain ⟨ad2, e2, hx2_0⟩ := Kd.at_int HR0.out (ji1) p2 q2; obtain rfl : ad1 = ad2 := bs6y_; replace p2 := eq_true p2; replace q2 := eq_true q2; have p3 : 0 ≤ (x7_1 : Int) := od_ bpil_; have q3 : x7_1 < (l0.length : Int) := od_ bpil_; obtain ⟨ad3, e3, hx3_0⟩ := Kd.at_int HR0.out x7_1 p3 q3; obtain rfl : ad1 = ad3 := (by injection e3); replace p3 := eq_true p3; replace q3 := eq_true q3)); try go_wp2_with (first | (go_at_call 65; (with_reducible refine (spec_l1In.calls (rd l0 x7_1) a1 a2 true _ A2.out).mono ?_); rintro e w' ⟨rfl, ⟨nd, rfl⟩⟩; (try first | exact ⟨rfl, _, World.drewN_drewN _ _ _⟩ | exact ⟨rfl, _, Eq.trans (World.drewN_drewN _ _ _) (congrArg (World.drewN _) (Nat.add_assoc _ _ _))⟩); have p2 : 0 ≤ ((ji1) : Int) := od_ bpil_; have q2 : (ji1) < (l0.length : Int) := od_ bpil_; obtain ⟨ad2, e2, hx2_0⟩ := Kd.at_int HR0.out (ji1) p2 q2; obtain rfl : ad1 = ad2 := bs6y_; replace p2 := eq_true p2; replace q2 := eq_true q2; have p3 : 0 ≤ (x7_1 : Int) := od_ bpil_; have q3 : x7_1 < (l0.length : Int) := od_ bpil_; obtain ⟨ad3, e3, hx3_0⟩ := Kd.at_int HR0.out x7_1 p3 q3; obtain rfl : ad1 = ad3 := (by injection e3); replace p3 := eq_true p3; replace q3 := eq_true q3)))
  go_ret
  exact ⟨b1tc_, boaj_⟩
 rw [if_neg c7] at H
 have c7b0 : decide ((rd l0 x7_1) ≤ (rd l0 (ji1))) = false := decide_eq_false c7
 clear c7
 have H' := A0_ H
 clear H
 have p1 : 0 ≤ (x7_1 : Int) := od_ bpil_
 have q1 : x7_1 < (l0.length : Int) := od_ bpil_
 obtain ⟨ad1, e1, hx1_0⟩ := Kd.at_int HR0.out x7_1 p1 q1
 cases e1
 replace p1 := eq_true p1
 replace q1 := eq_true q1
 go_wp2_with (first | (go_at_call 65; (with_reducible refine (spec_l1In.calls (rd l0 x7_1) a1 a2 true _ A2.out).mono ?_); rintro e w' ⟨rfl, ⟨nd, rfl⟩⟩; (try first | exact ⟨rfl, _, World.drewN_drewN _ _ _⟩ | exact ⟨rfl, _, Eq.trans (World.drewN_drewN _ _ _) (congrArg (World.drewN _) (Nat.add_assoc _ _ _))⟩); have p2 : 0 ≤ ((ji1) : Int) := od_ bpil_; have q2 : (ji1) < (l0.length : Int) := od_ bpil_; obtain ⟨ad2, e2, hx2_0⟩ := Kd.at_int HR0.out (ji1) p2 q2; obtain rfl : ad1 = ad2 := bs6y_; replace p2 := eq_true p2; replace q2 := eq_true q2; have p3 : 0 ≤ (x7_1 : Int) := od_ bpil_; have q3 : x7_1 < (l0.length : Int) := od_ bpil_; obtain ⟨ad3, e3, hx3_0⟩ := Kd.at_int HR0.out x7_1 p3 q3; obtain rfl : ad1 = ad3 := (by injection e3); replace p3 := eq_true p3; replace q3 := eq_true q3))
 repeat (go_quiet (first | (go_at_call 65; (with_reducible refine (spec_l1In.calls (rd l0 x7_1) a1 a2 true _ A2.out).mono ?_); rintro e w' ⟨rfl, ⟨nd, rfl⟩⟩; (try first | exact ⟨rfl, _, World.drewN_drewN _ _ _⟩ | exact ⟨rfl, _, Eq.trans (World.drewN_drewN _ _ _) (congrArg (World.drewN _) (Nat.add_assoc _ _ _))⟩); have p2 : 0 ≤ ((ji1) : Int) := od_ bpil_; have q2 : (ji1) < (l0.length : Int) := od_ bpil_; obtain ⟨ad2, e2, hx2_0⟩ := Kd.at_int HR0.out (ji1) p2 q2; obtain rfl : ad1 = ad2 := bs6y_; replace p2 := eq_true p2; replace q2 := eq_true q2; have p3 : 0 ≤ (x7_1 : Int) := od_ bpil_; have q3 : x7_1 < (l0.length : Int) := od_ bpil_; obtain ⟨ad3, e3, hx3_0⟩ := Kd.at_int HR0.out x7_1 p3 q3; obtain rfl : ad1 = ad3 := (by injection e3); replace p3 := eq_true p3; replace q3 := eq_true q3)); try go_wp2_with (first | (go_at_call 65; (with_reducible refine (spec_l1In.calls (rd l0 x7_1) a1 a2 true _ A2.out).mono ?_); rintro e w' ⟨rfl, ⟨nd, rfl⟩⟩; (try first | exact ⟨rfl, _, World.drewN_drewN _ _ _⟩ | exact ⟨rfl, _, Eq.trans (World.drewN_drewN _ _ _) (congrArg (World.drewN _) (Nat.add_assoc _ _ _))⟩); have p2 : 0 ≤ ((ji1) : Int) := od_ bpil_; have q2 : (ji1) < (l0.length : Int) := od_ bpil_; obtain ⟨ad2, e2, hx2_0⟩ := Kd.at_int HR0.out (ji1) p2 q2; obtain rfl : ad1 = ad2 := bs6y_; replace p2 := eq_true p2; replace q2 := eq_true q2; have p3 : 0 ≤ (x7_1 : Int) := od_ bpil_; have q3 : x7_1 < (l0.length : Int) := od_ bpil_; obtain ⟨ad3, e3, hx3_0⟩ := Kd.at_int HR0.out x7_1 p3 q3; obtain rfl : ad1 = ad3 := (by injection e3); replace p3 := eq_true p3; replace q3 := eq_true q3)))
 go_roundg k1
 case measure => have := HK1.out; omega
 exact ⟨(wrap64 (x7_1 + 1)), b2ew_, H', ⟨bxjq_⟩, boaj_⟩

def spec_l2Row.f (k : Nat) (a0_0 : Int) (a0_1 : Bool) (l0_2 : List Int) : Option (Bool) := (spec_l1In.f a0_0 2 24).bind fun t106 => (if t106 = true then (if a0_1 = true then (if a0_0 > 2 then ((spec_l1Rising.f k l0_2 0 (wrap64 (a0_0 - 1))).bind fun t107 => (some t107)) else (some false)) else ((spec_l1Rising.f k l0_2 0 (wrap64 (a0_0 - 1))).bind fun t108 => (some t108))) else (some false))
theorem spec_l2Row.mono : ∀ a0 a1 a2 k, LeO (spec_l2Row.f k a0 a1 a2) (spec_l2Row.f (k + 1) a0 a1 a2) := by
 intro a0 a1 a2 k
 unfold spec_l2Row.f
 repeat' with_reducible first | exact spec_l1Rising.mono .. | exact LeO.refl .. | exact LeO.none .. | refine LeO.ite ?_ ?_ | refine LeO.bind ?_ (fun _ => ?_)
theorem spec_l2Row.calls (k : Nat) (a0_0 : Int) (a0_1 : Bool) (A0_2 : Option Addr) (c0_2 : Nat) (l0_2 : List Int) (r : Bool) (w : World) (hr0_2 : Kd.C (Kd.int .i64) w A0_2 l0_2.length l0_2) (hc0_2 : l0_2.length ≤ c0_2) (h : spec_l2Row.f k a0_0 a0_1 l0_2 = some r) :
  Calls Tryd.prog 81 #[.agg #[.int .i64 a0_0, .bool a0_1, .slice A0_2 l0_2.length c0_2]] w fun e w' => e = .returned (.bool r) ∧ Below w.heap.size w w' := by
 have hu28 := Tryd.underlying28
 have HR0_2 := A0_ hr0_2
 have HC0_2 := A0_ hc0_2
 clear hr0_2 hc0_2
 have HB := A0_ (Below.refl w.heap.size w)
 have H : ((spec_l1In.f a0_0 2 24).bind fun t1 => (if t1 = true then (if a0_1 = true then (if a0_0 > 2 then ((spec_l1Rising.f k l0_2 0 (wrap64 (a0_0 - 1))).bind fun t2 => (some t2)) else (some false)) else ((spec_l1Rising.f k l0_2 0 (wrap64 (a0_0 - 1))).bind fun t3 => (some t3))) else (some false))) = some r := h
 clear h
 obtain ⟨t1, A2, H⟩ := o1_ H
 by_cases c1 : t1 = true
 case neg =>
  obtain rfl := bf_.mpr c1
  rw [if_neg ft_] at H
  obtain rfl := si_ H
  go_enter Tryd.func81, Tryd.ntmps81
  go_wp2_with (first | ((with_reducible refine gd_ (N := 1) rfl ?_); refine bx_ 1 #[.int .i64 a0_0, .bool a0_1, .slice A0_2 l0_2.length c0_2] 28 ?_; intro gb1 hg w1 BK1 hb; have GW1 := ge_ hg brt4_; have GE1 := GW1; replace HB := hb_ hb brt4_; clear hb hg; have hcz1 := c3_ BK1) | ((with_reducible refine gc_ (f := 65) rfl ?_); refine gl_ 5 Tryd.func65 #[.int .i64 a0_0, .int .i64 2, .int .i64 24] ?_; (with_reducible refine (spec_l1In.calls a0_0 2 24 false _ A2.out).mono ?_); rintro e w' ⟨rfl, ⟨nd, rfl⟩⟩; refine ⟨_, rfl, ?_⟩))
  go_ret
  exact ⟨bnwh_, be6g_⟩
 subst c1
 rw [if_pos rfl] at H
 by_cases c2 : a0_1 = true
 case neg =>
  obtain rfl := bf_.mpr c2
  rw [if_neg ft_] at H
  obtain ⟨t3, A4, H⟩ := o1_ H
  replace H : (some t3) = some r := H
  obtain rfl := si_ H
  go_enter Tryd.func81, Tryd.ntmps81
  go_wp2_with (first | ((with_reducible refine gd_ (N := 1) rfl ?_); refine bx_ 1 #[.int .i64 a0_0, .bool false, .slice A0_2 l0_2.length c0_2] 28 ?_; intro gb1 hg w1 BK1 hb; have GW1 := ge_ hg brt4_; have GE1 := GW1; replace HB := hb_ hb brt4_; clear hb hg; have hcz1 := c3_ BK1) | ((with_reducible refine gc_ (f := 65) rfl ?_); refine gl_ 5 Tryd.func65 #[.int .i64 a0_0, .int .i64 2, .int .i64 24] ?_; (with_reducible refine (spec_l1In.calls a0_0 2 24 true _ A2.out).mono ?_); rintro e w' ⟨rfl, ⟨nd, rfl⟩⟩; refine ⟨_, rfl, ?_⟩) | (go_at_call 90; (with_reducible refine (spec_l1Rising.calls k _ _ l0_2 0 (wrap64 (a0_0 - 1)) t3 _ ?side1 ?side2 A4.out).mono ?_); (case side1 => exact b83h_); (case side2 => exact HC0_2.out); rintro e w' ⟨rfl, ⟨nd, rfl⟩⟩))
  go_ret
  exact ⟨bnwh_, be6g_⟩
 subst c2
 rw [if_pos rfl] at H
 by_cases c3 : a0_0 > 2
 case neg =>
  rw [if_neg c3] at H
  have c3b0 : decide (2 < a0_0) = false := decide_eq_false c3
  clear c3
  obtain rfl := si_ H
  go_enter Tryd.func81, Tryd.ntmps81
  go_wp2_with (first | ((with_reducible refine gd_ (N := 1) rfl ?_); refine bx_ 1 #[.int .i64 a0_0, .bool true, .slice A0_2 l0_2.length c0_2] 28 ?_; intro gb1 hg w1 BK1 hb; have GW1 := ge_ hg brt4_; have GE1 := GW1; replace HB := hb_ hb brt4_; clear hb hg; have hcz1 := c3_ BK1) | ((with_reducible refine gc_ (f := 65) rfl ?_); refine gl_ 5 Tryd.func65 #[.int .i64 a0_0, .int .i64 2, .int .i64 24] ?_; (with_reducible refine (spec_l1In.calls a0_0 2 24 true _ A2.out).mono ?_); rintro e w' ⟨rfl, ⟨nd, rfl⟩⟩; refine ⟨_, rfl, ?_⟩))
  go_ret
  exact ⟨bnwh_, be6g_⟩
 rw [if_pos c3] at H
 have c3b0 : decide (2 < a0_0) = true := dt_ c3
 clear c3
 obtain ⟨t2, A4, H⟩ := o1_ H
 replace H : (some t2) = some r := H
 obtain rfl := si_ H
 go_enter Tryd.func81, Tryd.ntmps81
 go_wp2_with (first | ((with_reducible refine gd_ (N := 1) rfl ?_); refine bx_ 1 #[.int .i64 a0_0, .bool true, .slice A0_2 l0_2.length c0_2] 28 ?_; intro gb1 hg w1 BK1 hb; have GW1 := ge_ hg brt4_; have GE1 := GW1; replace HB := hb_ hb brt4_; clear hb hg; have hcz1 := c3_ BK1) | ((with_reducible refine gc_ (f := 65) rfl ?_); refine gl_ 5 Tryd.func65 #[.int .i64 a0_0, .int .i64 2, .int .i64 24] ?_; (with_reducible refine (spec_l1In.calls a0_0 2 24 true _ A2.out).mono ?_); rintro e w' ⟨rfl, ⟨nd, rfl⟩⟩; refine ⟨_, rfl, ?_⟩) | (go_at_call 90; (with_reducible refine (spec_l1Rising.calls k _ _ l0_2 0 (wrap64 (a0_0 - 1)) t2 _ ?side1 ?side2 A4.out).mono ?_); (case side1 => exact b83h_); (case side2 => exact HC0_2.out); rintro e w' ⟨rfl, ⟨nd, rfl⟩⟩))
 go_ret
 exact ⟨bnwh_, be6g_⟩

def spec_l10Line.f (k : Nat) (a0_0 : Int) (a0_1 : Bool) (l0_2 : List Int) : Option (Bool) := (spec_l2Row.f k a0_0 a0_1 l0_2).bind fun t110 => (if t110 = true then (some (!a0_1)) else (some false))
theorem spec_l10Line.mono : ∀ a0 a1 a2 k, LeO (spec_l10Line.f k a0 a1 a2) (spec_l10Line.f (k + 1) a0 a1 a2) := by
 intro a0 a1 a2 k
 unfold spec_l10Line.f
 repeat' with_reducible first | exact spec_l2Row.mono .. | exact LeO.refl .. | exact LeO.none .. | refine LeO.ite ?_ ?_ | refine LeO.bind ?_ (fun _ => ?_)
theorem spec_l10Line.calls (k : Nat) (a0_0 : Int) (a0_1 : Bool) (A0_2 : Option Addr) (c0_2 : Nat) (l0_2 : List Int) (r : Bool) (w : World) (hr0_2 : Kd.C (Kd.int .i64) w A0_2 l0_2.length l0_2) (hc0_2 : l0_2.length ≤ c0_2) (h : spec_l10Line.f k a0_0 a0_1 l0_2 = some r) :
  Calls Tryd.prog 56 #[.agg #[.int .i64 a0_0, .bool a0_1, .slice A0_2 l0_2.length c0_2]] w fun e w' => e = .returned (.bool r) ∧ Below w.heap.size w w' := by
 have hu28 := Tryd.underlying28
 have HR0_2 := A0_ hr0_2
 have HC0_2 := A0_ hc0_2
 clear hr0_2 hc0_2
 have HB := A0_ (Below.refl w.heap.size w)
 have H : ((spec_l2Row.f k a0_0 a0_1 l0_2).bind fun t1 => (if t1 = true then (some (!a0_1)) else (some false))) = some r := h
 clear h
 obtain ⟨t1, A2, H⟩ := o1_ H
 by_cases c1 : t1 = true
 case neg =>
  obtain rfl := bf_.mpr c1
  rw [if_neg ft_] at H
  obtain rfl := si_ H
  go_enter Tryd.func56, Tryd.ntmps56
  go_wp2_with (first | ((with_reducible refine gd_ (N := 1) rfl ?_); refine bx_ 1 #[.int .i64 a0_0, .bool a0_1, .slice A0_2 l0_2.length c0_2] 28 ?_; intro gb1 hg w1 BK1 hb; have GW1 := ge_ hg brt4_; have GE1 := GW1; replace HB := hb_ hb brt4_; clear hb hg; have hcz1 := c3_ BK1) | ((with_reducible refine gc_ (f := 81) rfl ?_); refine gl_ 4 Tryd.func81 #[.agg #[.int .i64 a0_0, .bool a0_1, .slice A0_2 l0_2.length c0_2]] ?_; (with_reducible refine (spec_l2Row.calls k a0_0 a0_1 _ _ l0_2 false _ ?side1 ?side2 A2.out).mono ?_); (case side1 => exact b6n8_); (case side2 => exact HC0_2.out); rintro e w2 ⟨rfl, hb⟩; refine ⟨_, rfl, ?_⟩; replace BK1 := k1_ BK1 hb; replace HB := hb_ hb be6g_; (try clear hb)))
  go_ret
  exact ⟨bnwh_, be6g_⟩
 subst c1
 rw [if_pos rfl] at H
 obtain rfl := si_ H
 go_enter Tryd.func56, Tryd.ntmps56
 go_wp2_with (first | ((with_reducible refine gd_ (N := 1) rfl ?_); refine bx_ 1 #[.int .i64 a0_0, .bool a0_1, .slice A0_2 l0_2.length c0_2] 28 ?_; intro gb1 hg w1 BK1 hb; have GW1 := ge_ hg brt4_; have GE1 := GW1; replace HB := hb_ hb brt4_; clear hb hg; have hcz1 := c3_ BK1) | ((with_reducible refine gc_ (f := 81) rfl ?_); refine gl_ 4 Tryd.func81 #[.agg #[.int .i64 a0_0, .bool a0_1, .slice A0_2 l0_2.length c0_2]] ?_; (with_reducible refine (spec_l2Row.calls k a0_0 a0_1 _ _ l0_2 true _ ?side1 ?side2 A2.out).mono ?_); (case side1 => exact b6n8_); (case side2 => exact HC0_2.out); rintro e w2 ⟨rfl, hb⟩; refine ⟨_, rfl, ?_⟩; replace BK1 := k1_ BK1 hb; replace HB := hb_ hb be6g_; (try clear hb); have hcz2 := c3_ BK1))
 go_ret
 exact ⟨bnwh_, be6g_⟩

def spec_l10Full.f (k : Nat) (a0_0 : Int) (a0_1 : Bool) (l0_2 : List Int) : Option (Bool) := (spec_l10Line.f k a0_0 a0_1 l0_2).bind fun t112 => (if t112 = true then (some (decide ((wrap64 (a0_0 - (l0_2.length : Int))) ≤ 10))) else (some false))
theorem spec_l10Full.mono : ∀ a0 a1 a2 k, LeO (spec_l10Full.f k a0 a1 a2) (spec_l10Full.f (k + 1) a0 a1 a2) := by
 intro a0 a1 a2 k
 unfold spec_l10Full.f
 repeat' with_reducible first | exact spec_l10Line.mono .. | exact LeO.refl .. | exact LeO.none .. | refine LeO.ite ?_ ?_ | refine LeO.bind ?_ (fun _ => ?_)
theorem spec_l10Full.calls (k : Nat) (a0_0 : Int) (a0_1 : Bool) (A0_2 : Option Addr) (c0_2 : Nat) (l0_2 : List Int) (r : Bool) (w : World) (hr0_2 : Kd.C (Kd.int .i64) w A0_2 l0_2.length l0_2) (hc0_2 : l0_2.length ≤ c0_2) (h : spec_l10Full.f k a0_0 a0_1 l0_2 = some r) :
  Calls Tryd.prog 36 #[.agg #[.int .i64 a0_0, .bool a0_1, .slice A0_2 l0_2.length c0_2]] w fun e w' => e = .returned (.bool r) ∧ Below w.heap.size w w' := by
 have hu28 := Tryd.underlying28
 have HR0_2 := A0_ hr0_2
 have HC0_2 := A0_ hc0_2
 clear hr0_2 hc0_2
 have HB := A0_ (Below.refl w.heap.size w)
 have H : ((spec_l10Line.f k a0_0 a0_1 l0_2).bind fun t1 => (if t1 = true then (some (decide ((wrap64 (a0_0 - (l0_2.length : Int))) ≤ 10))) else (some false))) = some r := h
 clear h
 obtain ⟨t1, A2, H⟩ := o1_ H
 by_cases c1 : t1 = true
 case neg =>
  obtain rfl := bf_.mpr c1
  rw [if_neg ft_] at H
  obtain rfl := si_ H
  go_enter Tryd.func36, Tryd.ntmps36
  go_wp2_with (first | ((with_reducible refine gd_ (N := 1) rfl ?_); (try (refine gate_guard b139_ ?_; dsimp only)); refine bx_ 1 #[.int .i64 a0_0, .bool a0_1, .slice A0_2 l0_2.length c0_2] 28 ?_; intro gb1 hg w1 BK1 hb; have GW1 := ge_ hg brt4_; have GE1 := GW1; replace HB := hb_ hb brt4_; clear hb hg; have hcz1 := c3_ BK1) | ((with_reducible refine gc_ (f := 56) rfl ?_); refine gl_ 4 Tryd.func56 #[.agg #[.int .i64 a0_0, .bool a0_1, .slice A0_2 l0_2.length c0_2]] ?_; (with_reducible refine (spec_l10Line.calls k a0_0 a0_1 _ _ l0_2 false _ ?side1 ?side2 A2.out).mono ?_); (case side1 => exact b6n8_); (case side2 => exact HC0_2.out); rintro e w2 ⟨rfl, hb⟩; refine ⟨_, rfl, ?_⟩; replace BK1 := k1_ BK1 hb; replace HB := hb_ hb be6g_; (try clear hb)))
  go_ret
  exact ⟨bnwh_, be6g_⟩
 subst c1
 rw [if_pos rfl] at H
 obtain rfl := si_ H
 go_enter Tryd.func36, Tryd.ntmps36
 go_wp2_with (first | ((with_reducible refine gd_ (N := 1) rfl ?_); (try (refine gate_guard b139_ ?_; dsimp only)); refine bx_ 1 #[.int .i64 a0_0, .bool a0_1, .slice A0_2 l0_2.length c0_2] 28 ?_; intro gb1 hg w1 BK1 hb; have GW1 := ge_ hg brt4_; have GE1 := GW1; replace HB := hb_ hb brt4_; clear hb hg; have hcz1 := c3_ BK1) | ((with_reducible refine gc_ (f := 56) rfl ?_); refine gl_ 4 Tryd.func56 #[.agg #[.int .i64 a0_0, .bool a0_1, .slice A0_2 l0_2.length c0_2]] ?_; (with_reducible refine (spec_l10Line.calls k a0_0 a0_1 _ _ l0_2 true _ ?side1 ?side2 A2.out).mono ?_); (case side1 => exact b6n8_); (case side2 => exact HC0_2.out); rintro e w2 ⟨rfl, hb⟩; refine ⟨_, rfl, ?_⟩; replace BK1 := k1_ BK1 hb; replace HB := hb_ hb be6g_; (try clear hb); have hcz2 := c3_ BK1))
 go_ret
 exact ⟨bnwh_, be6g_⟩

def spec_l1Has.l0 : Nat → List Int → Int → Int → Option (Bool)
 | 0, _, _, _ => none
 | k + 1, x0, x1, x5 => if x5 < (x0.length : Int) then (if 0 ≤ x5 then (if (rd x0 x5) = x1 then (some true) else (spec_l1Has.l0 k x0 x1 (wrap64 (x5 + 1)))) else (none)) else (some false)
def spec_l1Has.f (k : Nat) (l0 : List Int) (a1 : Int) : Option (Bool) := spec_l1Has.l0 k l0 a1 0
theorem spec_l1Has.mono_l : ∀ k, (∀ y0 y1 y2, LeO (spec_l1Has.l0 k y0 y1 y2) (spec_l1Has.l0 (k + 1) y0 y1 y2))
 | 0 => fun _ _ _ r h => by simp [spec_l1Has.l0] at h
 | k + 1 => by
  have ih0 := spec_l1Has.mono_l k
  ·intro y0 y1 y2
   unfold spec_l1Has.l0
   repeat' with_reducible first | exact ih0 .. | exact LeO.refl .. | exact LeO.none .. | refine LeO.ite ?_ ?_ | refine LeO.bind ?_ (fun _ => ?_)
theorem spec_l1Has.mono : ∀ a0 a1 k, LeO (spec_l1Has.f k a0 a1) (spec_l1Has.f (k + 1) a0 a1) := by
 intro a0 a1 k
 have ih0 := spec_l1Has.mono_l k
 unfold spec_l1Has.f
 repeat' with_reducible first | exact ih0 .. | exact LeO.refl .. | exact LeO.none .. | refine LeO.ite ?_ ?_ | refine LeO.bind ?_ (fun _ => ?_)
theorem spec_l1Has.calls (k : Nat) (A0 : Option Addr) (c0 : Nat) (l0 : List Int) (a1 : Int) (r : Bool) (w : World) (hr0 : Kd.C (Kd.int .i64) w A0 l0.length l0) (hc0 : l0.length ≤ c0) (h : spec_l1Has.f k l0 a1 = some r) :
  Calls Tryd.prog 62 #[.slice A0 l0.length c0, .int .i64 a1] w fun e w' => e = .returned (.bool r) ∧ Drawn0 w w' := by
 have HR0 := A0_ hr0
 have HC0 := A0_ hc0
 clear hr0 hc0
 have H : (spec_l1Has.l0 k l0 a1 0) = some r := h
 clear h
 have H' := A0_ H
 clear H
 go_enter Tryd.func62, Tryd.ntmps62
 go_wp2
 go_loopg [5] k (fun kq v1 w' => ∃ (x5_1 : Int), v1 = .int .i64 x5_1 ∧ Aside0 (spec_l1Has.l0 kq l0 a1 x5_1 = some r) ∧ Aside0 (kq ≤ k) ∧ Drawn0 w w')
 case atStart => exact ⟨(0), b2ew_, H', ⟨Nat.le_refl _⟩, boaj_⟩
 clear H'
 obtain ⟨x5_1, rfl, HA, HK1, ⟨m1, rfl⟩⟩ := hrel
 cases gk with | zero => exact absurd HA.out (by simp [spec_l1Has.l0]) | succ k1 => ?_
 have H := HA.out
 clear HA
 simp only [spec_l1Has.l0] at H
 by_cases c1 : x5_1 < (l0.length : Int)
 case neg =>
  rw [if_neg c1] at H
  have c1b0 : decide (x5_1 < (l0.length : Int)) = false := decide_eq_false c1
  clear c1
  obtain rfl := si_ H
  go_wp2
  go_ret
  exact ⟨b04z_, boaj_⟩
 rw [if_pos c1] at H
 have c1b0 : decide (x5_1 < (l0.length : Int)) = true := dt_ c1
 clear c1
 by_cases c2 : 0 ≤ x5_1
 case neg =>
  rw [if_neg c2] at H
  exact absurd H bxka_
 rw [if_pos c2] at H
 have c2b0 : decide (0 ≤ x5_1) = true := dt_ c2
 clear c2
 by_cases c3 : (rd l0 x5_1) = a1
 ·rw [if_pos c3] at H
  obtain ⟨c3b0, c3b1⟩ := et_ c3
  clear c3
  obtain rfl := si_ H
  have p1 : 0 ≤ (x5_1 : Int) := od_ bpil_
  have q1 : x5_1 < (l0.length : Int) := od_ bpil_
  obtain ⟨ad1, e1, hx1_0⟩ := Kd.at_int HR0.out x5_1 p1 q1
  cases e1
  replace p1 := eq_true p1
  replace q1 := eq_true q1
  go_wp2
  go_ret
  exact ⟨b04z_, boaj_⟩
 rw [if_neg c3] at H
 obtain ⟨c3b0, c3b1⟩ := ef_ c3
 have H' := A0_ H
 clear H
 have p1 : 0 ≤ (x5_1 : Int) := od_ bpil_
 have q1 : x5_1 < (l0.length : Int) := od_ bpil_
 obtain ⟨ad1, e1, hx1_0⟩ := Kd.at_int HR0.out x5_1 p1 q1
 cases e1
 replace p1 := eq_true p1
 replace q1 := eq_true q1
 go_wp2
 go_roundg k1
 case measure => have := HK1.out; omega
 exact ⟨(wrap64 (x5_1 + 1)), b2ew_, H', ⟨bxjq_⟩, boaj_⟩

def spec_l2Is.f (k : Nat) (a0_0 : Int) (a0_1 : Bool) (l0_2 : List Int) (a1 : Int) : Option (Bool) := (spec_l1Has.f k l0_2 a1).bind fun t115 => (some t115)
theorem spec_l2Is.mono : ∀ a0 a1 a2 a3 k, LeO (spec_l2Is.f k a0 a1 a2 a3) (spec_l2Is.f (k + 1) a0 a1 a2 a3) := by
 intro a0 a1 a2 a3 k
 unfold spec_l2Is.f
 repeat' with_reducible first | exact spec_l1Has.mono .. | exact LeO.refl .. | exact LeO.none .. | refine LeO.ite ?_ ?_ | refine LeO.bind ?_ (fun _ => ?_)
theorem spec_l2Is.calls (k : Nat) (a0_0 : Int) (a0_1 : Bool) (A0_2 : Option Addr) (c0_2 : Nat) (l0_2 : List Int) (a1 : Int) (r : Bool) (w : World) (hr0_2 : Kd.C (Kd.int .i64) w A0_2 l0_2.length l0_2) (hc0_2 : l0_2.length ≤ c0_2) (h : spec_l2Is.f k a0_0 a0_1 l0_2 a1 = some r) :
  Calls Tryd.prog 69 #[.agg #[.int .i64 a0_0, .bool a0_1, .slice A0_2 l0_2.length c0_2], .int .i64 a1] w fun e w' => e = .returned (.bool r) ∧ Below w.heap.size w w' := by
 have hu28 := Tryd.underlying28
 have HR0_2 := A0_ hr0_2
 have HC0_2 := A0_ hc0_2
 clear hr0_2 hc0_2
 have HB := A0_ (Below.refl w.heap.size w)
 have H : ((spec_l1Has.f k l0_2 a1).bind fun t1 => (some t1)) = some r := h
 clear h
 obtain ⟨t1, A2, H⟩ := o1_ H
 replace H : (some t1) = some r := H
 obtain rfl := si_ H
 go_enter Tryd.func69, Tryd.ntmps69
 go_wp2_with (first | ((with_reducible refine gd_ (N := 2) rfl ?_); refine bx_ 2 #[.int .i64 a0_0, .bool a0_1, .slice A0_2 l0_2.length c0_2] 28 ?_; intro gb1 hg w1 BK1 hb; have GW1 := ge_ hg brt4_; have GE1 := GW1; replace HB := hb_ hb brt4_; clear hb hg; have hcz1 := c3_ BK1) | ((with_reducible refine gc_ (f := 62) rfl ?_); refine gl_ 8 Tryd.func62 #[.slice A0_2 l0_2.length c0_2, .int .i64 a1] ?_; (with_reducible refine (spec_l1Has.calls k _ _ l0_2 a1 t1 _ ?side1 ?side2 A2.out).mono ?_); (case side1 => exact b6n8_); (case side2 => exact HC0_2.out); rintro e w' ⟨rfl, ⟨nd, rfl⟩⟩; refine ⟨_, rfl, ?_⟩))
 go_ret
 exact ⟨bnwh_, be6g_⟩

def spec_l2Free.l0 : Nat → List Int → Int → Int → Bool → List Int → Option (List Int)
 | 0, _, _, _, _, _ => none
 | k + 1, x3, x4, x117000, x117001, x117002 => if x4 < x117000 then ((spec_l2Is.f k x117000 x117001 x117002 x4).bind fun t120 => (if t120 = true then (spec_l2Free.l0 k x3 (wrap64 (x4 + 1)) x117000 x117001 x117002) else (if x3.length < 17592186044416 then (spec_l2Free.l0 k (x3 ++ [x4]) (wrap64 (x4 + 1)) x117000 x117001 x117002) else (none)))) else (some x3)
def spec_l2Free.f (k : Nat) (a0_0 : Int) (a0_1 : Bool) (l0_2 : List Int) : Option (List Int) := spec_l2Free.l0 k (([] : List Int)) 0 a0_0 a0_1 l0_2
theorem spec_l2Free.mono_l : ∀ k, (∀ y0 y1 y2 y3 y4, LeO (spec_l2Free.l0 k y0 y1 y2 y3 y4) (spec_l2Free.l0 (k + 1) y0 y1 y2 y3 y4))
 | 0 => fun _ _ _ _ _ r h => by simp [spec_l2Free.l0] at h
 | k + 1 => by
  have ih0 := spec_l2Free.mono_l k
  ·intro y0 y1 y2 y3 y4
   unfold spec_l2Free.l0
   repeat' with_reducible first | exact ih0 .. | exact spec_l2Is.mono .. | exact LeO.refl .. | exact LeO.none .. | refine LeO.ite ?_ ?_ | refine LeO.bind ?_ (fun _ => ?_)
theorem spec_l2Free.mono : ∀ a0 a1 a2 k, LeO (spec_l2Free.f k a0 a1 a2) (spec_l2Free.f (k + 1) a0 a1 a2) := by
 intro a0 a1 a2 k
 have ih0 := spec_l2Free.mono_l k
 unfold spec_l2Free.f
 repeat' with_reducible first | exact ih0 .. | exact spec_l2Is.mono .. | exact LeO.refl .. | exact LeO.none .. | refine LeO.ite ?_ ?_ | refine LeO.bind ?_ (fun _ => ?_)
theorem spec_l2Free.calls (k : Nat) (a0_0 : Int) (a0_1 : Bool) (A0_2 : Option Addr) (c0_2 : Nat) (l0_2 : List Int) (r : List Int) (w : World) (hr0_2 : Kd.C (Kd.int .i64) w A0_2 l0_2.length l0_2) (hc0_2 : l0_2.length ≤ c0_2) (h : spec_l2Free.f k a0_0 a0_1 l0_2 = some r) :
  Calls Tryd.prog 42 #[.agg #[.int .i64 a0_0, .bool a0_1, .slice A0_2 l0_2.length c0_2]] w fun e w' => ∃ v0_ : Value, e = .returned (v0_) ∧ Kd.R (Kd.int .i64) 3 w' w.heap.size (fun _ => True) v0_ r ∧ Below w.heap.size w w' := by
 have hu28 := Tryd.underlying28
 have HR0_2 := A0_ hr0_2
 have HC0_2 := A0_ hc0_2
 clear hr0_2 hc0_2
 have HB := A0_ (Below.refl w.heap.size w)
 have H : (spec_l2Free.l0 k (([] : List Int)) 0 a0_0 a0_1 l0_2) = some r := h
 clear h
 obtain ⟨y1, hy1⟩ : ∃ y_ : List Int, y_ = (([] : List Int)) := ⟨_, rfl⟩
 replace H : (spec_l2Free.l0 k y1 0 a0_0 a0_1 l0_2) = some r := bgiq_
 have Ny1 := A0_ hy1
 clear hy1
 have H' := A0_ H
 clear H
 go_enter Tryd.func42, Tryd.ntmps42
 go_wp2_with (first | ((with_reducible refine gd_ (N := 1) rfl ?_); refine bx_ 1 #[.int .i64 a0_0, .bool a0_1, .slice A0_2 l0_2.length c0_2] 28 ?_; intro gb1 hg w1 BK1 hb; have GW1 := ge_ hg brt4_; have GE1 := GW1; replace HB := hb_ hb brt4_; clear hb hg) | ((with_reducible refine gd_ (N := 5) rfl ?_); refine Kd.R_lit (Kd.int .i64) _ 3 ?hg (N := 5) ?hd (xs := ([] : List Int)) (inner := []) (ok := fun _ => True) (okp := fun _ => True) ?hr ?hp (fun _ hk => hk) trivial (Below.refl _ _) (Nat.le_refl _) bxka_ ?_; (case hd => rfl); (case hg => rfl); (case hr => go_simp; first | done | rfl); (case hp => exact (Reps.none _ _)); intro v1 w2 ho4 hb hg_ hnew_; clear hg_ hnew_; (first | rw [← Ny1.out] at ho4 | (simp only [Int.reduceToNat] at ho4; rw [← Ny1.out] at ho4)); have HO1 := A0_ (Kd.R_lower ho4 (bz_ be6g_)); replace BK1 := k1_ BK1 hb; replace HB := hb_ hb be6g_; clear hb ho4))
 go_loopg [3, 4] k (fun kq v2 v3 w' => ∃ (x3_1 : List Int) (x4_1 : Int), v3 = .int .i64 x4_1 ∧ Aside0 (spec_l2Free.l0 kq x3_1 x4_1 a0_0 a0_1 l0_2 = some r) ∧ Aside0 (kq ≤ k) ∧ Aside0 (Kd.R (Kd.int .i64) 3 w' w.heap.size (fun _ => True) v2 x3_1) ∧ Aside0 (w'.heap[gb1]? = some (.cells #[.int .i64 a0_0, .bool a0_1, (.slice A0_2 l0_2.length c0_2)] 28 (0, 0))) ∧ Aside0 (Below w.heap.size w w'))
 case atStart => exact ⟨(y1), (0), b2ew_, H', ⟨Nat.le_refl _⟩, ⟨bsm5_⟩, ⟨u1_ BK1⟩, ⟨be6g_⟩⟩
 clear H'
 obtain ⟨x3_1, x4_1, rfl, HA, HK1, HO_1, BK1, HB⟩ := hrel
 cases gk with | zero => exact absurd HA.out (by simp [spec_l2Free.l0]) | succ k1 => ?_
 have H := HA.out
 clear HA
 simp only [spec_l2Free.l0] at H
 by_cases c1 : x4_1 < a0_0
 case neg =>
  rw [if_neg c1] at H
  have c1b0 : decide (x4_1 < a0_0) = false := decide_eq_false c1
  clear c1
  obtain rfl := si_ H
  have hcz1 := c3_ BK1
  go_wp2
  go_ret
  exact ⟨_, bnwh_, bwik_, be6g_⟩
 rw [if_pos c1] at H
 have c1b0 : decide (x4_1 < a0_0) = true := dt_ c1
 clear c1
 obtain ⟨t1, A2, H⟩ := o1_ H
 by_cases c2 : t1 = true
 ·subst c2
  rw [if_pos rfl] at H
  have H' := A0_ H
  clear H
  have hcz1 := c3_ BK1
  go_wp2_with (first | ((with_reducible refine gc_ (f := 69) rfl ?_); refine gl_ 14 Tryd.func69 #[.agg #[.int .i64 a0_0, .bool a0_1, .slice A0_2 l0_2.length c0_2], .int .i64 x4_1] ?_; (with_reducible refine (spec_l2Is.calls k1 a0_0 a0_1 _ _ l0_2 x4_1 true _ ?side1 ?side2 A2.out).mono ?_); (case side1 => exact b6n8_); (case side2 => exact HC0_2.out); rintro e w3 ⟨rfl, hb⟩; refine ⟨_, rfl, ?_⟩; replace HO_1 := A0_ (Kd.R_below bwik_ hb); replace BK1 := k1_ BK1 hb; replace HB := hb_ hb be6g_; (try clear hb)))
  go_roundg k1
  case measure => have := HK1.out; omega
  exact ⟨(x3_1), (wrap64 (x4_1 + 1)), b2ew_, H', ⟨bxjq_⟩, ⟨bwik_⟩, ⟨u1_ BK1⟩, ⟨be6g_⟩⟩
 obtain rfl := bf_.mpr c2
 rw [if_neg ft_] at H
 by_cases c3 : x3_1.length < 17592186044416
 case neg =>
  rw [if_neg c3] at H
  exact absurd H bxka_
 rw [if_pos c3] at H
 have LMc1 := A0_ c3
 clear c3
 obtain ⟨y2, hy2⟩ : ∃ y_ : List Int, y_ = (x3_1 ++ [x4_1]) := ⟨_, rfl⟩
 replace H : (spec_l2Free.l0 k1 y2 (wrap64 (x4_1 + 1)) a0_0 a0_1 l0_2) = some r := bscs_
 have Ny2 := A0_ hy2
 clear hy2
 have H' := A0_ H
 clear H
 have hcz1 := c3_ BK1
 go_wp2_with (first | ((with_reducible refine gc_ (f := 69) rfl ?_); refine gl_ 14 Tryd.func69 #[.agg #[.int .i64 a0_0, .bool a0_1, .slice A0_2 l0_2.length c0_2], .int .i64 x4_1] ?_; (with_reducible refine (spec_l2Is.calls k1 a0_0 a0_1 _ _ l0_2 x4_1 false _ ?side1 ?side2 A2.out).mono ?_); (case side1 => exact b6n8_); (case side2 => exact HC0_2.out); rintro e w3 ⟨rfl, hb⟩; refine ⟨_, rfl, ?_⟩; replace HO_1 := A0_ (Kd.R_below bwik_ hb); replace BK1 := k1_ BK1 hb; replace HB := hb_ hb be6g_; (try clear hb)) | ((with_reducible refine gate_builtin (b := .append) (xs := #[.tmp 16, .tmp 18]) rfl ?_); at_builtin; refine Kd.R_append (Kd.int .i64) (w0 := w) w.heap.size rfl (.tmp 16) (.tmp 18) 22 3 (.int .i64 0) 8 rfl Tryd.underlying22 info3 rfl bi3y_ bh19_ u3 x3_1 x4_1 [.int .i64 x4_1] (fun _ => True) (fun _ => False) rfl rfl ?aP (fun _ hk => hk.elim) ?aF ?aO ?aB ?aS ?aL ?_; (case aP => exact rfl); (case aB => exact be6g_); (case aF => exact (fun _ _ => trivial)); (case aO => exact bwik_); (case aS => exact (bz_ be6g_)); (case aL => have := LMc1.out; omega); intro v4 w4 ho hb hg hat; rw [← Ny2.out] at ho; have n0_ := A0_ (blk_grown (g := gb1) (o := .cells #[.int .i64 a0_0, .bool a0_1, .slice A0_2 l0_2.length c0_2] 28 (0, 0)) (u1_ BK1) hg (Kd.R_ne HO_1.out BK1.out bi3y_)); have n1_ := A0_ (hb); have n2_ := A0_ (ho); clear BK1 HB HO_1; have BK1 := n0_; have HB := n1_; have HO2 := n2_; clear n0_ n1_ n2_ ho hb hg hat))
 go_roundg k1
 case measure => have := HK1.out; omega
 exact ⟨(y2), (wrap64 (x4_1 + 1)), b2ew_, H', ⟨bxjq_⟩, ⟨b9so_⟩, ⟨u1_ BK1⟩, ⟨be6g_⟩⟩

def spec_l10Between.l0 : Nat → Int → Int → Int → Int → Int → Bool → List Int → Option (Int × Int)
 | 0, _, _, _, _, _, _, _ => none
 | k + 1, x1, x6, x7, x8, x125000, x125001, x125002 => if x8 < (x125002.length : Int) then (if 0 ≤ x8 then (if (rd x125002 x8) < x1 then (if (rd x125002 x8) > x1 then (spec_l10Between.l0 k x1 (wrap64 (x6 + 1)) (wrap64 (x7 + 1)) (wrap64 (x8 + 1)) x125000 x125001 x125002) else (spec_l10Between.l0 k x1 (wrap64 (x6 + 1)) x7 (wrap64 (x8 + 1)) x125000 x125001 x125002)) else (if (rd x125002 x8) > x1 then (spec_l10Between.l0 k x1 x6 (wrap64 (x7 + 1)) (wrap64 (x8 + 1)) x125000 x125001 x125002) else (spec_l10Between.l0 k x1 x6 x7 (wrap64 (x8 + 1)) x125000 x125001 x125002))) else (none)) else (some (x6, x7))
def spec_l10Between.f (k : Nat) (a0_0 : Int) (a0_1 : Bool) (l0_2 : List Int) (a1 : Int) : Option (Int × Int) := spec_l10Between.l0 k a1 0 0 0 a0_0 a0_1 l0_2
theorem spec_l10Between.mono_l : ∀ k, (∀ y0 y1 y2 y3 y4 y5 y6, LeO (spec_l10Between.l0 k y0 y1 y2 y3 y4 y5 y6) (spec_l10Between.l0 (k + 1) y0 y1 y2 y3 y4 y5 y6))
 | 0 => fun _ _ _ _ _ _ _ r h => by simp [spec_l10Between.l0] at h
 | k + 1 => by
  have ih0 := spec_l10Between.mono_l k
  ·intro y0 y1 y2 y3 y4 y5 y6
   unfold spec_l10Between.l0
   repeat' with_reducible first | exact ih0 .. | exact LeO.refl .. | exact LeO.none .. | refine LeO.ite ?_ ?_ | refine LeO.bind ?_ (fun _ => ?_)
theorem spec_l10Between.mono : ∀ a0 a1 a2 a3 k, LeO (spec_l10Between.f k a0 a1 a2 a3) (spec_l10Between.f (k + 1) a0 a1 a2 a3) := by
 intro a0 a1 a2 a3 k
 have ih0 := spec_l10Between.mono_l k
 unfold spec_l10Between.f
 repeat' with_reducible first | exact ih0 .. | exact LeO.refl .. | exact LeO.none .. | refine LeO.ite ?_ ?_ | refine LeO.bind ?_ (fun _ => ?_)
theorem spec_l10Between.calls (k : Nat) (a0_0 : Int) (a0_1 : Bool) (A0_2 : Option Addr) (c0_2 : Nat) (l0_2 : List Int) (a1 : Int) (r1 : Int) (r2 : Int) (w : World) (hr0_2 : Kd.C (Kd.int .i64) w A0_2 l0_2.length l0_2) (hc0_2 : l0_2.length ≤ c0_2) (h : spec_l10Between.f k a0_0 a0_1 l0_2 a1 = some (r1, r2)) :
  Calls Tryd.prog 57 #[.agg #[.int .i64 a0_0, .bool a0_1, .slice A0_2 l0_2.length c0_2], .int .i64 a1] w fun e w' => e = .returned (.tuple #[.int .i64 r1, .int .i64 r2]) ∧ Below w.heap.size w w' := by
 have hu28 := Tryd.underlying28
 have HR0_2 := A0_ hr0_2
 have HC0_2 := A0_ hc0_2
 clear hr0_2 hc0_2
 have HB := A0_ (Below.refl w.heap.size w)
 have H : (spec_l10Between.l0 k a1 0 0 0 a0_0 a0_1 l0_2) = some (r1, r2) := h
 clear h
 have H' := A0_ H
 clear H
 go_enter Tryd.func57, Tryd.ntmps57
 go_wp2_with (first | ((with_reducible refine gd_ (N := 2) rfl ?_); refine bx_ 2 #[.int .i64 a0_0, .bool a0_1, .slice A0_2 l0_2.length c0_2] 28 ?_; intro gb1 hg w1 BK1 hb; have GW1 := ge_ hg brt4_; have GE1 := GW1; replace HB := hb_ hb brt4_; clear hb hg))
 go_loopg [6, 7, 8] k (fun kq v1 v2 v3 w' => ∃ (x6_1 : Int) (x7_1 : Int) (x8_1 : Int), v1 = .int .i64 x6_1 ∧ v2 = .int .i64 x7_1 ∧ v3 = .int .i64 x8_1 ∧ Aside0 (spec_l10Between.l0 kq a1 x6_1 x7_1 x8_1 a0_0 a0_1 l0_2 = some (r1, r2)) ∧ Aside0 (kq ≤ k) ∧ Aside0 (w'.heap[gb1]? = some (.cells #[.int .i64 a0_0, .bool a0_1, (.slice A0_2 l0_2.length c0_2)] 28 (0, 0))) ∧ Aside0 (Below w.heap.size w w'))
 case atStart => exact ⟨(0), (0), (0), b2ew_, b2ew_, b2ew_, H', ⟨Nat.le_refl _⟩, ⟨u1_ BK1⟩, ⟨be6g_⟩⟩
 clear H'
 obtain ⟨x6_1, x7_1, x8_1, rfl, rfl, rfl, HA, HK1, BK1, HB⟩ := hrel
 cases gk with | zero => exact absurd HA.out (by simp [spec_l10Between.l0]) | succ k1 => ?_
 have H := HA.out
 clear HA
 simp only [spec_l10Between.l0] at H
 by_cases c1 : x8_1 < (l0_2.length : Int)
 case neg =>
  rw [if_neg c1] at H
  have c1b0 : decide (x8_1 < (l0_2.length : Int)) = false := decide_eq_false c1
  clear c1
  simp only [sj_, pj_] at H
  obtain ⟨rfl, rfl⟩ := H
  have hcz1 := c3_ BK1
  go_wp2
  go_ret2
  exact ⟨bnwh_, be6g_⟩
 rw [if_pos c1] at H
 have c1b0 : decide (x8_1 < (l0_2.length : Int)) = true := dt_ c1
 clear c1
 by_cases c2 : 0 ≤ x8_1
 case neg =>
  rw [if_neg c2] at H
  exact absurd H bxka_
 rw [if_pos c2] at H
 have c2b0 : decide (0 ≤ x8_1) = true := dt_ c2
 clear c2
 by_cases c3 : (rd l0_2 x8_1) < a1
 case neg =>
  rw [if_neg c3] at H
  have c3b0 : decide ((rd l0_2 x8_1) < a1) = false := decide_eq_false c3
  clear c3
  by_cases c4 : (rd l0_2 x8_1) > a1
  ·rw [if_pos c4] at H
   have c4b0 : decide (a1 < (rd l0_2 x8_1)) = true := dt_ c4
   clear c4
   have H' := A0_ H
   clear H
   have hcz1 := c3_ BK1
   have p1 : 0 ≤ (x8_1 : Int) := od_ bpil_
   have q1 : x8_1 < (l0_2.length : Int) := od_ bpil_
   obtain ⟨ad1, e1, hx1_0⟩ := Kd.at_int HR0_2.out x8_1 p1 q1
   cases e1
   replace hx1_0 := (HB.out.cell (World.block_lt_of_cell? w _ hx1_0)).trans hx1_0
   replace p1 := eq_true p1
   replace q1 := eq_true q1
   have p2 : 0 ≤ (x8_1 : Int) := od_ bpil_
   have q2 : x8_1 < (l0_2.length : Int) := od_ bpil_
   obtain ⟨ad2, e2, hx2_0⟩ := Kd.at_int HR0_2.out x8_1 p2 q2
   obtain rfl : ad1 = ad2 := bs6y_
   replace hx2_0 := (HB.out.cell (World.block_lt_of_cell? w _ hx2_0)).trans hx2_0
   replace p2 := eq_true p2
   replace q2 := eq_true q2
   go_wp2
   go_roundg k1
   case measure => have := HK1.out; omega
   exact ⟨(x6_1), (wrap64 (x7_1 + 1)), (wrap64 (x8_1 + 1)), b2ew_, b2ew_, b2ew_, H', ⟨bxjq_⟩, ⟨u1_ BK1⟩, ⟨be6g_⟩⟩
  rw [if_neg c4] at H
  have c4b0 : decide (a1 < (rd l0_2 x8_1)) = false := decide_eq_false c4
  clear c4
  have H' := A0_ H
  clear H
  have hcz1 := c3_ BK1
  have p1 : 0 ≤ (x8_1 : Int) := od_ bpil_
  have q1 : x8_1 < (l0_2.length : Int) := od_ bpil_
  obtain ⟨ad1, e1, hx1_0⟩ := Kd.at_int HR0_2.out x8_1 p1 q1
  cases e1
  replace hx1_0 := (HB.out.cell (World.block_lt_of_cell? w _ hx1_0)).trans hx1_0
  replace p1 := eq_true p1
  replace q1 := eq_true q1
  have p2 : 0 ≤ (x8_1 : Int) := od_ bpil_
  have q2 : x8_1 < (l0_2.length : Int) := od_ bpil_
  obtain ⟨ad2, e2, hx2_0⟩ := Kd.at_int HR0_2.out x8_1 p2 q2
  obtain rfl : ad1 = ad2 := bs6y_
  replace hx2_0 := (HB.out.cell (World.block_lt_of_cell? w _ hx2_0)).trans hx2_0
  replace p2 := eq_true p2
  replace q2 := eq_true q2
  go_wp2
  go_roundg k1
  case measure => have := HK1.out; omega
  exact ⟨(x6_1), (x7_1), (wrap64 (x8_1 + 1)), b2ew_, b2ew_, b2ew_, H', ⟨bxjq_⟩, ⟨u1_ BK1⟩, ⟨be6g_⟩⟩
 rw [if_pos c3] at H
 have c3b0 : decide ((rd l0_2 x8_1) < a1) = true := dt_ c3
 clear c3
 by_cases c4 : (rd l0_2 x8_1) > a1
 ·rw [if_pos c4] at H
  have c4b0 : decide (a1 < (rd l0_2 x8_1)) = true := dt_ c4
  clear c4
  have H' := A0_ H
  clear H
  have hcz1 := c3_ BK1
  have p1 : 0 ≤ (x8_1 : Int) := od_ bpil_
  have q1 : x8_1 < (l0_2.length : Int) := od_ bpil_
  obtain ⟨ad1, e1, hx1_0⟩ := Kd.at_int HR0_2.out x8_1 p1 q1
  cases e1
  replace hx1_0 := (HB.out.cell (World.block_lt_of_cell? w _ hx1_0)).trans hx1_0
  replace p1 := eq_true p1
  replace q1 := eq_true q1
  have p2 : 0 ≤ (x8_1 : Int) := od_ bpil_
  have q2 : x8_1 < (l0_2.length : Int) := od_ bpil_
  obtain ⟨ad2, e2, hx2_0⟩ := Kd.at_int HR0_2.out x8_1 p2 q2
  obtain rfl : ad1 = ad2 := bs6y_
  replace hx2_0 := (HB.out.cell (World.block_lt_of_cell? w _ hx2_0)).trans hx2_0
  replace p2 := eq_true p2
  replace q2 := eq_true q2
  go_wp2
  go_roundg k1
  case measure => have := HK1.out; omega
  exact ⟨(wrap64 (x6_1 + 1)), (wrap64 (x7_1 + 1)), (wrap64 (x8_1 + 1)), b2ew_, b2ew_, b2ew_, H', ⟨bxjq_⟩, ⟨u1_ BK1⟩, ⟨be6g_⟩⟩
 rw [if_neg c4] at H
 have c4b0 : decide (a1 < (rd l0_2 x8_1)) = false := decide_eq_false c4
 clear c4
 have H' := A0_ H
 clear H
 have hcz1 := c3_ BK1
 have p1 : 0 ≤ (x8_1 : Int) := od_ bpil_
 have q1 : x8_1 < (l0_2.length : Int) := od_ bpil_
 obtain ⟨ad1, e1, hx1_0⟩ := Kd.at_int HR0_2.out x8_1 p1 q1
 cases e1
 replace hx1_0 := (HB.out.cell (World.block_lt_of_cell? w _ hx1_0)).trans hx1_0
 replace p1 := eq_true p1
 replace q1 := eq_true q1
 have p2 : 0 ≤ (x8_1 : Int) := od_ bpil_
 have q2 : x8_1 < (l0_2.length : Int) := od_ bpil_
 obtain ⟨ad2, e2, hx2_0⟩ := Kd.at_int HR0_2.out x8_1 p2 q2
 obtain rfl : ad1 = ad2 := bs6y_
 replace hx2_0 := (HB.out.cell (World.block_lt_of_cell? w _ hx2_0)).trans hx2_0
 replace p2 := eq_true p2
 replace q2 := eq_true q2
 go_wp2
 go_roundg k1
 case measure => have := HK1.out; omega
 exact ⟨(wrap64 (x6_1 + 1)), (x7_1), (wrap64 (x8_1 + 1)), b2ew_, b2ew_, b2ew_, H', ⟨bxjq_⟩, ⟨u1_ BK1⟩, ⟨be6g_⟩⟩

def spec_l1Least.f (a0 : Int) (a1 : Int) : Option (Int) := if a0 < a1 then (some a0) else (some a1)
theorem spec_l1Least.calls (a0 : Int) (a1 : Int) (r : Int) (w : World) (h : spec_l1Least.f a0 a1 = some r) :
  Calls Tryd.prog 70 #[.int .i64 a0, .int .i64 a1] w fun e w' => e = .returned (.int .i64 r) ∧ Drawn0 w w' := by
 have H : (if a0 < a1 then (some a0) else (some a1)) = some r := h
 clear h
 by_cases c1 : a0 < a1
 ·rw [if_pos c1] at H
  have c1b0 : decide (a0 < a1) = true := dt_ c1
  clear c1
  obtain rfl := si_ H
  go_enter Tryd.func70, Tryd.ntmps70
  go_wp2
  go_ret
  exact ⟨b04z_, boaj_⟩
 rw [if_neg c1] at H
 have c1b0 : decide (a0 < a1) = false := decide_eq_false c1
 clear c1
 obtain rfl := si_ H
 go_enter Tryd.func70, Tryd.ntmps70
 go_wp2
 go_ret
 exact ⟨b04z_, boaj_⟩

def spec_l10Stands.f (k : Nat) (a0_0 : Int) (a0_1 : Bool) (l0_2 : List Int) (a1 : Int) (a2 : Bool) : Option (Int) := (spec_l10Between.f k a0_0 a0_1 l0_2 a1).bind fun bt129 => (if a2 = true then ((spec_l1Least.f bt129.1 bt129.2).bind fun t131 => (some t131)) else (some bt129.1))
theorem spec_l10Stands.mono : ∀ a0 a1 a2 a3 a4 k, LeO (spec_l10Stands.f k a0 a1 a2 a3 a4) (spec_l10Stands.f (k + 1) a0 a1 a2 a3 a4) := by
 intro a0 a1 a2 a3 a4 k
 unfold spec_l10Stands.f
 repeat' with_reducible first | exact spec_l10Between.mono .. | exact LeO.refl .. | exact LeO.none .. | refine LeO.ite ?_ ?_ | refine LeO.bind ?_ (fun _ => ?_)
theorem spec_l10Stands.calls (k : Nat) (a0_0 : Int) (a0_1 : Bool) (A0_2 : Option Addr) (c0_2 : Nat) (l0_2 : List Int) (a1 : Int) (a2 : Bool) (r : Int) (w : World) (hr0_2 : Kd.C (Kd.int .i64) w A0_2 l0_2.length l0_2) (hc0_2 : l0_2.length ≤ c0_2) (h : spec_l10Stands.f k a0_0 a0_1 l0_2 a1 a2 = some r) :
  Calls Tryd.prog 43 #[.agg #[.int .i64 a0_0, .bool a0_1, .slice A0_2 l0_2.length c0_2], .int .i64 a1, .bool a2] w fun e w' => e = .returned (.int .i64 r) ∧ Below w.heap.size w w' := by
 have hu28 := Tryd.underlying28
 have HR0_2 := A0_ hr0_2
 have HC0_2 := A0_ hc0_2
 clear hr0_2 hc0_2
 have HB := A0_ (Below.refl w.heap.size w)
 have H : ((spec_l10Between.f k a0_0 a0_1 l0_2 a1).bind fun bt1 => (if a2 = true then ((spec_l1Least.f bt1.1 bt1.2).bind fun t1 => (some t1)) else (some bt1.1))) = some r := h
 clear h
 obtain ⟨⟨t2, t3⟩, A2, H⟩ := o1_ H
 by_cases c1 : a2 = true
 case neg =>
  obtain rfl := bf_.mpr c1
  rw [if_neg ft_] at H
  obtain rfl := si_ H
  go_enter Tryd.func43, Tryd.ntmps43
  go_wp2_with (first | ((with_reducible refine gd_ (N := 3) rfl ?_); refine bx_ 3 #[.int .i64 a0_0, .bool a0_1, .slice A0_2 l0_2.length c0_2] 28 ?_; intro gb1 hg w1 BK1 hb; have GW1 := ge_ hg brt4_; have GE1 := GW1; replace HB := hb_ hb brt4_; clear hb hg; have hcz1 := c3_ BK1) | ((with_reducible refine gc_ (f := 57) rfl ?_); refine gl_ 12 Tryd.func57 #[.agg #[.int .i64 a0_0, .bool a0_1, .slice A0_2 l0_2.length c0_2], .int .i64 a1] ?_; (with_reducible refine (spec_l10Between.calls k a0_0 a0_1 _ _ l0_2 a1 t2 t3 _ ?side1 ?side2 A2.out).mono ?_); (case side1 => exact b6n8_); (case side2 => exact HC0_2.out); rintro e w2 ⟨rfl, hb⟩; refine ⟨_, rfl, ?_⟩; replace BK1 := k1_ BK1 hb; replace HB := hb_ hb be6g_; (try clear hb)))
  go_ret
  exact ⟨bnwh_, be6g_⟩
 subst c1
 rw [if_pos rfl] at H
 obtain ⟨t1, A4, H⟩ := o1_ H
 replace H : (some t1) = some r := H
 obtain rfl := si_ H
 go_enter Tryd.func43, Tryd.ntmps43
 go_wp2_with (first | ((with_reducible refine gd_ (N := 3) rfl ?_); refine bx_ 3 #[.int .i64 a0_0, .bool a0_1, .slice A0_2 l0_2.length c0_2] 28 ?_; intro gb1 hg w1 BK1 hb; have GW1 := ge_ hg brt4_; have GE1 := GW1; replace HB := hb_ hb brt4_; clear hb hg; have hcz1 := c3_ BK1) | ((with_reducible refine gc_ (f := 57) rfl ?_); refine gl_ 12 Tryd.func57 #[.agg #[.int .i64 a0_0, .bool a0_1, .slice A0_2 l0_2.length c0_2], .int .i64 a1] ?_; (with_reducible refine (spec_l10Between.calls k a0_0 a0_1 _ _ l0_2 a1 t2 t3 _ ?side1 ?side2 A2.out).mono ?_); (case side1 => exact b6n8_); (case side2 => exact HC0_2.out); rintro e w2 ⟨rfl, hb⟩; refine ⟨_, rfl, ?_⟩; replace BK1 := k1_ BK1 hb; replace HB := hb_ hb be6g_; (try clear hb)) | ((with_reducible refine gc_ (f := 70) rfl ?_); refine gl_ 18 Tryd.func70 #[.int .i64 t2, .int .i64 t3] ?_; (with_reducible refine (spec_l1Least.calls t2 t3 t1 _ A4.out).mono ?_); rintro e w' ⟨rfl, ⟨nd, rfl⟩⟩; refine ⟨_, rfl, ?_⟩))
 go_ret
 exact ⟨bnwh_, be6g_⟩

def spec_l2Made.f (a0_0 : Int) (a0_1 : Bool) (l0_2 : List Int) (l1 : List Int) : Option (Int × Bool × List Int) := some (a0_0, a0_1, l1)
theorem spec_l2Made.calls (a0_0 : Int) (a0_1 : Bool) (A0_2 : Option Addr) (c0_2 : Nat) (l0_2 : List Int) (P1_ : Nat → Prop) (u9000_ : Value) (l1 : List Int) (r1 : Int) (r2 : Bool) (r3 : List Int) (w0 w : World) (hB : Below w0.heap.size w0 w) (hr0_2 : ∀ W_, Kept w W_ (fun k_ => P1_ k_) → Kd.C (Kd.int .i64) W_ A0_2 l0_2.length l0_2) (hc0_2 : l0_2.length ≤ c0_2) (ho1 : Kd.R (Kd.int .i64) 3 w w0.heap.size P1_ u9000_ l1) (h : spec_l2Made.f a0_0 a0_1 l0_2 l1 = some (r1, r2, r3)) :
  Calls Tryd.prog 71 #[.agg #[.int .i64 a0_0, .bool a0_1, .slice A0_2 l0_2.length c0_2], u9000_] w fun e w' => ∃ v2_ : Value, e = .returned (.agg #[.int .i64 r1, .bool r2, v2_]) ∧ Kd.R (Kd.int .i64) 3 w' w0.heap.size (fun k_ => (P1_ k_ ∨ w.heap.size ≤ k_)) v2_ r3 ∧ Below w0.heap.size w0 w' ∧ Kept w w' (fun k_ => P1_ k_) := by
 have hu28 := Tryd.underlying28
 have HR0_2 := A0_ hr0_2
 have HC0_2 := A0_ hc0_2
 clear hr0_2 hc0_2
 have HO1 := A0_ (show Kd.R (Kd.int .i64) 3 w w0.heap.size (fun k_ => (P1_ k_ ∨ w.heap.size ≤ k_)) u9000_ l1 from Kd.R_mono ho1 (fun k_ hk => (.inl hk)))
 have HK := A0_ (Kept.refl w (fun k_ => P1_ k_))
 have HW0 := A0_ hB.size
 have HB := A0_ hB
 clear hB
 have H : (some (a0_0, a0_1, l1)) = some (r1, r2, r3) := h
 clear h
 simp only [sj_, pj_] at H
 obtain ⟨rfl, rfl, rfl⟩ := H
 go_enter Tryd.func71, Tryd.ntmps71
 go_wp2_with (first | ((with_reducible refine gd_ (N := 2) rfl ?_); refine bx_ 2 #[.int .i64 a0_0, .bool a0_1, .slice A0_2 l0_2.length c0_2] 28 ?_; intro gb1 hg w1 BK1 hb; replace HO1 := A0_ (Kd.R_below bsm5_ hb); have GW1 := A0_ ((by rw [hg]; exact (by first | exact HK.out.1 | exact (show Kept w _ (fun k_ => P1_ k_) from by repeat (with_reducible first | exact HK.out | apply Kept.alloc | apply Kept.drewN | apply Kept.drew)).1) : w.heap.size ≤ gb1)); replace HK := A0_ (Kept.below (S := (fun k_ => P1_ k_)) (by repeat (with_reducible first | exact HK.out | apply Kept.alloc | apply Kept.drewN | apply Kept.drew)) hb); have GE1 := A0_ ((bwen_ : w0.heap.size ≤ gb1)); replace HB := hb_ hb brt4_; clear hb hg) | ((with_reducible refine gd_ (N := 4) rfl ?_); refine bx_ 4 #[.int .i64 0, .bool false, .slice none 0 0] 28 ?_; intro gb2 hg w2 BK2 hb; replace HO1 := A0_ (Kd.R_below bsm5_ hb); have GW2 := A0_ ((by rw [hg]; exact (by first | exact HK.out.1 | exact (show Kept w _ (fun k_ => P1_ k_) from b6f4_).1) : w.heap.size ≤ gb2)); replace HK := A0_ (Kept.below (S := (fun k_ => P1_ k_)) b6f4_ hb); have GE2 := A0_ ((by rw [hg]; exact (bz_ be6g_) : w0.heap.size ≤ gb2)); replace HB := hb_ hb be6g_; have NB1_2 := nl_ hg BK1; have NB2_1 := ng_ hg BK1; replace BK1 := k1_ BK1 hb; clear hb hg; have hnb1 := NB1_2.out; have hnc1 := NB2_1.out; have hcz1 := z3_ BK1; obtain ⟨Ao1, co1, eo1⟩ := Kd.R_slice HO1.out; subst eo1; have hcz2_0 : w2.cell? ⟨gb2, 0, none⟩ = some (.int .i64 0) := (kc_ BK2.out 0).trans rfl; have hcz2_1 : w2.cell? ⟨gb2, 1, none⟩ = some (.bool false) := (kc_ BK2.out 1).trans rfl; have hcz2_2 : w2.cell? ⟨gb2, 2, none⟩ = some (.slice none 0 0) := (kc_ BK2.out 2).trans rfl; have hfz2_0 := kf_ BK2.out 0; have hfz2_1 := kf_ BK2.out 1; have hfz2_2 := kf_ BK2.out 2))
 refine bodyPost_ret (results_cell_row rfl _ _ gb2 28 #[.int .i64 a0_0, .bool a0_1, .slice Ao1 l1.length co1] (0, 0) _ rfl (u1_ BK2) Tryd.underlying28 rfl bfqv_) rfl ?_
 exact ⟨_, bnwh_, by (with_reducible repeat (first | apply ra_ | apply rn_ | apply rd_)); exact Kd.R_mono (rf_ (rf_ (rf_ (Kd.R_types HO1.out BK2.out bi3y_) k2_0 _) k2_0 _) k2_0 _) (fun _ hk => hk.1), bfnq_, by repeat (with_reducible first | exact HK.out | apply Kept.alloc | apply Kept.drewN | apply Kept.drew | refine Kept.setCell ?_ (.inr GW1.out) _ | refine Kept.setCell ?_ (.inr GW2.out) _)⟩

def spec_l1Put.l0 : Nat → List Int → Int → Int → Option (List Int)
 | 0, _, _, _ => none
 | k + 1, x0, x1, x5 => if x5 < (x0.length : Int) then (if 0 ≤ x5 then (if (rd x0 x5) < x1 then (spec_l1Put.l0 k x0 x1 (wrap64 (x5 + 1))) else (if (rd x0 x5) = x1 then none else ((some (([] : List Int) : List Int)).bind fun y163 => (if x5 ≤ (x0.length : Int) then (if y163.length + (x0.take (x5 : Int).toNat).length < 17592186044416 then ((some (y163 ++ (x0.take (x5 : Int).toNat) : List Int)).bind fun y167 => ((some (([x1] : List Int) : List Int)).bind fun y170 => (if y167.length + y170.length < 17592186044416 then ((some (y167 ++ y170 : List Int)).bind fun y173 => (if y173.length + (x0.drop (x5 : Int).toNat).length < 17592186044416 then (some (y173 ++ (x0.drop (x5 : Int).toNat))) else (none))) else (none)))) else (none)) else (none))))) else (none)) else ((some (([] : List Int) : List Int)).bind fun y180 => (if 0 ≤ x5 then (if x5 ≤ (x0.length : Int) then (if y180.length + (x0.take (x5 : Int).toNat).length < 17592186044416 then ((some (y180 ++ (x0.take (x5 : Int).toNat) : List Int)).bind fun y184 => ((some (([x1] : List Int) : List Int)).bind fun y187 => (if y184.length + y187.length < 17592186044416 then ((some (y184 ++ y187 : List Int)).bind fun y190 => (if y190.length + (x0.drop (x5 : Int).toNat).length < 17592186044416 then (some (y190 ++ (x0.drop (x5 : Int).toNat))) else (none))) else (none)))) else (none)) else (none)) else (none)))
def spec_l1Put.f (k : Nat) (l0 : List Int) (a1 : Int) : Option (List Int) := spec_l1Put.l0 k l0 a1 0
theorem spec_l1Put.mono_l : ∀ k, (∀ y0 y1 y2, LeO (spec_l1Put.l0 k y0 y1 y2) (spec_l1Put.l0 (k + 1) y0 y1 y2))
 | 0 => fun _ _ _ r h => by simp [spec_l1Put.l0] at h
 | k + 1 => by
  have ih0 := spec_l1Put.mono_l k
  ·intro y0 y1 y2
   unfold spec_l1Put.l0
   repeat' with_reducible first | exact ih0 .. | exact LeO.refl .. | exact LeO.none .. | refine LeO.ite ?_ ?_ | refine LeO.bind ?_ (fun _ => ?_)
theorem spec_l1Put.mono : ∀ a0 a1 k, LeO (spec_l1Put.f k a0 a1) (spec_l1Put.f (k + 1) a0 a1) := by
 intro a0 a1 k
 have ih0 := spec_l1Put.mono_l k
 unfold spec_l1Put.f
 repeat' with_reducible first | exact ih0 .. | exact LeO.refl .. | exact LeO.none .. | refine LeO.ite ?_ ?_ | refine LeO.bind ?_ (fun _ => ?_)
def spec_l1Put.T6 : Bool × List (List Nat × List Nat) := (true, [([], []), ([], []), ([], []), ([1, 2], [1, 2]), ([0, 3], [0, 3]), ([], []), ([5], [5]), ([4, 6, 4], [4, 6]), ([], []), ([], []), ([8, 9], [8, 9]), ([7, 10, 7], [7, 10]), ([11, 11, 0, 1, 2, 3, 4, 5, 6, 7, 8, 9, 10, 11], [11])])
def spec_l1Put.B6 : List Nat := [0, 0, 0, 6, 15, 0, 32, 127, 0, 0, 768, 2047, 4095]
theorem spec_l1Put.tab6 : rtab .any (opsOf Tryd.f72 6) = spec_l1Put.T6 := by kernel_rfl
theorem spec_l1Put.bits6 : waitsOk spec_l1Put.T6.2 spec_l1Put.B6 = true := by kernel_rfl
theorem spec_l1Put.calls (k : Nat) (A0 : Option Addr) (c0 : Nat) (l0 : List Int) (a1 : Int) (r : List Int) (w : World) (hr0 : Kd.C (Kd.int .i64) w A0 l0.length l0) (hc0 : l0.length ≤ c0) (h : spec_l1Put.f k l0 a1 = some r) :
  Calls Tryd.prog 72 #[.slice A0 l0.length c0, .int .i64 a1] w fun e w' => ∃ v0_ : Value, e = .returned (v0_) ∧ Kd.R (Kd.int .i64) 3 w' w.heap.size (fun _ => True) v0_ r ∧ Below w.heap.size w w' := by
 have HR0 := A0_ hr0
 have HC0 := A0_ hc0
 clear hr0 hc0
 have HB := A0_ (Below.refl w.heap.size w)
 have H : (spec_l1Put.l0 k l0 a1 0) = some r := h
 clear h
 have H' := A0_ H
 clear H
 go_enter Tryd.func72, Tryd.ntmps72
 go_wp2
 go_loopg [5] k (fun kq v1 w' => ∃ (x5_1 : Int), v1 = .int .i64 x5_1 ∧ Aside0 (spec_l1Put.l0 kq l0 a1 x5_1 = some r) ∧ Aside0 (kq ≤ k) ∧ Aside0 (Below w.heap.size w w'))
 case atStart => exact ⟨(0), b2ew_, H', ⟨Nat.le_refl _⟩, ⟨brt4_⟩⟩
 clear H'
 obtain ⟨x5_1, rfl, HA, HK1, HB⟩ := hrel
 cases gk with | zero => exact absurd HA.out (by simp [spec_l1Put.l0]) | succ k1 => ?_
 have H := HA.out
 clear HA
 simp only [spec_l1Put.l0] at H
 by_cases c1 : x5_1 < (l0.length : Int)
 case neg =>
  rw [if_neg c1] at H
  have c1b0 : decide (x5_1 < (l0.length : Int)) = false := decide_eq_false c1
  clear c1
  obtain ⟨y1, hy1⟩ : ∃ y_ : List Int, y_ = (([] : List Int)) := ⟨_, rfl⟩
  replace H : (if 0 ≤ x5_1 then (if x5_1 ≤ (l0.length : Int) then (if y1.length + (l0.take (x5_1 : Int).toNat).length < 17592186044416 then ((some (y1 ++ (l0.take (x5_1 : Int).toNat) : List Int)).bind fun y2 => ((some (([a1] : List Int) : List Int)).bind fun y3 => (if y2.length + y3.length < 17592186044416 then ((some (y2 ++ y3 : List Int)).bind fun y4 => (if y4.length + (l0.drop (x5_1 : Int).toNat).length < 17592186044416 then (some (y4 ++ (l0.drop (x5_1 : Int).toNat))) else (none))) else (none)))) else (none)) else (none)) else (none)) = some r := bgiq_
  have Ny1 := A0_ hy1
  clear hy1
  by_cases c2 : 0 ≤ x5_1
  case neg =>
   rw [if_neg c2] at H
   exact absurd H bxka_
  rw [if_pos c2] at H
  have c2b0 := eq_true c2
  have c2b1 : decide (0 ≤ x5_1) = true := dt_ c2
  clear c2
  by_cases c3 : x5_1 ≤ (l0.length : Int)
  case neg =>
   rw [if_neg c3] at H
   exact absurd H bxka_
  rw [if_pos c3] at H
  have c3b0 := eq_true c3
  have c3b1 : decide (x5_1 ≤ (l0.length : Int)) = true := dt_ c3
  clear c3
  by_cases c4 : y1.length + (l0.take (x5_1 : Int).toNat).length < 17592186044416
  case neg =>
   rw [if_neg c4] at H
   exact absurd H bxka_
  rw [if_pos c4] at H
  have LMc1 := A0_ c4
  clear c4
  obtain ⟨y2, hy2⟩ : ∃ y_ : List Int, y_ = (y1 ++ (l0.take (x5_1 : Int).toNat)) := ⟨_, rfl⟩
  replace H : ((some (([a1] : List Int) : List Int)).bind fun y3 => (if y2.length + y3.length < 17592186044416 then ((some (y2 ++ y3 : List Int)).bind fun y4 => (if y4.length + (l0.drop (x5_1 : Int).toNat).length < 17592186044416 then (some (y4 ++ (l0.drop (x5_1 : Int).toNat))) else (none))) else (none))) = some r := bscs_
  have Ny2 := A0_ hy2
  clear hy2
  obtain ⟨y3, hy3⟩ : ∃ y_ : List Int, y_ = (([a1] : List Int)) := ⟨_, rfl⟩
  replace H : (if y2.length + y3.length < 17592186044416 then ((some (y2 ++ y3 : List Int)).bind fun y4 => (if y4.length + (l0.drop (x5_1 : Int).toNat).length < 17592186044416 then (some (y4 ++ (l0.drop (x5_1 : Int).toNat))) else (none))) else (none)) = some r := b2x6_
  have Ny3 := A0_ hy3
  clear hy3
  by_cases c5 : y2.length + y3.length < 17592186044416
  case neg =>
   rw [if_neg c5] at H
   exact absurd H bxka_
  rw [if_pos c5] at H
  have LMc2 := A0_ c5
  clear c5
  obtain ⟨y4, hy4⟩ : ∃ y_ : List Int, y_ = (y2 ++ y3) := ⟨_, rfl⟩
  replace H : (if y4.length + (l0.drop (x5_1 : Int).toNat).length < 17592186044416 then (some (y4 ++ (l0.drop (x5_1 : Int).toNat))) else (none)) = some r := bytg_
  have Ny4 := A0_ hy4
  clear hy4
  have c6b0 := eq_true (od_ bpil_ : 0 ≤ x5_1)
  have c7b0 := eq_true (od_ bpil_ : x5_1 ≤ (l0.length : Int))
  by_cases c8 : y4.length + (l0.drop (x5_1 : Int).toNat).length < 17592186044416
  case neg =>
   rw [if_neg c8] at H
   exact absurd H bxka_
  rw [if_pos c8] at H
  have LMc3 := A0_ c8
  clear c8
  obtain ⟨y5, hy5⟩ : ∃ y_ : List Int, y_ = (y4 ++ (l0.drop (x5_1 : Int).toNat)) := ⟨_, rfl⟩
  replace H : (some y5) = some r := byjl_
  have Ny5 := A0_ hy5
  clear hy5
  obtain rfl := si_ H
  try go_wp2
  replace HB := A0_ (bd_ HB.out)
  obtain ⟨i034, hi034, _, hsz34, _⟩ := info_parts info3
  obtain ⟨hcut34, hA34, hC34⟩ := print_take_of (P := Tryd.prog) (Value.int .i64) 0 22 3 .i64 Tryd.underlying22 hi034 hsz34 A0 c0 l0 x5_1 (od_ bpil_) (od_ bpil_) HC0.out
  have HR183 := A0_ (Kd.C_of_reads (h1 := fun _ => rfl) (hA34 _ (Kd.reads_of_C HR0.out)))
  have HC183 := A0_ hC34
  clear hA34 hC34 hi034 hsz34
  obtain ⟨i035, hi035, _, hsz35, _⟩ := info_parts info3
  obtain ⟨A1, hcut35, hA35, hC35⟩ := print_drop_of (P := Tryd.prog) (Value.int .i64) 0 22 3 .i64 Tryd.underlying22 hi035 hsz35 A0 c0 l0 x5_1 (od_ bpil_) (od_ bpil_) HC0.out
  have HR193 := A0_ (Kd.C_of_reads (h1 := fun _ => rfl) (hA35 _ (Kd.reads_of_C HR0.out)))
  have HC193 := A0_ hC35
  clear hA35 hC35 hi035 hsz35
  refine start_ (n := 13) (S := fun w' => True) (ds := []) #[false, false, false, false, false, false, false, false, false, false, false, false, false] bfqv_ rfl rfl trivial (fun hHeld => ?_); refine with_tabW spec_l1Put.tab6 spec_l1Put.bits6 (fun HT_ HW_ => ?_)
  generalize wr.drew = w1 at HB HR183 HR193 hHeld ⊢
  refine pu_ 1 34 ?_
  refine pu_ 2 35 ?_
  refine pu_ 3 36 ?_
  refine pu_ 5 38 ?_
  refine pu_ 8 41 ?_
  refine pu_ 9 42 ?_
  refine pu_ 10 43 ?_
  refine join_ (σ := Value × Value × Value) 3 #[true, true, true, true, true, true, true, false, true, true, true, false, false] (fun s_ => [(33, s_.1), (37, s_.2.1), (39, s_.2.2)]) (fun s_ w' => (Kd.R (Kd.int .i64) 3 w' w.heap.size (fun k_ => some k_ ≠ (s_.2.2 : Value).ownBlock) s_.2.1 y2) ∧ (Kd.R (Kd.int .i64) 3 w' w.heap.size (fun k_ => some k_ ≠ (s_.2.1 : Value).ownBlock) s_.2.2 y3) ∧ (Below w.heap.size w w')) ?_ ?_
  rotate_left
  ·intro hCont
   refine two_ (i := 0) (j := 6) (Ni := some 33) (Nj := some 39) #[true, true, true, true, false, true, false, false, true, true, true, false, false] #[false, true, true, true, false, true, true, false, true, true, true, false, false] rfl rfl rfl rfl (two_of HT_.out bfqv_) bi3y_ bi3y_ (fun K hK => ?_) (fun K hK => ?_)
   ·refine Kd.R_lit_step (Kd.int .i64) _ 3 ?hg (N := 33) ?hd (xs := ([] : List Int)) (inner := []) (ok := fun _ => True) (okp := fun _ => True) ?hr ?hp (fun _ hk => hk) trivial (Below.refl _ _) (Nat.le_refl _) bxka_ ?_; (case hd => rfl); (case hg => rfl); (case hr => go_simp; first | done | rfl); (case hp => exact (Reps.none _ _))
    intro v2 w2 ho37 hb hg_ hnew_
    clear hg_ hnew_
    (first | rw [← Ny1.out] at ho37 | (simp only [Int.reduceToNat] at ho37; rw [← Ny1.out] at ho37))
    have HO1 := A0_ (Kd.R_lower ho37 (bz_ brt4_))
    replace HB := hb_ hb brt4_
    clear hb ho37
    refine hK.out _ _ trivial (fun hHeld => ?_)
    clear hK K
    refine nm_ 33 ?_
    refine two_ (i := 4) (j := 6) (Ni := some 37) (Nj := some 39) #[true, true, true, true, true, true, false, false, true, true, true, false, false] #[true, true, true, true, false, true, true, false, true, true, true, false, false] rfl rfl rfl rfl (two_of HT_.out bfqv_) bi3y_ bi3y_ (fun K hK => ?_) (fun K hK => ?_)
    ·refine Kd.R_append_rows_step (Kd.int .i64) (w0 := w) w.heap.size b139_ (.tmp 33) (.tmp 36) 22 3 (.int .i64 0) 8 rfl Tryd.underlying22 info3 rfl bi3y_ bh19_ v2 y1 (l0.take (x5_1 : Int).toNat) _ _ _ (fun _ => True) (fun _ => False) rfl rfl ?aO ?aR (fun _ _ h => h) (fun _ h => h.elim) ?aF ?aB ?aS ?aL ?_
     (case aR => first | (have e_ : (l0.take (x5_1 : Int).toNat).length = x5_1.toNat := b668_; have hx_ := cb_ HR183.out HB.out; rw [e_] at hx_; repeat (first | exact hx_ | (with_reducible refine ca_ ?_ _) | (with_reducible refine cn_ ?_ _) | (with_reducible refine cd_ ?_))) | (repeat (first | exact (cb_ HR183.out HB.out) | (with_reducible refine ca_ ?_ _) | (with_reducible refine cn_ ?_ _) | (with_reducible refine cd_ ?_))))
     (case aB => exact brt4_)
     (case aF => exact (fun _ _ => trivial))
     (case aO => exact bsm5_)
     (case aS => exact (bz_ brt4_))
     (case aL => have := LMc1.out; have hlx_ := (show (l0.take (x5_1 : Int).toNat).length = x5_1.toNat from b668_); omega)
     intro v3 w3 ho hb hg hat
     rw [← Ny2.out] at ho
     have n0_ := A0_ (hb)
     have n1_ := A0_ (ho)
     clear HB
     clear HO1
     have HB := n0_
     have HO2 := n1_
     clear n0_ n1_
     clear ho hb hg hat
     refine hK.out _ _ trivial (fun hHeld => ?_)
     clear hK K
     refine nm_ 37 ?_
     refine on_ 6 (some 39) (fun K hK => ?_)
     refine Kd.R_lit_step (Kd.int .i64) _ 3 ?hg (N := 39) ?hd (xs := ([a1] : List Int)) (inner := [.int .i64 a1]) (ok := fun _ => True) (okp := fun _ => True) ?hr ?hp (fun _ hk => hk) trivial (Below.refl _ _) (Nat.le_refl _) bxka_ ?_; (case hd => rfl); (case hg => rfl); (case hr => go_simp; first | done | rfl); (case hp => exact (Reps.one (show Kd.M (Kd.int .i64) _ _ _ a1 [.int .i64 a1] from rfl) (Reps.none _ _)))
     intro v4 w4 ho40 hb hg_ hnew_
     clear hg_ hnew_
     (first | rw [← Ny3.out] at ho40 | (simp only [Int.reduceToNat] at ho40; rw [← Ny3.out] at ho40))
     have HO3 := A0_ (Kd.R_lower (Kd.R_new' ho40 (Kd.R_lt b9so_)) (bz_ brt4_))
     replace HO2 := A0_ (Kd.R_elder' b9so_ (Kd.R_base ho40) hb)
     replace HB := hb_ hb brt4_
     clear hb ho40
     refine hK.out _ _ trivial (fun hHeld => ?_)
     clear hK K
     refine nm_ 39 ?_
     exact norm_ bh00_ (hCont (v2, v3, v4) _ ⟨b61e_, (by (with_reducible repeat (first | apply ra_ | apply rn_ | apply rd_)); exact Kd.R_mono HO3.out (fun _ hk => hk.2)), brt4_⟩)
    refine Kd.R_lit_step (Kd.int .i64) _ 3 ?hg (N := 39) ?hd (xs := ([a1] : List Int)) (inner := [.int .i64 a1]) (ok := fun _ => True) (okp := fun _ => True) ?hr ?hp (fun _ hk => hk) trivial (Below.refl _ _) (Nat.le_refl _) bxka_ ?_; (case hd => rfl); (case hg => rfl); (case hr => go_simp; first | done | rfl); (case hp => exact (Reps.one (show Kd.M (Kd.int .i64) _ _ _ a1 [.int .i64 a1] from rfl) (Reps.none _ _)))
    intro v3 w3 ho39 hb hg_ hnew_
    clear hg_ hnew_
    (first | rw [← Ny3.out] at ho39 | (simp only [Int.reduceToNat] at ho39; rw [← Ny3.out] at ho39))
    have HO2 := A0_ (Kd.R_lower (Kd.R_new' ho39 (Kd.R_lt bsm5_)) (bz_ brt4_))
    replace HO1 := A0_ (Kd.R_elder' bsm5_ (Kd.R_base ho39) hb)
    replace HB := hb_ hb brt4_
    clear hb ho39
    refine hK.out _ _ trivial (fun hHeld => ?_)
    clear hK K
    refine nm_ 39 ?_
    refine on_ 4 (some 37) (fun K hK => ?_)
    refine Kd.R_append_rows_step (Kd.int .i64) (w0 := w) w.heap.size b139_ (.tmp 33) (.tmp 36) 22 3 (.int .i64 0) 8 rfl Tryd.underlying22 info3 rfl bi3y_ bh19_ v2 y1 (l0.take (x5_1 : Int).toNat) _ _ _ (fun k_ => no_ v3 k_) (fun _ => False) rfl rfl ?aO ?aR (fun _ _ h => h) (fun _ h => h.elim) ?aF ?aB ?aS ?aL ?_
    (case aR => first | (have e_ : (l0.take (x5_1 : Int).toNat).length = x5_1.toNat := b668_; have hx_ := cb_ HR183.out HB.out; rw [e_] at hx_; repeat (first | exact hx_ | (with_reducible refine ca_ ?_ _) | (with_reducible refine cn_ ?_ _) | (with_reducible refine cd_ ?_))) | (repeat (first | exact (cb_ HR183.out HB.out) | (with_reducible refine ca_ ?_ _) | (with_reducible refine cn_ ?_ _) | (with_reducible refine cd_ ?_))))
    (case aB => exact brt4_)
    (case aF => exact (fun k_ hk => Kd.fresh' (Kd.R_lt b9so_) k_ hk))
    (case aO => exact b48f_)
    (case aS => exact (bz_ brt4_))
    (case aL => have := LMc1.out; have hlx_ := (show (l0.take (x5_1 : Int).toNat).length = x5_1.toNat from b668_); omega)
    intro v4 w4 ho hb hg hat
    rw [← Ny2.out] at ho
    have n0_ := A0_ (Kd.R_after (ok := (fun _ => True)) b9so_ hg hat)
    have n1_ := A0_ (hb)
    have n2_ := A0_ (ho)
    clear HO2
    clear HB
    clear HO1
    have HO2 := n0_
    have HB := n1_
    have HO3 := n2_
    clear n0_ n1_ n2_
    clear ho hb hg hat
    refine hK.out _ _ trivial (fun hHeld => ?_)
    clear hK K
    refine nm_ 37 ?_
    exact norm_ bh00_ (hCont (v2, v4, v3) _ ⟨buiy_, b61e_, brt4_⟩)
   refine Kd.R_lit_step (Kd.int .i64) _ 3 ?hg (N := 39) ?hd (xs := ([a1] : List Int)) (inner := [.int .i64 a1]) (ok := fun _ => True) (okp := fun _ => True) ?hr ?hp (fun _ hk => hk) trivial (Below.refl _ _) (Nat.le_refl _) bxka_ ?_; (case hd => rfl); (case hg => rfl); (case hr => go_simp; first | done | rfl); (case hp => exact (Reps.one (show Kd.M (Kd.int .i64) _ _ _ a1 [.int .i64 a1] from rfl) (Reps.none _ _)))
   intro v2 w2 ho37 hb hg_ hnew_
   clear hg_ hnew_
   (first | rw [← Ny3.out] at ho37 | (simp only [Int.reduceToNat] at ho37; rw [← Ny3.out] at ho37))
   have HO1 := A0_ (Kd.R_lower ho37 (bz_ brt4_))
   replace HB := hb_ hb brt4_
   clear hb ho37
   refine hK.out _ _ trivial (fun hHeld => ?_)
   clear hK K
   refine nm_ 39 ?_
   refine on_ 0 (some 33) (fun K hK => ?_)
   refine Kd.R_lit_step (Kd.int .i64) _ 3 ?hg (N := 33) ?hd (xs := ([] : List Int)) (inner := []) (ok := fun _ => True) (okp := fun _ => True) ?hr ?hp (fun _ hk => hk) trivial (Below.refl _ _) (Nat.le_refl _) bxka_ ?_; (case hd => rfl); (case hg => rfl); (case hr => go_simp; first | done | rfl); (case hp => exact (Reps.none _ _))
   intro v3 w3 ho39 hb hg_ hnew_
   clear hg_ hnew_
   (first | rw [← Ny1.out] at ho39 | (simp only [Int.reduceToNat] at ho39; rw [← Ny1.out] at ho39))
   have HO2 := A0_ (Kd.R_lower (Kd.R_new' ho39 (Kd.R_lt bsm5_)) (bz_ brt4_))
   replace HO1 := A0_ (Kd.R_elder' bsm5_ (Kd.R_base ho39) hb)
   replace HB := hb_ hb brt4_
   clear hb ho39
   refine hK.out _ _ trivial (fun hHeld => ?_)
   clear hK K
   refine nm_ 33 ?_
   refine on_ 4 (some 37) (fun K hK => ?_)
   refine Kd.R_append_rows_step (Kd.int .i64) (w0 := w) w.heap.size b139_ (.tmp 33) (.tmp 36) 22 3 (.int .i64 0) 8 rfl Tryd.underlying22 info3 rfl bi3y_ bh19_ v3 y1 (l0.take (x5_1 : Int).toNat) _ _ _ (fun k_ => no_ v2 k_) (fun _ => False) rfl rfl ?aO ?aR (fun _ _ h => h) (fun _ h => h.elim) ?aF ?aB ?aS ?aL ?_
   (case aR => first | (have e_ : (l0.take (x5_1 : Int).toNat).length = x5_1.toNat := b668_; have hx_ := cb_ HR183.out HB.out; rw [e_] at hx_; repeat (first | exact hx_ | (with_reducible refine ca_ ?_ _) | (with_reducible refine cn_ ?_ _) | (with_reducible refine cd_ ?_))) | (repeat (first | exact (cb_ HR183.out HB.out) | (with_reducible refine ca_ ?_ _) | (with_reducible refine cn_ ?_ _) | (with_reducible refine cd_ ?_))))
   (case aB => exact brt4_)
   (case aF => exact (fun k_ hk => Kd.fresh' (Kd.R_lt bsm5_) k_ hk))
   (case aO => exact b61e_)
   (case aS => exact (bz_ brt4_))
   (case aL => have := LMc1.out; have hlx_ := (show (l0.take (x5_1 : Int).toNat).length = x5_1.toNat from b668_); omega)
   intro v4 w4 ho hb hg hat
   rw [← Ny2.out] at ho
   have n0_ := A0_ (Kd.R_after (ok := (fun _ => True)) bsm5_ hg hat)
   have n1_ := A0_ (hb)
   have n2_ := A0_ (ho)
   clear HO1
   clear HB
   clear HO2
   have HO1 := n0_
   have HB := n1_
   have HO3 := n2_
   clear n0_ n1_ n2_
   clear ho hb hg hat
   refine hK.out _ _ trivial (fun hHeld => ?_)
   clear hK K
   refine nm_ 37 ?_
   exact norm_ bh00_ (hCont (v3, v4, v2) _ ⟨buiy_, b48f_, brt4_⟩)
  rintro ⟨v2, v3, v4⟩ w2 ⟨h0_, h1_, h2_⟩
  try dsimp only at h0_ h1_ h2_
  have HO1 := A0_ h0_
  have HO2 := A0_ h1_
  replace HB := A0_ h2_
  clear h0_ h1_ h2_
  have hHeld := trivial
  obtain ⟨Ao1, co1, eo1⟩ := Kd.R_slice HO2.out
  (first | subst eo1 | (injection eo1 with f1_ f2_ f3_; have f4_ := f1_.symm; have f5_ := f3_.symm; clear f1_ f2_ f3_; subst f4_; subst f5_))
  refine nq_ ?_
  refine on_ 7 (some 40) (fun K hK => ?_)
  refine Kd.R_append_rows_step (Kd.int .i64) (w0 := w) w.heap.size b139_ (.tmp 37) (.tmp 39) 22 3 (.int .i64 0) 8 rfl Tryd.underlying22 info3 rfl bi3y_ bh19_ v3 y2 y3 _ _ _ (fun k_ => no_ (.slice Ao1 y3.length co1) k_) (fun _ => False) rfl rfl ?aO ?aR (fun _ _ h => h) (fun _ h => h.elim) ?aF ?aB ?aS ?aL ?_
  (case aR => exact ba04_)
  (case aB => exact brt4_)
  (case aF => exact (fun k_ hk => Kd.fresh' (Kd.R_lt b9so_) k_ hk))
  (case aO => exact bsm5_)
  (case aS => exact (bz_ brt4_))
  (case aL => have := LMc2.out; omega)
  intro v5 w3 ho hb hg hat
  rw [← Ny4.out] at ho
  have n0_ := A0_ (Kd.R_after (ok := (fun _ => True)) b38p_ hg hat)
  have n1_ := A0_ (hb)
  have n2_ := A0_ (ho)
  clear HO2
  clear HB
  clear HO1
  have HO2 := n0_
  have HB := n1_
  have HO3 := n2_
  clear n0_ n1_ n2_
  clear ho hb hg hat
  refine hK.out _ _ trivial (fun hHeld => ?_)
  clear hK K
  refine nm_ 40 ?_
  refine on_ 11 (some 44) (fun K hK => ?_)
  refine Kd.R_append_rows_step (Kd.int .i64) (w0 := w) w.heap.size b139_ (.tmp 40) (.tmp 43) 22 3 (.int .i64 0) 8 rfl Tryd.underlying22 info3 rfl bi3y_ bh19_ v5 y4 (l0.drop (x5_1 : Int).toNat) _ _ _ (fun k_ => no_ (.slice Ao1 y3.length co1) k_) (fun _ => False) rfl rfl ?aO ?aR (fun _ _ h => h) (fun _ h => h.elim) ?aF ?aB ?aS ?aL ?_
  (case aR => first | (rw [← show (l0.drop (x5_1 : Int).toNat).length = (l0.length - x5_1.toNat) from ld_]; repeat (first | exact (cb_ HR193.out HB.out) | (with_reducible refine ca_ ?_ _) | (with_reducible refine cn_ ?_ _) | (with_reducible refine cd_ ?_))) | (repeat (first | exact (cb_ HR193.out HB.out) | (with_reducible refine ca_ ?_ _) | (with_reducible refine cn_ ?_ _) | (with_reducible refine cd_ ?_))))
  (case aB => exact brt4_)
  (case aF => exact (fun k_ hk => Kd.fresh' (Kd.R_lt b9so_) k_ hk))
  (case aO => exact buiy_)
  (case aS => exact (bz_ brt4_))
  (case aL => have := LMc3.out; have hlx_ := (show (l0.drop (x5_1 : Int).toNat).length = (l0.length - x5_1.toNat) from ld_); omega)
  intro v6 w4 ho hb hg hat
  rw [← Ny5.out] at ho
  have n0_ := A0_ (Kd.R_after (ok := (fun _ => True)) b9so_ hg hat)
  have n1_ := A0_ (hb)
  have n2_ := A0_ (ho)
  clear HO2
  clear HB
  clear HO3
  have HO2 := n0_
  have HB := n1_
  have HO4 := n2_
  clear n0_ n1_ n2_
  clear ho hb hg hat
  refine hK.out _ _ trivial (fun hHeld => ?_)
  clear hK K
  refine nm_ 44 ?_
  refine pu_ 12 4 ?_
  refine dn_ ?_
  try go_wp2
  go_ret
  exact ⟨_, bnwh_, ba8y_, brt4_⟩
 rw [if_pos c1] at H
 have c1b0 : decide (x5_1 < (l0.length : Int)) = true := dt_ c1
 clear c1
 by_cases c2 : 0 ≤ x5_1
 case neg =>
  rw [if_neg c2] at H
  exact absurd H bxka_
 rw [if_pos c2] at H
 have c2b0 : decide (0 ≤ x5_1) = true := dt_ c2
 clear c2
 by_cases c3 : (rd l0 x5_1) < a1
 ·rw [if_pos c3] at H
  have c3b0 : decide ((rd l0 x5_1) < a1) = true := dt_ c3
  clear c3
  have H' := A0_ H
  clear H
  have p1 : 0 ≤ (x5_1 : Int) := od_ bpil_
  have q1 : x5_1 < (l0.length : Int) := od_ bpil_
  obtain ⟨ad1, e1, hx1_0⟩ := Kd.at_int HR0.out x5_1 p1 q1
  cases e1
  replace hx1_0 := (HB.out.cell (World.block_lt_of_cell? w _ hx1_0)).trans hx1_0
  replace p1 := eq_true p1
  replace q1 := eq_true q1
  go_wp2
  go_roundg k1
  case measure => have := HK1.out; omega
  exact ⟨(wrap64 (x5_1 + 1)), b2ew_, H', ⟨bxjq_⟩, ⟨brt4_⟩⟩
 rw [if_neg c3] at H
 have c3b0 : decide ((rd l0 x5_1) < a1) = false := decide_eq_false c3
 clear c3
 by_cases c4 : (rd l0 x5_1) = a1
 ·rw [if_pos c4] at H
  exact absurd H bxka_
 rw [if_neg c4] at H
 obtain ⟨c4b0, c4b1⟩ := ef_ c4
 obtain ⟨y1, hy1⟩ : ∃ y_ : List Int, y_ = (([] : List Int)) := ⟨_, rfl⟩
 replace H : (if x5_1 ≤ (l0.length : Int) then (if y1.length + (l0.take (x5_1 : Int).toNat).length < 17592186044416 then ((some (y1 ++ (l0.take (x5_1 : Int).toNat) : List Int)).bind fun y2 => ((some (([a1] : List Int) : List Int)).bind fun y3 => (if y2.length + y3.length < 17592186044416 then ((some (y2 ++ y3 : List Int)).bind fun y4 => (if y4.length + (l0.drop (x5_1 : Int).toNat).length < 17592186044416 then (some (y4 ++ (l0.drop (x5_1 : Int).toNat))) else (none))) else (none)))) else (none)) else (none)) = some r := bgiq_
 have Ny1 := A0_ hy1
 clear hy1
 have c5b0 := eq_true (od_ bpil_ : 0 ≤ x5_1)
 by_cases c6 : x5_1 ≤ (l0.length : Int)
 case neg =>
  rw [if_neg c6] at H
  exact absurd H bxka_
 rw [if_pos c6] at H
 have c6b0 := eq_true c6
 have c6b1 : decide (x5_1 ≤ (l0.length : Int)) = true := dt_ c6
 clear c6
 by_cases c7 : y1.length + (l0.take (x5_1 : Int).toNat).length < 17592186044416
 case neg =>
  rw [if_neg c7] at H
  exact absurd H bxka_
 rw [if_pos c7] at H
 have LMc1 := A0_ c7
 clear c7
 obtain ⟨y2, hy2⟩ : ∃ y_ : List Int, y_ = (y1 ++ (l0.take (x5_1 : Int).toNat)) := ⟨_, rfl⟩
 replace H : ((some (([a1] : List Int) : List Int)).bind fun y3 => (if y2.length + y3.length < 17592186044416 then ((some (y2 ++ y3 : List Int)).bind fun y4 => (if y4.length + (l0.drop (x5_1 : Int).toNat).length < 17592186044416 then (some (y4 ++ (l0.drop (x5_1 : Int).toNat))) else (none))) else (none))) = some r := bscs_
 have Ny2 := A0_ hy2
 clear hy2
 obtain ⟨y3, hy3⟩ : ∃ y_ : List Int, y_ = (([a1] : List Int)) := ⟨_, rfl⟩
 replace H : (if y2.length + y3.length < 17592186044416 then ((some (y2 ++ y3 : List Int)).bind fun y4 => (if y4.length + (l0.drop (x5_1 : Int).toNat).length < 17592186044416 then (some (y4 ++ (l0.drop (x5_1 : Int).toNat))) else (none))) else (none)) = some r := b2x6_
 have Ny3 := A0_ hy3
 clear hy3
 by_cases c8 : y2.length + y3.length < 17592186044416
 case neg =>
  rw [if_neg c8] at H
  exact absurd H bxka_
 rw [if_pos c8] at H
 have LMc2 := A0_ c8
 clear c8
 obtain ⟨y4, hy4⟩ : ∃ y_ : List Int, y_ = (y2 ++ y3) := ⟨_, rfl⟩
 replace H : (if y4.length + (l0.drop (x5_1 : Int).toNat).length < 17592186044416 then (some (y4 ++ (l0.drop (x5_1 : Int).toNat))) else (none)) = some r := bytg_
 have Ny4 := A0_ hy4
 clear hy4
 have c9b0 := eq_true (od_ bpil_ : 0 ≤ x5_1)
 have c10b0 := eq_true (od_ bpil_ : x5_1 ≤ (l0.length : Int))
 by_cases c11 : y4.length + (l0.drop (x5_1 : Int).toNat).length < 17592186044416
 case neg =>
  rw [if_neg c11] at H
  exact absurd H bxka_
 rw [if_pos c11] at H
 have LMc3 := A0_ c11
 clear c11
 obtain ⟨y5, hy5⟩ : ∃ y_ : List Int, y_ = (y4 ++ (l0.drop (x5_1 : Int).toNat)) := ⟨_, rfl⟩
 replace H : (some y5) = some r := byjl_
 have Ny5 := A0_ hy5
 clear hy5
 obtain rfl := si_ H
 have p1 : 0 ≤ (x5_1 : Int) := od_ bpil_
 have q1 : x5_1 < (l0.length : Int) := od_ bpil_
 obtain ⟨ad1, e1, hx1_0⟩ := Kd.at_int HR0.out x5_1 p1 q1
 cases e1
 replace hx1_0 := (HB.out.cell (World.block_lt_of_cell? w _ hx1_0)).trans hx1_0
 replace p1 := eq_true p1
 replace q1 := eq_true q1
 have p2 : 0 ≤ (x5_1 : Int) := od_ bpil_
 have q2 : x5_1 < (l0.length : Int) := od_ bpil_
 obtain ⟨ad2, e2, hx2_0⟩ := Kd.at_int HR0.out x5_1 p2 q2
 obtain rfl : ad1 = ad2 := bs6y_
 replace hx2_0 := (HB.out.cell (World.block_lt_of_cell? w _ hx2_0)).trans hx2_0
 replace p2 := eq_true p2
 replace q2 := eq_true q2
 try go_wp2
 replace HB := A0_ (bd_ HB.out)
 obtain ⟨i015, hi015, _, hsz15, _⟩ := info_parts info3
 obtain ⟨hcut15, hA15, hC15⟩ := print_take_of (P := Tryd.prog) (Value.int .i64) 0 22 3 .i64 Tryd.underlying22 hi015 hsz15 (some ad1) c0 l0 x5_1 (od_ bpil_) (od_ bpil_) HC0.out
 have HR166 := A0_ (Kd.C_of_reads (h1 := fun _ => rfl) (hA15 _ (Kd.reads_of_C HR0.out)))
 have HC166 := A0_ hC15
 clear hA15 hC15 hi015 hsz15
 obtain ⟨i016, hi016, _, hsz16, _⟩ := info_parts info3
 obtain ⟨A1, hcut16, hA16, hC16⟩ := print_drop_of (P := Tryd.prog) (Value.int .i64) 0 22 3 .i64 Tryd.underlying22 hi016 hsz16 (some ad1) c0 l0 x5_1 (od_ bpil_) (od_ bpil_) HC0.out
 have HR176 := A0_ (Kd.C_of_reads (h1 := fun _ => rfl) (hA16 _ (Kd.reads_of_C HR0.out)))
 have HC176 := A0_ hC16
 clear hA16 hC16 hi016 hsz16
 refine start_ (n := 13) (S := fun w' => True) (ds := []) #[false, false, false, false, false, false, false, false, false, false, false, false, false] bfqv_ rfl rfl trivial (fun hHeld => ?_); refine with_tabW spec_l1Put.tab6 spec_l1Put.bits6 (fun HT_ HW_ => ?_)
 generalize wr.drew = w1 at HB HR166 HR176 hHeld ⊢
 refine pu_ 1 34 ?_
 refine pu_ 2 35 ?_
 refine pu_ 3 36 ?_
 refine pu_ 5 38 ?_
 refine pu_ 8 41 ?_
 refine pu_ 9 42 ?_
 refine pu_ 10 43 ?_
 refine join_ (σ := Value × Value × Value) 3 #[true, true, true, true, true, true, true, false, true, true, true, false, false] (fun s_ => [(33, s_.1), (37, s_.2.1), (39, s_.2.2)]) (fun s_ w' => (Kd.R (Kd.int .i64) 3 w' w.heap.size (fun k_ => some k_ ≠ (s_.2.2 : Value).ownBlock) s_.2.1 y2) ∧ (Kd.R (Kd.int .i64) 3 w' w.heap.size (fun k_ => some k_ ≠ (s_.2.1 : Value).ownBlock) s_.2.2 y3) ∧ (Below w.heap.size w w')) ?_ ?_
 rotate_left
 ·intro hCont
  refine two_ (i := 0) (j := 6) (Ni := some 33) (Nj := some 39) #[true, true, true, true, false, true, false, false, true, true, true, false, false] #[false, true, true, true, false, true, true, false, true, true, true, false, false] rfl rfl rfl rfl (two_of HT_.out bfqv_) bi3y_ bi3y_ (fun K hK => ?_) (fun K hK => ?_)
  ·refine Kd.R_lit_step (Kd.int .i64) _ 3 ?hg (N := 33) ?hd (xs := ([] : List Int)) (inner := []) (ok := fun _ => True) (okp := fun _ => True) ?hr ?hp (fun _ hk => hk) trivial (Below.refl _ _) (Nat.le_refl _) bxka_ ?_; (case hd => rfl); (case hg => rfl); (case hr => go_simp; first | done | rfl); (case hp => exact (Reps.none _ _))
   intro v2 w2 ho18 hb hg_ hnew_
   clear hg_ hnew_
   (first | rw [← Ny1.out] at ho18 | (simp only [Int.reduceToNat] at ho18; rw [← Ny1.out] at ho18))
   have HO1 := A0_ (Kd.R_lower ho18 (bz_ brt4_))
   replace HB := hb_ hb brt4_
   clear hb ho18
   refine hK.out _ _ trivial (fun hHeld => ?_)
   clear hK K
   refine nm_ 33 ?_
   refine two_ (i := 4) (j := 6) (Ni := some 37) (Nj := some 39) #[true, true, true, true, true, true, false, false, true, true, true, false, false] #[true, true, true, true, false, true, true, false, true, true, true, false, false] rfl rfl rfl rfl (two_of HT_.out bfqv_) bi3y_ bi3y_ (fun K hK => ?_) (fun K hK => ?_)
   ·refine Kd.R_append_rows_step (Kd.int .i64) (w0 := w) w.heap.size b139_ (.tmp 33) (.tmp 36) 22 3 (.int .i64 0) 8 rfl Tryd.underlying22 info3 rfl bi3y_ bh19_ v2 y1 (l0.take (x5_1 : Int).toNat) _ _ _ (fun _ => True) (fun _ => False) rfl rfl ?aO ?aR (fun _ _ h => h) (fun _ h => h.elim) ?aF ?aB ?aS ?aL ?_
    (case aR => first | (have e_ : (l0.take (x5_1 : Int).toNat).length = x5_1.toNat := b668_; have hx_ := cb_ HR166.out HB.out; rw [e_] at hx_; repeat (first | exact hx_ | (with_reducible refine ca_ ?_ _) | (with_reducible refine cn_ ?_ _) | (with_reducible refine cd_ ?_))) | (repeat (first | exact (cb_ HR166.out HB.out) | (with_reducible refine ca_ ?_ _) | (with_reducible refine cn_ ?_ _) | (with_reducible refine cd_ ?_))))
    (case aB => exact brt4_)
    (case aF => exact (fun _ _ => trivial))
    (case aO => exact bsm5_)
    (case aS => exact (bz_ brt4_))
    (case aL => have := LMc1.out; have hlx_ := (show (l0.take (x5_1 : Int).toNat).length = x5_1.toNat from b668_); omega)
    intro v3 w3 ho hb hg hat
    rw [← Ny2.out] at ho
    have n0_ := A0_ (hb)
    have n1_ := A0_ (ho)
    clear HB
    clear HO1
    have HB := n0_
    have HO2 := n1_
    clear n0_ n1_
    clear ho hb hg hat
    refine hK.out _ _ trivial (fun hHeld => ?_)
    clear hK K
    refine nm_ 37 ?_
    refine on_ 6 (some 39) (fun K hK => ?_)
    refine Kd.R_lit_step (Kd.int .i64) _ 3 ?hg (N := 39) ?hd (xs := ([a1] : List Int)) (inner := [.int .i64 a1]) (ok := fun _ => True) (okp := fun _ => True) ?hr ?hp (fun _ hk => hk) trivial (Below.refl _ _) (Nat.le_refl _) bxka_ ?_; (case hd => rfl); (case hg => rfl); (case hr => go_simp; first | done | rfl); (case hp => exact (Reps.one (show Kd.M (Kd.int .i64) _ _ _ a1 [.int .i64 a1] from rfl) (Reps.none _ _)))
    intro v4 w4 ho21 hb hg_ hnew_
    clear hg_ hnew_
    (first | rw [← Ny3.out] at ho21 | (simp only [Int.reduceToNat] at ho21; rw [← Ny3.out] at ho21))
    have HO3 := A0_ (Kd.R_lower (Kd.R_new' ho21 (Kd.R_lt b9so_)) (bz_ brt4_))
    replace HO2 := A0_ (Kd.R_elder' b9so_ (Kd.R_base ho21) hb)
    replace HB := hb_ hb brt4_
    clear hb ho21
    refine hK.out _ _ trivial (fun hHeld => ?_)
    clear hK K
    refine nm_ 39 ?_
    exact norm_ bh00_ (hCont (v2, v3, v4) _ ⟨b61e_, (by (with_reducible repeat (first | apply ra_ | apply rn_ | apply rd_)); exact Kd.R_mono HO3.out (fun _ hk => hk.2)), brt4_⟩)
   refine Kd.R_lit_step (Kd.int .i64) _ 3 ?hg (N := 39) ?hd (xs := ([a1] : List Int)) (inner := [.int .i64 a1]) (ok := fun _ => True) (okp := fun _ => True) ?hr ?hp (fun _ hk => hk) trivial (Below.refl _ _) (Nat.le_refl _) bxka_ ?_; (case hd => rfl); (case hg => rfl); (case hr => go_simp; first | done | rfl); (case hp => exact (Reps.one (show Kd.M (Kd.int .i64) _ _ _ a1 [.int .i64 a1] from rfl) (Reps.none _ _)))
   intro v3 w3 ho20 hb hg_ hnew_
   clear hg_ hnew_
   (first | rw [← Ny3.out] at ho20 | (simp only [Int.reduceToNat] at ho20; rw [← Ny3.out] at ho20))
   have HO2 := A0_ (Kd.R_lower (Kd.R_new' ho20 (Kd.R_lt bsm5_)) (bz_ brt4_))
   replace HO1 := A0_ (Kd.R_elder' bsm5_ (Kd.R_base ho20) hb)
   replace HB := hb_ hb brt4_
   clear hb ho20
   refine hK.out _ _ trivial (fun hHeld => ?_)
   clear hK K
   refine nm_ 39 ?_
   refine on_ 4 (some 37) (fun K hK => ?_)
   refine Kd.R_append_rows_step (Kd.int .i64) (w0 := w) w.heap.size b139_ (.tmp 33) (.tmp 36) 22 3 (.int .i64 0) 8 rfl Tryd.underlying22 info3 rfl bi3y_ bh19_ v2 y1 (l0.take (x5_1 : Int).toNat) _ _ _ (fun k_ => no_ v3 k_) (fun _ => False) rfl rfl ?aO ?aR (fun _ _ h => h) (fun _ h => h.elim) ?aF ?aB ?aS ?aL ?_
   (case aR => first | (have e_ : (l0.take (x5_1 : Int).toNat).length = x5_1.toNat := b668_; have hx_ := cb_ HR166.out HB.out; rw [e_] at hx_; repeat (first | exact hx_ | (with_reducible refine ca_ ?_ _) | (with_reducible refine cn_ ?_ _) | (with_reducible refine cd_ ?_))) | (repeat (first | exact (cb_ HR166.out HB.out) | (with_reducible refine ca_ ?_ _) | (with_reducible refine cn_ ?_ _) | (with_reducible refine cd_ ?_))))
   (case aB => exact brt4_)
   (case aF => exact (fun k_ hk => Kd.fresh' (Kd.R_lt b9so_) k_ hk))
   (case aO => exact b48f_)
   (case aS => exact (bz_ brt4_))
   (case aL => have := LMc1.out; have hlx_ := (show (l0.take (x5_1 : Int).toNat).length = x5_1.toNat from b668_); omega)
   intro v4 w4 ho hb hg hat
   rw [← Ny2.out] at ho
   have n0_ := A0_ (Kd.R_after (ok := (fun _ => True)) b9so_ hg hat)
   have n1_ := A0_ (hb)
   have n2_ := A0_ (ho)
   clear HO2
   clear HB
   clear HO1
   have HO2 := n0_
   have HB := n1_
   have HO3 := n2_
   clear n0_ n1_ n2_
   clear ho hb hg hat
   refine hK.out _ _ trivial (fun hHeld => ?_)
   clear hK K
   refine nm_ 37 ?_
   exact norm_ bh00_ (hCont (v2, v4, v3) _ ⟨buiy_, b61e_, brt4_⟩)
  refine Kd.R_lit_step (Kd.int .i64) _ 3 ?hg (N := 39) ?hd (xs := ([a1] : List Int)) (inner := [.int .i64 a1]) (ok := fun _ => True) (okp := fun _ => True) ?hr ?hp (fun _ hk => hk) trivial (Below.refl _ _) (Nat.le_refl _) bxka_ ?_; (case hd => rfl); (case hg => rfl); (case hr => go_simp; first | done | rfl); (case hp => exact (Reps.one (show Kd.M (Kd.int .i64) _ _ _ a1 [.int .i64 a1] from rfl) (Reps.none _ _)))
  intro v2 w2 ho18 hb hg_ hnew_
  clear hg_ hnew_
  (first | rw [← Ny3.out] at ho18 | (simp only [Int.reduceToNat] at ho18; rw [← Ny3.out] at ho18))
  have HO1 := A0_ (Kd.R_lower ho18 (bz_ brt4_))
  replace HB := hb_ hb brt4_
  clear hb ho18
  refine hK.out _ _ trivial (fun hHeld => ?_)
  clear hK K
  refine nm_ 39 ?_
  refine on_ 0 (some 33) (fun K hK => ?_)
  refine Kd.R_lit_step (Kd.int .i64) _ 3 ?hg (N := 33) ?hd (xs := ([] : List Int)) (inner := []) (ok := fun _ => True) (okp := fun _ => True) ?hr ?hp (fun _ hk => hk) trivial (Below.refl _ _) (Nat.le_refl _) bxka_ ?_; (case hd => rfl); (case hg => rfl); (case hr => go_simp; first | done | rfl); (case hp => exact (Reps.none _ _))
  intro v3 w3 ho20 hb hg_ hnew_
  clear hg_ hnew_
  (first | rw [← Ny1.out] at ho20 | (simp only [Int.reduceToNat] at ho20; rw [← Ny1.out] at ho20))
  have HO2 := A0_ (Kd.R_lower (Kd.R_new' ho20 (Kd.R_lt bsm5_)) (bz_ brt4_))
  replace HO1 := A0_ (Kd.R_elder' bsm5_ (Kd.R_base ho20) hb)
  replace HB := hb_ hb brt4_
  clear hb ho20
  refine hK.out _ _ trivial (fun hHeld => ?_)
  clear hK K
  refine nm_ 33 ?_
  refine on_ 4 (some 37) (fun K hK => ?_)
  refine Kd.R_append_rows_step (Kd.int .i64) (w0 := w) w.heap.size b139_ (.tmp 33) (.tmp 36) 22 3 (.int .i64 0) 8 rfl Tryd.underlying22 info3 rfl bi3y_ bh19_ v3 y1 (l0.take (x5_1 : Int).toNat) _ _ _ (fun k_ => no_ v2 k_) (fun _ => False) rfl rfl ?aO ?aR (fun _ _ h => h) (fun _ h => h.elim) ?aF ?aB ?aS ?aL ?_
  (case aR => first | (have e_ : (l0.take (x5_1 : Int).toNat).length = x5_1.toNat := b668_; have hx_ := cb_ HR166.out HB.out; rw [e_] at hx_; repeat (first | exact hx_ | (with_reducible refine ca_ ?_ _) | (with_reducible refine cn_ ?_ _) | (with_reducible refine cd_ ?_))) | (repeat (first | exact (cb_ HR166.out HB.out) | (with_reducible refine ca_ ?_ _) | (with_reducible refine cn_ ?_ _) | (with_reducible refine cd_ ?_))))
  (case aB => exact brt4_)
  (case aF => exact (fun k_ hk => Kd.fresh' (Kd.R_lt bsm5_) k_ hk))
  (case aO => exact b61e_)
  (case aS => exact (bz_ brt4_))
  (case aL => have := LMc1.out; have hlx_ := (show (l0.take (x5_1 : Int).toNat).length = x5_1.toNat from b668_); omega)
  intro v4 w4 ho hb hg hat
  rw [← Ny2.out] at ho
  have n0_ := A0_ (Kd.R_after (ok := (fun _ => True)) bsm5_ hg hat)
  have n1_ := A0_ (hb)
  have n2_ := A0_ (ho)
  clear HO1
  clear HB
  clear HO2
  have HO1 := n0_
  have HB := n1_
  have HO3 := n2_
  clear n0_ n1_ n2_
  clear ho hb hg hat
  refine hK.out _ _ trivial (fun hHeld => ?_)
  clear hK K
  refine nm_ 37 ?_
  exact norm_ bh00_ (hCont (v3, v4, v2) _ ⟨buiy_, b48f_, brt4_⟩)
 rintro ⟨v2, v3, v4⟩ w2 ⟨h0_, h1_, h2_⟩
 try dsimp only at h0_ h1_ h2_
 have HO1 := A0_ h0_
 have HO2 := A0_ h1_
 replace HB := A0_ h2_
 clear h0_ h1_ h2_
 have hHeld := trivial
 obtain ⟨Ao1, co1, eo1⟩ := Kd.R_slice HO2.out
 (first | subst eo1 | (injection eo1 with f1_ f2_ f3_; have f4_ := f1_.symm; have f5_ := f3_.symm; clear f1_ f2_ f3_; subst f4_; subst f5_))
 refine nq_ ?_
 refine on_ 7 (some 40) (fun K hK => ?_)
 refine Kd.R_append_rows_step (Kd.int .i64) (w0 := w) w.heap.size b139_ (.tmp 37) (.tmp 39) 22 3 (.int .i64 0) 8 rfl Tryd.underlying22 info3 rfl bi3y_ bh19_ v3 y2 y3 _ _ _ (fun k_ => no_ (.slice Ao1 y3.length co1) k_) (fun _ => False) rfl rfl ?aO ?aR (fun _ _ h => h) (fun _ h => h.elim) ?aF ?aB ?aS ?aL ?_
 (case aR => exact ba04_)
 (case aB => exact brt4_)
 (case aF => exact (fun k_ hk => Kd.fresh' (Kd.R_lt b9so_) k_ hk))
 (case aO => exact bsm5_)
 (case aS => exact (bz_ brt4_))
 (case aL => have := LMc2.out; omega)
 intro v5 w3 ho hb hg hat
 rw [← Ny4.out] at ho
 have n0_ := A0_ (Kd.R_after (ok := (fun _ => True)) b38p_ hg hat)
 have n1_ := A0_ (hb)
 have n2_ := A0_ (ho)
 clear HO2
 clear HB
 clear HO1
 have HO2 := n0_
 have HB := n1_
 have HO3 := n2_
 clear n0_ n1_ n2_
 clear ho hb hg hat
 refine hK.out _ _ trivial (fun hHeld => ?_)
 clear hK K
 refine nm_ 40 ?_
 refine on_ 11 (some 44) (fun K hK => ?_)
 refine Kd.R_append_rows_step (Kd.int .i64) (w0 := w) w.heap.size b139_ (.tmp 40) (.tmp 43) 22 3 (.int .i64 0) 8 rfl Tryd.underlying22 info3 rfl bi3y_ bh19_ v5 y4 (l0.drop (x5_1 : Int).toNat) _ _ _ (fun k_ => no_ (.slice Ao1 y3.length co1) k_) (fun _ => False) rfl rfl ?aO ?aR (fun _ _ h => h) (fun _ h => h.elim) ?aF ?aB ?aS ?aL ?_
 (case aR => first | (rw [← show (l0.drop (x5_1 : Int).toNat).length = (l0.length - x5_1.toNat) from ld_]; repeat (first | exact (cb_ HR176.out HB.out) | (with_reducible refine ca_ ?_ _) | (with_reducible refine cn_ ?_ _) | (with_reducible refine cd_ ?_))) | (repeat (first | exact (cb_ HR176.out HB.out) | (with_reducible refine ca_ ?_ _) | (with_reducible refine cn_ ?_ _) | (with_reducible refine cd_ ?_))))
 (case aB => exact brt4_)
 (case aF => exact (fun k_ hk => Kd.fresh' (Kd.R_lt b9so_) k_ hk))
 (case aO => exact buiy_)
 (case aS => exact (bz_ brt4_))
 (case aL => have := LMc3.out; have hlx_ := (show (l0.drop (x5_1 : Int).toNat).length = (l0.length - x5_1.toNat) from ld_); omega)
 intro v6 w4 ho hb hg hat
 rw [← Ny5.out] at ho
 have n0_ := A0_ (Kd.R_after (ok := (fun _ => True)) b9so_ hg hat)
 have n1_ := A0_ (hb)
 have n2_ := A0_ (ho)
 clear HO2
 clear HB
 clear HO3
 have HO2 := n0_
 have HB := n1_
 have HO4 := n2_
 clear n0_ n1_ n2_
 clear ho hb hg hat
 refine hK.out _ _ trivial (fun hHeld => ?_)
 clear hK K
 refine nm_ 44 ?_
 refine pu_ 12 4 ?_
 refine dn_ ?_
 try go_wp2
 go_ret
 exact ⟨_, bnwh_, ba8y_, brt4_⟩

def spec_l1Own.f (l0 : List Int) : Option (List Int) := (some (([] : List Int) : List Int)).bind fun y134 => (if y134.length + l0.length < 17592186044416 then (some (y134 ++ l0)) else (none))
theorem spec_l1Own.calls (A0 : Option Addr) (c0 : Nat) (l0 : List Int) (r : List Int) (w : World) (hr0 : Kd.C (Kd.int .i64) w A0 l0.length l0) (hc0 : l0.length ≤ c0) (h : spec_l1Own.f l0 = some r) :
  Calls Tryd.prog 73 #[.slice A0 l0.length c0] w fun e w' => ∃ v0_ : Value, e = .returned (v0_) ∧ Kd.R (Kd.int .i64) 3 w' w.heap.size (fun _ => True) v0_ r ∧ Below w.heap.size w w' := by
 have HR0 := A0_ hr0
 have HC0 := A0_ hc0
 clear hr0 hc0
 have HB := A0_ (Below.refl w.heap.size w)
 have H : ((some (([] : List Int) : List Int)).bind fun y1 => (if y1.length + l0.length < 17592186044416 then (some (y1 ++ l0)) else (none))) = some r := h
 clear h
 obtain ⟨y1, hy1⟩ : ∃ y_ : List Int, y_ = (([] : List Int)) := ⟨_, rfl⟩
 replace H : (if y1.length + l0.length < 17592186044416 then (some (y1 ++ l0)) else (none)) = some r := bgiq_
 have Ny1 := A0_ hy1
 clear hy1
 by_cases c1 : y1.length + l0.length < 17592186044416
 case neg =>
  rw [if_neg c1] at H
  exact absurd H bxka_
 rw [if_pos c1] at H
 have LMc1 := A0_ c1
 clear c1
 obtain ⟨y2, hy2⟩ : ∃ y_ : List Int, y_ = (y1 ++ l0) := ⟨_, rfl⟩
 replace H : (some y2) = some r := bscs_
 have Ny2 := A0_ hy2
 clear hy2
 obtain rfl := si_ H
 go_enter Tryd.func73, Tryd.ntmps73
 go_wp2_with (first | ((with_reducible refine gd_ (N := 3) rfl ?_); refine Kd.R_lit (Kd.int .i64) _ 3 ?hg (N := 3) ?hd (xs := ([] : List Int)) (inner := []) (ok := fun _ => True) (okp := fun _ => True) ?hr ?hp (fun _ hk => hk) trivial (Below.refl _ _) (Nat.le_refl _) bxka_ ?_; (case hd => rfl); (case hg => rfl); (case hr => go_simp; first | done | rfl); (case hp => exact (Reps.none _ _)); intro v1 w1 ho4 hb hg_ hnew_; clear hg_ hnew_; (first | rw [← Ny1.out] at ho4 | (simp only [Int.reduceToNat] at ho4; rw [← Ny1.out] at ho4)); have HO1 := A0_ (Kd.R_lower ho4 (bz_ brt4_)); replace HB := hb_ hb brt4_; clear hb ho4) | ((with_reducible refine gate_builtin (b := .append) (xs := #[.tmp 3, .tmp 4]) rfl ?_); at_builtin; refine Kd.R_append_rows (Kd.int .i64) (w0 := w) w.heap.size rfl (.tmp 3) (.tmp 4) 22 3 (.int .i64 0) 8 rfl Tryd.underlying22 info3 rfl bi3y_ bh19_ v1 y1 l0 _ _ _ (fun _ => True) (fun _ => False) rfl rfl ?aO ?aR (fun _ _ h => h) (fun _ h => h.elim) ?aF ?aB ?aS ?aL ?_; (case aR => exact bg0z_); (case aB => exact brt4_); (case aF => exact (fun _ _ => trivial)); (case aO => exact bsm5_); (case aS => exact (bz_ brt4_)); (case aL => have := LMc1.out; omega); intro v2 w2 ho hb hg hat; rw [← Ny2.out] at ho; have n0_ := A0_ (hb); have n1_ := A0_ (ho); clear HB HO1; have HB := n0_; have HO2 := n1_; clear n0_ n1_ ho hb hg hat))
 go_ret
 exact ⟨_, bnwh_, b9so_, brt4_⟩

def spec_l2With.f (k : Nat) (a0_0 : Int) (a0_1 : Bool) (l0_2 : List Int) (a1 : Int) : Option (Int × Bool × List Int) := (spec_l1Own.f l0_2).bind fun t142 => ((spec_l1Put.f k t142 a1).bind fun t145 => ((spec_l2Made.f a0_0 a0_1 l0_2 t145).bind fun bt148 => (some (bt148.1, bt148.2.1, bt148.2.2))))
theorem spec_l2With.mono : ∀ a0 a1 a2 a3 k, LeO (spec_l2With.f k a0 a1 a2 a3) (spec_l2With.f (k + 1) a0 a1 a2 a3) := by
 intro a0 a1 a2 a3 k
 unfold spec_l2With.f
 repeat' with_reducible first | exact spec_l1Put.mono .. | exact LeO.refl .. | exact LeO.none .. | refine LeO.ite ?_ ?_ | refine LeO.bind ?_ (fun _ => ?_)
def spec_l2With.T1 : Bool × List (List Nat × List Nat) := (true, [([], []), ([], []), ([1], [1]), ([2], [2]), ([], []), ([3, 4, 3], [3, 4]), ([0, 5, 5], [0, 5]), ([6, 6, 0, 1, 2, 3, 4, 5, 6], [6])])
def spec_l2With.B1 : List Nat := [0, 0, 2, 6, 0, 30, 63, 127]
theorem spec_l2With.tab1 : rtab .any (opsOf Tryd.f44 1) = spec_l2With.T1 := by kernel_rfl
theorem spec_l2With.bits1 : waitsOk spec_l2With.T1.2 spec_l2With.B1 = true := by kernel_rfl
theorem spec_l2With.calls (k : Nat) (a0_0 : Int) (a0_1 : Bool) (A0_2 : Option Addr) (c0_2 : Nat) (l0_2 : List Int) (a1 : Int) (r1 : Int) (r2 : Bool) (r3 : List Int) (w : World) (hr0_2 : Kd.C (Kd.int .i64) w A0_2 l0_2.length l0_2) (hc0_2 : l0_2.length ≤ c0_2) (h : spec_l2With.f k a0_0 a0_1 l0_2 a1 = some (r1, r2, r3)) :
  Calls Tryd.prog 44 #[.agg #[.int .i64 a0_0, .bool a0_1, .slice A0_2 l0_2.length c0_2], .int .i64 a1] w fun e w' => ∃ v2_ : Value, e = .returned (.agg #[.int .i64 r1, .bool r2, v2_]) ∧ Kd.R (Kd.int .i64) 3 w' w.heap.size (fun _ => True) v2_ r3 ∧ Below w.heap.size w w' := by
 have hu28 := Tryd.underlying28
 have HR0_2 := A0_ hr0_2
 have HC0_2 := A0_ hc0_2
 clear hr0_2 hc0_2
 have HB := A0_ (Below.refl w.heap.size w)
 have H : ((spec_l1Own.f l0_2).bind fun t1 => ((spec_l1Put.f k t1 a1).bind fun t2 => ((spec_l2Made.f a0_0 a0_1 l0_2 t2).bind fun bt1 => (some (bt1.1, bt1.2.1, bt1.2.2))))) = some (r1, r2, r3) := h
 clear h
 obtain ⟨t1, A2, H⟩ := o1_ H
 obtain ⟨t2, A4, H⟩ := o1_ H
 obtain ⟨⟨t3, t4, t5⟩, A6, H⟩ := o1_ H
 replace H : (some (t3, t4, t5)) = some (r1, r2, r3) := H
 simp only [sj_, pj_] at H
 obtain ⟨rfl, rfl, rfl⟩ := H
 go_enter Tryd.func44, Tryd.ntmps44
 try go_wp2_with (first | ((with_reducible refine gd_ (N := 2) rfl ?_); refine bx_ 2 #[.int .i64 a0_0, .bool a0_1, .slice A0_2 l0_2.length c0_2] 28 ?_; intro gb1 hg w1 BK1 hb; have GW1 := ge_ hg brt4_; have GE1 := GW1; replace HB := hb_ hb brt4_; clear hb hg) | ((with_reducible refine gd_ (N := 4) rfl ?_); refine bx_ 4 #[.int .i64 0, .bool false, .slice none 0 0] 28 ?_; intro gb2 hg w2 BK2 hb; have GW2 := ge_ hg be6g_; have GE2 := GW2; replace HB := hb_ hb be6g_; have NB1_2 := nl_ hg BK1; have NB2_1 := ng_ hg BK1; replace BK1 := k1_ BK1 hb; clear hb hg))
 replace BK1 := A0_ (kd_ BK1.out)
 replace BK2 := A0_ (kd_ BK2.out)
 replace HB := A0_ (bd_ HB.out)
 refine s3_ 8 [] BK1 spec_l2With.tab1 spec_l2With.bits1 (fun hHeld HT_ HW_ => ?_)
 generalize w2.drew = w3 at BK1 BK2 HB hHeld ⊢
 refine pu_ 1 6 ?_
 refine pu_ 4 9 ?_
 refine tk_ 0 5 hHeld ?_
 refine tk_ 2 7 hHeld ?_
 refine on_ 3 (some 8) (fun K hK => ?_)
 refine gs_ Tryd.func73 #[.slice A0_2 l0_2.length c0_2] ?_
 with_reducible refine (spec_l1Own.calls _ _ l0_2 t1 _ ?side1 ?side2 A2.out).mono ?_
 (case side1 => exact b6n8_)
 (case side2 => exact HC0_2.out)
 rintro e w4 ⟨v1, rfl, ho0, hb⟩
 refine ⟨_, rfl, ?_⟩
 have HO1 := A0_ (Kd.R_lower ho0 (bz_ bfnq_))
 replace BK1 := k1_ BK1 hb
 replace BK2 := k1_ BK2 hb
 replace HB := hb_ hb bfnq_
 (try clear hb); (try clear ho0)
 obtain ⟨Ao1, co1, eo1⟩ := Kd.R_slice HO1.out
 (first | subst eo1 | (injection eo1 with f1_ f2_ f3_; have f4_ := f1_.symm; have f5_ := f3_.symm; clear f1_ f2_ f3_; subst f4_; subst f5_))
 refine hK.out _ _ (c3_ BK1) (fun hHeld => ?_)
 clear hK K
 refine nm_ 8 ?_
 refine on_ 5 (some 10) (fun K hK => ?_)
 refine gs_ Tryd.func72 #[.slice Ao1 t1.length co1, .int .i64 a1] ?_
 with_reducible refine (spec_l1Put.calls k _ _ t1 a1 t2 _ ?side1 ?side2 A4.out).mono ?_
 (case side1 => exact bayy_)
 (case side2 => exact (rr_ HO1.out).2.1)
 rintro e w5 ⟨v3, rfl, ho0, hb⟩
 refine ⟨_, rfl, ?_⟩
 have HO2 := A0_ (Kd.R_lower (Kd.R_new' ho0 (Kd.R_lt bsm5_)) (bz_ bfnq_))
 replace HO1 := A0_ (Kd.R_elder' bsm5_ (Kd.R_base ho0) hb)
 replace BK1 := k1_ BK1 hb
 replace BK2 := k1_ BK2 hb
 replace HB := hb_ hb bfnq_
 (try clear hb); (try clear ho0)
 obtain ⟨Ao2, co2, eo2⟩ := Kd.R_slice HO2.out
 (first | subst eo2 | (injection eo2 with f1_ f2_ f3_; have f4_ := f1_.symm; have f5_ := f3_.symm; clear f1_ f2_ f3_; subst f4_; subst f5_))
 refine hK.out _ _ (c3_ BK1) (fun hHeld => ?_)
 clear hK K
 refine nm_ 10 ?_
 refine on_ 6 (some 11) (fun K hK => ?_)
 refine gs_ Tryd.func71 #[.agg #[.int .i64 a0_0, .bool a0_1, .slice A0_2 l0_2.length c0_2], .slice Ao2 t2.length co2] ?_
 with_reducible refine (spec_l2Made.calls a0_0 a0_1 _ _ l0_2 (fun k_ => some k_ = (.slice Ao2 t2.length co2 : Value).ownBlock) (.slice Ao2 t2.length co2) t2 t3 t4 t5 w _ ?side1 ?side2 ?side3 ?side4 A6.out).mono ?_
 (case side1 => exact bfnq_)
 (case side2 => exact Kd.C_kept_came (Kd.heap_int .i64) HR0_2.out bfnq_ (fun k_ hs_ => (fun e_ => Kd.R_base HO2.out k_ e_.symm) hs_))
 (case side3 => exact HC0_2.out)
 (case side4 => exact Kd.R_tight rfl HO2.out)
 rintro e w6 ⟨v4, rfl, ho0, hb, hkp⟩
 refine ⟨_, rfl, ?_⟩
 have n0_ := A0_ (blk_kept (u1_ BK1) hkp (fun hs_ => (fun e_ => (Kd.R_ne HO2.out BK1.out bi3y_) e_) hs_))
 have n1_ := A0_ (blk_kept (u1_ BK2) hkp (fun hs_ => (fun e_ => (Kd.R_ne HO2.out BK2.out bi3y_) e_) hs_))
 have n2_ := A0_ (Kd.R_mono (ok' := fun k_ => no_ v4 k_) (Kd.R_keptB (HO1.out) hkp (fun k_ hk_ hs_ => (hk_.2) hs_)) (fun k_ hk_ => fun e_ => Or.elim (ho0.1 k_ e_.symm) (fun hs_ => hk_.2.1 hs_) (fun hn_ => Nat.not_le.2 hk_.2.2 hn_)))
 have n3_ := A0_ (Kd.R_mono (ok' := fun k_ => no_ (.slice Ao1 t1.length co1) k_) ho0 (fun k_ hk_ => Or.elim hk_ (fun hs_ => fun e_ => (((HO1.out).1 k_ e_.symm).2) hs_) (fun hn_ => (Kd.fresh' (Kd.R_lt bsm5_) k_ hn_))))
 have n4_ := A0_ (hb)
 clear BK1
 clear BK2
 clear HO1
 clear HB
 clear HO2
 have BK1 := n0_
 have BK2 := n1_
 have HO1 := n2_
 have HO3 := n3_
 have HB := n4_
 clear n0_ n1_ n2_ n3_ n4_
 (try clear hb)
 (try clear hkp)
 (try clear ho0)
 obtain ⟨Ao3, co3, eo3⟩ := Kd.R_slice HO3.out
 (first | subst eo3 | (injection eo3 with f1_ f2_ f3_; have f4_ := f1_.symm; have f5_ := f3_.symm; clear f1_ f2_ f3_; subst f4_; subst f5_))
 refine hK.out _ _ (c3_ BK1) (fun hHeld => ?_)
 clear hK K
 refine nm_ 11 ?_
 refine on_ 7 none (fun K hK => ?_)
 have hs14 : w6.cell? ⟨gb2, 0, none⟩ = some (.int .i64 0) := (kc_ BK2.out 0).trans rfl
 have hfs14 := kf_ BK2.out 0
 have hns1_0 := NB1_2.out
 have hms1_0 := NB2_1.out
 have hs15 : w6.cell? ⟨gb2, 1, none⟩ = some (.bool false) := (kc_ BK2.out 1).trans rfl
 have hfs15 := kf_ BK2.out 1
 have hns2_0 := NB1_2.out
 have hms2_0 := NB2_1.out
 have hs17 : w6.cell? ⟨gb2, 2, none⟩ = some (.slice none 0 0) := (kc_ BK2.out 2).trans rfl
 have hfs17 := kf_ BK2.out 2
 have hns3_0 := NB1_2.out
 have hms3_0 := NB2_1.out
 refine skip_ (w1 := ?_) b139_ rfl ?_ ?_
 rotate_left
 ·go_simp
  rfl
 refine hK.out _ _ ⟨((cell_far (p := ⟨gb2, _, none⟩) NB1_2.out _).trans (((cell_far (p := ⟨gb2, _, none⟩) NB1_2.out _).trans (((cell_far (p := ⟨gb2, _, none⟩) NB1_2.out _).trans (hHeld.1)))))), ((cell_far (p := ⟨gb2, _, none⟩) NB1_2.out _).trans (((cell_far (p := ⟨gb2, _, none⟩) NB1_2.out _).trans (((cell_far (p := ⟨gb2, _, none⟩) NB1_2.out _).trans (hHeld.2.1)))))), ((cell_far (p := ⟨gb2, _, none⟩) NB1_2.out _).trans (((cell_far (p := ⟨gb2, _, none⟩) NB1_2.out _).trans (((cell_far (p := ⟨gb2, _, none⟩) NB1_2.out _).trans (hHeld.2.2))))))⟩ (fun hHeld => ?_)
 clear hK K
 refine dn_ ?_
 try go_wp2
 refine bodyPost_ret (results_cell_row rfl _ _ gb2 28 #[.int .i64 t3, .bool t4, .slice Ao3 t5.length co3] (0, 0) _ rfl (u1_ BK2) Tryd.underlying28 rfl bfqv_) rfl ?_
 exact ⟨_, bnwh_, bn91_, bfnq_⟩

mutual
def spec_l10Table.l0 : Nat → Bool → List Int → List Int → Int → Int → Bool → List Int → Option (List Int)
 | 0, _, _, _, _, _, _, _ => none
 | k + 1, x1, x5, x6, x7, x154000, x154001, x154002 => if x7 ≥ 0 then (spec_l10Table.l1 k x1 x5 x6 x7 (-1) 0 x154000 x154001 x154002 x154000 x154001 x154002) else (some x6)
def spec_l10Table.l1 : Nat → Bool → List Int → List Int → Int → Int → Int → Int → Bool → List Int → Int → Bool → List Int → Option (List Int)
 | 0, _, _, _, _, _, _, _, _, _, _, _, _ => none
 | k + 1, x1, x5, x6, x7, x9, x10, x154000, x154001, x154002, x161000, x161001, x161002 => if x10 < (x5.length : Int) then (if 0 ≤ x10 then (if (Go.bits .and .i64 (shr .i64 x7 x10) 1) = 1 then ((spec_l2With.f k x161000 x161001 x161002 (rd x5 x10)).bind fun bt162 => (spec_l10Table.l1 k x1 x5 x6 x7 x9 (wrap64 (x10 + 1)) x154000 x154001 x154002 bt162.1 bt162.2.1 bt162.2.2)) else (spec_l10Table.l1 k x1 x5 x6 x7 x9 (wrap64 (x10 + 1)) x154000 x154001 x154002 x161000 x161001 x161002)) else (none)) else (spec_l10Table.l2 k x1 x5 x6 x7 x9 0 x154000 x154001 x154002 x161000 x161001 x161002)
def spec_l10Table.l2 : Nat → Bool → List Int → List Int → Int → Int → Int → Int → Bool → List Int → Int → Bool → List Int → Option (List Int)
 | 0, _, _, _, _, _, _, _, _, _, _, _, _ => none
 | k + 1, x1, x5, x6, x7, x9, x11, x154000, x154001, x154002, x161000, x161001, x161002 => if x11 < (x5.length : Int) then (if 0 ≤ x11 then (if (Go.bits .and .i64 (shr .i64 x7 x11) 1) = 1 then (spec_l10Table.l2 k x1 x5 x6 x7 x9 (wrap64 (x11 + 1)) x154000 x154001 x154002 x161000 x161001 x161002) else ((spec_l10Stands.f k x161000 x161001 x161002 (rd x5 x11) x1).bind fun t169 => (if 0 ≤ (wrap64 (x7 + (shl .i64 1 x11))) then (if (wrap64 (x7 + (shl .i64 1 x11))) < (x6.length : Int) then (if x9 < 0 then (spec_l10Table.l2 k x1 x5 x6 x7 (wrap64 (t169 + (rd x6 (wrap64 (x7 + (shl .i64 1 x11)))))) (wrap64 (x11 + 1)) x154000 x154001 x154002 x161000 x161001 x161002) else (if (wrap64 (t169 + (rd x6 (wrap64 (x7 + (shl .i64 1 x11)))))) < x9 then (spec_l10Table.l2 k x1 x5 x6 x7 (wrap64 (t169 + (rd x6 (wrap64 (x7 + (shl .i64 1 x11)))))) (wrap64 (x11 + 1)) x154000 x154001 x154002 x161000 x161001 x161002) else (spec_l10Table.l2 k x1 x5 x6 x7 x9 (wrap64 (x11 + 1)) x154000 x154001 x154002 x161000 x161001 x161002))) else (none)) else (none)))) else (none)) else (if 0 ≤ x7 then (if x7 < (x6.length : Int) then (spec_l10Table.l0 k x1 x5 (x6.set (x7 : Int).toNat x9) (wrap64 (x7 - 1)) x154000 x154001 x154002) else (none)) else (none))
end
def spec_l10Table.f (k : Nat) (a0_0 : Int) (a0_1 : Bool) (l0_2 : List Int) (a1 : Bool) : Option (List Int) := (spec_l2Free.f k a0_0 a0_1 l0_2).bind fun t154 => (if 0 ≤ (shl .i64 1 (t154.length : Int)) then (if (shl .i64 1 (t154.length : Int) : Int).toNat ≤ 35184372088832 then ((some (List.replicate (shl .i64 1 (t154.length : Int) : Int).toNat 0 : List Int)).bind fun y157 => (spec_l10Table.l0 k a1 t154 y157 (wrap64 ((y157.length : Int) - 2)) a0_0 a0_1 l0_2)) else (none)) else (none))
theorem spec_l10Table.mono_l : ∀ k, (∀ y0 y1 y2 y3 y4 y5 y6, LeO (spec_l10Table.l0 k y0 y1 y2 y3 y4 y5 y6) (spec_l10Table.l0 (k + 1) y0 y1 y2 y3 y4 y5 y6)) ∧ (∀ y0 y1 y2 y3 y4 y5 y6 y7 y8 y9 y10 y11, LeO (spec_l10Table.l1 k y0 y1 y2 y3 y4 y5 y6 y7 y8 y9 y10 y11) (spec_l10Table.l1 (k + 1) y0 y1 y2 y3 y4 y5 y6 y7 y8 y9 y10 y11)) ∧ (∀ y0 y1 y2 y3 y4 y5 y6 y7 y8 y9 y10 y11, LeO (spec_l10Table.l2 k y0 y1 y2 y3 y4 y5 y6 y7 y8 y9 y10 y11) (spec_l10Table.l2 (k + 1) y0 y1 y2 y3 y4 y5 y6 y7 y8 y9 y10 y11))
 | 0 => ⟨fun _ _ _ _ _ _ _ r h => by simp [spec_l10Table.l0] at h, fun _ _ _ _ _ _ _ _ _ _ _ _ r h => by simp [spec_l10Table.l1] at h, fun _ _ _ _ _ _ _ _ _ _ _ _ r h => by simp [spec_l10Table.l2] at h⟩
 | k + 1 => by
  obtain ⟨ih0, ih1, ih2⟩ := spec_l10Table.mono_l k
  refine ⟨?_, ?_, ?_⟩
  ·intro y0 y1 y2 y3 y4 y5 y6
   unfold spec_l10Table.l0
   repeat' with_reducible first | exact ih0 .. | exact ih1 .. | exact ih2 .. | exact spec_l10Stands.mono .. | exact spec_l2Free.mono .. | exact spec_l2With.mono .. | exact LeO.refl .. | exact LeO.none .. | refine LeO.ite ?_ ?_ | refine LeO.bind ?_ (fun _ => ?_)
  ·intro y0 y1 y2 y3 y4 y5 y6 y7 y8 y9 y10 y11
   unfold spec_l10Table.l1
   repeat' with_reducible first | exact ih0 .. | exact ih1 .. | exact ih2 .. | exact spec_l10Stands.mono .. | exact spec_l2Free.mono .. | exact spec_l2With.mono .. | exact LeO.refl .. | exact LeO.none .. | refine LeO.ite ?_ ?_ | refine LeO.bind ?_ (fun _ => ?_)
  ·intro y0 y1 y2 y3 y4 y5 y6 y7 y8 y9 y10 y11
   unfold spec_l10Table.l2
   repeat' with_reducible first | exact ih0 .. | exact ih1 .. | exact ih2 .. | exact spec_l10Stands.mono .. | exact spec_l2Free.mono .. | exact spec_l2With.mono .. | exact LeO.refl .. | exact LeO.none .. | refine LeO.ite ?_ ?_ | refine LeO.bind ?_ (fun _ => ?_)
theorem spec_l10Table.mono : ∀ a0 a1 a2 a3 k, LeO (spec_l10Table.f k a0 a1 a2 a3) (spec_l10Table.f (k + 1) a0 a1 a2 a3) := by
 intro a0 a1 a2 a3 k
 obtain ⟨ih0, ih1, ih2⟩ := spec_l10Table.mono_l k
 unfold spec_l10Table.f
 repeat' with_reducible first | exact ih0 .. | exact ih1 .. | exact ih2 .. | exact spec_l10Stands.mono .. | exact spec_l2Free.mono .. | exact spec_l2With.mono .. | exact LeO.refl .. | exact LeO.none .. | refine LeO.ite ?_ ?_ | refine LeO.bind ?_ (fun _ => ?_)
def spec_l10Table.T16 : Bool × List (List Nat × List Nat) := (true, [([], []), ([], []), ([], []), ([1, 2], [1, 2]), ([3], [3]), ([], []), ([0, 4, 5], [0, 4, 5]), ([], []), ([], []), ([], []), ([9], [9]), ([8, 10], [8, 10]), ([7, 11], [7, 11]), ([12], [12]), ([6, 13], [6, 13]), ([14, 6, 0, 1, 2, 3, 4, 5, 6, 7, 8, 9, 10, 11, 12, 13, 14], [14])])
def spec_l10Table.B16 : List Nat := [0, 0, 0, 6, 14, 0, 63, 0, 0, 0, 512, 1792, 3968, 8064, 16383, 32767]
theorem spec_l10Table.tab16 : rtab .any (opsOf Tryd.f37 16) = spec_l10Table.T16 := by kernel_rfl
theorem spec_l10Table.bits16 : waitsOk spec_l10Table.T16.2 spec_l10Table.B16 = true := by kernel_rfl
theorem spec_l10Table.calls (k : Nat) (a0_0 : Int) (a0_1 : Bool) (P0_2_ : Nat → Prop) (A0_2 : Option Addr) (c0_2 : Nat) (l0_2 : List Int) (a1 : Bool) (r : List Int) (w : World) (hs0_2 : Kd.V (Kd.int .i64) 3 w w.heap.size (fun k_ => P0_2_ k_) (.slice A0_2 l0_2.length c0_2) l0_2) (h : spec_l10Table.f k a0_0 a0_1 l0_2 a1 = some r) :
  Calls Tryd.prog 37 #[.agg #[.int .i64 a0_0, .bool a0_1, .slice A0_2 l0_2.length c0_2], .bool a1] w fun e w' => ∃ v0_ : Value, e = .returned (v0_) ∧ Kd.R (Kd.int .i64) 3 w' w.heap.size (fun k_ => (w.heap.size ≤ k_)) v0_ r ∧ Below w.heap.size w w' := by
 have hu28 := Tryd.underlying28
 have HO1_2 := A0_ (show Kd.V (Kd.int .i64) 3 w w.heap.size (fun k_ => (P0_2_ k_ ∨ w.heap.size ≤ k_)) (.slice A0_2 l0_2.length c0_2) l0_2 from Kd.V_mono hs0_2 (fun k_ hk => .inl hk))
 have HB := A0_ (Below.refl w.heap.size w)
 have H : ((spec_l2Free.f k a0_0 a0_1 l0_2).bind fun t1 => (if 0 ≤ (shl .i64 1 (t1.length : Int)) then (if (shl .i64 1 (t1.length : Int) : Int).toNat ≤ 35184372088832 then ((some (List.replicate (shl .i64 1 (t1.length : Int) : Int).toNat 0 : List Int)).bind fun y1 => (spec_l10Table.l0 k a1 t1 y1 (wrap64 ((y1.length : Int) - 2)) a0_0 a0_1 l0_2)) else (none)) else (none))) = some r := h
 clear h
 obtain ⟨t1, A2, H⟩ := o1_ H
 obtain ⟨ji1, hji1⟩ : ∃ j_ : Int, (shl .i64 1 (t1.length : Int)) = j_ := ⟨_, rfl⟩
 replace H : (if 0 ≤ (ji1) then (if (ji1 : Int).toNat ≤ 35184372088832 then ((some (List.replicate (ji1 : Int).toNat 0 : List Int)).bind fun y1 => (spec_l10Table.l0 k a1 t1 y1 (wrap64 ((y1.length : Int) - 2)) a0_0 a0_1 l0_2)) else (none)) else (none)) = some r := bmns_
 (try rw [hji1] at A2)
 have hji1_ : (IntKind.i64.wrap (1 * 2 ^ min (t1.length : Int).toNat 64)) = ji1 := hji1
 have hji4z : (t1.length : Int) ≤ 64 → (IntKind.i64.wrap (1 * 2 ^ (t1.length : Int).toNat)) = ji1 := shl_small hji1
 have hji4p : (IntKind.i64.wrap (1 * 2 ^ min t1.length 64)) = ji1 := hji1_
 have hji4q : (t1.length : Int) ≤ 64 → (IntKind.i64.wrap (1 * 2 ^ t1.length)) = ji1 := hji4z
 have hji4r : (IntKind.i64.wrap (2 ^ min t1.length 64)) = ji1 := by have h_ := hji4p; rw [Int.one_mul] at h_; exact h_
 have hji4s : (t1.length : Int) ≤ 64 → (IntKind.i64.wrap (2 ^ t1.length)) = ji1 := fun hle_ => by have h_ := hji4q hle_; rw [Int.one_mul] at h_; exact h_
 have hji4u : (IntKind.i64.wrap (2 ^ min (t1.length : Int).toNat 64)) = ji1 := by have h_ := hji1_; rw [Int.one_mul] at h_; exact h_
 have hji4v : (t1.length : Int) ≤ 64 → (IntKind.i64.wrap (2 ^ (t1.length : Int).toNat)) = ji1 := fun hle_ => by have h_ := hji4z hle_; rw [Int.one_mul] at h_; exact h_
 have hji4y : (wrap64 (1 * 2 ^ min (t1.length : Int).toNat 64)) = ji1 := (i64_w _).symm.trans hji1_
 have hji4x : (t1.length : Int) ≤ 64 → (wrap64 (1 * 2 ^ (t1.length : Int).toNat)) = ji1 := fun h_ => (i64_w _).symm.trans (hji4z h_)
 by_cases c1 : 0 ≤ (ji1)
 case neg =>
  rw [if_neg c1] at H
  exact absurd H bxka_
 rw [if_pos c1] at H
 have c1b0 := eq_true c1
 have c1b1 : decide (0 ≤ (ji1)) = true := dt_ c1
 clear c1
 by_cases c2 : (ji1 : Int).toNat ≤ 35184372088832
 case neg =>
  rw [if_neg c2] at H
  exact absurd H bxka_
 rw [if_pos c2] at H
 have c2b0 := eq_true c2
 have c2b1 : decide ((ji1 : Int).toNat ≤ 35184372088832) = true := dt_ c2
 clear c2
 obtain ⟨y1, hy1⟩ : ∃ y_ : List Int, y_ = (List.replicate (ji1 : Int).toNat 0) := ⟨_, rfl⟩
 replace H : (spec_l10Table.l0 k a1 t1 y1 (wrap64 ((y1.length : Int) - 2)) a0_0 a0_1 l0_2) = some r := bgiq_
 have Ny1 := A0_ hy1
 clear hy1
 have H' := A0_ H
 clear H
 go_enter Tryd.func37, Tryd.ntmps37
 go_wp2_with (first | ((with_reducible refine gd_ (N := 2) rfl ?_); refine bx_ 2 #[.int .i64 a0_0, .bool a0_1, .slice A0_2 l0_2.length c0_2] 28 ?_; intro gb1 hg w1 BK1 hb; replace HO1_2 := A0_ (Kd.V_below (Kd.V_elderB bqvv_ gb1 (Nat.le_of_eq hg.symm)) hb); have GW1 := ge_ hg brt4_; have GE1 := GW1; replace HB := hb_ hb brt4_; clear hb hg; have hcz1 := z3_ BK1) | ((with_reducible refine gc_ (f := 42) rfl ?_); refine gl_ 14 Tryd.func42 #[.agg #[.int .i64 a0_0, .bool a0_1, .slice A0_2 l0_2.length c0_2]] ?_; (with_reducible refine (spec_l2Free.calls k a0_0 a0_1 _ _ l0_2 t1 _ ?side1 ?side2 A2.out).mono ?_); (case side1 => exact b26b_); (case side2 => exact (Kd.V_reads' HO1_2.out).2.1); rintro e w2 ⟨v1, rfl, ho0, hb⟩; refine ⟨_, rfl, ?_⟩; replace HO1_2 := A0_ (Kd.V_elder' bqvv_ (Kd.R_base ho0) hb); have HO2 := A0_ (Kd.R_lower (Kd.R_newM (M := fun k_ => (w.heap.size ≤ k_)) ho0 (bz_ be6g_) (fun k_ h_ => h_)) (bz_ be6g_)); replace BK1 := k1_ BK1 hb; replace HB := hb_ hb be6g_; (try clear hb); (try clear ho0); obtain ⟨Ao1, co1, eo1⟩ := Kd.R_slice HO2.out; subst eo1) | ((with_reducible refine gd_ (N := 18) rfl ?_); refine Kd.R_make (Kd.int .i64) _ 3 rfl (N := 18) rfl 22 _ _ rfl ji1 rfl rfl Tryd.underlying22 (.int .i64 0) 8 info3 rfl bi3y_ bh19_ 0 (ok := fun _ => True) (okp := fun _ => True) rfl (fun _ hk => hk) trivial (od_ bpil_) (Nat.le_trans (Nat.mul_le_mul_right _ (od_ bpil_ : ji1.toNat ≤ 35184372088832)) bh19_) (Below.refl _ _) (Nat.le_refl _) ?_; intro v2 w3 ho12 hb hg_ hnew_; clear hg_ hnew_; (first | rw [← Ny1.out] at ho12 | (simp only [Int.reduceToNat] at ho12; rw [← Ny1.out] at ho12)); replace HO1_2 := A0_ (Kd.V_elder' bqvv_ (Kd.R_base ho12) hb); have HO3 := A0_ (Kd.R_lower (Kd.R_new' (Kd.R_newM (M := fun k_ => (w.heap.size ≤ k_)) ho12 (bz_ be6g_) (fun k_ h_ => h_)) (Kd.R_lt b9so_)) (bz_ be6g_)); replace HO2 := A0_ (Kd.R_elder' b9so_ (Kd.R_base ho12) hb); replace BK1 := k1_ BK1 hb; replace HB := hb_ hb be6g_; clear hb ho12; obtain ⟨Ao2, co2, eo2⟩ := Kd.R_slice HO3.out; subst eo2))
 go_loopg [7] k (fun kq v3 w' => ∃ (x6_1 : List Int) (x7_1 : Int), v3 = .int .i64 x7_1 ∧ Aside0 (spec_l10Table.l0 kq a1 t1 x6_1 x7_1 a0_0 a0_1 l0_2 = some r) ∧ Aside0 (kq ≤ k) ∧ Aside0 (Kd.R (Kd.int .i64) 3 w' w.heap.size (fun k_ => (w.heap.size ≤ k_) ∧ no_ (.slice Ao2 y1.length co2) k_) (.slice Ao1 t1.length co1) t1) ∧ Aside0 (Kd.R (Kd.int .i64) 3 w' w.heap.size (fun k_ => (w.heap.size ≤ k_) ∧ no_ (.slice Ao1 t1.length co1) k_) (.slice Ao2 y1.length co2) x6_1) ∧ Aside0 (Kd.V (Kd.int .i64) 3 w' w.heap.size (fun k_ => (P0_2_ k_ ∨ w.heap.size ≤ k_) ∧ no_ (.slice Ao1 t1.length co1) k_ ∧ no_ (.slice Ao2 y1.length co2) k_ ∧ k_ ≠ gb1) (.slice A0_2 l0_2.length c0_2) l0_2) ∧ Aside0 (w'.heap[gb1]? = some (.cells #[.int .i64 a0_0, .bool a0_1, (.slice A0_2 l0_2.length c0_2)] 28 (0, 0))) ∧ Aside0 (Below w.heap.size w w'))
 case atStart => exact ⟨(y1), (wrap64 ((y1.length : Int) - 2)), b2ew_, H', ⟨Nat.le_refl _⟩, ⟨by (with_reducible repeat (first | apply ra_ | apply rn_ | apply rd_)); exact Kd.R_mono HO2.out (fun _ hk => ⟨hk.1.1, hk.2⟩)⟩, ⟨by (with_reducible repeat (first | apply ra_ | apply rn_ | apply rd_)); exact Kd.R_mono HO3.out (fun _ hk => ⟨hk.1.1, hk.2⟩)⟩, ⟨by (with_reducible repeat (first | apply Kd.V_alloc | apply Kd.V_drewN | apply Kd.V_drew)); exact Kd.V_mono HO1_2.out (fun _ hk => ⟨hk.1.1.1, ⟨hk.1.2, ⟨hk.2, hk.1.1.2⟩⟩⟩)⟩, ⟨u1_ BK1⟩, ⟨be6g_⟩⟩
 clear H'
 try clear c1
 try clear c1b0
 try clear c1b1
 try clear c2
 try clear c2b0
 try clear c2b1
 (try clear hcz1); (try clear hfz1)
 obtain ⟨x6_1, x7_1, rfl, HA, HK1, HO_1, HO_2, HO_3, BK1, HB⟩ := hrel
 have hl6_1 := (rr_ HO_2.out).1
 rw [hl6_1] at HO_2
 (try simp only [hl6_1])
 (try simp only [hl6_1] at BK1)
 (try simp only [hl6_1] at HO_1)
 (try simp only [hl6_1] at HO_3)
 cases gk with | zero => exact absurd HA.out (by simp [spec_l10Table.l0]) | succ k1 => ?_
 have H := HA.out
 clear HA
 simp only [spec_l10Table.l0] at H
 by_cases c3 : x7_1 ≥ 0
 case neg =>
  rw [if_neg c3] at H
  have c3b0 : decide (0 ≤ x7_1) = false := decide_eq_false c3
  clear c3
  obtain rfl := si_ H
  go_wp2
  go_ret
  exact ⟨_, bfw0_, by (with_reducible repeat (first | apply ra_ | apply rn_ | apply rd_)); exact Kd.R_mono HO_2.out (fun _ hk => hk.1), be6g_⟩
 rw [if_pos c3] at H
 have c3b0 : decide (0 ≤ x7_1) = true := dt_ c3
 clear c3
 have H' := A0_ H
 clear H
 have hcz2 := z3_ BK1
 go_wp2_with (first | ((with_reducible refine gd_ (N := 8) rfl ?_); refine bx_ 8 #[.int .i64 0, .bool false, .slice none 0 0] 28 ?_; intro gb2 hg w4 BK2 hb; replace HO_1 := A0_ (Kd.R_below bwik_ hb); replace HO_2 := A0_ (Kd.R_below b7sq_ hb); replace HO_3 := A0_ (Kd.V_below (Kd.V_elderB bpxd_ gb2 (Nat.le_of_eq hg.symm)) hb); have GW2 := ge_ hg be6g_; have GE2 := GW2; replace HB := hb_ hb be6g_; have NB1_2 := nl_ hg BK1; have NB2_1 := ng_ hg BK1; replace BK1 := k1_ BK1 hb; clear hb hg; have hnb1 := NB2_1.out; have hnc1 := NB1_2.out; have hcz3 := z3_ BK2))
 go_loopg [10] k1 (fun kq v4 w' => ∃ (x10_2 : Int) (x161000_2 : Int) (x161001_2 : Bool) (x161002_2 : List Int) (u161002 : Value), v4 = .int .i64 x10_2 ∧ Aside0 (spec_l10Table.l1 kq a1 t1 x6_1 x7_1 (-1) x10_2 a0_0 a0_1 l0_2 x161000_2 x161001_2 x161002_2 = some r) ∧ Aside0 (kq ≤ k1) ∧ Aside0 (Kd.R (Kd.int .i64) 3 w' w.heap.size (fun k_ => (w.heap.size ≤ k_) ∧ no_ (.slice Ao2 x6_1.length co2) k_) (.slice Ao1 t1.length co1) t1) ∧ Aside0 (Kd.R (Kd.int .i64) 3 w' w.heap.size (fun k_ => (w.heap.size ≤ k_) ∧ no_ (.slice Ao1 t1.length co1) k_) (.slice Ao2 x6_1.length co2) x6_1) ∧ Aside0 (Kd.V (Kd.int .i64) 3 w' w.heap.size (fun k_ => (P0_2_ k_ ∨ w.heap.size ≤ k_) ∧ no_ (.slice Ao1 t1.length co1) k_ ∧ no_ (.slice Ao2 x6_1.length co2) k_ ∧ k_ ≠ gb1 ∧ k_ ≠ gb2) (.slice A0_2 l0_2.length c0_2) l0_2) ∧ Aside0 (Kd.V (Kd.int .i64) 3 w' w.heap.size (fun k_ => (P0_2_ k_ ∨ w.heap.size ≤ k_) ∧ no_ (.slice Ao1 t1.length co1) k_ ∧ no_ (.slice Ao2 x6_1.length co2) k_ ∧ k_ ≠ gb1 ∧ k_ ≠ gb2) u161002 x161002_2) ∧ Aside0 (w'.heap[gb1]? = some (.cells #[.int .i64 a0_0, .bool a0_1, (.slice A0_2 l0_2.length c0_2)] 28 (0, 0))) ∧ Aside0 (w'.heap[gb2]? = some (.cells #[.int .i64 x161000_2, .bool x161001_2, u161002] 28 (0, 0))) ∧ Aside0 (Below w.heap.size w w'))
 case atStart => exact ⟨(0), (a0_0), (a0_1), (l0_2), (.slice A0_2 l0_2.length c0_2), b2ew_, H', ⟨Nat.le_refl _⟩, ⟨by (try simp only [hl6_1]); (with_reducible repeat (first | apply ra_ | apply rn_ | apply rd_)); exact Kd.R_mono (rf_ (rf_ (rf_ (Kd.R_types HO_1.out BK2.out bi3y_) k2_0 _) k2_0 _) k2_0 _) (fun _ hk => ⟨hk.1.1, hk.1.2⟩)⟩, ⟨by (try simp only [hl6_1]); (with_reducible repeat (first | apply ra_ | apply rn_ | apply rd_)); exact Kd.R_mono (rf_ (rf_ (rf_ (Kd.R_types HO_2.out BK2.out bi3y_) k2_0 _) k2_0 _) k2_0 _) (fun _ hk => ⟨hk.1.1, hk.1.2⟩)⟩, ⟨b3or_⟩, ⟨b3or_⟩, ⟨bstf_⟩, ⟨by (try simp only [hl6_1]); (with_reducible repeat (first | apply kn_ | apply kd_ | apply ka_)); refine blk_put (cs := #[.int .i64 a0_0, .bool a0_1, .slice none 0 0]) ?_ 2 _ rfl; (with_reducible repeat (first | apply kn_ | apply kd_ | apply ka_)); refine blk_put (cs := #[.int .i64 a0_0, .bool false, .slice none 0 0]) ?_ 1 _ rfl; (with_reducible repeat (first | apply kn_ | apply kd_ | apply ka_)); refine blk_put (cs := #[.int .i64 0, .bool false, .slice none 0 0]) ?_ 0 _ rfl; (with_reducible repeat (first | apply kn_ | apply kd_ | apply ka_)); exact BK2.out⟩, ⟨bfnq_⟩⟩
 clear H'
 try clear c1
 try clear c1b0
 try clear c1b1
 try clear c2
 try clear c2b0
 try clear c2b1
 try clear c3
 try clear c3b0
 (try clear hcz2); (try clear hcz3); (try clear hcz1); (try clear hfz2); (try clear hfz3); (try clear hfz1)
 obtain ⟨x10_2, x161000_2, x161001_2, x161002_2, u161002, rfl, HA, HK2, HO_1, HO_2, HO_3, HO_4, BK1, BK2, HB⟩ := hrel
 cases gk with | zero => exact absurd HA.out (by simp [spec_l10Table.l1]) | succ k2 => ?_
 have H := HA.out
 clear HA
 simp only [spec_l10Table.l1] at H
 by_cases c4 : x10_2 < (t1.length : Int)
 ·rw [if_pos c4] at H
  have c4b0 : decide (x10_2 < (t1.length : Int)) = true := dt_ c4
  clear c4
  by_cases c5 : 0 ≤ x10_2
  case neg =>
   rw [if_neg c5] at H
   exact absurd H bxka_
  rw [if_pos c5] at H
  have c5b0 := eq_true c5
  have c5b1 : decide (0 ≤ x10_2) = true := dt_ c5
  clear c5
  obtain ⟨ji2, hji2⟩ : ∃ j_ : Int, (shr .i64 x7_1 x10_2) = j_ := ⟨_, rfl⟩
  replace H : (if (Go.bits .and .i64 (ji2) 1) = 1 then ((spec_l2With.f k2 x161000_2 x161001_2 x161002_2 (rd t1 x10_2)).bind fun bt1 => (spec_l10Table.l1 k2 a1 t1 x6_1 x7_1 (-1) (wrap64 (x10_2 + 1)) a0_0 a0_1 l0_2 bt1.1 bt1.2.1 bt1.2.2)) else (spec_l10Table.l1 k2 a1 t1 x6_1 x7_1 (-1) (wrap64 (x10_2 + 1)) a0_0 a0_1 l0_2 x161000_2 x161001_2 x161002_2)) = some r := b9dm_
  have hji2_ : (x7_1 / 2 ^ min x10_2.toNat 64) = ji2 := hji2
  have hji21z : x10_2 ≤ 64 → (x7_1 / 2 ^ x10_2.toNat) = ji2 := shr_small hji2
  by_cases c6 : (Go.bits .and .i64 (ji2) 1) = 1
  case neg =>
   rw [if_neg c6] at H
   obtain ⟨c6b0, c6b1⟩ := ef_ c6
   have H' := A0_ H
   clear H
   go_wp2
   go_roundg k2
   case measure => have := HK1.out; have := HK2.out; omega
   exact ⟨(wrap64 (x10_2 + 1)), (x161000_2), (x161001_2), (x161002_2), (u161002), b2ew_, H', ⟨b0r5_⟩, ⟨b0eu_⟩, ⟨blnz_⟩, ⟨b8ge_⟩, ⟨bgcx_⟩, ⟨bl4u_⟩, ⟨b19a_⟩, ⟨bfnq_⟩⟩
  rw [if_pos c6] at H
  obtain ⟨c6b0, c6b1⟩ := et_ c6
  clear c6
  obtain ⟨⟨t2, t3, t4⟩, A4, H⟩ := o1_ H
  have H' := A0_ H
  clear H
  try go_wp2
  replace HO_1 := A0_ (rd_ HO_1.out)
  replace HO_2 := A0_ (rd_ HO_2.out)
  replace HO_3 := A0_ (Kd.V_drew HO_3.out)
  replace HO_4 := A0_ (Kd.V_drew HO_4.out)
  replace BK1 := A0_ (kd_ BK1.out)
  replace BK2 := A0_ (kd_ BK2.out)
  replace HB := A0_ (bd_ HB.out)
  have p1 : 0 ≤ (x10_2 : Int) := od_ bpil_
  have q1 : x10_2 < (t1.length : Int) := od_ bpil_
  obtain ⟨ad1, e1, hx1_0⟩ := Kd.at_int (rr_ HO_1.out).2.2 x10_2 p1 q1
  cases e1
  replace p1 := eq_true p1
  replace q1 := eq_true q1
  obtain ⟨Ao3, co3, eo3⟩ := Kd.V_slice HO_4.out
  (first | subst eo3 | (injection eo3 with f1_ f2_ f3_; have f4_ := f1_.symm; have f5_ := f3_.symm; clear f1_ f2_ f3_; subst f4_; subst f5_))
  refine start_ (n := 7) (S := fun w' => w'.cell? ⟨gb2, 0, none⟩ = some (.int .i64 x161000_2) ∧ w'.cell? ⟨gb2, 1, none⟩ = some (.bool x161001_2) ∧ w'.cell? ⟨gb2, 2, none⟩ = some (.slice Ao3 x161002_2.length co3) ∧ w'.cell? (ad1.add (x10_2).toNat) = some (.int .i64 (rd t1 x10_2))) (ds := [6]) #[false, false, false, false, false, false, false] bfqv_ rfl rfl ⟨(kc_ BK2.out 0).trans rfl, (kc_ BK2.out 1).trans rfl, (kc_ BK2.out 2).trans rfl, hx1_0⟩ (fun hHeld => ?_)
  generalize wr.drew = w5 at HO_1 HO_2 HO_3 HO_4 BK1 BK2 HB hx1_0 hHeld ⊢
  refine pu_ 1 39 ?_
  refine pu_ 2 40 ?_
  refine pu_ 3 41 ?_
  refine tk_ 0 38 hHeld ?_
  refine tk_ 4 42 hHeld ?_
  refine on_ 5 (some 43) (fun K hK => ?_)
  refine gs_ Tryd.func44 #[.agg #[.int .i64 x161000_2, .bool x161001_2, .slice Ao3 x161002_2.length co3], .int .i64 (rd t1 x10_2)] ?_
  with_reducible refine (spec_l2With.calls k2 x161000_2 x161001_2 _ _ x161002_2 (rd t1 x10_2) t2 t3 t4 _ ?side1 ?side2 A4.out).mono ?_
  (case side1 => exact bwov_)
  (case side2 => exact (Kd.V_reads' HO_4.out).2.1)
  rintro e w6 ⟨v5, rfl, ho0, hb⟩
  have HS3_ := (hb.cell (World.block_lt_of_cell? _ _ (hHeld.2.2.2))).trans (hHeld.2.2.2)
  refine ⟨_, rfl, ?_⟩
  replace HO_3 := A0_ (Kd.V_elder' bpxd_ (Kd.R_base ho0) hb)
  replace HO_4 := A0_ (Kd.V_elder' bp2e_ (Kd.R_base ho0) hb)
  have HO4 := A0_ (Kd.R_lower (Kd.R_new' (Kd.R_new' (Kd.R_newM (M := fun k_ => (w.heap.size ≤ k_)) ho0 (bz_ bfnq_) (fun k_ h_ => h_)) (Kd.R_lt bwik_)) (Kd.R_lt b7sq_)) (bz_ bfnq_))
  replace HO_1 := A0_ (Kd.R_elder' bwik_ (Kd.R_base ho0) hb)
  replace HO_2 := A0_ (Kd.R_elder' b7sq_ (Kd.R_base ho0) hb)
  replace BK1 := k1_ BK1 hb
  replace BK2 := k1_ BK2 hb
  replace HB := hb_ hb bfnq_
  (try clear hb); (try clear ho0)
  obtain ⟨Ao4, co4, eo4⟩ := Kd.R_slice HO4.out
  (first | subst eo4 | (injection eo4 with f1_ f2_ f3_; have f4_ := f1_.symm; have f5_ := f3_.symm; clear f1_ f2_ f3_; subst f4_; subst f5_))
  refine hK.out _ _ ⟨(kc_ BK2.out 0).trans rfl, (kc_ BK2.out 1).trans rfl, (kc_ BK2.out 2).trans rfl, HS3_⟩ (fun hHeld => ?_)
  clear hK K
  refine nm_ 43 ?_
  refine last_ (i := 6) (N := none) #[true, true, true, true, true, true, true] rfl rfl bfqv_ bi3y_ (fun K hK => ?_)
  have hs27 : w6.cell? ⟨gb2, 0, none⟩ = some (.int .i64 x161000_2) := (kc_ BK2.out 0).trans rfl
  have hfs27 := kf_ BK2.out 0
  have hns1_0 := NB1_2.out
  have hms1_0 := NB2_1.out
  have hs28 : w6.cell? ⟨gb2, 1, none⟩ = some (.bool x161001_2) := (kc_ BK2.out 1).trans rfl
  have hfs28 := kf_ BK2.out 1
  have hns2_0 := NB1_2.out
  have hms2_0 := NB2_1.out
  have hs30 : w6.cell? ⟨gb2, 2, none⟩ = some (.slice Ao3 x161002_2.length co3) := (kc_ BK2.out 2).trans rfl
  have hfs30 := kf_ BK2.out 2
  have hns3_0 := NB1_2.out
  have hms3_0 := NB2_1.out
  refine skip_ (w1 := ?_) b139_ rfl ?_ ?_
  rotate_left
  ·go_simp
   rfl
  refine hK.out _ _ ?_
  clear hK K
  refine done_ bfqv_ ?_
  try go_wp2
  go_roundg k2
  case measure => have := HK1.out; have := HK2.out; omega
  exact ⟨(wrap64 (x10_2 + 1)), (t2), (t3), (t4), (.slice Ao4 t4.length co4), b2ew_, H', ⟨b0r5_⟩, ⟨by (try simp only [hl6_1]); (with_reducible repeat (first | apply ra_ | apply rn_ | apply rd_)); exact Kd.R_mono (rf_ (rf_ (rf_ (Kd.R_types HO_1.out BK2.out bi3y_) k2_0 _) k2_0 _) k2_0 _) (fun _ hk => ⟨hk.1.1.1, hk.1.1.2⟩)⟩, ⟨by (try simp only [hl6_1]); (with_reducible repeat (first | apply ra_ | apply rn_ | apply rd_)); exact Kd.R_mono (rf_ (rf_ (rf_ (Kd.R_types HO_2.out BK2.out bi3y_) k2_0 _) k2_0 _) k2_0 _) (fun _ hk => ⟨hk.1.1.1, hk.1.1.2⟩)⟩, ⟨by (try simp only [hl6_1]); (with_reducible repeat (first | apply Kd.V_alloc | apply Kd.V_drewN | apply Kd.V_drew)); exact Kd.V_mono (Kd.V_far (p := ⟨gb2, 2, none⟩) (Kd.V_far (p := ⟨gb2, 1, none⟩) (Kd.V_far (p := ⟨gb2, 0, none⟩) (Kd.V_mono HO_3.out (fun k_ hk => (⟨hk, hk.1.2.2.2.2⟩ : _ ∧ k_ ≠ gb2))) k2_0 _) k2_0 _) k2_0 _) (fun _ hk => ⟨hk.1.1.1, ⟨hk.1.1.2.1, ⟨hk.1.1.2.2.1, ⟨hk.1.1.2.2.2.1, hk.1.1.2.2.2.2⟩⟩⟩⟩)⟩, ⟨Kd.V_mono (Kd.R_V (by (try simp only [hl6_1]); (with_reducible repeat (first | apply ra_ | apply rn_ | apply rd_)); exact (rf_ (rf_ (rf_ (Kd.R_types (Kd.R_types (Kd.R_types HO4.out BK1.out bi3y_) BK2.out bi3y_) BK2.out bi3y_) k2_0 _) k2_0 _) k2_0 _))) (fun k_ hk => by exact ⟨(.inr (hk.1.1.1.1.1.1)), ⟨hk.1.1.1.1.2, ⟨hk.1.1.1.2, ⟨hk.1.1.2, hk.1.2⟩⟩⟩⟩)⟩, ⟨bstf_⟩, ⟨by (try simp only [hl6_1]); (with_reducible repeat (first | apply kn_ | apply kd_ | apply ka_)); refine blk_put (cs := #[.int .i64 t2, .bool t3, .slice Ao3 x161002_2.length co3]) ?_ 2 _ rfl; (with_reducible repeat (first | apply kn_ | apply kd_ | apply ka_)); refine blk_put (cs := #[.int .i64 t2, .bool x161001_2, .slice Ao3 x161002_2.length co3]) ?_ 1 _ rfl; (with_reducible repeat (first | apply kn_ | apply kd_ | apply ka_)); refine blk_put (cs := #[.int .i64 x161000_2, .bool x161001_2, .slice Ao3 x161002_2.length co3]) ?_ 0 _ rfl; (with_reducible repeat (first | apply kn_ | apply kd_ | apply ka_)); exact BK2.out⟩, ⟨bfnq_⟩⟩
 rw [if_neg c4] at H
 have c4b0 : decide (x10_2 < (t1.length : Int)) = false := decide_eq_false c4
 clear c4
 have H' := A0_ H
 clear H
 go_wp2
 go_loopg [9, 11] k2 (fun kq v5 v6 w' => ∃ (x9_3 : Int) (x11_3 : Int), v5 = .int .i64 x9_3 ∧ v6 = .int .i64 x11_3 ∧ Aside0 (spec_l10Table.l2 kq a1 t1 x6_1 x7_1 x9_3 x11_3 a0_0 a0_1 l0_2 x161000_2 x161001_2 x161002_2 = some r) ∧ Aside0 (kq ≤ k2) ∧ Aside0 (Kd.R (Kd.int .i64) 3 w' w.heap.size (fun k_ => (w.heap.size ≤ k_) ∧ no_ (.slice Ao2 x6_1.length co2) k_) (.slice Ao1 t1.length co1) t1) ∧ Aside0 (Kd.R (Kd.int .i64) 3 w' w.heap.size (fun k_ => (w.heap.size ≤ k_) ∧ no_ (.slice Ao1 t1.length co1) k_) (.slice Ao2 x6_1.length co2) x6_1) ∧ Aside0 (Kd.V (Kd.int .i64) 3 w' w.heap.size (fun k_ => (P0_2_ k_ ∨ w.heap.size ≤ k_) ∧ no_ (.slice Ao1 t1.length co1) k_ ∧ no_ (.slice Ao2 x6_1.length co2) k_ ∧ k_ ≠ gb1 ∧ k_ ≠ gb2) (.slice A0_2 l0_2.length c0_2) l0_2) ∧ Aside0 (Kd.V (Kd.int .i64) 3 w' w.heap.size (fun k_ => (P0_2_ k_ ∨ w.heap.size ≤ k_) ∧ no_ (.slice Ao1 t1.length co1) k_ ∧ no_ (.slice Ao2 x6_1.length co2) k_ ∧ k_ ≠ gb1 ∧ k_ ≠ gb2) u161002 x161002_2) ∧ Aside0 (w'.heap[gb1]? = some (.cells #[.int .i64 a0_0, .bool a0_1, (.slice A0_2 l0_2.length c0_2)] 28 (0, 0))) ∧ Aside0 (w'.heap[gb2]? = some (.cells #[.int .i64 x161000_2, .bool x161001_2, u161002] 28 (0, 0))) ∧ Aside0 (Below w.heap.size w w'))
 case atStart => exact ⟨((-1)), (0), b2ew_, b2ew_, H', ⟨Nat.le_refl _⟩, ⟨b0eu_⟩, ⟨blnz_⟩, ⟨b8ge_⟩, ⟨bgcx_⟩, ⟨bl4u_⟩, ⟨b19a_⟩, ⟨bfnq_⟩⟩
 clear H'
 try clear c1
 try clear c1b0
 try clear c1b1
 try clear c2
 try clear c2b0
 try clear c2b1
 try clear c3
 try clear c3b0
 try clear c4
 try clear c4b0
 (try clear hcz2); (try clear hcz3); (try clear hcz1); (try clear hfz2); (try clear hfz3); (try clear hfz1)
 obtain ⟨x9_3, x11_3, rfl, rfl, HA, HK3, HO_1, HO_2, HO_3, HO_4, BK1, BK2, HB⟩ := hrel
 cases gk with | zero => exact absurd HA.out (by simp [spec_l10Table.l2]) | succ k3 => ?_
 have H := HA.out
 clear HA
 simp only [spec_l10Table.l2] at H
 by_cases c5 : x11_3 < (t1.length : Int)
 case neg =>
  rw [if_neg c5] at H
  have c5b0 : decide (x11_3 < (t1.length : Int)) = false := decide_eq_false c5
  clear c5
  by_cases c6 : 0 ≤ x7_1
  case neg =>
   rw [if_neg c6] at H
   exact absurd H bxka_
  rw [if_pos c6] at H
  have c6b0 : decide (0 ≤ x7_1) = true := dt_ c6
  clear c6
  by_cases c7 : x7_1 < (x6_1.length : Int)
  case neg =>
   rw [if_neg c7] at H
   exact absurd H bxka_
  rw [if_pos c7] at H
  have c7b0 : decide (x7_1 < (x6_1.length : Int)) = true := dt_ c7
  clear c7
  obtain ⟨y2, hy2⟩ : ∃ y_ : List Int, y_ = (x6_1.set (x7_1 : Int).toNat x9_3) := ⟨_, rfl⟩
  replace H : (spec_l10Table.l0 k3 a1 t1 y2 (wrap64 (x7_1 - 1)) a0_0 a0_1 l0_2) = some r := bscs_
  have Ny2 := A0_ hy2
  clear hy2
  have H' := A0_ H
  clear H
  have p1 : 0 ≤ (x7_1 : Int) := od_ bpil_
  have q1 : (x7_1 : Int) < ((x6_1.length : Int) : Int) := od_ bpil_
  obtain ⟨go54, co3, eo3, gb3, gl54, cl54, HG54⟩ := Kd.R_form HO_2.out bh19_
  (first | cases eo3 | (injection eo3 with ea_ en_ ec_; (first | subst ea_ | (injection ea_ with ea_; subst ea_)); subst ec_; clear en_))
  have GB54 := A0_ gb3
  have GG54 := A0_ HG54
  clear gb3 gl54 HG54
  obtain ⟨hx1_0, hf1_0⟩ := Kd.R_celln 0 HO_2.out (x7_1 : Int) p1 q1
  replace p1 := eq_true p1
  replace q1 := eq_true q1
  have HP1 := Kd.R_putg HO_2.out (x7_1 : Int) x9_3
  go_wp2_with (first | ((with_reducible refine gate_store (t := 3) (p := 81) rfl ?_); refine store_event (t := 3) (p := 81) (v := ?vo_w56) (w1 := (wr.setCell ⟨go54, (x7_1 : Int).toNat, none⟩ (.int .i64 x9_3))) ?hg ?ho ?hn ?hr ?_; (case ho => rfl); (case hg => rfl); (case hn => rfl); (case hr => go_simp; first | done | rfl); intro w5 hw; have hg : wr.grownBy w5 (some go54) := (by rw [hw]; exact HP1.2); have hp_ : Kd.R (Kd.int .i64) 3 w5 w.heap.size (fun k_ => (w.heap.size ≤ k_) ∧ no_ (.slice Ao1 t1.length co1) k_) (.slice (some ⟨go54, 0, none⟩) x6_1.length co2) y2 := (by rw [hw, Ny2.out]; exact HP1.1); clear HP1; replace HO_1 := A0_ (Kd.R_after (v := (.slice (some ⟨go54, 0, none⟩) x6_1.length co2)) (v1 := (.slice (some ⟨go54, 0, none⟩) x6_1.length co2)) (ok := (fun k_ => (w.heap.size ≤ k_))) bwik_ hg (.inl rfl)); replace HO_3 := A0_ (Kd.V_afterv (v := (.slice (some ⟨go54, 0, none⟩) x6_1.length co2)) (v1 := (.slice (some ⟨go54, 0, none⟩) x6_1.length co2)) (ok := (fun k_ => (P0_2_ k_ ∨ w.heap.size ≤ k_) ∧ no_ (.slice Ao1 t1.length co1) k_ ∧ k_ ≠ gb1 ∧ k_ ≠ gb2)) (by (with_reducible repeat (first | apply Kd.V_alloc | apply Kd.V_drewN | apply Kd.V_drew)); exact Kd.V_mono HO_3.out (fun _ hk => ⟨⟨hk.1, ⟨hk.2.1, ⟨hk.2.2.2.1, hk.2.2.2.2⟩⟩⟩, hk.2.2.1⟩)) hg (.inl rfl)); replace HO_4 := A0_ (Kd.V_afterv (v := (.slice (some ⟨go54, 0, none⟩) x6_1.length co2)) (v1 := (.slice (some ⟨go54, 0, none⟩) x6_1.length co2)) (ok := (fun k_ => (P0_2_ k_ ∨ w.heap.size ≤ k_) ∧ no_ (.slice Ao1 t1.length co1) k_ ∧ k_ ≠ gb1 ∧ k_ ≠ gb2)) (by (with_reducible repeat (first | apply Kd.V_alloc | apply Kd.V_drewN | apply Kd.V_drew)); exact Kd.V_mono HO_4.out (fun _ hk => ⟨⟨hk.1, ⟨hk.2.1, ⟨hk.2.2.2.1, hk.2.2.2.2⟩⟩⟩, hk.2.2.1⟩)) hg (.inl rfl)); replace BK1 := A0_ (blk_grown (g := gb1) (o := .cells #[.int .i64 a0_0, .bool a0_1, .slice A0_2 l0_2.length c0_2] 28 (0, 0)) (u1_ BK1) hg (Kd.R_ne HO_2.out BK1.out bi3y_)); replace BK2 := A0_ (blk_grown (g := gb2) (o := .cells #[.int .i64 x161000_2, .bool x161001_2, u161002] 28 (0, 0)) (u1_ BK2) hg (Kd.R_ne HO_2.out BK2.out bi3y_)); replace HO_2 := A0_ (hp_); replace HB := A0_ ((by rw [hw]; exact bs_ (HB.out) GB54.out : Below w.heap.size w w5)); clear hg hw hp_))
  (try simp only [← hl6_1])
  go_roundg k3
  case measure => have := HK1.out; have := HK2.out; have := HK3.out; omega
  exact ⟨(y2), (wrap64 (x7_1 - 1)), b2ew_, H', ⟨b9ad_⟩, ⟨b0eu_⟩, ⟨blnz_⟩, ⟨by (try simp only [hl6_1]); (with_reducible repeat (first | apply Kd.V_alloc | apply Kd.V_drewN | apply Kd.V_drew)); exact Kd.V_mono HO_3.out (fun _ hk => ⟨hk.1.1, ⟨hk.1.2.1, ⟨hk.2, hk.1.2.2.1⟩⟩⟩)⟩, ⟨bl4u_⟩, ⟨bfnq_⟩⟩
 rw [if_pos c5] at H
 have c5b0 : decide (x11_3 < (t1.length : Int)) = true := dt_ c5
 clear c5
 by_cases c6 : 0 ≤ x11_3
 case neg =>
  rw [if_neg c6] at H
  exact absurd H bxka_
 rw [if_pos c6] at H
 have c6b0 := eq_true c6
 have c6b1 : decide (0 ≤ x11_3) = true := dt_ c6
 clear c6
 obtain ⟨ji2, hji2⟩ : ∃ j_ : Int, (shr .i64 x7_1 x11_3) = j_ := ⟨_, rfl⟩
 replace H : (if (Go.bits .and .i64 (ji2) 1) = 1 then (spec_l10Table.l2 k3 a1 t1 x6_1 x7_1 x9_3 (wrap64 (x11_3 + 1)) a0_0 a0_1 l0_2 x161000_2 x161001_2 x161002_2) else ((spec_l10Stands.f k3 x161000_2 x161001_2 x161002_2 (rd t1 x11_3) a1).bind fun t2 => (if 0 ≤ (wrap64 (x7_1 + (shl .i64 1 x11_3))) then (if (wrap64 (x7_1 + (shl .i64 1 x11_3))) < (x6_1.length : Int) then (if x9_3 < 0 then (spec_l10Table.l2 k3 a1 t1 x6_1 x7_1 (wrap64 (t2 + (rd x6_1 (wrap64 (x7_1 + (shl .i64 1 x11_3)))))) (wrap64 (x11_3 + 1)) a0_0 a0_1 l0_2 x161000_2 x161001_2 x161002_2) else (if (wrap64 (t2 + (rd x6_1 (wrap64 (x7_1 + (shl .i64 1 x11_3)))))) < x9_3 then (spec_l10Table.l2 k3 a1 t1 x6_1 x7_1 (wrap64 (t2 + (rd x6_1 (wrap64 (x7_1 + (shl .i64 1 x11_3)))))) (wrap64 (x11_3 + 1)) a0_0 a0_1 l0_2 x161000_2 x161001_2 x161002_2) else (spec_l10Table.l2 k3 a1 t1 x6_1 x7_1 x9_3 (wrap64 (x11_3 + 1)) a0_0 a0_1 l0_2 x161000_2 x161001_2 x161002_2))) else (none)) else (none)))) = some r := b9dm_
 have hji2_ : (x7_1 / 2 ^ min x11_3.toNat 64) = ji2 := hji2
 have hji33z : x11_3 ≤ 64 → (x7_1 / 2 ^ x11_3.toNat) = ji2 := shr_small hji2
 by_cases c7 : (Go.bits .and .i64 (ji2) 1) = 1
 ·rw [if_pos c7] at H
  obtain ⟨c7b0, c7b1⟩ := et_ c7
  clear c7
  have H' := A0_ H
  clear H
  go_wp2
  go_roundg k3
  case measure => have := HK1.out; have := HK2.out; have := HK3.out; omega
  exact ⟨(x9_3), (wrap64 (x11_3 + 1)), b2ew_, b2ew_, H', ⟨b9ad_⟩, ⟨b0eu_⟩, ⟨blnz_⟩, ⟨b8ge_⟩, ⟨bgcx_⟩, ⟨bl4u_⟩, ⟨b19a_⟩, ⟨bfnq_⟩⟩
 rw [if_neg c7] at H
 obtain ⟨c7b0, c7b1⟩ := ef_ c7
 obtain ⟨t2, A4, H⟩ := o1_ H
 have c8b0 := eq_true (od_ bpil_ : 0 ≤ x11_3)
 obtain ⟨ji3, hji3⟩ : ∃ j_ : Int, (shl .i64 1 x11_3) = j_ := ⟨_, rfl⟩
 replace H : (if 0 ≤ (wrap64 (x7_1 + (ji3))) then (if (wrap64 (x7_1 + (ji3))) < (x6_1.length : Int) then (if x9_3 < 0 then (spec_l10Table.l2 k3 a1 t1 x6_1 x7_1 (wrap64 (t2 + (rd x6_1 (wrap64 (x7_1 + (ji3)))))) (wrap64 (x11_3 + 1)) a0_0 a0_1 l0_2 x161000_2 x161001_2 x161002_2) else (if (wrap64 (t2 + (rd x6_1 (wrap64 (x7_1 + (ji3)))))) < x9_3 then (spec_l10Table.l2 k3 a1 t1 x6_1 x7_1 (wrap64 (t2 + (rd x6_1 (wrap64 (x7_1 + (ji3)))))) (wrap64 (x11_3 + 1)) a0_0 a0_1 l0_2 x161000_2 x161001_2 x161002_2) else (spec_l10Table.l2 k3 a1 t1 x6_1 x7_1 x9_3 (wrap64 (x11_3 + 1)) a0_0 a0_1 l0_2 x161000_2 x161001_2 x161002_2))) else (none)) else (none)) = some r := by first | (rw [hji3] at H; exact H) | (simp only [hji3] at H ⊢; exact H)
 (try rw [hji3] at A4)
 have hji3_ : (IntKind.i64.wrap (1 * 2 ^ min x11_3.toNat 64)) = ji3 := hji3
 have hji37z : x11_3 ≤ 64 → (IntKind.i64.wrap (1 * 2 ^ x11_3.toNat)) = ji3 := shl_small hji3
 have hji37u : (IntKind.i64.wrap (2 ^ min x11_3.toNat 64)) = ji3 := by have h_ := hji3_; rw [Int.one_mul] at h_; exact h_
 have hji37v : x11_3 ≤ 64 → (IntKind.i64.wrap (2 ^ x11_3.toNat)) = ji3 := fun hle_ => by have h_ := hji37z hle_; rw [Int.one_mul] at h_; exact h_
 have hji37y : (wrap64 (1 * 2 ^ min x11_3.toNat 64)) = ji3 := (i64_w _).symm.trans hji3_
 have hji37x : x11_3 ≤ 64 → (wrap64 (1 * 2 ^ x11_3.toNat)) = ji3 := fun h_ => (i64_w _).symm.trans (hji37z h_)
 obtain ⟨ji4, hji4⟩ : ∃ j_ : Int, (wrap64 (x7_1 + (ji3))) = j_ := ⟨_, rfl⟩
 replace H : (if 0 ≤ (ji4) then (if (ji4) < (x6_1.length : Int) then (if x9_3 < 0 then (spec_l10Table.l2 k3 a1 t1 x6_1 x7_1 (wrap64 (t2 + (rd x6_1 (ji4)))) (wrap64 (x11_3 + 1)) a0_0 a0_1 l0_2 x161000_2 x161001_2 x161002_2) else (if (wrap64 (t2 + (rd x6_1 (ji4)))) < x9_3 then (spec_l10Table.l2 k3 a1 t1 x6_1 x7_1 (wrap64 (t2 + (rd x6_1 (ji4)))) (wrap64 (x11_3 + 1)) a0_0 a0_1 l0_2 x161000_2 x161001_2 x161002_2) else (spec_l10Table.l2 k3 a1 t1 x6_1 x7_1 x9_3 (wrap64 (x11_3 + 1)) a0_0 a0_1 l0_2 x161000_2 x161001_2 x161002_2))) else (none)) else (none)) = some r := by first | (rw [hji4] at H; exact H) | (simp only [hji4] at H ⊢; exact H)
 (try rw [hji4] at A4)
 have hji38w : (IntKind.i64.wrap (x7_1 + (ji3))) = ji4 := (i64_w _).trans hji4
 by_cases c9 : 0 ≤ (ji4)
 case neg =>
  rw [if_neg c9] at H
  exact absurd H bxka_
 rw [if_pos c9] at H
 have c9b0 : decide (0 ≤ (ji4)) = true := dt_ c9
 clear c9
 by_cases c10 : (ji4) < (x6_1.length : Int)
 case neg =>
  rw [if_neg c10] at H
  exact absurd H bxka_
 rw [if_pos c10] at H
 have c10b0 : decide ((ji4) < (x6_1.length : Int)) = true := dt_ c10
 clear c10
 by_cases c11 : x9_3 < 0
 ·rw [if_pos c11] at H
  have c11b0 : decide (x9_3 < 0) = true := dt_ c11
  clear c11
  have H' := A0_ H
  clear H
  try go_wp2
  replace HO_1 := A0_ (rd_ HO_1.out)
  replace HO_2 := A0_ (rd_ HO_2.out)
  replace HO_3 := A0_ (Kd.V_drew HO_3.out)
  replace HO_4 := A0_ (Kd.V_drew HO_4.out)
  replace BK1 := A0_ (kd_ BK1.out)
  replace BK2 := A0_ (kd_ BK2.out)
  replace HB := A0_ (bd_ HB.out)
  have p1 : 0 ≤ (x11_3 : Int) := od_ bpil_
  have q1 : x11_3 < (t1.length : Int) := od_ bpil_
  obtain ⟨ad1, e1, hx1_0⟩ := Kd.at_int (rr_ HO_1.out).2.2 x11_3 p1 q1
  cases e1
  replace p1 := eq_true p1
  replace q1 := eq_true q1
  have p2 : 0 ≤ ((ji4) : Int) := od_ bpil_
  have q2 : (ji4) < (x6_1.length : Int) := od_ bpil_
  obtain ⟨ad2, e2, hx2_0⟩ := Kd.at_int (rr_ HO_2.out).2.2 (ji4) p2 q2
  cases e2
  replace p2 := eq_true p2
  replace q2 := eq_true q2
  obtain ⟨Ao3, co3, eo3⟩ := Kd.V_slice HO_4.out
  (first | subst eo3 | (injection eo3 with f1_ f2_ f3_; have f4_ := f1_.symm; have f5_ := f3_.symm; clear f1_ f2_ f3_; subst f4_; subst f5_))
  refine start_ (n := 16) (S := fun w' => w'.cell? ⟨gb2, 0, none⟩ = some (.int .i64 x161000_2) ∧ w'.cell? ⟨gb2, 1, none⟩ = some (.bool x161001_2) ∧ w'.cell? ⟨gb2, 2, none⟩ = some (.slice Ao3 x161002_2.length co3) ∧ w'.cell? (ad1.add (x11_3).toNat) = some (.int .i64 (rd t1 x11_3)) ∧ w'.cell? (ad2.add ((ji4)).toNat) = some (.int .i64 (rd x6_1 (ji4)))) (ds := []) #[false, false, false, false, false, false, false, false, false, false, false, false, false, false, false, false] bfqv_ rfl rfl ⟨(kc_ BK2.out 0).trans rfl, (kc_ BK2.out 1).trans rfl, (kc_ BK2.out 2).trans rfl, hx1_0, hx2_0⟩ (fun hHeld => ?_); refine with_tabW spec_l10Table.tab16 spec_l10Table.bits16 (fun HT_ HW_ => ?_)
  generalize wr.drew = w5 at HO_1 HO_2 HO_3 HO_4 BK1 BK2 HB hx1_0 hx2_0 hHeld ⊢
  refine pu_ 1 56 ?_
  refine pu_ 2 57 ?_
  refine pu_ 3 58 ?_
  refine pu_ 5 60 ?_
  refine pu_ 7 62 ?_
  refine pu_ 8 63 ?_
  refine pu_ 9 64 ?_
  refine pu_ 10 65 ?_
  refine pu_ 11 66 ?_
  refine pu_ 12 67 ?_
  refine tk_ 0 55 hHeld ?_
  refine tk_ 4 59 hHeld ?_
  refine tk_ 13 68 hHeld ?_
  refine on_ 6 (some 61) (fun K hK => ?_)
  refine gs_ Tryd.func43 #[.agg #[.int .i64 x161000_2, .bool x161001_2, .slice Ao3 x161002_2.length co3], .int .i64 (rd t1 x11_3), .bool a1] ?_
  with_reducible refine (spec_l10Stands.calls k3 x161000_2 x161001_2 _ _ x161002_2 (rd t1 x11_3) a1 t2 _ ?side1 ?side2 A4.out).mono ?_
  (case side1 => exact bwov_)
  (case side2 => exact (Kd.V_reads' HO_4.out).2.1)
  rintro e w6 ⟨rfl, hb⟩
  have HS3_ := (hb.cell (World.block_lt_of_cell? _ _ (hHeld.2.2.2.1))).trans (hHeld.2.2.2.1)
  have HS4_ := (hb.cell (World.block_lt_of_cell? _ _ (hHeld.2.2.2.2))).trans (hHeld.2.2.2.2)
  refine ⟨_, rfl, ?_⟩
  replace HO_1 := A0_ (Kd.R_below bwik_ hb)
  replace HO_2 := A0_ (Kd.R_below b7sq_ hb)
  replace HO_3 := A0_ (Kd.V_below bpxd_ hb)
  replace HO_4 := A0_ (Kd.V_below bp2e_ hb)
  replace BK1 := k1_ BK1 hb
  replace BK2 := k1_ BK2 hb
  replace HB := hb_ hb bfnq_
  (try clear hb)
  refine hK.out _ _ ⟨(kc_ BK2.out 0).trans rfl, (kc_ BK2.out 1).trans rfl, (kc_ BK2.out 2).trans rfl, HS3_, HS4_⟩ (fun hHeld => ?_)
  clear hK K
  refine nm_ 61 ?_
  refine pu_ 14 69 ?_
  refine pu_ 15 12 ?_
  refine dn_ ?_
  try go_wp2
  go_roundg k3
  case measure => have := HK1.out; have := HK2.out; have := HK3.out; omega
  exact ⟨(wrap64 (t2 + (rd x6_1 (ji4)))), (wrap64 (x11_3 + 1)), (by first | rfl | (simp; done) | (simp only [← hji4] <;> (first | rfl | simp)) | (simp [*]; done)), b2ew_, H', ⟨b9ad_⟩, ⟨b0eu_⟩, ⟨blnz_⟩, ⟨b8ge_⟩, ⟨bgcx_⟩, ⟨bl4u_⟩, ⟨b19a_⟩, ⟨bfnq_⟩⟩
 rw [if_neg c11] at H
 have c11b0 : decide (x9_3 < 0) = false := decide_eq_false c11
 clear c11
 by_cases c12 : (wrap64 (t2 + (rd x6_1 (ji4)))) < x9_3
 case neg =>
  rw [if_neg c12] at H
  have c12b0 : decide ((wrap64 (t2 + (rd x6_1 (ji4)))) < x9_3) = false := decide_eq_false c12
  clear c12
  have H' := A0_ H
  clear H
  try go_wp2
  replace HO_1 := A0_ (rd_ HO_1.out)
  replace HO_2 := A0_ (rd_ HO_2.out)
  replace HO_3 := A0_ (Kd.V_drew HO_3.out)
  replace HO_4 := A0_ (Kd.V_drew HO_4.out)
  replace BK1 := A0_ (kd_ BK1.out)
  replace BK2 := A0_ (kd_ BK2.out)
  replace HB := A0_ (bd_ HB.out)
  have p1 : 0 ≤ (x11_3 : Int) := od_ bpil_
  have q1 : x11_3 < (t1.length : Int) := od_ bpil_
  obtain ⟨ad1, e1, hx1_0⟩ := Kd.at_int (rr_ HO_1.out).2.2 x11_3 p1 q1
  cases e1
  replace p1 := eq_true p1
  replace q1 := eq_true q1
  have p2 : 0 ≤ ((ji4) : Int) := od_ bpil_
  have q2 : (ji4) < (x6_1.length : Int) := od_ bpil_
  obtain ⟨ad2, e2, hx2_0⟩ := Kd.at_int (rr_ HO_2.out).2.2 (ji4) p2 q2
  cases e2
  replace p2 := eq_true p2
  replace q2 := eq_true q2
  obtain ⟨Ao3, co3, eo3⟩ := Kd.V_slice HO_4.out
  (first | subst eo3 | (injection eo3 with f1_ f2_ f3_; have f4_ := f1_.symm; have f5_ := f3_.symm; clear f1_ f2_ f3_; subst f4_; subst f5_))
  refine start_ (n := 16) (S := fun w' => w'.cell? ⟨gb2, 0, none⟩ = some (.int .i64 x161000_2) ∧ w'.cell? ⟨gb2, 1, none⟩ = some (.bool x161001_2) ∧ w'.cell? ⟨gb2, 2, none⟩ = some (.slice Ao3 x161002_2.length co3) ∧ w'.cell? (ad1.add (x11_3).toNat) = some (.int .i64 (rd t1 x11_3)) ∧ w'.cell? (ad2.add ((ji4)).toNat) = some (.int .i64 (rd x6_1 (ji4)))) (ds := []) #[false, false, false, false, false, false, false, false, false, false, false, false, false, false, false, false] bfqv_ rfl rfl ⟨(kc_ BK2.out 0).trans rfl, (kc_ BK2.out 1).trans rfl, (kc_ BK2.out 2).trans rfl, hx1_0, hx2_0⟩ (fun hHeld => ?_); refine with_tabW spec_l10Table.tab16 spec_l10Table.bits16 (fun HT_ HW_ => ?_)
  generalize wr.drew = w5 at HO_1 HO_2 HO_3 HO_4 BK1 BK2 HB hx1_0 hx2_0 hHeld ⊢
  refine pu_ 1 56 ?_
  refine pu_ 2 57 ?_
  refine pu_ 3 58 ?_
  refine pu_ 5 60 ?_
  refine pu_ 7 62 ?_
  refine pu_ 8 63 ?_
  refine pu_ 9 64 ?_
  refine pu_ 10 65 ?_
  refine pu_ 11 66 ?_
  refine pu_ 12 67 ?_
  refine tk_ 0 55 hHeld ?_
  refine tk_ 4 59 hHeld ?_
  refine tk_ 13 68 hHeld ?_
  refine on_ 6 (some 61) (fun K hK => ?_)
  refine gs_ Tryd.func43 #[.agg #[.int .i64 x161000_2, .bool x161001_2, .slice Ao3 x161002_2.length co3], .int .i64 (rd t1 x11_3), .bool a1] ?_
  with_reducible refine (spec_l10Stands.calls k3 x161000_2 x161001_2 _ _ x161002_2 (rd t1 x11_3) a1 t2 _ ?side1 ?side2 A4.out).mono ?_
  (case side1 => exact bwov_)
  (case side2 => exact (Kd.V_reads' HO_4.out).2.1)
  rintro e w6 ⟨rfl, hb⟩
  have HS3_ := (hb.cell (World.block_lt_of_cell? _ _ (hHeld.2.2.2.1))).trans (hHeld.2.2.2.1)
  have HS4_ := (hb.cell (World.block_lt_of_cell? _ _ (hHeld.2.2.2.2))).trans (hHeld.2.2.2.2)
  refine ⟨_, rfl, ?_⟩
  replace HO_1 := A0_ (Kd.R_below bwik_ hb)
  replace HO_2 := A0_ (Kd.R_below b7sq_ hb)
  replace HO_3 := A0_ (Kd.V_below bpxd_ hb)
  replace HO_4 := A0_ (Kd.V_below bp2e_ hb)
  replace BK1 := k1_ BK1 hb
  replace BK2 := k1_ BK2 hb
  replace HB := hb_ hb bfnq_
  (try clear hb)
  refine hK.out _ _ ⟨(kc_ BK2.out 0).trans rfl, (kc_ BK2.out 1).trans rfl, (kc_ BK2.out 2).trans rfl, HS3_, HS4_⟩ (fun hHeld => ?_)
  clear hK K
  refine nm_ 61 ?_
  refine pu_ 14 69 ?_
  refine pu_ 15 12 ?_
  refine dn_ ?_
  try go_wp2
  go_roundg k3
  case measure => have := HK1.out; have := HK2.out; have := HK3.out; omega
  exact ⟨(x9_3), (wrap64 (x11_3 + 1)), b2ew_, b2ew_, H', ⟨b9ad_⟩, ⟨b0eu_⟩, ⟨blnz_⟩, ⟨b8ge_⟩, ⟨bgcx_⟩, ⟨bl4u_⟩, ⟨b19a_⟩, ⟨bfnq_⟩⟩
 rw [if_pos c12] at H
 have c12b0 : decide ((wrap64 (t2 + (rd x6_1 (ji4)))) < x9_3) = true := dt_ c12
 clear c12
 have H' := A0_ H
 clear H
 try go_wp2
 replace HO_1 := A0_ (rd_ HO_1.out)
 replace HO_2 := A0_ (rd_ HO_2.out)
 replace HO_3 := A0_ (Kd.V_drew HO_3.out)
 replace HO_4 := A0_ (Kd.V_drew HO_4.out)
 replace BK1 := A0_ (kd_ BK1.out)
 replace BK2 := A0_ (kd_ BK2.out)
 replace HB := A0_ (bd_ HB.out)
 have p1 : 0 ≤ (x11_3 : Int) := od_ bpil_
 have q1 : x11_3 < (t1.length : Int) := od_ bpil_
 obtain ⟨ad1, e1, hx1_0⟩ := Kd.at_int (rr_ HO_1.out).2.2 x11_3 p1 q1
 cases e1
 replace p1 := eq_true p1
 replace q1 := eq_true q1
 have p2 : 0 ≤ ((ji4) : Int) := od_ bpil_
 have q2 : (ji4) < (x6_1.length : Int) := od_ bpil_
 obtain ⟨ad2, e2, hx2_0⟩ := Kd.at_int (rr_ HO_2.out).2.2 (ji4) p2 q2
 cases e2
 replace p2 := eq_true p2
 replace q2 := eq_true q2
 obtain ⟨Ao3, co3, eo3⟩ := Kd.V_slice HO_4.out
 (first | subst eo3 | (injection eo3 with f1_ f2_ f3_; have f4_ := f1_.symm; have f5_ := f3_.symm; clear f1_ f2_ f3_; subst f4_; subst f5_))
 refine start_ (n := 16) (S := fun w' => w'.cell? ⟨gb2, 0, none⟩ = some (.int .i64 x161000_2) ∧ w'.cell? ⟨gb2, 1, none⟩ = some (.bool x161001_2) ∧ w'.cell? ⟨gb2, 2, none⟩ = some (.slice Ao3 x161002_2.length co3) ∧ w'.cell? (ad1.add (x11_3).toNat) = some (.int .i64 (rd t1 x11_3)) ∧ w'.cell? (ad2.add ((ji4)).toNat) = some (.int .i64 (rd x6_1 (ji4)))) (ds := []) #[false, false, false, false, false, false, false, false, false, false, false, false, false, false, false, false] bfqv_ rfl rfl ⟨(kc_ BK2.out 0).trans rfl, (kc_ BK2.out 1).trans rfl, (kc_ BK2.out 2).trans rfl, hx1_0, hx2_0⟩ (fun hHeld => ?_); refine with_tabW spec_l10Table.tab16 spec_l10Table.bits16 (fun HT_ HW_ => ?_)
 generalize wr.drew = w5 at HO_1 HO_2 HO_3 HO_4 BK1 BK2 HB hx1_0 hx2_0 hHeld ⊢
 refine pu_ 1 56 ?_
 refine pu_ 2 57 ?_
 refine pu_ 3 58 ?_
 refine pu_ 5 60 ?_
 refine pu_ 7 62 ?_
 refine pu_ 8 63 ?_
 refine pu_ 9 64 ?_
 refine pu_ 10 65 ?_
 refine pu_ 11 66 ?_
 refine pu_ 12 67 ?_
 refine tk_ 0 55 hHeld ?_
 refine tk_ 4 59 hHeld ?_
 refine tk_ 13 68 hHeld ?_
 refine on_ 6 (some 61) (fun K hK => ?_)
 refine gs_ Tryd.func43 #[.agg #[.int .i64 x161000_2, .bool x161001_2, .slice Ao3 x161002_2.length co3], .int .i64 (rd t1 x11_3), .bool a1] ?_
 with_reducible refine (spec_l10Stands.calls k3 x161000_2 x161001_2 _ _ x161002_2 (rd t1 x11_3) a1 t2 _ ?side1 ?side2 A4.out).mono ?_
 (case side1 => exact bwov_)
 (case side2 => exact (Kd.V_reads' HO_4.out).2.1)
 rintro e w6 ⟨rfl, hb⟩
 have HS3_ := (hb.cell (World.block_lt_of_cell? _ _ (hHeld.2.2.2.1))).trans (hHeld.2.2.2.1)
 have HS4_ := (hb.cell (World.block_lt_of_cell? _ _ (hHeld.2.2.2.2))).trans (hHeld.2.2.2.2)
 refine ⟨_, rfl, ?_⟩
 replace HO_1 := A0_ (Kd.R_below bwik_ hb)
 replace HO_2 := A0_ (Kd.R_below b7sq_ hb)
 replace HO_3 := A0_ (Kd.V_below bpxd_ hb)
 replace HO_4 := A0_ (Kd.V_below bp2e_ hb)
 replace BK1 := k1_ BK1 hb
 replace BK2 := k1_ BK2 hb
 replace HB := hb_ hb bfnq_
 (try clear hb)
 refine hK.out _ _ ⟨(kc_ BK2.out 0).trans rfl, (kc_ BK2.out 1).trans rfl, (kc_ BK2.out 2).trans rfl, HS3_, HS4_⟩ (fun hHeld => ?_)
 clear hK K
 refine nm_ 61 ?_
 refine pu_ 14 69 ?_
 refine pu_ 15 12 ?_
 refine dn_ ?_
 try go_wp2
 go_roundg k3
 case measure => have := HK1.out; have := HK2.out; have := HK3.out; omega
 exact ⟨(wrap64 (t2 + (rd x6_1 (ji4)))), (wrap64 (x11_3 + 1)), (by first | rfl | (simp; done) | (simp only [← hji4] <;> (first | rfl | simp)) | (simp [*]; done)), b2ew_, H', ⟨b9ad_⟩, ⟨b0eu_⟩, ⟨blnz_⟩, ⟨b8ge_⟩, ⟨bgcx_⟩, ⟨bl4u_⟩, ⟨b19a_⟩, ⟨bfnq_⟩⟩

def spec_LeastStands.f (k : Nat) (a0_0 : Int) (a0_1 : Bool) (l0_2 : List Int) (a1 : Bool) : Option (Int × Bool) := (spec_l10Full.f k a0_0 a0_1 l0_2).bind fun t172 => (if t172 = true then ((spec_l10Table.f k a0_0 a0_1 l0_2 a1).bind fun t173 => (if 0 < (t173.length : Int) then (some (rd t173 0, true)) else (none))) else (some (0, false)))
theorem spec_LeastStands.mono : ∀ a0 a1 a2 a3 k, LeO (spec_LeastStands.f k a0 a1 a2 a3) (spec_LeastStands.f (k + 1) a0 a1 a2 a3) := by
 intro a0 a1 a2 a3 k
 unfold spec_LeastStands.f
 repeat' with_reducible first | exact spec_l10Full.mono .. | exact spec_l10Table.mono .. | exact LeO.refl .. | exact LeO.none .. | refine LeO.ite ?_ ?_ | refine LeO.bind ?_ (fun _ => ?_)
theorem spec_LeastStands.calls (k : Nat) (a0_0 : Int) (a0_1 : Bool) (A0_2 : Option Addr) (c0_2 : Nat) (l0_2 : List Int) (a1 : Bool) (r1 : Int) (r2 : Bool) (w : World) (hr0_2 : Kd.C (Kd.int .i64) w A0_2 l0_2.length l0_2) (hc0_2 : l0_2.length ≤ c0_2) (h : spec_LeastStands.f k a0_0 a0_1 l0_2 a1 = some (r1, r2)) :
  Calls Tryd.prog 7 #[.agg #[.int .i64 a0_0, .bool a0_1, .slice A0_2 l0_2.length c0_2], .bool a1] w fun e w' => e = .returned (.tuple #[.int .i64 r1, .bool r2]) ∧ Below w.heap.size w w' := by
 have hu28 := Tryd.underlying28
 have HR0_2 := A0_ hr0_2
 have HC0_2 := A0_ hc0_2
 clear hr0_2 hc0_2
 have HB := A0_ (Below.refl w.heap.size w)
 have H : ((spec_l10Full.f k a0_0 a0_1 l0_2).bind fun t1 => (if t1 = true then ((spec_l10Table.f k a0_0 a0_1 l0_2 a1).bind fun t2 => (if 0 < (t2.length : Int) then (some (rd t2 0, true)) else (none))) else (some (0, false)))) = some (r1, r2) := h
 clear h
 obtain ⟨t1, A2, H⟩ := o1_ H
 by_cases c1 : t1 = true
 case neg =>
  obtain rfl := bf_.mpr c1
  rw [if_neg ft_] at H
  simp only [sj_, pj_] at H
  obtain ⟨rfl, rfl⟩ := H
  go_enter Tryd.func7, Tryd.ntmps7
  go_wp2_with (first | ((with_reducible refine gd_ (N := 2) rfl ?_); refine bx_ 2 #[.int .i64 a0_0, .bool a0_1, .slice A0_2 l0_2.length c0_2] 28 ?_; intro gb1 hg w1 BK1 hb; have GW1 := ge_ hg brt4_; have GE1 := GW1; replace HB := hb_ hb brt4_; clear hb hg; have hcz1 := c3_ BK1) | ((with_reducible refine gc_ (f := 36) rfl ?_); refine gl_ 7 Tryd.func36 #[.agg #[.int .i64 a0_0, .bool a0_1, .slice A0_2 l0_2.length c0_2]] ?_; (with_reducible refine (spec_l10Full.calls k a0_0 a0_1 _ _ l0_2 false _ ?side1 ?side2 A2.out).mono ?_); (case side1 => exact b6n8_); (case side2 => exact HC0_2.out); rintro e w2 ⟨rfl, hb⟩; refine ⟨_, rfl, ?_⟩; replace BK1 := k1_ BK1 hb; replace HB := hb_ hb be6g_; (try clear hb)))
  go_ret2
  exact ⟨bnwh_, be6g_⟩
 subst c1
 rw [if_pos rfl] at H
 obtain ⟨t2, A4, H⟩ := o1_ H
 by_cases c2 : 0 < (t2.length : Int)
 case neg =>
  rw [if_neg c2] at H
  exact absurd H bxka_
 rw [if_pos c2] at H
 have c2b0 : decide (0 < (t2.length : Int)) = true := dt_ c2
 have c2b1 : decide (0 < t2.length) = true := dt_ bh19_
 clear c2
 simp only [sj_, pj_] at H
 obtain ⟨rfl, rfl⟩ := H
 go_enter Tryd.func7, Tryd.ntmps7
 go_wp2_with (first | ((with_reducible refine gd_ (N := 2) rfl ?_); refine bx_ 2 #[.int .i64 a0_0, .bool a0_1, .slice A0_2 l0_2.length c0_2] 28 ?_; intro gb1 hg w1 BK1 hb; have GW1 := ge_ hg brt4_; have GE1 := GW1; replace HB := hb_ hb brt4_; clear hb hg; have hcz1 := c3_ BK1) | ((with_reducible refine gc_ (f := 36) rfl ?_); refine gl_ 7 Tryd.func36 #[.agg #[.int .i64 a0_0, .bool a0_1, .slice A0_2 l0_2.length c0_2]] ?_; (with_reducible refine (spec_l10Full.calls k a0_0 a0_1 _ _ l0_2 true _ ?side1 ?side2 A2.out).mono ?_); (case side1 => exact b6n8_); (case side2 => exact HC0_2.out); rintro e w2 ⟨rfl, hb⟩; refine ⟨_, rfl, ?_⟩; replace BK1 := k1_ BK1 hb; replace HB := hb_ hb be6g_; (try clear hb); have hcz2 := c3_ BK1) | ((with_reducible refine gc_ (f := 37) rfl ?_); refine gl_ 11 Tryd.func37 #[.agg #[.int .i64 a0_0, .bool a0_1, .slice A0_2 l0_2.length c0_2], .bool a1] ?_; (with_reducible refine (spec_l10Table.calls k a0_0 a0_1 (fun k_ => k_ < w.heap.size) _ _ l0_2 a1 t2 _ ?side1 A4.out).mono ?_); (case side1 => exact Kd.V_mk HC0_2.out (Kd.F_below (Kd.C_F (Kd.heap_int .i64) HR0_2.out) be6g_)); rintro e w3 ⟨v1, rfl, ho0, hb⟩; refine ⟨_, rfl, ?_⟩; have HO1 := A0_ (Kd.R_lower (Kd.R_mono (ok' := fun k_ => True) ho0 (fun _ hk_ => trivial)) (bz_ be6g_)); replace BK1 := k1_ BK1 hb; replace HB := hb_ hb be6g_; (try clear hb); (try clear ho0); obtain ⟨Ao1, co1, eo1⟩ := Kd.R_slice HO1.out; subst eo1; have p1 : 0 ≤ (0 : Int) := bh19_; have q1 : 0 < (t2.length : Int) := od_ bpil_; obtain ⟨ad1, e1, hx1_0⟩ := Kd.at_int (rr_ HO1.out).2.2 0 p1 q1; cases e1; have qi176 : (0 < t2.length) = True := eq_true bh19_; (try rw [show ((0 : Int)).toNat = 0 from rfl] at hx1_0); (try rw [Addr.add_zero'] at hx1_0); replace p1 := eq_true p1; replace q1 := eq_true q1))
 go_ret2
 exact ⟨bnwh_, be6g_⟩

def impl_Row_bench.f (a0_0 : Int) (a0_1 : Bool) (l0_2 : List Int) : Option (Int × Bool) := some (a0_0, a0_1)
theorem impl_Row_bench.calls (a0_0 : Int) (a0_1 : Bool) (A0_2 : Option Addr) (c0_2 : Nat) (l0_2 : List Int) (r1 : Int) (r2 : Bool) (w : World) (hr0_2 : Kd.C (Kd.int .i64) w A0_2 l0_2.length l0_2) (hc0_2 : l0_2.length ≤ c0_2) (h : impl_Row_bench.f a0_0 a0_1 l0_2 = some (r1, r2)) :
  Calls Tryd.prog 45 #[.agg #[.int .i64 a0_0, .bool a0_1, .slice A0_2 l0_2.length c0_2]] w fun e w' => e = .returned (.agg #[.int .i64 r1, .bool r2]) ∧ Below w.heap.size w w' := by
 have hu28 := Tryd.underlying28
 have hu67 := Tryd.underlying67
 have HR0_2 := A0_ hr0_2
 have HC0_2 := A0_ hc0_2
 clear hr0_2 hc0_2
 have HB := A0_ (Below.refl w.heap.size w)
 have H : (some (a0_0, a0_1)) = some (r1, r2) := h
 clear h
 simp only [sj_, pj_] at H
 obtain ⟨rfl, rfl⟩ := H
 go_enter Tryd.func45, Tryd.ntmps45
 go_wp2_with (first | ((with_reducible refine gd_ (N := 1) rfl ?_); refine bx_ 1 #[.int .i64 a0_0, .bool a0_1, .slice A0_2 l0_2.length c0_2] 28 ?_; intro gb1 hg w1 BK1 hb; have GW1 := ge_ hg brt4_; have GE1 := GW1; replace HB := hb_ hb brt4_; clear hb hg) | ((with_reducible refine gd_ (N := 2) rfl ?_); refine bx_ 2 #[.int .i64 0, .bool false] 67 ?_; intro gb2 hg w2 BK2 hb; have GW2 := ge_ hg be6g_; have GE2 := GW2; replace HB := hb_ hb be6g_; have NB1_2 := nl_ hg BK1; have NB2_1 := ng_ hg BK1; replace BK1 := k1_ BK1 hb; clear hb hg; have hnb1 := NB1_2.out; have hnc1 := NB2_1.out; have hcz1 := z3_ BK1; have hcz2 := z2_ BK2))
 refine bodyPost_ret (results_cell_row rfl _ _ gb2 67 #[.int .i64 a0_0, .bool a0_1] (0, 0) _ rfl (u1_ BK2) Tryd.underlying67 rfl bfqv_) rfl ?_
 exact ⟨bnwh_, bfnq_⟩

def impl_within.f (a0 : Int) (a1 : Int) (a2 : Int) : Option (Bool) := if a0 ≥ a1 then (some (decide (a0 ≤ a2))) else (some false)
theorem impl_within.calls (a0 : Int) (a1 : Int) (a2 : Int) (r : Bool) (w : World) (h : impl_within.f a0 a1 a2 = some r) :
  Calls Tryd.prog 84 #[.int .i64 a0, .int .i64 a1, .int .i64 a2] w fun e w' => e = .returned (.bool r) ∧ Drawn0 w w' := by
 have H : (if a0 ≥ a1 then (some (decide (a0 ≤ a2))) else (some false)) = some r := h
 clear h
 by_cases c1 : a0 ≥ a1
 ·rw [if_pos c1] at H
  have c1b0 : decide (a1 ≤ a0) = true := dt_ c1
  clear c1
  obtain rfl := si_ H
  go_enter Tryd.func84, Tryd.ntmps84
  go_wp2
  go_ret
  exact ⟨b04z_, boaj_⟩
 rw [if_neg c1] at H
 have c1b0 : decide (a1 ≤ a0) = false := decide_eq_false c1
 clear c1
 obtain rfl := si_ H
 go_enter Tryd.func84, Tryd.ntmps84
 go_wp2
 go_ret
 exact ⟨b04z_, boaj_⟩

def impl_allWithin.l0 : Nat → Int → Int → List Int → Int → Int → Option (Bool)
 | 0, _, _, _, _, _ => none
 | k + 1, x1, x2, x9, x10, x11 => if x11 < x10 then (if 0 ≤ x11 then (if x11 < (x9.length : Int) then ((impl_within.f (rd x9 x11) x1 x2).bind fun t180 => (if t180 = true then (impl_allWithin.l0 k x1 x2 x9 x10 (wrap64 (x11 + 1))) else (some false))) else (none)) else (none)) else (some true)
def impl_allWithin.f (k : Nat) (l0 : List Int) (a1 : Int) (a2 : Int) : Option (Bool) := impl_allWithin.l0 k a1 a2 l0 (l0.length : Int) 0
theorem impl_allWithin.mono_l : ∀ k, (∀ y0 y1 y2 y3 y4, LeO (impl_allWithin.l0 k y0 y1 y2 y3 y4) (impl_allWithin.l0 (k + 1) y0 y1 y2 y3 y4))
 | 0 => fun _ _ _ _ _ r h => by simp [impl_allWithin.l0] at h
 | k + 1 => by
  have ih0 := impl_allWithin.mono_l k
  ·intro y0 y1 y2 y3 y4
   unfold impl_allWithin.l0
   repeat' with_reducible first | exact ih0 .. | exact LeO.refl .. | exact LeO.none .. | refine LeO.ite ?_ ?_ | refine LeO.bind ?_ (fun _ => ?_)
theorem impl_allWithin.mono : ∀ a0 a1 a2 k, LeO (impl_allWithin.f k a0 a1 a2) (impl_allWithin.f (k + 1) a0 a1 a2) := by
 intro a0 a1 a2 k
 have ih0 := impl_allWithin.mono_l k
 unfold impl_allWithin.f
 repeat' with_reducible first | exact ih0 .. | exact LeO.refl .. | exact LeO.none .. | refine LeO.ite ?_ ?_ | refine LeO.bind ?_ (fun _ => ?_)
theorem impl_allWithin.calls (k : Nat) (A0 : Option Addr) (c0 : Nat) (l0 : List Int) (a1 : Int) (a2 : Int) (r : Bool) (w : World) (hr0 : Kd.C (Kd.int .i64) w A0 l0.length l0) (hc0 : l0.length ≤ c0) (h : impl_allWithin.f k l0 a1 a2 = some r) :
  Calls Tryd.prog 79 #[.slice A0 l0.length c0, .int .i64 a1, .int .i64 a2] w fun e w' => e = .returned (.bool r) ∧ Drawn0 w w' := by
 have HR0 := A0_ hr0
 have HC0 := A0_ hc0
 clear hr0 hc0
 have H : (impl_allWithin.l0 k a1 a2 l0 (l0.length : Int) 0) = some r := h
 clear h
 have H' := A0_ H
 clear H
 go_enter Tryd.func79, Tryd.ntmps79
 go_wp2
 go_loopg [11] k (fun kq v1 w' => ∃ (x11_1 : Int), v1 = .int .i64 x11_1 ∧ Aside0 (impl_allWithin.l0 kq a1 a2 l0 (l0.length : Int) x11_1 = some r) ∧ Aside0 (kq ≤ k) ∧ Drawn0 w w')
 case atStart => exact ⟨(0), b2ew_, H', ⟨Nat.le_refl _⟩, boaj_⟩
 clear H'
 obtain ⟨x11_1, rfl, HA, HK1, ⟨m1, rfl⟩⟩ := hrel
 cases gk with | zero => exact absurd HA.out (by simp [impl_allWithin.l0]) | succ k1 => ?_
 have H := HA.out
 clear HA
 simp only [impl_allWithin.l0] at H
 by_cases c1 : x11_1 < (l0.length : Int)
 case neg =>
  rw [if_neg c1] at H
  have c1b0 : decide (x11_1 < (l0.length : Int)) = false := decide_eq_false c1
  clear c1
  obtain rfl := si_ H
  go_wp2
  go_ret
  exact ⟨b04z_, boaj_⟩
 rw [if_pos c1] at H
 have c1b0 : decide (x11_1 < (l0.length : Int)) = true := dt_ c1
 clear c1
 by_cases c2 : 0 ≤ x11_1
 case neg =>
  rw [if_neg c2] at H
  exact absurd H bxka_
 rw [if_pos c2] at H
 have c2b0 : decide (0 ≤ x11_1) = true := dt_ c2
 clear c2
 by_cases c3 : x11_1 < (l0.length : Int)
 case neg =>
  rw [if_neg c3] at H
  exact absurd H bxka_
 rw [if_pos c3] at H
 have c3b0 : decide (x11_1 < (l0.length : Int)) = true := dt_ c3
 clear c3
 obtain ⟨t1, A2, H⟩ := o1_ H
 by_cases c4 : t1 = true
 case neg =>
  obtain rfl := bf_.mpr c4
  rw [if_neg ft_] at H
  obtain rfl := si_ H
  have p1 : 0 ≤ (x11_1 : Int) := od_ bpil_
  have q1 : x11_1 < (l0.length : Int) := od_ bpil_
  obtain ⟨ad1, e1, hx1_0⟩ := Kd.at_int HR0.out x11_1 p1 q1
  cases e1
  replace p1 := eq_true p1
  replace q1 := eq_true q1
  go_wp2_with (first | ((with_reducible refine gc_ (f := 84) rfl ?_); refine gl_ 18 Tryd.func84 #[.int .i64 (rd l0 x11_1), .int .i64 a1, .int .i64 a2] ?_; (with_reducible refine (impl_within.calls (rd l0 x11_1) a1 a2 false _ A2.out).mono ?_); rintro e w' ⟨rfl, ⟨nd, rfl⟩⟩; refine ⟨_, rfl, ?_⟩))
  go_ret
  exact ⟨b04z_, boaj_⟩
 subst c4
 rw [if_pos rfl] at H
 have H' := A0_ H
 clear H
 have p1 : 0 ≤ (x11_1 : Int) := od_ bpil_
 have q1 : x11_1 < (l0.length : Int) := od_ bpil_
 obtain ⟨ad1, e1, hx1_0⟩ := Kd.at_int HR0.out x11_1 p1 q1
 cases e1
 replace p1 := eq_true p1
 replace q1 := eq_true q1
 go_wp2_with (first | ((with_reducible refine gc_ (f := 84) rfl ?_); refine gl_ 18 Tryd.func84 #[.int .i64 (rd l0 x11_1), .int .i64 a1, .int .i64 a2] ?_; (with_reducible refine (impl_within.calls (rd l0 x11_1) a1 a2 true _ A2.out).mono ?_); rintro e w' ⟨rfl, ⟨nd, rfl⟩⟩; refine ⟨_, rfl, ?_⟩))
 go_roundg k1
 case measure => have := HK1.out; omega
 exact ⟨(wrap64 (x11_1 + 1)), b2ew_, H', ⟨bxjq_⟩, boaj_⟩

def impl_bench_has.f (k : Nat) (a0_0 : Int) (a0_1 : Bool) (l1 : List Int) : Option (Bool) := (impl_allWithin.f k l1 0 (wrap64 (a0_0 - 1))).bind fun t182 => (some t182)
theorem impl_bench_has.mono : ∀ a0 a1 a2 k, LeO (impl_bench_has.f k a0 a1 a2) (impl_bench_has.f (k + 1) a0 a1 a2) := by
 intro a0 a1 a2 k
 unfold impl_bench_has.f
 repeat' with_reducible first | exact impl_allWithin.mono .. | exact LeO.refl .. | exact LeO.none .. | refine LeO.ite ?_ ?_ | refine LeO.bind ?_ (fun _ => ?_)
theorem impl_bench_has.calls (k : Nat) (a0_0 : Int) (a0_1 : Bool) (A1 : Option Addr) (c1 : Nat) (l1 : List Int) (r : Bool) (w : World) (hr1 : Kd.C (Kd.int .i64) w A1 l1.length l1) (hc1 : l1.length ≤ c1) (h : impl_bench_has.f k a0_0 a0_1 l1 = some r) :
  Calls Tryd.prog 88 #[.agg #[.int .i64 a0_0, .bool a0_1], .slice A1 l1.length c1] w fun e w' => e = .returned (.bool r) ∧ Below w.heap.size w w' := by
 have hu67 := Tryd.underlying67
 have HR1 := A0_ hr1
 have HC1 := A0_ hc1
 clear hr1 hc1
 have HB := A0_ (Below.refl w.heap.size w)
 have H : ((impl_allWithin.f k l1 0 (wrap64 (a0_0 - 1))).bind fun t1 => (some t1)) = some r := h
 clear h
 obtain ⟨t1, A3, H⟩ := o1_ H
 replace H : (some t1) = some r := H
 obtain rfl := si_ H
 go_enter Tryd.func88, Tryd.ntmps88
 go_wp2_with (first | ((with_reducible refine gd_ (N := 2) rfl ?_); refine bx_ 2 #[.int .i64 a0_0, .bool a0_1] 67 ?_; intro gb1 hg w1 BK1 hb; have GW1 := ge_ hg brt4_; have GE1 := GW1; replace HB := hb_ hb brt4_; clear hb hg; have hcz1 := c2_ BK1) | ((with_reducible refine gc_ (f := 79) rfl ?_); refine gl_ 9 Tryd.func79 #[.slice A1 l1.length c1, .int .i64 0, .int .i64 (wrap64 (a0_0 - 1))] ?_; (with_reducible refine (impl_allWithin.calls k _ _ l1 0 (wrap64 (a0_0 - 1)) t1 _ ?side1 ?side2 A3.out).mono ?_); (case side1 => exact b3d8_); (case side2 => exact HC1.out); rintro e w' ⟨rfl, ⟨nd, rfl⟩⟩; refine ⟨_, rfl, ?_⟩))
 go_ret
 exact ⟨bnwh_, be6g_⟩

def impl_bench_valid.f (a0_0 : Int) (a0_1 : Bool) : Option (Bool) := (impl_within.f a0_0 2 24).bind fun t184 => (if t184 = true then (if a0_1 = true then (some (decide (a0_0 ≥ 3))) else (some true)) else (some false))
theorem impl_bench_valid.calls (a0_0 : Int) (a0_1 : Bool) (r : Bool) (w : World) (h : impl_bench_valid.f a0_0 a0_1 = some r) :
  Calls Tryd.prog 89 #[.agg #[.int .i64 a0_0, .bool a0_1]] w fun e w' => e = .returned (.bool r) ∧ Below w.heap.size w w' := by
 have hu67 := Tryd.underlying67
 have HB := A0_ (Below.refl w.heap.size w)
 have H : ((impl_within.f a0_0 2 24).bind fun t1 => (if t1 = true then (if a0_1 = true then (some (decide (a0_0 ≥ 3))) else (some true)) else (some false))) = some r := h
 clear h
 obtain ⟨t1, A2, H⟩ := o1_ H
 by_cases c1 : t1 = true
 case neg =>
  obtain rfl := bf_.mpr c1
  rw [if_neg ft_] at H
  obtain rfl := si_ H
  go_enter Tryd.func89, Tryd.ntmps89
  go_wp2_with (first | ((with_reducible refine gd_ (N := 1) rfl ?_); refine bx_ 1 #[.int .i64 a0_0, .bool a0_1] 67 ?_; intro gb1 hg w1 BK1 hb; have GW1 := ge_ hg brt4_; have GE1 := GW1; replace HB := hb_ hb brt4_; clear hb hg; have hcz1 := c2_ BK1) | ((with_reducible refine gc_ (f := 84) rfl ?_); refine gl_ 5 Tryd.func84 #[.int .i64 a0_0, .int .i64 2, .int .i64 24] ?_; (with_reducible refine (impl_within.calls a0_0 2 24 false _ A2.out).mono ?_); rintro e w' ⟨rfl, ⟨nd, rfl⟩⟩; refine ⟨_, rfl, ?_⟩))
  go_ret
  exact ⟨bnwh_, be6g_⟩
 subst c1
 rw [if_pos rfl] at H
 by_cases c2 : a0_1 = true
 ·subst c2
  rw [if_pos rfl] at H
  obtain rfl := si_ H
  go_enter Tryd.func89, Tryd.ntmps89
  go_wp2_with (first | ((with_reducible refine gd_ (N := 1) rfl ?_); refine bx_ 1 #[.int .i64 a0_0, .bool true] 67 ?_; intro gb1 hg w1 BK1 hb; have GW1 := ge_ hg brt4_; have GE1 := GW1; replace HB := hb_ hb brt4_; clear hb hg; have hcz1 := c2_ BK1) | ((with_reducible refine gc_ (f := 84) rfl ?_); refine gl_ 5 Tryd.func84 #[.int .i64 a0_0, .int .i64 2, .int .i64 24] ?_; (with_reducible refine (impl_within.calls a0_0 2 24 true _ A2.out).mono ?_); rintro e w' ⟨rfl, ⟨nd, rfl⟩⟩; refine ⟨_, rfl, ?_⟩))
  go_ret
  exact ⟨bnwh_, be6g_⟩
 obtain rfl := bf_.mpr c2
 rw [if_neg ft_] at H
 obtain rfl := si_ H
 go_enter Tryd.func89, Tryd.ntmps89
 go_wp2_with (first | ((with_reducible refine gd_ (N := 1) rfl ?_); refine bx_ 1 #[.int .i64 a0_0, .bool false] 67 ?_; intro gb1 hg w1 BK1 hb; have GW1 := ge_ hg brt4_; have GE1 := GW1; replace HB := hb_ hb brt4_; clear hb hg; have hcz1 := c2_ BK1) | ((with_reducible refine gc_ (f := 84) rfl ?_); refine gl_ 5 Tryd.func84 #[.int .i64 a0_0, .int .i64 2, .int .i64 24] ?_; (with_reducible refine (impl_within.calls a0_0 2 24 true _ A2.out).mono ?_); rintro e w' ⟨rfl, ⟨nd, rfl⟩⟩; refine ⟨_, rfl, ?_⟩))
 go_ret
 exact ⟨bnwh_, be6g_⟩

def impl_IsRow.l0 : Nat → List Int → Int → Int → Int → Bool → List Int → Option (Bool)
 | 0, _, _, _, _, _, _ => none
 | k + 1, x6, x7, x8, x186000, x186001, x186002 => if x8 < x7 then (if 0 ≤ x8 then (if x8 < (x6.length : Int) then ((impl_Row_bench.f x186000 x186001 x186002).bind fun bt190 => ((impl_bench_has.f k bt190.1 bt190.2 (([rd x6 x8] : List Int))).bind fun t195 => (if t195 = true then (if x8 > 0 then (if 0 ≤ (wrap64 (x8 - 1)) then (if (wrap64 (x8 - 1)) < (x186002.length : Int) then (if (rd x186002 (wrap64 (x8 - 1))) ≥ (rd x6 x8) then (some false) else (impl_IsRow.l0 k x6 x7 (wrap64 (x8 + 1)) x186000 x186001 x186002)) else (none)) else (none)) else (impl_IsRow.l0 k x6 x7 (wrap64 (x8 + 1)) x186000 x186001 x186002)) else (some false)))) else (none)) else (none)) else ((impl_Row_bench.f x186000 x186001 x186002).bind fun bt186 => ((impl_bench_valid.f bt186.1 bt186.2).bind fun t188 => (some t188)))
def impl_IsRow.f (k : Nat) (a0_0 : Int) (a0_1 : Bool) (l0_2 : List Int) : Option (Bool) := impl_IsRow.l0 k l0_2 (l0_2.length : Int) 0 a0_0 a0_1 l0_2
theorem impl_IsRow.mono_l : ∀ k, (∀ y0 y1 y2 y3 y4 y5, LeO (impl_IsRow.l0 k y0 y1 y2 y3 y4 y5) (impl_IsRow.l0 (k + 1) y0 y1 y2 y3 y4 y5))
 | 0 => fun _ _ _ _ _ _ r h => by simp [impl_IsRow.l0] at h
 | k + 1 => by
  have ih0 := impl_IsRow.mono_l k
  ·intro y0 y1 y2 y3 y4 y5
   unfold impl_IsRow.l0
   repeat' with_reducible first | exact ih0 .. | exact impl_bench_has.mono .. | exact LeO.refl .. | exact LeO.none .. | refine LeO.ite ?_ ?_ | refine LeO.bind ?_ (fun _ => ?_)
theorem impl_IsRow.mono : ∀ a0 a1 a2 k, LeO (impl_IsRow.f k a0 a1 a2) (impl_IsRow.f (k + 1) a0 a1 a2) := by
 intro a0 a1 a2 k
 have ih0 := impl_IsRow.mono_l k
 unfold impl_IsRow.f
 repeat' with_reducible first | exact ih0 .. | exact impl_bench_has.mono .. | exact LeO.refl .. | exact LeO.none .. | refine LeO.ite ?_ ?_ | refine LeO.bind ?_ (fun _ => ?_)
theorem impl_IsRow.calls (k : Nat) (a0_0 : Int) (a0_1 : Bool) (A0_2 : Option Addr) (c0_2 : Nat) (l0_2 : List Int) (r : Bool) (w : World) (hr0_2 : Kd.C (Kd.int .i64) w A0_2 l0_2.length l0_2) (hc0_2 : l0_2.length ≤ c0_2) (h : impl_IsRow.f k a0_0 a0_1 l0_2 = some r) :
  Calls Tryd.prog 78 #[.agg #[.int .i64 a0_0, .bool a0_1, .slice A0_2 l0_2.length c0_2]] w fun e w' => e = .returned (.bool r) ∧ Below w.heap.size w w' := by
 have hu28 := Tryd.underlying28
 have HR0_2 := A0_ hr0_2
 have HC0_2 := A0_ hc0_2
 clear hr0_2 hc0_2
 have HB := A0_ (Below.refl w.heap.size w)
 have H : (impl_IsRow.l0 k l0_2 (l0_2.length : Int) 0 a0_0 a0_1 l0_2) = some r := h
 clear h
 have H' := A0_ H
 clear H
 go_enter Tryd.func78, Tryd.ntmps78
 go_wp2_with (first | ((with_reducible refine gd_ (N := 1) rfl ?_); refine bx_ 1 #[.int .i64 a0_0, .bool a0_1, .slice A0_2 l0_2.length c0_2] 28 ?_; intro gb1 hg w1 BK1 hb; have GW1 := ge_ hg brt4_; have GE1 := GW1; replace HB := hb_ hb brt4_; clear hb hg; have hcz1 := c3_ BK1))
 go_loopg [8] k (fun kq v1 w' => ∃ (x8_1 : Int), v1 = .int .i64 x8_1 ∧ Aside0 (impl_IsRow.l0 kq l0_2 (l0_2.length : Int) x8_1 a0_0 a0_1 l0_2 = some r) ∧ Aside0 (kq ≤ k) ∧ Aside0 (w'.heap[gb1]? = some (.cells #[.int .i64 a0_0, .bool a0_1, (.slice A0_2 l0_2.length c0_2)] 28 (0, 0))) ∧ Aside0 (Below w.heap.size w w'))
 case atStart => exact ⟨(0), b2ew_, H', ⟨Nat.le_refl _⟩, ⟨u1_ BK1⟩, ⟨be6g_⟩⟩
 clear H'
 (try clear hcz1)
 obtain ⟨x8_1, rfl, HA, HK1, BK1, HB⟩ := hrel
 cases gk with | zero => exact absurd HA.out (by simp [impl_IsRow.l0]) | succ k1 => ?_
 have H := HA.out
 clear HA
 simp only [impl_IsRow.l0] at H
 by_cases c1 : x8_1 < (l0_2.length : Int)
 case neg =>
  rw [if_neg c1] at H
  have c1b0 : decide (x8_1 < (l0_2.length : Int)) = false := decide_eq_false c1
  clear c1
  obtain ⟨⟨t1, t2⟩, A2, H⟩ := o1_ H
  obtain ⟨t3, A4, H⟩ := o1_ H
  replace H : (some t3) = some r := H
  obtain rfl := si_ H
  have hcz2 := c3_ BK1
  go_wp2_with (first | ((with_reducible refine gc_ (f := 45) rfl ?_); refine gl_ 35 Tryd.func45 #[.agg #[.int .i64 a0_0, .bool a0_1, .slice A0_2 l0_2.length c0_2]] ?_; (with_reducible refine (impl_Row_bench.calls a0_0 a0_1 _ _ l0_2 t1 t2 _ ?side1 ?side2 A2.out).mono ?_); (case side1 => exact b6n8_); (case side2 => exact HC0_2.out); rintro e w2 ⟨rfl, hb⟩; refine ⟨_, rfl, ?_⟩; replace BK1 := k1_ BK1 hb; replace HB := hb_ hb be6g_; (try clear hb)) | ((with_reducible refine gc_ (f := 89) rfl ?_); refine gl_ 36 Tryd.func89 #[.agg #[.int .i64 t1, .bool t2]] ?_; (with_reducible refine (impl_bench_valid.calls t1 t2 t3 _ A4.out).mono ?_); rintro e w3 ⟨rfl, hb⟩; refine ⟨_, rfl, ?_⟩; replace BK1 := k1_ BK1 hb; replace HB := hb_ hb be6g_; (try clear hb)))
  go_ret
  exact ⟨bnwh_, be6g_⟩
 rw [if_pos c1] at H
 have c1b0 : decide (x8_1 < (l0_2.length : Int)) = true := dt_ c1
 clear c1
 by_cases c2 : 0 ≤ x8_1
 case neg =>
  rw [if_neg c2] at H
  exact absurd H bxka_
 rw [if_pos c2] at H
 have c2b0 : decide (0 ≤ x8_1) = true := dt_ c2
 clear c2
 by_cases c3 : x8_1 < (l0_2.length : Int)
 case neg =>
  rw [if_neg c3] at H
  exact absurd H bxka_
 rw [if_pos c3] at H
 have c3b0 : decide (x8_1 < (l0_2.length : Int)) = true := dt_ c3
 clear c3
 obtain ⟨⟨t1, t2⟩, A2, H⟩ := o1_ H
 obtain ⟨y1, hy1⟩ : ∃ y_ : List Int, y_ = (([rd l0_2 x8_1] : List Int)) := ⟨_, rfl⟩
 replace H : ((impl_bench_has.f k1 t1 t2 y1).bind fun t3 => (if t3 = true then (if x8_1 > 0 then (if 0 ≤ (wrap64 (x8_1 - 1)) then (if (wrap64 (x8_1 - 1)) < (l0_2.length : Int) then (if (rd l0_2 (wrap64 (x8_1 - 1))) ≥ (rd l0_2 x8_1) then (some false) else (impl_IsRow.l0 k1 l0_2 (l0_2.length : Int) (wrap64 (x8_1 + 1)) a0_0 a0_1 l0_2)) else (none)) else (none)) else (impl_IsRow.l0 k1 l0_2 (l0_2.length : Int) (wrap64 (x8_1 + 1)) a0_0 a0_1 l0_2)) else (some false))) = some r := bgiq_
 have Ny1 := A0_ hy1
 clear hy1
 obtain ⟨t3, A4, H⟩ := o1_ H
 by_cases c4 : t3 = true
 case neg =>
  obtain rfl := bf_.mpr c4
  rw [if_neg ft_] at H
  obtain rfl := si_ H
  have p1 : 0 ≤ (x8_1 : Int) := od_ bpil_
  have q1 : x8_1 < (l0_2.length : Int) := od_ bpil_
  obtain ⟨ad1, e1, hx1_0⟩ := Kd.at_int HR0_2.out x8_1 p1 q1
  cases e1
  replace hx1_0 := (HB.out.cell (World.block_lt_of_cell? w _ hx1_0)).trans hx1_0
  replace p1 := eq_true p1
  replace q1 := eq_true q1
  have hcz2 := c3_ BK1
  go_wp2_with (first | ((with_reducible refine gc_ (f := 45) rfl ?_); refine gl_ 14 Tryd.func45 #[.agg #[.int .i64 a0_0, .bool a0_1, .slice (some ad1) l0_2.length c0_2]] ?_; (with_reducible refine (impl_Row_bench.calls a0_0 a0_1 _ _ l0_2 t1 t2 _ ?side1 ?side2 A2.out).mono ?_); (case side1 => exact b6n8_); (case side2 => exact HC0_2.out); rintro e w2 ⟨rfl, hb⟩; refine ⟨_, rfl, ?_⟩; replace BK1 := k1_ BK1 hb; replace HB := hb_ hb be6g_; (try clear hb)) | ((with_reducible refine gd_ (N := 16) rfl ?_); refine Kd.R_lit (Kd.int .i64) _ 3 ?hg (N := 16) ?hd (xs := ([rd l0_2 x8_1] : List Int)) (inner := [.int .i64 (rd l0_2 x8_1)]) (ok := fun _ => True) (okp := fun _ => True) ?hr ?hp (fun _ hk => hk) trivial (Below.refl _ _) (Nat.le_refl _) bxka_ ?_; (case hd => rfl); (case hg => rfl); (case hr => go_simp; first | done | rfl); (case hp => exact (Reps.one (show Kd.M (Kd.int .i64) _ _ _ (rd l0_2 x8_1) [.int .i64 (rd l0_2 x8_1)] from rfl) (Reps.none _ _))); intro v2 w3 ho38 hb hg_ hnew_; clear hg_ hnew_; (first | rw [← Ny1.out] at ho38 | (simp only [Int.reduceToNat] at ho38; rw [← Ny1.out] at ho38)); have HO1 := A0_ (Kd.R_lower ho38 (bz_ be6g_)); replace BK1 := k1_ BK1 hb; replace HB := hb_ hb be6g_; clear hb ho38; obtain ⟨Ao1, co1, eo1⟩ := Kd.R_slice HO1.out; subst eo1) | ((with_reducible refine gc_ (f := 88) rfl ?_); refine gl_ 17 Tryd.func88 #[.agg #[.int .i64 t1, .bool t2], .slice Ao1 y1.length co1] ?_; (with_reducible refine (impl_bench_has.calls k1 t1 t2 _ _ y1 false _ ?side1 ?side2 A4.out).mono ?_); (case side1 => exact bayy_); (case side2 => exact (rr_ HO1.out).2.1); rintro e w4 ⟨rfl, hb⟩; refine ⟨_, rfl, ?_⟩; replace HO1 := A0_ (Kd.R_below bsm5_ hb); replace BK1 := k1_ BK1 hb; replace HB := hb_ hb be6g_; (try clear hb)))
  go_ret
  exact ⟨bnwh_, be6g_⟩
 subst c4
 rw [if_pos rfl] at H
 by_cases c5 : x8_1 > 0
 case neg =>
  rw [if_neg c5] at H
  have c5b0 : decide (0 < x8_1) = false := decide_eq_false c5
  clear c5
  have H' := A0_ H
  clear H
  have p1 : 0 ≤ (x8_1 : Int) := od_ bpil_
  have q1 : x8_1 < (l0_2.length : Int) := od_ bpil_
  obtain ⟨ad1, e1, hx1_0⟩ := Kd.at_int HR0_2.out x8_1 p1 q1
  cases e1
  replace hx1_0 := (HB.out.cell (World.block_lt_of_cell? w _ hx1_0)).trans hx1_0
  replace p1 := eq_true p1
  replace q1 := eq_true q1
  have hcz2 := c3_ BK1
  go_wp2_with (first | ((with_reducible refine gc_ (f := 45) rfl ?_); refine gl_ 14 Tryd.func45 #[.agg #[.int .i64 a0_0, .bool a0_1, .slice (some ad1) l0_2.length c0_2]] ?_; (with_reducible refine (impl_Row_bench.calls a0_0 a0_1 _ _ l0_2 t1 t2 _ ?side1 ?side2 A2.out).mono ?_); (case side1 => exact b6n8_); (case side2 => exact HC0_2.out); rintro e w2 ⟨rfl, hb⟩; refine ⟨_, rfl, ?_⟩; replace BK1 := k1_ BK1 hb; replace HB := hb_ hb be6g_; (try clear hb)) | ((with_reducible refine gd_ (N := 16) rfl ?_); refine Kd.R_lit (Kd.int .i64) _ 3 ?hg (N := 16) ?hd (xs := ([rd l0_2 x8_1] : List Int)) (inner := [.int .i64 (rd l0_2 x8_1)]) (ok := fun _ => True) (okp := fun _ => True) ?hr ?hp (fun _ hk => hk) trivial (Below.refl _ _) (Nat.le_refl _) bxka_ ?_; (case hd => rfl); (case hg => rfl); (case hr => go_simp; first | done | rfl); (case hp => exact (Reps.one (show Kd.M (Kd.int .i64) _ _ _ (rd l0_2 x8_1) [.int .i64 (rd l0_2 x8_1)] from rfl) (Reps.none _ _))); intro v2 w3 ho32 hb hg_ hnew_; clear hg_ hnew_; (first | rw [← Ny1.out] at ho32 | (simp only [Int.reduceToNat] at ho32; rw [← Ny1.out] at ho32)); have HO1 := A0_ (Kd.R_lower ho32 (bz_ be6g_)); replace BK1 := k1_ BK1 hb; replace HB := hb_ hb be6g_; clear hb ho32; obtain ⟨Ao1, co1, eo1⟩ := Kd.R_slice HO1.out; subst eo1) | ((with_reducible refine gc_ (f := 88) rfl ?_); refine gl_ 17 Tryd.func88 #[.agg #[.int .i64 t1, .bool t2], .slice Ao1 y1.length co1] ?_; (with_reducible refine (impl_bench_has.calls k1 t1 t2 _ _ y1 true _ ?side1 ?side2 A4.out).mono ?_); (case side1 => exact bayy_); (case side2 => exact (rr_ HO1.out).2.1); rintro e w4 ⟨rfl, hb⟩; refine ⟨_, rfl, ?_⟩; replace HO1 := A0_ (Kd.R_below bsm5_ hb); replace BK1 := k1_ BK1 hb; replace HB := hb_ hb be6g_; (try clear hb)))
  go_roundg k1
  case measure => have := HK1.out; omega
  exact ⟨(wrap64 (x8_1 + 1)), b2ew_, H', ⟨bxjq_⟩, ⟨u1_ BK1⟩, ⟨be6g_⟩⟩
 rw [if_pos c5] at H
 have c5b0 : decide (0 < x8_1) = true := dt_ c5
 clear c5
 obtain ⟨ji1, hji1⟩ : ∃ j_ : Int, (wrap64 (x8_1 - 1)) = j_ := ⟨_, rfl⟩
 replace H : (if 0 ≤ (ji1) then (if (ji1) < (l0_2.length : Int) then (if (rd l0_2 (ji1)) ≥ (rd l0_2 x8_1) then (some false) else (impl_IsRow.l0 k1 l0_2 (l0_2.length : Int) (wrap64 (x8_1 + 1)) a0_0 a0_1 l0_2)) else (none)) else (none)) = some r := bmns_
 (try rw [hji1] at A2)
 (try rw [hji1] at A4)
 have hji11w : (IntKind.i64.wrap (x8_1 - 1)) = ji1 := (i64_w _).trans hji1
 by_cases c6 : 0 ≤ (ji1)
 case neg =>
  rw [if_neg c6] at H
  exact absurd H bxka_
 rw [if_pos c6] at H
 have c6b0 : decide (0 ≤ (ji1)) = true := dt_ c6
 clear c6
 by_cases c7 : (ji1) < (l0_2.length : Int)
 case neg =>
  rw [if_neg c7] at H
  exact absurd H bxka_
 rw [if_pos c7] at H
 have c7b0 : decide ((ji1) < (l0_2.length : Int)) = true := dt_ c7
 clear c7
 by_cases c8 : (rd l0_2 (ji1)) ≥ (rd l0_2 x8_1)
 case neg =>
  rw [if_neg c8] at H
  have c8b0 : decide ((rd l0_2 x8_1) ≤ (rd l0_2 (ji1))) = false := decide_eq_false c8
  clear c8
  have H' := A0_ H
  clear H
  have p1 : 0 ≤ (x8_1 : Int) := od_ bpil_
  have q1 : x8_1 < (l0_2.length : Int) := od_ bpil_
  obtain ⟨ad1, e1, hx1_0⟩ := Kd.at_int HR0_2.out x8_1 p1 q1
  cases e1
  replace hx1_0 := (HB.out.cell (World.block_lt_of_cell? w _ hx1_0)).trans hx1_0
  replace p1 := eq_true p1
  replace q1 := eq_true q1
  have hcz2 := c3_ BK1
  go_wp2_with (first | ((with_reducible refine gc_ (f := 45) rfl ?_); refine gl_ 14 Tryd.func45 #[.agg #[.int .i64 a0_0, .bool a0_1, .slice (some ad1) l0_2.length c0_2]] ?_; (with_reducible refine (impl_Row_bench.calls a0_0 a0_1 _ _ l0_2 t1 t2 _ ?side1 ?side2 A2.out).mono ?_); (case side1 => exact b6n8_); (case side2 => exact HC0_2.out); rintro e w2 ⟨rfl, hb⟩; refine ⟨_, rfl, ?_⟩; replace BK1 := k1_ BK1 hb; replace HB := hb_ hb be6g_; (try clear hb)) | ((with_reducible refine gd_ (N := 16) rfl ?_); refine Kd.R_lit (Kd.int .i64) _ 3 ?hg (N := 16) ?hd (xs := ([rd l0_2 x8_1] : List Int)) (inner := [.int .i64 (rd l0_2 x8_1)]) (ok := fun _ => True) (okp := fun _ => True) ?hr ?hp (fun _ hk => hk) trivial (Below.refl _ _) (Nat.le_refl _) bxka_ ?_; (case hd => rfl); (case hg => rfl); (case hr => go_simp; first | done | rfl); (case hp => exact (Reps.one (show Kd.M (Kd.int .i64) _ _ _ (rd l0_2 x8_1) [.int .i64 (rd l0_2 x8_1)] from rfl) (Reps.none _ _))); intro v2 w3 ho25 hb hg_ hnew_; clear hg_ hnew_; (first | rw [← Ny1.out] at ho25 | (simp only [Int.reduceToNat] at ho25; rw [← Ny1.out] at ho25)); have HO1 := A0_ (Kd.R_lower ho25 (bz_ be6g_)); replace BK1 := k1_ BK1 hb; replace HB := hb_ hb be6g_; clear hb ho25; obtain ⟨Ao1, co1, eo1⟩ := Kd.R_slice HO1.out; subst eo1) | ((with_reducible refine gc_ (f := 88) rfl ?_); refine gl_ 17 Tryd.func88 #[.agg #[.int .i64 t1, .bool t2], .slice Ao1 y1.length co1] ?_; (with_reducible refine (impl_bench_has.calls k1 t1 t2 _ _ y1 true _ ?side1 ?side2 A4.out).mono ?_); (case side1 => exact bayy_); (case side2 => exact (rr_ HO1.out).2.1); rintro e w4 ⟨rfl, hb⟩; refine ⟨_, rfl, ?_⟩; replace HO1 := A0_ (Kd.R_below bsm5_ hb); replace BK1 := k1_ BK1 hb; replace HB := hb_ hb be6g_; (try clear hb); have hcz3 := c3_ BK1; have p2 : 0 ≤ ((ji1) : Int) := od_ bpil_; have q2 : (ji1) < (l0_2.length : Int) := od_ bpil_; obtain ⟨ad2, e2, hx2_0⟩ := Kd.at_int HR0_2.out (ji1) p2 q2; obtain rfl : ad1 = ad2 := bs6y_; replace hx2_0 := (HB.out.cell (World.block_lt_of_cell? w _ hx2_0)).trans hx2_0; replace p2 := eq_true p2; replace q2 := eq_true q2))
  go_roundg k1
  case measure => have := HK1.out; omega
  exact ⟨(wrap64 (x8_1 + 1)), b2ew_, H', ⟨bxjq_⟩, ⟨u1_ BK1⟩, ⟨be6g_⟩⟩
 rw [if_pos c8] at H
 have c8b0 : decide ((rd l0_2 x8_1) ≤ (rd l0_2 (ji1))) = true := dt_ c8
 clear c8
 obtain rfl := si_ H
 have p1 : 0 ≤ (x8_1 : Int) := od_ bpil_
 have q1 : x8_1 < (l0_2.length : Int) := od_ bpil_
 obtain ⟨ad1, e1, hx1_0⟩ := Kd.at_int HR0_2.out x8_1 p1 q1
 cases e1
 replace hx1_0 := (HB.out.cell (World.block_lt_of_cell? w _ hx1_0)).trans hx1_0
 replace p1 := eq_true p1
 replace q1 := eq_true q1
 have hcz2 := c3_ BK1
 go_wp2_with (first | ((with_reducible refine gc_ (f := 45) rfl ?_); refine gl_ 14 Tryd.func45 #[.agg #[.int .i64 a0_0, .bool a0_1, .slice (some ad1) l0_2.length c0_2]] ?_; (with_reducible refine (impl_Row_bench.calls a0_0 a0_1 _ _ l0_2 t1 t2 _ ?side1 ?side2 A2.out).mono ?_); (case side1 => exact b6n8_); (case side2 => exact HC0_2.out); rintro e w2 ⟨rfl, hb⟩; refine ⟨_, rfl, ?_⟩; replace BK1 := k1_ BK1 hb; replace HB := hb_ hb be6g_; (try clear hb)) | ((with_reducible refine gd_ (N := 16) rfl ?_); refine Kd.R_lit (Kd.int .i64) _ 3 ?hg (N := 16) ?hd (xs := ([rd l0_2 x8_1] : List Int)) (inner := [.int .i64 (rd l0_2 x8_1)]) (ok := fun _ => True) (okp := fun _ => True) ?hr ?hp (fun _ hk => hk) trivial (Below.refl _ _) (Nat.le_refl _) bxka_ ?_; (case hd => rfl); (case hg => rfl); (case hr => go_simp; first | done | rfl); (case hp => exact (Reps.one (show Kd.M (Kd.int .i64) _ _ _ (rd l0_2 x8_1) [.int .i64 (rd l0_2 x8_1)] from rfl) (Reps.none _ _))); intro v2 w3 ho18 hb hg_ hnew_; clear hg_ hnew_; (first | rw [← Ny1.out] at ho18 | (simp only [Int.reduceToNat] at ho18; rw [← Ny1.out] at ho18)); have HO1 := A0_ (Kd.R_lower ho18 (bz_ be6g_)); replace BK1 := k1_ BK1 hb; replace HB := hb_ hb be6g_; clear hb ho18; obtain ⟨Ao1, co1, eo1⟩ := Kd.R_slice HO1.out; subst eo1) | ((with_reducible refine gc_ (f := 88) rfl ?_); refine gl_ 17 Tryd.func88 #[.agg #[.int .i64 t1, .bool t2], .slice Ao1 y1.length co1] ?_; (with_reducible refine (impl_bench_has.calls k1 t1 t2 _ _ y1 true _ ?side1 ?side2 A4.out).mono ?_); (case side1 => exact bayy_); (case side2 => exact (rr_ HO1.out).2.1); rintro e w4 ⟨rfl, hb⟩; refine ⟨_, rfl, ?_⟩; replace HO1 := A0_ (Kd.R_below bsm5_ hb); replace BK1 := k1_ BK1 hb; replace HB := hb_ hb be6g_; (try clear hb); have hcz3 := c3_ BK1; have p2 : 0 ≤ ((ji1) : Int) := od_ bpil_; have q2 : (ji1) < (l0_2.length : Int) := od_ bpil_; obtain ⟨ad2, e2, hx2_0⟩ := Kd.at_int HR0_2.out (ji1) p2 q2; obtain rfl : ad1 = ad2 := bs6y_; replace hx2_0 := (HB.out.cell (World.block_lt_of_cell? w _ hx2_0)).trans hx2_0; replace p2 := eq_true p2; replace q2 := eq_true q2))
 go_ret
 exact ⟨bfw0_, be6g_⟩

def impl_isLine.f (k : Nat) (a0_0 : Int) (a0_1 : Bool) (l0_2 : List Int) : Option (Bool) := (impl_IsRow.f k a0_0 a0_1 l0_2).bind fun t198 => (if t198 = true then (some (!a0_1)) else (some false))
theorem impl_isLine.mono : ∀ a0 a1 a2 k, LeO (impl_isLine.f k a0 a1 a2) (impl_isLine.f (k + 1) a0 a1 a2) := by
 intro a0 a1 a2 k
 unfold impl_isLine.f
 repeat' with_reducible first | exact impl_IsRow.mono .. | exact LeO.refl .. | exact LeO.none .. | refine LeO.ite ?_ ?_ | refine LeO.bind ?_ (fun _ => ?_)
theorem impl_isLine.calls (k : Nat) (a0_0 : Int) (a0_1 : Bool) (A0_2 : Option Addr) (c0_2 : Nat) (l0_2 : List Int) (r : Bool) (w : World) (hr0_2 : Kd.C (Kd.int .i64) w A0_2 l0_2.length l0_2) (hc0_2 : l0_2.length ≤ c0_2) (h : impl_isLine.f k a0_0 a0_1 l0_2 = some r) :
  Calls Tryd.prog 52 #[.agg #[.int .i64 a0_0, .bool a0_1, .slice A0_2 l0_2.length c0_2]] w fun e w' => e = .returned (.bool r) ∧ Below w.heap.size w w' := by
 have hu28 := Tryd.underlying28
 have HR0_2 := A0_ hr0_2
 have HC0_2 := A0_ hc0_2
 clear hr0_2 hc0_2
 have HB := A0_ (Below.refl w.heap.size w)
 have H : ((impl_IsRow.f k a0_0 a0_1 l0_2).bind fun t1 => (if t1 = true then (some (!a0_1)) else (some false))) = some r := h
 clear h
 obtain ⟨t1, A2, H⟩ := o1_ H
 by_cases c1 : t1 = true
 case neg =>
  obtain rfl := bf_.mpr c1
  rw [if_neg ft_] at H
  obtain rfl := si_ H
  go_enter Tryd.func52, Tryd.ntmps52
  go_wp2_with (first | ((with_reducible refine gd_ (N := 1) rfl ?_); refine bx_ 1 #[.int .i64 a0_0, .bool a0_1, .slice A0_2 l0_2.length c0_2] 28 ?_; intro gb1 hg w1 BK1 hb; have GW1 := ge_ hg brt4_; have GE1 := GW1; replace HB := hb_ hb brt4_; clear hb hg; have hcz1 := c3_ BK1) | ((with_reducible refine gc_ (f := 78) rfl ?_); refine gl_ 4 Tryd.func78 #[.agg #[.int .i64 a0_0, .bool a0_1, .slice A0_2 l0_2.length c0_2]] ?_; (with_reducible refine (impl_IsRow.calls k a0_0 a0_1 _ _ l0_2 false _ ?side1 ?side2 A2.out).mono ?_); (case side1 => exact b6n8_); (case side2 => exact HC0_2.out); rintro e w2 ⟨rfl, hb⟩; refine ⟨_, rfl, ?_⟩; replace BK1 := k1_ BK1 hb; replace HB := hb_ hb be6g_; (try clear hb)))
  go_ret
  exact ⟨bnwh_, be6g_⟩
 subst c1
 rw [if_pos rfl] at H
 obtain rfl := si_ H
 go_enter Tryd.func52, Tryd.ntmps52
 go_wp2_with (first | ((with_reducible refine gd_ (N := 1) rfl ?_); refine bx_ 1 #[.int .i64 a0_0, .bool a0_1, .slice A0_2 l0_2.length c0_2] 28 ?_; intro gb1 hg w1 BK1 hb; have GW1 := ge_ hg brt4_; have GE1 := GW1; replace HB := hb_ hb brt4_; clear hb hg; have hcz1 := c3_ BK1) | ((with_reducible refine gc_ (f := 78) rfl ?_); refine gl_ 4 Tryd.func78 #[.agg #[.int .i64 a0_0, .bool a0_1, .slice A0_2 l0_2.length c0_2]] ?_; (with_reducible refine (impl_IsRow.calls k a0_0 a0_1 _ _ l0_2 true _ ?side1 ?side2 A2.out).mono ?_); (case side1 => exact b6n8_); (case side2 => exact HC0_2.out); rintro e w2 ⟨rfl, hb⟩; refine ⟨_, rfl, ?_⟩; replace BK1 := k1_ BK1 hb; replace HB := hb_ hb be6g_; (try clear hb); have hcz2 := c3_ BK1))
 go_ret
 exact ⟨bnwh_, be6g_⟩

def impl_setOf.l0 : Nat → Int → List Int → Int → Int → Option (Int)
 | 0, _, _, _, _ => none
 | k + 1, x3, x6, x7, x8 => if x8 < x7 then (if 0 ≤ x8 then (if x8 < (x6.length : Int) then (if 0 ≤ (rd x6 x8) then (impl_setOf.l0 k (Go.bits .or .u32 x3 (shl .u32 1 (rd x6 x8))) x6 x7 (wrap64 (x8 + 1))) else (none)) else (none)) else (none)) else (some x3)
def impl_setOf.f (k : Nat) (l0 : List Int) : Option (Int) := impl_setOf.l0 k 0 l0 (l0.length : Int) 0
theorem impl_setOf.mono_l : ∀ k, (∀ y0 y1 y2 y3, LeO (impl_setOf.l0 k y0 y1 y2 y3) (impl_setOf.l0 (k + 1) y0 y1 y2 y3))
 | 0 => fun _ _ _ _ r h => by simp [impl_setOf.l0] at h
 | k + 1 => by
  have ih0 := impl_setOf.mono_l k
  ·intro y0 y1 y2 y3
   unfold impl_setOf.l0
   repeat' with_reducible first | exact ih0 .. | exact LeO.refl .. | exact LeO.none .. | refine LeO.ite ?_ ?_ | refine LeO.bind ?_ (fun _ => ?_)
theorem impl_setOf.mono : ∀ a0 k, LeO (impl_setOf.f k a0) (impl_setOf.f (k + 1) a0) := by
 intro a0 k
 have ih0 := impl_setOf.mono_l k
 unfold impl_setOf.f
 repeat' with_reducible first | exact ih0 .. | exact LeO.refl .. | exact LeO.none .. | refine LeO.ite ?_ ?_ | refine LeO.bind ?_ (fun _ => ?_)
theorem impl_setOf.calls (k : Nat) (A0 : Option Addr) (c0 : Nat) (l0 : List Int) (r : Int) (w : World) (hr0 : Kd.C (Kd.int .i64) w A0 l0.length l0) (hc0 : l0.length ≤ c0) (h : impl_setOf.f k l0 = some r) :
  Calls Tryd.prog 68 #[.slice A0 l0.length c0] w fun e w' => e = .returned (.int .u32 r) ∧ Drawn0 w w' := by
 have HR0 := A0_ hr0
 have HC0 := A0_ hc0
 clear hr0 hc0
 have H : (impl_setOf.l0 k 0 l0 (l0.length : Int) 0) = some r := h
 clear h
 have H' := A0_ H
 clear H
 go_enter Tryd.func68, Tryd.ntmps68
 go_wp2
 go_loopg [3, 8] k (fun kq v1 v2 w' => ∃ (x3_1 : Int) (x8_1 : Int), v1 = .int .u32 x3_1 ∧ v2 = .int .i64 x8_1 ∧ Aside0 (impl_setOf.l0 kq x3_1 l0 (l0.length : Int) x8_1 = some r) ∧ Aside0 (kq ≤ k) ∧ Drawn0 w w')
 case atStart => exact ⟨(0), (0), b2ew_, b2ew_, H', ⟨Nat.le_refl _⟩, boaj_⟩
 clear H'
 obtain ⟨x3_1, x8_1, rfl, rfl, HA, HK1, ⟨m1, rfl⟩⟩ := hrel
 cases gk with | zero => exact absurd HA.out (by simp [impl_setOf.l0]) | succ k1 => ?_
 have H := HA.out
 clear HA
 simp only [impl_setOf.l0] at H
 by_cases c1 : x8_1 < (l0.length : Int)
 case neg =>
  rw [if_neg c1] at H
  have c1b0 : decide (x8_1 < (l0.length : Int)) = false := decide_eq_false c1
  clear c1
  obtain rfl := si_ H
  go_wp2
  go_ret
  exact ⟨b04z_, boaj_⟩
 rw [if_pos c1] at H
 have c1b0 : decide (x8_1 < (l0.length : Int)) = true := dt_ c1
 clear c1
 by_cases c2 : 0 ≤ x8_1
 case neg =>
  rw [if_neg c2] at H
  exact absurd H bxka_
 rw [if_pos c2] at H
 have c2b0 : decide (0 ≤ x8_1) = true := dt_ c2
 clear c2
 by_cases c3 : x8_1 < (l0.length : Int)
 case neg =>
  rw [if_neg c3] at H
  exact absurd H bxka_
 rw [if_pos c3] at H
 have c3b0 : decide (x8_1 < (l0.length : Int)) = true := dt_ c3
 clear c3
 by_cases c4 : 0 ≤ (rd l0 x8_1)
 case neg =>
  rw [if_neg c4] at H
  exact absurd H bxka_
 rw [if_pos c4] at H
 have c4b0 := eq_true c4
 have c4b1 : decide (0 ≤ (rd l0 x8_1)) = true := dt_ c4
 clear c4
 obtain ⟨ji1, hji1⟩ : ∃ j_ : Int, (shl .u32 1 (rd l0 x8_1)) = j_ := ⟨_, rfl⟩
 replace H : (impl_setOf.l0 k1 (Go.bits .or .u32 x3_1 (ji1)) l0 (l0.length : Int) (wrap64 (x8_1 + 1))) = some r := bmns_
 have hji1_ : (IntKind.u32.wrap (1 * 2 ^ min (rd l0 x8_1).toNat 32)) = ji1 := hji1
 have hji6z : (rd l0 x8_1) ≤ 32 → (IntKind.u32.wrap (1 * 2 ^ (rd l0 x8_1).toNat)) = ji1 := shl_small hji1
 have hji6u : (IntKind.u32.wrap (2 ^ min (rd l0 x8_1).toNat 32)) = ji1 := by have h_ := hji1_; rw [Int.one_mul] at h_; exact h_
 have hji6v : (rd l0 x8_1) ≤ 32 → (IntKind.u32.wrap (2 ^ (rd l0 x8_1).toNat)) = ji1 := fun hle_ => by have h_ := hji6z hle_; rw [Int.one_mul] at h_; exact h_
 have H' := A0_ H
 clear H
 have p1 : 0 ≤ (x8_1 : Int) := od_ bpil_
 have q1 : x8_1 < (l0.length : Int) := od_ bpil_
 obtain ⟨ad1, e1, hx1_0⟩ := Kd.at_int HR0.out x8_1 p1 q1
 cases e1
 replace p1 := eq_true p1
 replace q1 := eq_true q1
 go_wp2
 go_roundg k1
 case measure => have := HK1.out; omega
 exact ⟨(Go.bits .or .u32 x3_1 (ji1)), (wrap64 (x8_1 + 1)), b1tc_, b2ew_, H', ⟨bxjq_⟩, boaj_⟩

def impl_Row_taken.f (k : Nat) (a0_0 : Int) (a0_1 : Bool) (l0_2 : List Int) : Option (Int) := (impl_setOf.f k l0_2).bind fun t201 => (some t201)
theorem impl_Row_taken.mono : ∀ a0 a1 a2 k, LeO (impl_Row_taken.f k a0 a1 a2) (impl_Row_taken.f (k + 1) a0 a1 a2) := by
 intro a0 a1 a2 k
 unfold impl_Row_taken.f
 repeat' with_reducible first | exact impl_setOf.mono .. | exact LeO.refl .. | exact LeO.none .. | refine LeO.ite ?_ ?_ | refine LeO.bind ?_ (fun _ => ?_)
theorem impl_Row_taken.calls (k : Nat) (a0_0 : Int) (a0_1 : Bool) (A0_2 : Option Addr) (c0_2 : Nat) (l0_2 : List Int) (r : Int) (w : World) (hr0_2 : Kd.C (Kd.int .i64) w A0_2 l0_2.length l0_2) (hc0_2 : l0_2.length ≤ c0_2) (h : impl_Row_taken.f k a0_0 a0_1 l0_2 = some r) :
  Calls Tryd.prog 41 #[.agg #[.int .i64 a0_0, .bool a0_1, .slice A0_2 l0_2.length c0_2]] w fun e w' => e = .returned (.int .u32 r) ∧ Below w.heap.size w w' := by
 have hu28 := Tryd.underlying28
 have HR0_2 := A0_ hr0_2
 have HC0_2 := A0_ hc0_2
 clear hr0_2 hc0_2
 have HB := A0_ (Below.refl w.heap.size w)
 have H : ((impl_setOf.f k l0_2).bind fun t1 => (some t1)) = some r := h
 clear h
 obtain ⟨t1, A2, H⟩ := o1_ H
 replace H : (some t1) = some r := H
 obtain rfl := si_ H
 go_enter Tryd.func41, Tryd.ntmps41
 go_wp2_with (first | ((with_reducible refine gd_ (N := 1) rfl ?_); refine bx_ 1 #[.int .i64 a0_0, .bool a0_1, .slice A0_2 l0_2.length c0_2] 28 ?_; intro gb1 hg w1 BK1 hb; have GW1 := ge_ hg brt4_; have GE1 := GW1; replace HB := hb_ hb brt4_; clear hb hg; have hcz1 := c3_ BK1) | ((with_reducible refine gc_ (f := 68) rfl ?_); refine gl_ 5 Tryd.func68 #[.slice A0_2 l0_2.length c0_2] ?_; (with_reducible refine (impl_setOf.calls k _ _ l0_2 t1 _ ?side1 ?side2 A2.out).mono ?_); (case side1 => exact b6n8_); (case side2 => exact HC0_2.out); rintro e w' ⟨rfl, ⟨nd, rfl⟩⟩; refine ⟨_, rfl, ?_⟩))
 go_ret
 exact ⟨bnwh_, be6g_⟩

def impl_bench_all.f (a0_0 : Int) (a0_1 : Bool) : Option (Int) := if 0 ≤ a0_0 then (some (((shl .u32 1 a0_0) - 1) % 4294967296)) else (none)
theorem impl_bench_all.calls (a0_0 : Int) (a0_1 : Bool) (r : Int) (w : World) (h : impl_bench_all.f a0_0 a0_1 = some r) :
  Calls Tryd.prog 46 #[.agg #[.int .i64 a0_0, .bool a0_1]] w fun e w' => e = .returned (.int .u32 r) ∧ Below w.heap.size w w' := by
 have hu67 := Tryd.underlying67
 have HB := A0_ (Below.refl w.heap.size w)
 have H : (if 0 ≤ a0_0 then (some (((shl .u32 1 a0_0) - 1) % 4294967296)) else (none)) = some r := h
 clear h
 by_cases c1 : 0 ≤ a0_0
 case neg =>
  rw [if_neg c1] at H
  exact absurd H bxka_
 rw [if_pos c1] at H
 have c1b0 := eq_true c1
 have c1b1 : decide (0 ≤ a0_0) = true := dt_ c1
 clear c1
 obtain ⟨ji1, hji1⟩ : ∃ j_ : Int, (shl .u32 1 a0_0) = j_ := ⟨_, rfl⟩
 replace H : (some (((ji1) - 1) % 4294967296)) = some r := bmns_
 have hji1_ : (IntKind.u32.wrap (1 * 2 ^ min a0_0.toNat 32)) = ji1 := hji1
 have hji3z : a0_0 ≤ 32 → (IntKind.u32.wrap (1 * 2 ^ a0_0.toNat)) = ji1 := shl_small hji1
 have hji3u : (IntKind.u32.wrap (2 ^ min a0_0.toNat 32)) = ji1 := by have h_ := hji1_; rw [Int.one_mul] at h_; exact h_
 have hji3v : a0_0 ≤ 32 → (IntKind.u32.wrap (2 ^ a0_0.toNat)) = ji1 := fun hle_ => by have h_ := hji3z hle_; rw [Int.one_mul] at h_; exact h_
 obtain rfl := si_ H
 go_enter Tryd.func46, Tryd.ntmps46
 go_wp2_with (first | ((with_reducible refine gd_ (N := 1) rfl ?_); refine bx_ 1 #[.int .i64 a0_0, .bool a0_1] 67 ?_; intro gb1 hg w1 BK1 hb; have GW1 := ge_ hg brt4_; have GE1 := GW1; replace HB := hb_ hb brt4_; clear hb hg; have hcz1 := c2_ BK1))
 go_ret
 exact ⟨bfw0_, be6g_⟩

end Go.Proofs.YtohmonfaabofaaaDoor.QFnTheatre
-- packed
-- squeezed
