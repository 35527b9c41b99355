-- Written by px.py, a program of this session, over the kit's printer: some functions have a definition and a proof of this session's own.
import Derived.Test.YtbohmfnjgjijdaaDoorQFnGuestsx0
import Derived.RangeFuncBox
import Derived.RangeFuncLeaves
import Derived.Shelf.Abstract
import Derived.OwnWalkIn
import Derived.TacticsInMore
import Derived.LoopNIn
import Derived.LoopIn
import Derived.Maps.AppendAt
import Derived.Sort.OwnSortedInts
import Derived.Shelf.Slices.In.SortNone
import Derived.Shelf.Sort.Plain
import Derived.KernelRfl
import Derived.Lib.TrailingZeros
import Derived.Laws.Bits64b
namespace Go.Proofs.YtbohmfnjgjijdaaDoor.QFnGuests
open Go.RowKit Go.Proofs.YtbohmfnjgjijdaaDoorW.PrintWords Go.Proofs.YtbohmfnjgjijdaaDoorW.PrintLast Go.Proofs.YtbohmfnjgjijdaaDoorW.PrintMore
attribute [local go_sem] max2_int min2_int max_two min_two max_three min_three max_four min_four   -- for this text's walks alone
set_option linter.unusedVariables false
set_option linter.unusedSimpArgs false
set_option maxHeartbeats 8000000
set_option maxRecDepth 100000

def spec_l1In.f (a0 : Int) (a1 : Int) (a2 : Int) : Option (Bool) := if a0 ≥ a1 then (some (decide (a0 ≤ a2))) else (some false)
theorem spec_l1In.calls (a0 : Int) (a1 : Int) (a2 : Int) (r : Bool) (w : World) (h : spec_l1In.f a0 a1 a2 = some r) :
  Calls Tryd.prog 60 #[.int .i64 a0, .int .i64 a1, .int .i64 a2] w fun e w' => e = .returned (.bool r) ∧ Drawn0 w w' := by
 have H : (if a0 ≥ a1 then (some (decide (a0 ≤ a2))) else (some false)) = some r := h
 clear h
 by_cases c1 : a0 ≥ a1
 ·rw [if_pos c1] at H
  have c1b0 : decide (a1 ≤ a0) = true := dt_ c1
  clear c1
  obtain rfl := si_ H
  go_enter Tryd.func60, Tryd.ntmps60
  go_wp2
  go_ret
  exact ⟨b04z_, boaj_⟩
 rw [if_neg c1] at H
 have c1b0 : decide (a1 ≤ a0) = false := decide_eq_false c1
 clear c1
 obtain rfl := si_ H
 go_enter Tryd.func60, Tryd.ntmps60
 go_wp2
 go_ret
 exact ⟨b04z_, boaj_⟩

def spec_l1Rising.l0 : Nat → List Int → Int → Int → Int → Option (Bool)
 | 0, _, _, _, _ => none
 | k + 1, x0, x1, x2, x7 => if x7 < (x0.length : Int) then (if 0 ≤ x7 then ((spec_l1In.f (rd x0 x7) x1 x2).bind fun t102 => (if t102 = true then (if x7 > 0 then (if 0 ≤ (wrap64 (x7 - 1)) then (if (wrap64 (x7 - 1)) < (x0.length : Int) then (if (rd x0 (wrap64 (x7 - 1))) ≥ (rd x0 x7) then (some false) else (spec_l1Rising.l0 k x0 x1 x2 (wrap64 (x7 + 1)))) else (none)) else (none)) else (spec_l1Rising.l0 k x0 x1 x2 (wrap64 (x7 + 1)))) else (some false))) else (none)) else (some true)
def spec_l1Rising.f (k : Nat) (l0 : List Int) (a1 : Int) (a2 : Int) : Option (Bool) := spec_l1Rising.l0 k l0 a1 a2 0
theorem spec_l1Rising.mono_l : ∀ k, (∀ y0 y1 y2 y3, LeO (spec_l1Rising.l0 k y0 y1 y2 y3) (spec_l1Rising.l0 (k + 1) y0 y1 y2 y3))
 | 0 => fun _ _ _ _ r h => by simp [spec_l1Rising.l0] at h
 | k + 1 => by
  have ih0 := spec_l1Rising.mono_l k
  ·intro y0 y1 y2 y3
   unfold spec_l1Rising.l0
   repeat' with_reducible first | exact ih0 .. | exact LeO.refl .. | exact LeO.none .. | refine LeO.ite ?_ ?_ | refine LeO.bind ?_ (fun _ => ?_)
theorem spec_l1Rising.mono : ∀ a0 a1 a2 k, LeO (spec_l1Rising.f k a0 a1 a2) (spec_l1Rising.f (k + 1) a0 a1 a2) := by
 intro a0 a1 a2 k
 have ih0 := spec_l1Rising.mono_l k
 unfold spec_l1Rising.f
 repeat' with_reducible first | exact ih0 .. | exact LeO.refl .. | exact LeO.none .. | refine LeO.ite ?_ ?_ | refine LeO.bind ?_ (fun _ => ?_)
theorem spec_l1Rising.calls (k : Nat) (A0 : Option Addr) (c0 : Nat) (l0 : List Int) (a1 : Int) (a2 : Int) (r : Bool) (w : World) (hr0 : Kd.C (Kd.int .i64) w A0 l0.length l0) (hc0 : l0.length ≤ c0) (h : spec_l1Rising.f k l0 a1 a2 = some r) :
  Calls Tryd.prog 79 #[.slice A0 l0.length c0, .int .i64 a1, .int .i64 a2] w fun e w' => e = .returned (.bool r) ∧ Drawn0 w w' := by
 have HR0 := A0_ hr0
 have HC0 := A0_ hc0
 clear hr0 hc0
 have H : (spec_l1Rising.l0 k l0 a1 a2 0) = some r := h
 clear h
 have H' := A0_ H
 clear H
 go_enter Tryd.func79, Tryd.ntmps79
 go_wp2
 repeat (go_quiet (fail); try go_wp2)
 go_loopg [7] k (fun kq v1 w' => ∃ (x7_1 : Int), v1 = .int .i64 x7_1 ∧ Aside0 (spec_l1Rising.l0 kq l0 a1 a2 x7_1 = some r) ∧ Aside0 (kq ≤ k) ∧ Drawn0 w w')
 case atStart => exact ⟨(0), b2ew_, H', ⟨Nat.le_refl _⟩, boaj_⟩
 clear H'
 obtain ⟨x7_1, rfl, HA, HK1, ⟨m1, rfl⟩⟩ := hrel
 cases gk with | zero => exact absurd HA.out (by simp [spec_l1Rising.l0]) | succ k1 => ?_
 have H := HA.out
 clear HA
 simp only [spec_l1Rising.l0] at H
 by_cases c1 : x7_1 < (l0.length : Int)
 case neg =>
  rw [if_neg c1] at H
  have c1b0 : decide (x7_1 < (l0.length : Int)) = false := decide_eq_false c1
  clear c1
  obtain rfl := si_ H
  go_wp2
  repeat (go_quiet (fail); try go_wp2)
  go_ret
  exact ⟨b04z_, boaj_⟩
 rw [if_pos c1] at H
 have c1b0 : decide (x7_1 < (l0.length : Int)) = true := dt_ c1
 clear c1
 by_cases c2 : 0 ≤ x7_1
 case neg =>
  rw [if_neg c2] at H
  exact absurd H bxka_
 rw [if_pos c2] at H
 have c2b0 : decide (0 ≤ x7_1) = true := dt_ c2
 clear c2
 obtain ⟨t1, A2, H⟩ := o1_ H
 by_cases c3 : t1 = true
 case neg =>
  obtain rfl := bf_.mpr c3
  rw [if_neg ft_] at H
  obtain rfl := si_ H
  have p1 : 0 ≤ (x7_1 : Int) := od_ bpil_
  have q1 : x7_1 < (l0.length : Int) := od_ bpil_
  obtain ⟨ad1, e1, hx1_0⟩ := Kd.at_int HR0.out x7_1 p1 q1
  cases e1
  replace p1 := eq_true p1
  replace q1 := eq_true q1
  go_wp2_with (first | (go_at_call 60; (with_reducible refine (spec_l1In.calls (rd l0 x7_1) a1 a2 false _ A2.out).mono ?_); rintro e w' ⟨rfl, ⟨nd, rfl⟩⟩; (try first | exact ⟨rfl, _, World.drewN_drewN _ _ _⟩ | exact ⟨rfl, _, Eq.trans (World.drewN_drewN _ _ _) (congrArg (World.drewN _) (Nat.add_assoc _ _ _))⟩)))
  repeat (go_quiet (first | (go_at_call 60; (with_reducible refine (spec_l1In.calls (rd l0 x7_1) a1 a2 false _ A2.out).mono ?_); rintro e w' ⟨rfl, ⟨nd, rfl⟩⟩; (try first | exact ⟨rfl, _, World.drewN_drewN _ _ _⟩ | exact ⟨rfl, _, Eq.trans (World.drewN_drewN _ _ _) (congrArg (World.drewN _) (Nat.add_assoc _ _ _))⟩))); try go_wp2_with (first | (go_at_call 60; (with_reducible refine (spec_l1In.calls (rd l0 x7_1) a1 a2 false _ A2.out).mono ?_); rintro e w' ⟨rfl, ⟨nd, rfl⟩⟩; (try first | exact ⟨rfl, _, World.drewN_drewN _ _ _⟩ | exact ⟨rfl, _, Eq.trans (World.drewN_drewN _ _ _) (congrArg (World.drewN _) (Nat.add_assoc _ _ _))⟩))))
  go_ret
  exact ⟨b04z_, boaj_⟩
 subst c3
 rw [if_pos rfl] at H
 by_cases c4 : x7_1 > 0
 case neg =>
  rw [if_neg c4] at H
  have c4b0 : decide (0 < x7_1) = false := decide_eq_false c4
  clear c4
  have H' := A0_ H
  clear H
  have p1 : 0 ≤ (x7_1 : Int) := od_ bpil_
  have q1 : x7_1 < (l0.length : Int) := od_ bpil_
  obtain ⟨ad1, e1, hx1_0⟩ := Kd.at_int HR0.out x7_1 p1 q1
  cases e1
  replace p1 := eq_true p1
  replace q1 := eq_true q1
  go_wp2_with (first | (go_at_call 60; (with_reducible refine (spec_l1In.calls (rd l0 x7_1) a1 a2 true _ A2.out).mono ?_); rintro e w' ⟨rfl, ⟨nd, rfl⟩⟩; (try first | exact ⟨rfl, _, World.drewN_drewN _ _ _⟩ | exact ⟨rfl, _, Eq.trans (World.drewN_drewN _ _ _) (congrArg (World.drewN _) (Nat.add_assoc _ _ _))⟩)))
  repeat (go_quiet (first | (go_at_call 60; (with_reducible refine (spec_l1In.calls (rd l0 x7_1) a1 a2 true _ A2.out).mono ?_); rintro e w' ⟨rfl, ⟨nd, rfl⟩⟩; (try first | exact ⟨rfl, _, World.drewN_drewN _ _ _⟩ | exact ⟨rfl, _, Eq.trans (World.drewN_drewN _ _ _) (congrArg (World.drewN _) (Nat.add_assoc _ _ _))⟩))); try go_wp2_with (first | (go_at_call 60; (with_reducible refine (spec_l1In.calls (rd l0 x7_1) a1 a2 true _ A2.out).mono ?_); rintro e w' ⟨rfl, ⟨nd, rfl⟩⟩; (try first | exact ⟨rfl, _, World.drewN_drewN _ _ _⟩ | exact ⟨rfl, _, Eq.trans (World.drewN_drewN _ _ _) (congrArg (World.drewN _) (Nat.add_assoc _ _ _))⟩))))
  go_roundg k1
  case measure => have := HK1.out; omega
  exact ⟨(wrap64 (x7_1 + 1)), b2ew_, H', ⟨bxjq_⟩, boaj_⟩
 rw [if_pos c4] at H
 have c4b0 : decide (0 < x7_1) = true := dt_ c4
 clear c4
 obtain ⟨ji1, hji1⟩ : ∃ j_ : Int, (wrap64 (x7_1 - 1)) = j_ := ⟨_, rfl⟩
 replace H : (if 0 ≤ (ji1) then (if (ji1) < (l0.length : Int) then (if (rd l0 (ji1)) ≥ (rd l0 x7_1) then (some false) else (spec_l1Rising.l0 k1 l0 a1 a2 (wrap64 (x7_1 + 1)))) else (none)) else (none)) = some r := bmns_
 (try rw [hji1] at A2)
 have hji9w : (IntKind.i64.wrap (x7_1 - 1)) = ji1 := (i64_w _).trans hji1
 by_cases c5 : 0 ≤ (ji1)
 case neg =>
  rw [if_neg c5] at H
  exact absurd H bxka_
 rw [if_pos c5] at H
 have c5b0 : decide (0 ≤ (ji1)) = true := dt_ c5
 clear c5
 by_cases c6 : (ji1) < (l0.length : Int)
 case neg =>
  rw [if_neg c6] at H
  exact absurd H bxka_
 rw [if_pos c6] at H
 have c6b0 : decide ((ji1) < (l0.length : Int)) = true := dt_ c6
 clear c6
 by_cases c7 : (rd l0 (ji1)) ≥ (rd l0 x7_1)
 ·rw [if_pos c7] at H
  have c7b0 : decide ((rd l0 x7_1) ≤ (rd l0 (ji1))) = true := dt_ c7
  clear c7
  obtain rfl := si_ H
  have p1 : 0 ≤ (x7_1 : Int) := od_ bpil_
  have q1 : x7_1 < (l0.length : Int) := od_ bpil_
  obtain ⟨ad1, e1, hx1_0⟩ := Kd.at_int HR0.out x7_1 p1 q1
  cases e1
  replace p1 := eq_true p1
  replace q1 := eq_true q1
  go_wp2_with (first | (go_at_call 60; (with_reducible refine (spec_l1In.calls (rd l0 x7_1) a1 a2 true _ A2.out).mono ?_); rintro e w' ⟨rfl, ⟨nd, rfl⟩⟩; (try first | exact ⟨rfl, _, World.drewN_drewN _ _ _⟩ | exact ⟨rfl, _, Eq.trans (World.drewN_drewN _ _ _) (congrArg (World.drewN _) (Nat.add_assoc _ _ _))⟩); have p2 : 0 ≤ ((ji1) : Int) := od_ bpil_; have q2 : (ji1) < (l0.length : Int) := od_ bpil_; obtain ⟨ad2, e2, hx2_0⟩ := Kd.at_int HR0.out (ji1) p2 q2; obtain rfl : ad1 = ad2 := bs6y_; replace p2 := eq_true p2; replace q2 := eq_true q2; have p3 : 0 ≤ (x7_1 : Int) := od_ bpil_; have q3 : x7_1 < (l0.length : Int) := od_ bpil_; obtain ⟨ad3, e3, hx3_0⟩ := Kd.at_int HR0.out x7_1 p3 q3; obtain rfl : ad1 = ad3 := (by injection e3); replace p3 := eq_true p3; replace q3 := eq_true q3))
  repeat (go_quiet (first | (go_at_call 60; (with_reducible refine (spec_l1In.calls (rd l0 x7_1) a1 a2 true _ A2.out).mono ?_); rintro e w' ⟨rfl, ⟨nd, rfl⟩⟩; (try first | exact ⟨rfl, _, World.drewN_drewN _ _ _⟩ | exact ⟨rfl, _, Eq.trans (World.drewN_drewN _ _ _) (congrArg (World.drewN _) (Nat.add_assoc _ _ _))⟩); have p2 : 0 ≤ ((ji1) : Int) := od_ bpil_; have q2 : (ji1) < (l0.length : Int) := od_ bpil_; obtain ⟨ad2, e2, hx2_0⟩ := Kd.at_int HR0.out (ji1) p2 q2; obtain rfl : ad1 = ad2 := bs6y_; replace p2 := eq_true p2; replace q2 := eq_true q2; have p3 : 0 ≤ (x7_1 : Int) := od_ bpil_; have q3 : x7_1 < (l0.length : Int) := od_ bpil_; obtain ⟨ad3, e3, hx3_0⟩ := Kd.at_int HR0.out x7_1 p3 q3; obtain rfl : ad1 = ad3 := (by injection e3); replace p3 := eq_true p3; replace q3 := eq_true q3)); try go_wp2_with (first | (go_at_call 60; (with_reducible refine (spec_l1In.calls (rd l0 x7_1) a1 a2 true _ A2.out).mono ?_); rintro e w' ⟨rfl, ⟨nd, rfl⟩⟩; (try first | exact ⟨rfl, _, World.drewN_drewN _ _ _⟩ | exact ⟨rfl, _, Eq.trans (World.drewN_drewN _ _ _) (congrArg (World.drewN _) (Nat.add_assoc _ _ _))⟩); have p2 : 0 ≤ ((ji1) : Int) := od_ bpil_; have q2 : (ji1) < (l0.length : Int) := od_ bpil_; obtain ⟨ad2, e2, hx2_0⟩ := Kd.at_int HR0.out (ji1) p2 q2; obtain rfl : ad1 = ad2 := bs6y_; replace p2 := eq_true p2; replace q2 := eq_true q2; have p3 : 0 ≤ (x7_1 : Int) := od_ bpil_; have q3 : x7_1 < (l0.length : Int) := od_ bpil_; obtain ⟨ad3, e3, hx3_0⟩ := Kd.at_int HR0.out x7_1 p3 q3; obtain rfl : ad1 = ad3 := (by injection e3); replace p3 := eq_true p3; replace q3 := eq_true q3)))
  go_ret
  exact ⟨b1tc_, boaj_⟩
 rw [if_neg c7] at H
 have c7b0 : decide ((rd l0 x7_1) ≤ (rd l0 (ji1))) = false := decide_eq_false c7
 clear c7
 have H' := A0_ H
 clear H
 have p1 : 0 ≤ (x7_1 : Int) := od_ bpil_
 have q1 : x7_1 < (l0.length : Int) := od_ bpil_
 obtain ⟨ad1, e1, hx1_0⟩ := Kd.at_int HR0.out x7_1 p1 q1
 cases e1
 replace p1 := eq_true p1
 replace q1 := eq_true q1
 go_wp2_with (first | (go_at_call 60; (with_reducible refine (spec_l1In.calls (rd l0 x7_1) a1 a2 true _ A2.out).mono ?_); rintro e w' ⟨rfl, ⟨nd, rfl⟩⟩; (try first | exact ⟨rfl, _, World.drewN_drewN _ _ _⟩ | exact ⟨rfl, _, Eq.trans (World.drewN_drewN _ _ _) (congrArg (World.drewN _) (Nat.add_assoc _ _ _))⟩); have p2 : 0 ≤ ((ji1) : Int) := od_ bpil_; have q2 : (ji1) < (l0.length : Int) := od_ bpil_; obtain ⟨ad2, e2, hx2_0⟩ := Kd.at_int HR0.out (ji1) p2 q2; obtain rfl : ad1 = ad2 := bs6y_; replace p2 := eq_true p2; replace q2 := eq_true q2; have p3 : 0 ≤ (x7_1 : Int) := od_ bpil_; have q3 : x7_1 < (l0.length : Int) := od_ bpil_; obtain ⟨ad3, e3, hx3_0⟩ := Kd.at_int HR0.out x7_1 p3 q3; obtain rfl : ad1 = ad3 := (by injection e3); replace p3 := eq_true p3; replace q3 := eq_true q3))
 repeat (go_quiet (first | (go_at_call 60; (with_reducible refine (spec_l1In.calls (rd l0 x7_1) a1 a2 true _ A2.out).mono ?_); rintro e w' ⟨rfl, ⟨nd, rfl⟩⟩; (try first | exact ⟨rfl, _, World.drewN_drewN _ _ _⟩ | exact ⟨rfl, _, Eq.trans (World.drewN_drewN _ _ _) (congrArg (World.drewN _) (Nat.add_assoc _ _ _))⟩); have p2 : 0 ≤ ((ji1) : Int) := od_ bpil_; have q2 : (ji1) < (l0.length : Int) := od_ bpil_; obtain ⟨ad2, e2, hx2_0⟩ := Kd.at_int HR0.out (ji1) p2 q2; obtain rfl : ad1 = ad2 := bs6y_; replace p2 := eq_true p2; replace q2 := eq_true q2; have p3 : 0 ≤ (x7_1 : Int) := od_ bpil_; have q3 : x7_1 < (l0.length : Int) := od_ bpil_; obtain ⟨ad3, e3, hx3_0⟩ := Kd.at_int HR0.out x7_1 p3 q3; obtain rfl : ad1 = ad3 := (by injection e3); replace p3 := eq_true p3; replace q3 := eq_true q3)); try go_wp2_with (first | (go_at_call 60; (with_reducible refine (spec_l1In.calls (rd l0 x7_1) a1 a2 true _ A2.out).mono ?_); rintro e w' ⟨rfl, ⟨nd, rfl⟩⟩; (try first | exact ⟨rfl, _, World.drewN_drewN _ _ _⟩ | exact ⟨rfl, _, Eq.trans (World.drewN_drewN _ _ _) (congrArg (World.drewN _) (Nat.add_assoc _ _ _))⟩); have p2 : 0 ≤ ((ji1) : Int) := od_ bpil_; have q2 : (ji1) < (l0.length : Int) := od_ bpil_; obtain ⟨ad2, e2, hx2_0⟩ := Kd.at_int HR0.out (ji1) p2 q2; obtain rfl : ad1 = ad2 := bs6y_; replace p2 := eq_true p2; replace q2 := eq_true q2; have p3 : 0 ≤ (x7_1 : Int) := od_ bpil_; have q3 : x7_1 < (l0.length : Int) := od_ bpil_; obtain ⟨ad3, e3, hx3_0⟩ := Kd.at_int HR0.out x7_1 p3 q3; obtain rfl : ad1 = ad3 := (by injection e3); replace p3 := eq_true p3; replace q3 := eq_true q3)))
 go_roundg k1
 case measure => have := HK1.out; omega
 exact ⟨(wrap64 (x7_1 + 1)), b2ew_, H', ⟨bxjq_⟩, boaj_⟩

def spec_l2Row.f (k : Nat) (a0_0 : Int) (a0_1 : Bool) (l0_2 : List Int) : Option (Bool) := (spec_l1In.f a0_0 2 24).bind fun t106 => (if t106 = true then (if a0_1 = true then (if a0_0 > 2 then ((spec_l1Rising.f k l0_2 0 (wrap64 (a0_0 - 1))).bind fun t107 => (some t107)) else (some false)) else ((spec_l1Rising.f k l0_2 0 (wrap64 (a0_0 - 1))).bind fun t108 => (some t108))) else (some false))
theorem spec_l2Row.mono : ∀ a0 a1 a2 k, LeO (spec_l2Row.f k a0 a1 a2) (spec_l2Row.f (k + 1) a0 a1 a2) := by
 intro a0 a1 a2 k
 unfold spec_l2Row.f
 repeat' with_reducible first | exact spec_l1Rising.mono .. | exact LeO.refl .. | exact LeO.none .. | refine LeO.ite ?_ ?_ | refine LeO.bind ?_ (fun _ => ?_)
theorem spec_l2Row.calls (k : Nat) (a0_0 : Int) (a0_1 : Bool) (A0_2 : Option Addr) (c0_2 : Nat) (l0_2 : List Int) (r : Bool) (w : World) (hr0_2 : Kd.C (Kd.int .i64) w A0_2 l0_2.length l0_2) (hc0_2 : l0_2.length ≤ c0_2) (h : spec_l2Row.f k a0_0 a0_1 l0_2 = some r) :
  Calls Tryd.prog 59 #[.agg #[.int .i64 a0_0, .bool a0_1, .slice A0_2 l0_2.length c0_2]] w fun e w' => e = .returned (.bool r) ∧ Below w.heap.size w w' := by
 have hu24 := Tryd.underlying24
 have HR0_2 := A0_ hr0_2
 have HC0_2 := A0_ hc0_2
 clear hr0_2 hc0_2
 have HB := A0_ (Below.refl w.heap.size w)
 have H : ((spec_l1In.f a0_0 2 24).bind fun t1 => (if t1 = true then (if a0_1 = true then (if a0_0 > 2 then ((spec_l1Rising.f k l0_2 0 (wrap64 (a0_0 - 1))).bind fun t2 => (some t2)) else (some false)) else ((spec_l1Rising.f k l0_2 0 (wrap64 (a0_0 - 1))).bind fun t3 => (some t3))) else (some false))) = some r := h
 clear h
 obtain ⟨t1, A2, H⟩ := o1_ H
 by_cases c1 : t1 = true
 case neg =>
  obtain rfl := bf_.mpr c1
  rw [if_neg ft_] at H
  obtain rfl := si_ H
  go_enter Tryd.func59, Tryd.ntmps59
  go_wp2_with (first | ((with_reducible refine gd_ (N := 1) rfl ?_); refine bx_ 1 #[.int .i64 a0_0, .bool a0_1, .slice A0_2 l0_2.length c0_2] 24 ?_; intro gb1 hg w1 BK1 hb; have GW1 := ge_ hg brt4_; have GE1 := GW1; replace HB := hb_ hb brt4_; clear hb hg; have hcz1 := c3_ BK1) | ((with_reducible refine gc_ (f := 60) rfl ?_); refine gl_ 5 Tryd.func60 #[.int .i64 a0_0, .int .i64 2, .int .i64 24] ?_; (with_reducible refine (spec_l1In.calls a0_0 2 24 false _ A2.out).mono ?_); rintro e w' ⟨rfl, ⟨nd, rfl⟩⟩; refine ⟨_, rfl, ?_⟩))
  go_ret
  exact ⟨bnwh_, be6g_⟩
 subst c1
 rw [if_pos rfl] at H
 by_cases c2 : a0_1 = true
 case neg =>
  obtain rfl := bf_.mpr c2
  rw [if_neg ft_] at H
  obtain ⟨t3, A4, H⟩ := o1_ H
  replace H : (some t3) = some r := H
  obtain rfl := si_ H
  go_enter Tryd.func59, Tryd.ntmps59
  go_wp2_with (first | ((with_reducible refine gd_ (N := 1) rfl ?_); refine bx_ 1 #[.int .i64 a0_0, .bool false, .slice A0_2 l0_2.length c0_2] 24 ?_; intro gb1 hg w1 BK1 hb; have GW1 := ge_ hg brt4_; have GE1 := GW1; replace HB := hb_ hb brt4_; clear hb hg; have hcz1 := c3_ BK1) | ((with_reducible refine gc_ (f := 60) rfl ?_); refine gl_ 5 Tryd.func60 #[.int .i64 a0_0, .int .i64 2, .int .i64 24] ?_; (with_reducible refine (spec_l1In.calls a0_0 2 24 true _ A2.out).mono ?_); rintro e w' ⟨rfl, ⟨nd, rfl⟩⟩; refine ⟨_, rfl, ?_⟩) | (go_at_call 79; (with_reducible refine (spec_l1Rising.calls k _ _ l0_2 0 (wrap64 (a0_0 - 1)) t3 _ ?side1 ?side2 A4.out).mono ?_); (case side1 => exact b83h_); (case side2 => exact HC0_2.out); rintro e w' ⟨rfl, ⟨nd, rfl⟩⟩))
  go_ret
  exact ⟨bnwh_, be6g_⟩
 subst c2
 rw [if_pos rfl] at H
 by_cases c3 : a0_0 > 2
 case neg =>
  rw [if_neg c3] at H
  have c3b0 : decide (2 < a0_0) = false := decide_eq_false c3
  clear c3
  obtain rfl := si_ H
  go_enter Tryd.func59, Tryd.ntmps59
  go_wp2_with (first | ((with_reducible refine gd_ (N := 1) rfl ?_); refine bx_ 1 #[.int .i64 a0_0, .bool true, .slice A0_2 l0_2.length c0_2] 24 ?_; intro gb1 hg w1 BK1 hb; have GW1 := ge_ hg brt4_; have GE1 := GW1; replace HB := hb_ hb brt4_; clear hb hg; have hcz1 := c3_ BK1) | ((with_reducible refine gc_ (f := 60) rfl ?_); refine gl_ 5 Tryd.func60 #[.int .i64 a0_0, .int .i64 2, .int .i64 24] ?_; (with_reducible refine (spec_l1In.calls a0_0 2 24 true _ A2.out).mono ?_); rintro e w' ⟨rfl, ⟨nd, rfl⟩⟩; refine ⟨_, rfl, ?_⟩))
  go_ret
  exact ⟨bnwh_, be6g_⟩
 rw [if_pos c3] at H
 have c3b0 : decide (2 < a0_0) = true := dt_ c3
 clear c3
 obtain ⟨t2, A4, H⟩ := o1_ H
 replace H : (some t2) = some r := H
 obtain rfl := si_ H
 go_enter Tryd.func59, Tryd.ntmps59
 go_wp2_with (first | ((with_reducible refine gd_ (N := 1) rfl ?_); refine bx_ 1 #[.int .i64 a0_0, .bool true, .slice A0_2 l0_2.length c0_2] 24 ?_; intro gb1 hg w1 BK1 hb; have GW1 := ge_ hg brt4_; have GE1 := GW1; replace HB := hb_ hb brt4_; clear hb hg; have hcz1 := c3_ BK1) | ((with_reducible refine gc_ (f := 60) rfl ?_); refine gl_ 5 Tryd.func60 #[.int .i64 a0_0, .int .i64 2, .int .i64 24] ?_; (with_reducible refine (spec_l1In.calls a0_0 2 24 true _ A2.out).mono ?_); rintro e w' ⟨rfl, ⟨nd, rfl⟩⟩; refine ⟨_, rfl, ?_⟩) | (go_at_call 79; (with_reducible refine (spec_l1Rising.calls k _ _ l0_2 0 (wrap64 (a0_0 - 1)) t2 _ ?side1 ?side2 A4.out).mono ?_); (case side1 => exact b83h_); (case side2 => exact HC0_2.out); rintro e w' ⟨rfl, ⟨nd, rfl⟩⟩))
 go_ret
 exact ⟨bnwh_, be6g_⟩

def spec_l1Has.l0 : Nat → List Int → Int → Int → Option (Bool)
 | 0, _, _, _ => none
 | k + 1, x0, x1, x5 => if x5 < (x0.length : Int) then (if 0 ≤ x5 then (if (rd x0 x5) = x1 then (some true) else (spec_l1Has.l0 k x0 x1 (wrap64 (x5 + 1)))) else (none)) else (some false)
def spec_l1Has.f (k : Nat) (l0 : List Int) (a1 : Int) : Option (Bool) := spec_l1Has.l0 k l0 a1 0
theorem spec_l1Has.mono_l : ∀ k, (∀ y0 y1 y2, LeO (spec_l1Has.l0 k y0 y1 y2) (spec_l1Has.l0 (k + 1) y0 y1 y2))
 | 0 => fun _ _ _ r h => by simp [spec_l1Has.l0] at h
 | k + 1 => by
  have ih0 := spec_l1Has.mono_l k
  ·intro y0 y1 y2
   unfold spec_l1Has.l0
   repeat' with_reducible first | exact ih0 .. | exact LeO.refl .. | exact LeO.none .. | refine LeO.ite ?_ ?_ | refine LeO.bind ?_ (fun _ => ?_)
theorem spec_l1Has.mono : ∀ a0 a1 k, LeO (spec_l1Has.f k a0 a1) (spec_l1Has.f (k + 1) a0 a1) := by
 intro a0 a1 k
 have ih0 := spec_l1Has.mono_l k
 unfold spec_l1Has.f
 repeat' with_reducible first | exact ih0 .. | exact LeO.refl .. | exact LeO.none .. | refine LeO.ite ?_ ?_ | refine LeO.bind ?_ (fun _ => ?_)
theorem spec_l1Has.calls (k : Nat) (A0 : Option Addr) (c0 : Nat) (l0 : List Int) (a1 : Int) (r : Bool) (w : World) (hr0 : Kd.C (Kd.int .i64) w A0 l0.length l0) (hc0 : l0.length ≤ c0) (h : spec_l1Has.f k l0 a1 = some r) :
  Calls Tryd.prog 61 #[.slice A0 l0.length c0, .int .i64 a1] w fun e w' => e = .returned (.bool r) ∧ Drawn0 w w' := by
 have HR0 := A0_ hr0
 have HC0 := A0_ hc0
 clear hr0 hc0
 have H : (spec_l1Has.l0 k l0 a1 0) = some r := h
 clear h
 have H' := A0_ H
 clear H
 go_enter Tryd.func61, Tryd.ntmps61
 go_wp2
 go_loopg [5] k (fun kq v1 w' => ∃ (x5_1 : Int), v1 = .int .i64 x5_1 ∧ Aside0 (spec_l1Has.l0 kq l0 a1 x5_1 = some r) ∧ Aside0 (kq ≤ k) ∧ Drawn0 w w')
 case atStart => exact ⟨(0), b2ew_, H', ⟨Nat.le_refl _⟩, boaj_⟩
 clear H'
 obtain ⟨x5_1, rfl, HA, HK1, ⟨m1, rfl⟩⟩ := hrel
 cases gk with | zero => exact absurd HA.out (by simp [spec_l1Has.l0]) | succ k1 => ?_
 have H := HA.out
 clear HA
 simp only [spec_l1Has.l0] at H
 by_cases c1 : x5_1 < (l0.length : Int)
 case neg =>
  rw [if_neg c1] at H
  have c1b0 : decide (x5_1 < (l0.length : Int)) = false := decide_eq_false c1
  clear c1
  obtain rfl := si_ H
  go_wp2
  go_ret
  exact ⟨b04z_, boaj_⟩
 rw [if_pos c1] at H
 have c1b0 : decide (x5_1 < (l0.length : Int)) = true := dt_ c1
 clear c1
 by_cases c2 : 0 ≤ x5_1
 case neg =>
  rw [if_neg c2] at H
  exact absurd H bxka_
 rw [if_pos c2] at H
 have c2b0 : decide (0 ≤ x5_1) = true := dt_ c2
 clear c2
 by_cases c3 : (rd l0 x5_1) = a1
 ·rw [if_pos c3] at H
  obtain ⟨c3b0, c3b1⟩ := et_ c3
  clear c3
  obtain rfl := si_ H
  have p1 : 0 ≤ (x5_1 : Int) := od_ bpil_
  have q1 : x5_1 < (l0.length : Int) := od_ bpil_
  obtain ⟨ad1, e1, hx1_0⟩ := Kd.at_int HR0.out x5_1 p1 q1
  cases e1
  replace p1 := eq_true p1
  replace q1 := eq_true q1
  go_wp2
  go_ret
  exact ⟨b04z_, boaj_⟩
 rw [if_neg c3] at H
 obtain ⟨c3b0, c3b1⟩ := ef_ c3
 have H' := A0_ H
 clear H
 have p1 : 0 ≤ (x5_1 : Int) := od_ bpil_
 have q1 : x5_1 < (l0.length : Int) := od_ bpil_
 obtain ⟨ad1, e1, hx1_0⟩ := Kd.at_int HR0.out x5_1 p1 q1
 cases e1
 replace p1 := eq_true p1
 replace q1 := eq_true q1
 go_wp2
 go_roundg k1
 case measure => have := HK1.out; omega
 exact ⟨(wrap64 (x5_1 + 1)), b2ew_, H', ⟨bxjq_⟩, boaj_⟩

mutual
def spec_l12Good.j0 : Nat → Bool → Int → Bool → List Int → List Int → Int → Option (Bool)
 | 0, _, _, _, _, _, _ => none
 | k + 1, x23, x111000, x111001, x111002, x111003, x111004 => if x23 = true then (some false) else (spec_l12Good.l0 k 0 x111000 x111001 x111002 x111003 x111004)
def spec_l12Good.l0 : Nat → Int → Int → Bool → List Int → List Int → Int → Option (Bool)
 | 0, _, _, _, _, _, _ => none
 | k + 1, x3, x111000, x111001, x111002, x111003, x111004 => if x3 < (x111002.length : Int) then (if 0 ≤ x3 then ((spec_l1Has.f k x111003 (rd x111002 x3)).bind fun t114 => (if t114 = true then (spec_l12Good.l0 k (wrap64 (x3 + 1)) x111000 x111001 x111002 x111003 x111004) else (some false))) else (none)) else (some true)
end
def spec_l12Good.f (k : Nat) (a0_0 : Int) (a0_1 : Bool) (l0_2 : List Int) (l0_3 : List Int) (a0_4 : Int) : Option (Bool) := (spec_l2Row.f k a0_0 a0_1 l0_2).bind fun t111 => (if t111 = true then (if (l0_3.length : Int) = (l0_2.length : Int) then ((spec_l1In.f a0_4 0 1000).bind fun t112 => (spec_l12Good.j0 k (!t112) a0_0 a0_1 l0_2 l0_3 a0_4)) else (spec_l12Good.j0 k true a0_0 a0_1 l0_2 l0_3 a0_4)) else (spec_l12Good.j0 k true a0_0 a0_1 l0_2 l0_3 a0_4))
theorem spec_l12Good.mono_l : ∀ k, (∀ y0 y1 y2 y3 y4 y5, LeO (spec_l12Good.j0 k y0 y1 y2 y3 y4 y5) (spec_l12Good.j0 (k + 1) y0 y1 y2 y3 y4 y5)) ∧ (∀ y0 y1 y2 y3 y4 y5, LeO (spec_l12Good.l0 k y0 y1 y2 y3 y4 y5) (spec_l12Good.l0 (k + 1) y0 y1 y2 y3 y4 y5))
 | 0 => ⟨fun _ _ _ _ _ _ r h => by simp [spec_l12Good.j0] at h, fun _ _ _ _ _ _ r h => by simp [spec_l12Good.l0] at h⟩
 | k + 1 => by
  obtain ⟨ih0, ih1⟩ := spec_l12Good.mono_l k
  refine ⟨?_, ?_⟩
  ·intro y0 y1 y2 y3 y4 y5
   unfold spec_l12Good.j0
   repeat' with_reducible first | exact ih0 .. | exact ih1 .. | exact spec_l1Has.mono .. | exact spec_l2Row.mono .. | exact LeO.refl .. | exact LeO.none .. | refine LeO.ite ?_ ?_ | refine LeO.bind ?_ (fun _ => ?_)
  ·intro y0 y1 y2 y3 y4 y5
   unfold spec_l12Good.l0
   repeat' with_reducible first | exact ih0 .. | exact ih1 .. | exact spec_l1Has.mono .. | exact spec_l2Row.mono .. | exact LeO.refl .. | exact LeO.none .. | refine LeO.ite ?_ ?_ | refine LeO.bind ?_ (fun _ => ?_)
theorem spec_l12Good.mono : ∀ a0 a1 a2 a3 a4 k, LeO (spec_l12Good.f k a0 a1 a2 a3 a4) (spec_l12Good.f (k + 1) a0 a1 a2 a3 a4) := by
 intro a0 a1 a2 a3 a4 k
 obtain ⟨ih0, ih1⟩ := spec_l12Good.mono_l k
 unfold spec_l12Good.f
 repeat' with_reducible first | exact ih0 .. | exact ih1 .. | exact spec_l1Has.mono .. | exact spec_l2Row.mono .. | exact LeO.refl .. | exact LeO.none .. | refine LeO.ite ?_ ?_ | refine LeO.bind ?_ (fun _ => ?_)
theorem spec_l12Good.calls (k : Nat) (a0_0 : Int) (a0_1 : Bool) (A0_2 : Option Addr) (c0_2 : Nat) (l0_2 : List Int) (A0_3 : Option Addr) (c0_3 : Nat) (l0_3 : List Int) (a0_4 : Int) (r : Bool) (w : World) (hr0_2 : Kd.C (Kd.int .i64) w A0_2 l0_2.length l0_2) (hc0_2 : l0_2.length ≤ c0_2) (hr0_3 : Kd.C (Kd.int .i64) w A0_3 l0_3.length l0_3) (hc0_3 : l0_3.length ≤ c0_3) (h : spec_l12Good.f k a0_0 a0_1 l0_2 l0_3 a0_4 = some r) :
  Calls Tryd.prog 32 #[.agg #[.int .i64 a0_0, .bool a0_1, .slice A0_2 l0_2.length c0_2, .slice A0_3 l0_3.length c0_3, .int .i64 a0_4]] w fun e w' => e = .returned (.bool r) ∧ Below w.heap.size w w' := by
 have hu26 := Tryd.underlying26
 have hu24 := Tryd.underlying24
 have HR0_2 := A0_ hr0_2
 have HC0_2 := A0_ hc0_2
 clear hr0_2 hc0_2
 have HR0_3 := A0_ hr0_3
 have HC0_3 := A0_ hc0_3
 clear hr0_3 hc0_3
 have HB := A0_ (Below.refl w.heap.size w)
 have H : ((spec_l2Row.f k a0_0 a0_1 l0_2).bind fun t1 => (if t1 = true then (if (l0_3.length : Int) = (l0_2.length : Int) then ((spec_l1In.f a0_4 0 1000).bind fun t2 => (spec_l12Good.j0 k (!t2) a0_0 a0_1 l0_2 l0_3 a0_4)) else (spec_l12Good.j0 k true a0_0 a0_1 l0_2 l0_3 a0_4)) else (spec_l12Good.j0 k true a0_0 a0_1 l0_2 l0_3 a0_4))) = some r := h
 clear h
 have HC2 := A0_ H
 clear H
 go_enter Tryd.func32, Tryd.ntmps32
 go_upto_region 1 with (first | ((with_reducible refine gd_ (N := 1) rfl ?_); (try (refine gate_guard (by rfl) ?_; dsimp only)); refine bx_ 1 #[.int .i64 a0_0, .bool a0_1, .slice A0_2 l0_2.length c0_2, .slice A0_3 l0_3.length c0_3, .int .i64 a0_4] 26 ?_; intro gb1 hg w1 BK1 hb; have GW1 := ge_ hg brt4_; have GE1 := GW1; replace HB := hb_ hb brt4_; clear hb hg))
 repeat (go_quiet (first | ((with_reducible refine gd_ (N := 1) rfl ?_); (try (refine gate_guard (by rfl) ?_; dsimp only)); refine bx_ 1 #[.int .i64 a0_0, .bool a0_1, .slice A0_2 l0_2.length c0_2, .slice A0_3 l0_3.length c0_3, .int .i64 a0_4] 26 ?_; intro gb1 hg w1 BK1 hb; have GW1 := ge_ hg brt4_; have GE1 := GW1; replace HB := hb_ hb brt4_; clear hb hg)); go_upto_region 1 with (first | ((with_reducible refine gd_ (N := 1) rfl ?_); (try (refine gate_guard (by rfl) ?_; dsimp only)); refine bx_ 1 #[.int .i64 a0_0, .bool a0_1, .slice A0_2 l0_2.length c0_2, .slice A0_3 l0_3.length c0_3, .int .i64 a0_4] 26 ?_; intro gb1 hg w1 BK1 hb; have GW1 := ge_ hg brt4_; have GE1 := GW1; replace HB := hb_ hb brt4_; clear hb hg)))
 (try simp only [Act.put, sa_, sz_, ss_])
 go_cut [23] (fun v1 wc => ∃ (kq : Nat) (x23_1 : Bool), v1 = .bool x23_1 ∧ Aside0 (spec_l12Good.j0 kq x23_1 a0_0 a0_1 l0_2 l0_3 a0_4 = some r) ∧ Aside0 (kq ≤ k) ∧ Aside0 (wc.heap[gb1]? = some (.cells #[.int .i64 a0_0, .bool a0_1, (.slice A0_2 l0_2.length c0_2), (.slice A0_3 l0_3.length c0_3), .int .i64 a0_4] 26 (0, 0))) ∧ Aside0 (Below w.heap.size w wc))
 case first =>
  have H := HC2.out
  clear HC2
  obtain ⟨t1, A2, H⟩ := o1_ H
  by_cases c1 : t1 = true
  case neg =>
   obtain rfl := bf_.mpr c1
   rw [if_neg ft_] at H
   have H' := A0_ H
   clear H
   have hcz1 := c5_ BK1
   go_wp2_with (first | (go_at_call 59; (with_reducible refine (spec_l2Row.calls k a0_0 a0_1 _ _ l0_2 false _ ?side1 ?side2 A2.out).mono ?_); (case side1 => exact b6n8_); (case side2 => exact HC0_2.out); rintro e w2 ⟨rfl, hb⟩; replace BK1 := k1_ BK1 hb; replace HB := hb_ hb be6g_; (try clear hb)))
   repeat (go_quiet (first | (go_at_call 59; (with_reducible refine (spec_l2Row.calls k a0_0 a0_1 _ _ l0_2 false _ ?side1 ?side2 A2.out).mono ?_); (case side1 => exact b6n8_); (case side2 => exact HC0_2.out); rintro e w2 ⟨rfl, hb⟩; replace BK1 := k1_ BK1 hb; replace HB := hb_ hb be6g_; (try clear hb))); try go_wp2_with (first | (go_at_call 59; (with_reducible refine (spec_l2Row.calls k a0_0 a0_1 _ _ l0_2 false _ ?side1 ?side2 A2.out).mono ?_); (case side1 => exact b6n8_); (case side2 => exact HC0_2.out); rintro e w2 ⟨rfl, hb⟩; replace BK1 := k1_ BK1 hb; replace HB := hb_ hb be6g_; (try clear hb))))
   go_meet
   exact ⟨_, (true), b2ew_, H', ⟨bbn0_⟩, ⟨u1_ BK1⟩, ⟨be6g_⟩⟩
  subst c1
  rw [if_pos rfl] at H
  by_cases c2 : (l0_3.length : Int) = (l0_2.length : Int)
  case neg =>
   rw [if_neg c2] at H
   obtain ⟨c2b0, c2b1⟩ := ef_ c2
   have c2b2 : (l0_3.length == l0_2.length) = false := bds5_
   (first | rw [c2b0] | (simp only [i64_w, i32_w]; rw [c2b0]) | skip)
   have H' := A0_ H
   clear H
   have hcz1 := c5_ BK1
   go_wp2_with (first | (go_at_call 59; (with_reducible refine (spec_l2Row.calls k a0_0 a0_1 _ _ l0_2 true _ ?side1 ?side2 A2.out).mono ?_); (case side1 => exact b6n8_); (case side2 => exact HC0_2.out); rintro e w2 ⟨rfl, hb⟩; replace BK1 := k1_ BK1 hb; replace HB := hb_ hb be6g_; (try clear hb); have hcz2 := c5_ BK1))
   repeat (go_quiet (first | (go_at_call 59; (with_reducible refine (spec_l2Row.calls k a0_0 a0_1 _ _ l0_2 true _ ?side1 ?side2 A2.out).mono ?_); (case side1 => exact b6n8_); (case side2 => exact HC0_2.out); rintro e w2 ⟨rfl, hb⟩; replace BK1 := k1_ BK1 hb; replace HB := hb_ hb be6g_; (try clear hb); have hcz2 := c5_ BK1)); try go_wp2_with (first | (go_at_call 59; (with_reducible refine (spec_l2Row.calls k a0_0 a0_1 _ _ l0_2 true _ ?side1 ?side2 A2.out).mono ?_); (case side1 => exact b6n8_); (case side2 => exact HC0_2.out); rintro e w2 ⟨rfl, hb⟩; replace BK1 := k1_ BK1 hb; replace HB := hb_ hb be6g_; (try clear hb); have hcz2 := c5_ BK1)))
   go_meet
   exact ⟨_, (true), b2ew_, H', ⟨bbn0_⟩, ⟨u1_ BK1⟩, ⟨be6g_⟩⟩
  rw [if_pos c2] at H
  obtain ⟨c2b0, c2b1⟩ := et_ c2
  have c2b2 : (l0_3.length == l0_2.length) = true := bds5_
  clear c2
  (first | rw [c2b0] | (simp only [i64_w, i32_w]; rw [c2b0]) | skip)
  obtain ⟨t2, A4, H⟩ := o1_ H
  have H' := A0_ H
  clear H
  have hcz1 := c5_ BK1
  go_wp2_with (first | (go_at_call 59; (with_reducible refine (spec_l2Row.calls k a0_0 a0_1 _ _ l0_2 true _ ?side1 ?side2 A2.out).mono ?_); (case side1 => exact b6n8_); (case side2 => exact HC0_2.out); rintro e w2 ⟨rfl, hb⟩; replace BK1 := k1_ BK1 hb; replace HB := hb_ hb be6g_; (try clear hb); have hcz2 := c5_ BK1) | (go_at_call 60; (with_reducible refine (spec_l1In.calls a0_4 0 1000 t2 _ A4.out).mono ?_); rintro e w' ⟨rfl, ⟨nd, rfl⟩⟩; (try first | exact ⟨rfl, _, World.drewN_drewN _ _ _⟩ | exact ⟨rfl, _, Eq.trans (World.drewN_drewN _ _ _) (congrArg (World.drewN _) (Nat.add_assoc _ _ _))⟩)))
  repeat (go_quiet (first | (go_at_call 59; (with_reducible refine (spec_l2Row.calls k a0_0 a0_1 _ _ l0_2 true _ ?side1 ?side2 A2.out).mono ?_); (case side1 => exact b6n8_); (case side2 => exact HC0_2.out); rintro e w2 ⟨rfl, hb⟩; replace BK1 := k1_ BK1 hb; replace HB := hb_ hb be6g_; (try clear hb); have hcz2 := c5_ BK1) | (go_at_call 60; (with_reducible refine (spec_l1In.calls a0_4 0 1000 t2 _ A4.out).mono ?_); rintro e w' ⟨rfl, ⟨nd, rfl⟩⟩; (try first | exact ⟨rfl, _, World.drewN_drewN _ _ _⟩ | exact ⟨rfl, _, Eq.trans (World.drewN_drewN _ _ _) (congrArg (World.drewN _) (Nat.add_assoc _ _ _))⟩))); try go_wp2_with (first | (go_at_call 59; (with_reducible refine (spec_l2Row.calls k a0_0 a0_1 _ _ l0_2 true _ ?side1 ?side2 A2.out).mono ?_); (case side1 => exact b6n8_); (case side2 => exact HC0_2.out); rintro e w2 ⟨rfl, hb⟩; replace BK1 := k1_ BK1 hb; replace HB := hb_ hb be6g_; (try clear hb); have hcz2 := c5_ BK1) | (go_at_call 60; (with_reducible refine (spec_l1In.calls a0_4 0 1000 t2 _ A4.out).mono ?_); rintro e w' ⟨rfl, ⟨nd, rfl⟩⟩; (try first | exact ⟨rfl, _, World.drewN_drewN _ _ _⟩ | exact ⟨rfl, _, Eq.trans (World.drewN_drewN _ _ _) (congrArg (World.drewN _) (Nat.add_assoc _ _ _))⟩))))
  go_meet
  exact ⟨_, (!t2), b2ew_, H', ⟨bbn0_⟩, ⟨u1_ BK1⟩, ⟨be6g_⟩⟩
 clear HC2
 obtain ⟨kq, x23_1, rfl, HA, HJ1, BK1, HB⟩ := hcut
 cases kq with | zero => exact absurd HA.out (by simp [spec_l12Good.j0]) | succ kj1 => ?_
 have H := HA.out
 clear HA
 simp only [spec_l12Good.j0] at H
 by_cases c1 : x23_1 = true
 ·subst c1
  rw [if_pos rfl] at H
  obtain rfl := si_ H
  go_wp2
  repeat (go_quiet (fail); try go_wp2)
  go_ret
  exact ⟨bnwh_, be6g_⟩
 obtain rfl := bf_.mpr c1
 rw [if_neg ft_] at H
 have H' := A0_ H
 clear H
 go_wp2
 repeat (go_quiet (fail); try go_wp2)
 go_loopg [3] kj1 (fun kq v2 w' => ∃ (x3_2 : Int), v2 = .int .i64 x3_2 ∧ Aside0 (spec_l12Good.l0 kq x3_2 a0_0 a0_1 l0_2 l0_3 a0_4 = some r) ∧ Aside0 (kq ≤ kj1) ∧ Aside0 (w'.heap[gb1]? = some (.cells #[.int .i64 a0_0, .bool a0_1, (.slice A0_2 l0_2.length c0_2), (.slice A0_3 l0_3.length c0_3), .int .i64 a0_4] 26 (0, 0))) ∧ Aside0 (Below w.heap.size w w'))
 case atStart => exact ⟨(0), b2ew_, H', ⟨Nat.le_refl _⟩, ⟨u1_ BK1⟩, ⟨be6g_⟩⟩
 clear H'
 try clear c1
 obtain ⟨x3_2, rfl, HA, HK1, BK1, HB⟩ := hrel
 cases gk with | zero => exact absurd HA.out (by simp [spec_l12Good.l0]) | succ k2 => ?_
 have H := HA.out
 clear HA
 simp only [spec_l12Good.l0] at H
 by_cases c2 : x3_2 < (l0_2.length : Int)
 case neg =>
  rw [if_neg c2] at H
  have c2b0 : decide (x3_2 < (l0_2.length : Int)) = false := decide_eq_false c2
  clear c2
  obtain rfl := si_ H
  have hcz1 := c5_ BK1
  go_wp2
  repeat (go_quiet (fail); try go_wp2)
  go_ret
  exact ⟨bnwh_, be6g_⟩
 rw [if_pos c2] at H
 have c2b0 : decide (x3_2 < (l0_2.length : Int)) = true := dt_ c2
 clear c2
 by_cases c3 : 0 ≤ x3_2
 case neg =>
  rw [if_neg c3] at H
  exact absurd H bxka_
 rw [if_pos c3] at H
 have c3b0 : decide (0 ≤ x3_2) = true := dt_ c3
 clear c3
 obtain ⟨t3, A2, H⟩ := o1_ H
 by_cases c4 : t3 = true
 case neg =>
  obtain rfl := bf_.mpr c4
  rw [if_neg ft_] at H
  obtain rfl := si_ H
  have hcz1 := c5_ BK1
  have p1 : 0 ≤ (x3_2 : Int) := od_ bpil_
  have q1 : x3_2 < (l0_2.length : Int) := od_ bpil_
  obtain ⟨ad1, e1, hx1_0⟩ := Kd.at_int HR0_2.out x3_2 p1 q1
  cases e1
  replace hx1_0 := (HB.out.cell (World.block_lt_of_cell? w _ hx1_0)).trans hx1_0
  replace p1 := eq_true p1
  replace q1 := eq_true q1
  go_wp2_with (first | (go_at_call 61; (with_reducible refine (spec_l1Has.calls k2 _ _ l0_3 (rd l0_2 x3_2) false _ ?side1 ?side2 A2.out).mono ?_); (case side1 => exact bkan_); (case side2 => exact HC0_3.out); rintro e w' ⟨rfl, ⟨nd, rfl⟩⟩; (try first | exact ⟨rfl, _, World.drewN_drewN _ _ _⟩ | exact ⟨rfl, _, Eq.trans (World.drewN_drewN _ _ _) (congrArg (World.drewN _) (Nat.add_assoc _ _ _))⟩)))
  repeat (go_quiet (first | (go_at_call 61; (with_reducible refine (spec_l1Has.calls k2 _ _ l0_3 (rd l0_2 x3_2) false _ ?side1 ?side2 A2.out).mono ?_); (case side1 => exact bkan_); (case side2 => exact HC0_3.out); rintro e w' ⟨rfl, ⟨nd, rfl⟩⟩; (try first | exact ⟨rfl, _, World.drewN_drewN _ _ _⟩ | exact ⟨rfl, _, Eq.trans (World.drewN_drewN _ _ _) (congrArg (World.drewN _) (Nat.add_assoc _ _ _))⟩))); try go_wp2_with (first | (go_at_call 61; (with_reducible refine (spec_l1Has.calls k2 _ _ l0_3 (rd l0_2 x3_2) false _ ?side1 ?side2 A2.out).mono ?_); (case side1 => exact bkan_); (case side2 => exact HC0_3.out); rintro e w' ⟨rfl, ⟨nd, rfl⟩⟩; (try first | exact ⟨rfl, _, World.drewN_drewN _ _ _⟩ | exact ⟨rfl, _, Eq.trans (World.drewN_drewN _ _ _) (congrArg (World.drewN _) (Nat.add_assoc _ _ _))⟩))))
  go_ret
  exact ⟨bnwh_, be6g_⟩
 subst c4
 rw [if_pos rfl] at H
 have H' := A0_ H
 clear H
 have hcz1 := c5_ BK1
 have p1 : 0 ≤ (x3_2 : Int) := od_ bpil_
 have q1 : x3_2 < (l0_2.length : Int) := od_ bpil_
 obtain ⟨ad1, e1, hx1_0⟩ := Kd.at_int HR0_2.out x3_2 p1 q1
 cases e1
 replace hx1_0 := (HB.out.cell (World.block_lt_of_cell? w _ hx1_0)).trans hx1_0
 replace p1 := eq_true p1
 replace q1 := eq_true q1
 go_wp2_with (first | (go_at_call 61; (with_reducible refine (spec_l1Has.calls k2 _ _ l0_3 (rd l0_2 x3_2) true _ ?side1 ?side2 A2.out).mono ?_); (case side1 => exact bkan_); (case side2 => exact HC0_3.out); rintro e w' ⟨rfl, ⟨nd, rfl⟩⟩; (try first | exact ⟨rfl, _, World.drewN_drewN _ _ _⟩ | exact ⟨rfl, _, Eq.trans (World.drewN_drewN _ _ _) (congrArg (World.drewN _) (Nat.add_assoc _ _ _))⟩)))
 repeat (go_quiet (first | (go_at_call 61; (with_reducible refine (spec_l1Has.calls k2 _ _ l0_3 (rd l0_2 x3_2) true _ ?side1 ?side2 A2.out).mono ?_); (case side1 => exact bkan_); (case side2 => exact HC0_3.out); rintro e w' ⟨rfl, ⟨nd, rfl⟩⟩; (try first | exact ⟨rfl, _, World.drewN_drewN _ _ _⟩ | exact ⟨rfl, _, Eq.trans (World.drewN_drewN _ _ _) (congrArg (World.drewN _) (Nat.add_assoc _ _ _))⟩))); try go_wp2_with (first | (go_at_call 61; (with_reducible refine (spec_l1Has.calls k2 _ _ l0_3 (rd l0_2 x3_2) true _ ?side1 ?side2 A2.out).mono ?_); (case side1 => exact bkan_); (case side2 => exact HC0_3.out); rintro e w' ⟨rfl, ⟨nd, rfl⟩⟩; (try first | exact ⟨rfl, _, World.drewN_drewN _ _ _⟩ | exact ⟨rfl, _, Eq.trans (World.drewN_drewN _ _ _) (congrArg (World.drewN _) (Nat.add_assoc _ _ _))⟩))))
 go_roundg k2
 case measure => have := HJ1.out; have := HK1.out; omega
 exact ⟨(wrap64 (x3_2 + 1)), b2ew_, H', ⟨by have := HJ1.out; have := HK1.out; omega⟩, ⟨u1_ BK1⟩, ⟨be6g_⟩⟩

def spec_l12Place.l0 : Nat → List Int → Int → Int → Option (Int)
 | 0, _, _, _ => none
 | k + 1, x0, x1, x5 => if 0 ≤ x5 then (if x5 < (x0.length : Int) then (if (rd x0 x5) = x1 then (some x5) else (spec_l12Place.l0 k x0 x1 (wrap64 (x5 + 1)))) else (none)) else (none)
def spec_l12Place.f (k : Nat) (l0 : List Int) (a1 : Int) : Option (Int) := spec_l12Place.l0 k l0 a1 0
theorem spec_l12Place.mono_l : ∀ k, (∀ y0 y1 y2, LeO (spec_l12Place.l0 k y0 y1 y2) (spec_l12Place.l0 (k + 1) y0 y1 y2))
 | 0 => fun _ _ _ r h => by simp [spec_l12Place.l0] at h
 | k + 1 => by
  have ih0 := spec_l12Place.mono_l k
  ·intro y0 y1 y2
   unfold spec_l12Place.l0
   repeat' with_reducible first | exact ih0 .. | exact LeO.refl .. | exact LeO.none .. | refine LeO.ite ?_ ?_ | refine LeO.bind ?_ (fun _ => ?_)
theorem spec_l12Place.mono : ∀ a0 a1 k, LeO (spec_l12Place.f k a0 a1) (spec_l12Place.f (k + 1) a0 a1) := by
 intro a0 a1 k
 have ih0 := spec_l12Place.mono_l k
 unfold spec_l12Place.f
 repeat' with_reducible first | exact ih0 .. | exact LeO.refl .. | exact LeO.none .. | refine LeO.ite ?_ ?_ | refine LeO.bind ?_ (fun _ => ?_)
theorem spec_l12Place.calls (k : Nat) (A0 : Option Addr) (c0 : Nat) (l0 : List Int) (a1 : Int) (r : Int) (w : World) (hr0 : Kd.C (Kd.int .i64) w A0 l0.length l0) (hc0 : l0.length ≤ c0) (h : spec_l12Place.f k l0 a1 = some r) :
  Calls Tryd.prog 52 #[.slice A0 l0.length c0, .int .i64 a1] w fun e w' => e = .returned (.int .i64 r) ∧ Drawn0 w w' := by
 have HR0 := A0_ hr0
 have HC0 := A0_ hc0
 clear hr0 hc0
 have H : (spec_l12Place.l0 k l0 a1 0) = some r := h
 clear h
 have H' := A0_ H
 clear H
 go_enter Tryd.func52, Tryd.ntmps52
 go_wp2
 go_loopg [5] k (fun kq v1 w' => ∃ (x5_1 : Int), v1 = .int .i64 x5_1 ∧ Aside0 (spec_l12Place.l0 kq l0 a1 x5_1 = some r) ∧ Aside0 (kq ≤ k) ∧ Drawn0 w w')
 case atStart => exact ⟨(0), b2ew_, H', ⟨Nat.le_refl _⟩, boaj_⟩
 clear H'
 obtain ⟨x5_1, rfl, HA, HK1, ⟨m1, rfl⟩⟩ := hrel
 cases gk with | zero => exact absurd HA.out (by simp [spec_l12Place.l0]) | succ k1 => ?_
 have H := HA.out
 clear HA
 simp only [spec_l12Place.l0] at H
 by_cases c1 : 0 ≤ x5_1
 case neg =>
  rw [if_neg c1] at H
  exact absurd H bxka_
 rw [if_pos c1] at H
 have c1b0 : decide (0 ≤ x5_1) = true := dt_ c1
 clear c1
 by_cases c2 : x5_1 < (l0.length : Int)
 case neg =>
  rw [if_neg c2] at H
  exact absurd H bxka_
 rw [if_pos c2] at H
 have c2b0 : decide (x5_1 < (l0.length : Int)) = true := dt_ c2
 clear c2
 by_cases c3 : (rd l0 x5_1) = a1
 ·rw [if_pos c3] at H
  obtain ⟨c3b0, c3b1⟩ := et_ c3
  clear c3
  obtain rfl := si_ H
  have p1 : 0 ≤ (x5_1 : Int) := od_ bpil_
  have q1 : x5_1 < (l0.length : Int) := od_ bpil_
  obtain ⟨ad1, e1, hx1_0⟩ := Kd.at_int HR0.out x5_1 p1 q1
  cases e1
  replace p1 := eq_true p1
  replace q1 := eq_true q1
  go_wp2
  go_ret
  exact ⟨b04z_, boaj_⟩
 rw [if_neg c3] at H
 obtain ⟨c3b0, c3b1⟩ := ef_ c3
 have H' := A0_ H
 clear H
 have p1 : 0 ≤ (x5_1 : Int) := od_ bpil_
 have q1 : x5_1 < (l0.length : Int) := od_ bpil_
 obtain ⟨ad1, e1, hx1_0⟩ := Kd.at_int HR0.out x5_1 p1 q1
 cases e1
 replace p1 := eq_true p1
 replace q1 := eq_true q1
 go_wp2
 go_roundg k1
 case measure => have := HK1.out; omega
 exact ⟨(wrap64 (x5_1 + 1)), b2ew_, H', ⟨bxjq_⟩, boaj_⟩

def spec_l1Most.f (a0 : Int) (a1 : Int) : Option (Int) := if a0 > a1 then (some a0) else (some a1)
theorem spec_l1Most.calls (a0 : Int) (a1 : Int) (r : Int) (w : World) (h : spec_l1Most.f a0 a1 = some r) :
  Calls Tryd.prog 96 #[.int .i64 a0, .int .i64 a1] w fun e w' => e = .returned (.int .i64 r) ∧ Drawn0 w w' := by
 have H : (if a0 > a1 then (some a0) else (some a1)) = some r := h
 clear h
 by_cases c1 : a0 > a1
 ·rw [if_pos c1] at H
  have c1b0 : decide (a1 < a0) = true := dt_ c1
  clear c1
  obtain rfl := si_ H
  go_enter Tryd.func96, Tryd.ntmps96
  go_wp2
  go_ret
  exact ⟨b04z_, boaj_⟩
 rw [if_neg c1] at H
 have c1b0 : decide (a1 < a0) = false := decide_eq_false c1
 clear c1
 obtain rfl := si_ H
 go_enter Tryd.func96, Tryd.ntmps96
 go_wp2
 go_ret
 exact ⟨b04z_, boaj_⟩

def spec_l1Least.f (a0 : Int) (a1 : Int) : Option (Int) := if a0 < a1 then (some a0) else (some a1)
theorem spec_l1Least.calls (a0 : Int) (a1 : Int) (r : Int) (w : World) (h : spec_l1Least.f a0 a1 = some r) :
  Calls Tryd.prog 97 #[.int .i64 a0, .int .i64 a1] w fun e w' => e = .returned (.int .i64 r) ∧ Drawn0 w w' := by
 have H : (if a0 < a1 then (some a0) else (some a1)) = some r := h
 clear h
 by_cases c1 : a0 < a1
 ·rw [if_pos c1] at H
  have c1b0 : decide (a0 < a1) = true := dt_ c1
  clear c1
  obtain rfl := si_ H
  go_enter Tryd.func97, Tryd.ntmps97
  go_wp2
  go_ret
  exact ⟨b04z_, boaj_⟩
 rw [if_neg c1] at H
 have c1b0 : decide (a0 < a1) = false := decide_eq_false c1
 clear c1
 obtain rfl := si_ H
 go_enter Tryd.func97, Tryd.ntmps97
 go_wp2
 go_ret
 exact ⟨b04z_, boaj_⟩

def spec_l2Gap.f (a0_0 : Int) (a0_1 : Bool) (l0_2 : List Int) (a1 : Int) (a2 : Int) : Option (Int) := (spec_l1Most.f (wrap64 (a1 - a2)) (wrap64 (a2 - a1))).bind fun t117 => (if a0_1 = true then ((spec_l1Least.f t117 (wrap64 (a0_0 - t117))).bind fun t118 => (some t118)) else (some t117))
theorem spec_l2Gap.calls (a0_0 : Int) (a0_1 : Bool) (A0_2 : Option Addr) (c0_2 : Nat) (l0_2 : List Int) (a1 : Int) (a2 : Int) (r : Int) (w : World) (hr0_2 : Kd.C (Kd.int .i64) w A0_2 l0_2.length l0_2) (hc0_2 : l0_2.length ≤ c0_2) (h : spec_l2Gap.f a0_0 a0_1 l0_2 a1 a2 = some r) :
  Calls Tryd.prog 80 #[.agg #[.int .i64 a0_0, .bool a0_1, .slice A0_2 l0_2.length c0_2], .int .i64 a1, .int .i64 a2] w fun e w' => e = .returned (.int .i64 r) ∧ Below w.heap.size w w' := by
 have hu24 := Tryd.underlying24
 have HR0_2 := A0_ hr0_2
 have HC0_2 := A0_ hc0_2
 clear hr0_2 hc0_2
 have HB := A0_ (Below.refl w.heap.size w)
 have H : ((spec_l1Most.f (wrap64 (a1 - a2)) (wrap64 (a2 - a1))).bind fun t1 => (if a0_1 = true then ((spec_l1Least.f t1 (wrap64 (a0_0 - t1))).bind fun t2 => (some t2)) else (some t1))) = some r := h
 clear h
 obtain ⟨t1, A2, H⟩ := o1_ H
 by_cases c1 : a0_1 = true
 case neg =>
  obtain rfl := bf_.mpr c1
  rw [if_neg ft_] at H
  obtain rfl := si_ H
  go_enter Tryd.func80, Tryd.ntmps80
  go_wp2_with (first | ((with_reducible refine gd_ (N := 3) rfl ?_); refine bx_ 3 #[.int .i64 a0_0, .bool false, .slice A0_2 l0_2.length c0_2] 24 ?_; intro gb1 hg w1 BK1 hb; have GW1 := ge_ hg brt4_; have GE1 := GW1; replace HB := hb_ hb brt4_; clear hb hg) | ((with_reducible refine gc_ (f := 96) rfl ?_); refine gl_ 14 Tryd.func96 #[.int .i64 (wrap64 (a1 - a2)), .int .i64 (wrap64 (a2 - a1))] ?_; (with_reducible refine (spec_l1Most.calls (wrap64 (a1 - a2)) (wrap64 (a2 - a1)) t1 _ A2.out).mono ?_); rintro e w' ⟨rfl, ⟨nd, rfl⟩⟩; refine ⟨_, rfl, ?_⟩; have hcz1 := c3_ BK1))
  go_ret
  exact ⟨bnwh_, be6g_⟩
 subst c1
 rw [if_pos rfl] at H
 obtain ⟨t2, A4, H⟩ := o1_ H
 replace H : (some t2) = some r := H
 obtain rfl := si_ H
 go_enter Tryd.func80, Tryd.ntmps80
 go_wp2_with (first | ((with_reducible refine gd_ (N := 3) rfl ?_); refine bx_ 3 #[.int .i64 a0_0, .bool true, .slice A0_2 l0_2.length c0_2] 24 ?_; intro gb1 hg w1 BK1 hb; have GW1 := ge_ hg brt4_; have GE1 := GW1; replace HB := hb_ hb brt4_; clear hb hg) | ((with_reducible refine gc_ (f := 96) rfl ?_); refine gl_ 14 Tryd.func96 #[.int .i64 (wrap64 (a1 - a2)), .int .i64 (wrap64 (a2 - a1))] ?_; (with_reducible refine (spec_l1Most.calls (wrap64 (a1 - a2)) (wrap64 (a2 - a1)) t1 _ A2.out).mono ?_); rintro e w' ⟨rfl, ⟨nd, rfl⟩⟩; refine ⟨_, rfl, ?_⟩; have hcz1 := c3_ BK1) | ((with_reducible refine gc_ (f := 97) rfl ?_); refine gl_ 22 Tryd.func97 #[.int .i64 t1, .int .i64 (wrap64 (a0_0 - t1))] ?_; (with_reducible refine (spec_l1Least.calls t1 (wrap64 (a0_0 - t1)) t2 _ A4.out).mono ?_); rintro e w' ⟨rfl, ⟨nd, rfl⟩⟩; refine ⟨_, rfl, ?_⟩))
 go_ret
 exact ⟨bnwh_, be6g_⟩

def spec_l2Near.l0 : Nat → Int → List Int → Int → Int → Bool → List Int → Option (List Int)
 | 0, _, _, _, _, _, _ => none
 | k + 1, x1, x5, x6, x120000, x120001, x120002 => if x6 < x120000 then ((spec_l2Gap.f x120000 x120001 x120002 x1 x6).bind fun t123 => (if t123 = 1 then (if x5.length < 17592186044416 then (spec_l2Near.l0 k x1 (x5 ++ [x6]) (wrap64 (x6 + 1)) x120000 x120001 x120002) else (none)) else (spec_l2Near.l0 k x1 x5 (wrap64 (x6 + 1)) x120000 x120001 x120002))) else (some x5)
def spec_l2Near.f (k : Nat) (a0_0 : Int) (a0_1 : Bool) (l0_2 : List Int) (a1 : Int) : Option (List Int) := spec_l2Near.l0 k a1 (([] : List Int)) 0 a0_0 a0_1 l0_2
theorem spec_l2Near.mono_l : ∀ k, (∀ y0 y1 y2 y3 y4 y5, LeO (spec_l2Near.l0 k y0 y1 y2 y3 y4 y5) (spec_l2Near.l0 (k + 1) y0 y1 y2 y3 y4 y5))
 | 0 => fun _ _ _ _ _ _ r h => by simp [spec_l2Near.l0] at h
 | k + 1 => by
  have ih0 := spec_l2Near.mono_l k
  ·intro y0 y1 y2 y3 y4 y5
   unfold spec_l2Near.l0
   repeat' with_reducible first | exact ih0 .. | exact LeO.refl .. | exact LeO.none .. | refine LeO.ite ?_ ?_ | refine LeO.bind ?_ (fun _ => ?_)
theorem spec_l2Near.mono : ∀ a0 a1 a2 a3 k, LeO (spec_l2Near.f k a0 a1 a2 a3) (spec_l2Near.f (k + 1) a0 a1 a2 a3) := by
 intro a0 a1 a2 a3 k
 have ih0 := spec_l2Near.mono_l k
 unfold spec_l2Near.f
 repeat' with_reducible first | exact ih0 .. | exact LeO.refl .. | exact LeO.none .. | refine LeO.ite ?_ ?_ | refine LeO.bind ?_ (fun _ => ?_)
theorem spec_l2Near.calls (k : Nat) (a0_0 : Int) (a0_1 : Bool) (A0_2 : Option Addr) (c0_2 : Nat) (l0_2 : List Int) (a1 : Int) (r : List Int) (w : World) (hr0_2 : Kd.C (Kd.int .i64) w A0_2 l0_2.length l0_2) (hc0_2 : l0_2.length ≤ c0_2) (h : spec_l2Near.f k a0_0 a0_1 l0_2 a1 = some r) :
  Calls Tryd.prog 63 #[.agg #[.int .i64 a0_0, .bool a0_1, .slice A0_2 l0_2.length c0_2], .int .i64 a1] w fun e w' => ∃ v0_ : Value, e = .returned (v0_) ∧ Kd.R (Kd.int .i64) 3 w' w.heap.size (fun _ => True) v0_ r ∧ Below w.heap.size w w' := by
 have hu24 := Tryd.underlying24
 have HR0_2 := A0_ hr0_2
 have HC0_2 := A0_ hc0_2
 clear hr0_2 hc0_2
 have HB := A0_ (Below.refl w.heap.size w)
 have H : (spec_l2Near.l0 k a1 (([] : List Int)) 0 a0_0 a0_1 l0_2) = some r := h
 clear h
 obtain ⟨y1, hy1⟩ : ∃ y_ : List Int, y_ = (([] : List Int)) := ⟨_, rfl⟩
 replace H : (spec_l2Near.l0 k a1 y1 0 a0_0 a0_1 l0_2) = some r := bgiq_
 have Ny1 := A0_ hy1
 clear hy1
 have H' := A0_ H
 clear H
 go_enter Tryd.func63, Tryd.ntmps63
 go_wp2_with (first | ((with_reducible refine gd_ (N := 2) rfl ?_); refine bx_ 2 #[.int .i64 a0_0, .bool a0_1, .slice A0_2 l0_2.length c0_2] 24 ?_; intro gb1 hg w1 BK1 hb; have GW1 := ge_ hg brt4_; have GE1 := GW1; replace HB := hb_ hb brt4_; clear hb hg) | ((with_reducible refine gd_ (N := 7) rfl ?_); refine Kd.R_lit (Kd.int .i64) _ 3 ?hg (N := 7) ?hd (xs := ([] : List Int)) (inner := []) (ok := fun _ => True) (okp := fun _ => True) ?hr ?hp (fun _ hk => hk) trivial (Below.refl _ _) (Nat.le_refl _) bxka_ ?_; (case hd => rfl); (case hg => rfl); (case hr => go_simp; first | done | rfl); (case hp => exact (Reps.none _ _)); intro v1 w2 ho5 hb hg_ hnew_; clear hg_ hnew_; (first | rw [← Ny1.out] at ho5 | (simp only [Int.reduceToNat] at ho5; rw [← Ny1.out] at ho5)); have HO1 := A0_ (Kd.R_lower ho5 (bz_ be6g_)); replace BK1 := k1_ BK1 hb; replace HB := hb_ hb be6g_; clear hb ho5))
 go_loopg [5, 6] k (fun kq v2 v3 w' => ∃ (x5_1 : List Int) (x6_1 : Int), v3 = .int .i64 x6_1 ∧ Aside0 (spec_l2Near.l0 kq a1 x5_1 x6_1 a0_0 a0_1 l0_2 = some r) ∧ Aside0 (kq ≤ k) ∧ Aside0 (Kd.R (Kd.int .i64) 3 w' w.heap.size (fun _ => True) v2 x5_1) ∧ Aside0 (w'.heap[gb1]? = some (.cells #[.int .i64 a0_0, .bool a0_1, (.slice A0_2 l0_2.length c0_2)] 24 (0, 0))) ∧ Aside0 (Below w.heap.size w w'))
 case atStart => exact ⟨(y1), (0), b2ew_, H', ⟨Nat.le_refl _⟩, ⟨bsm5_⟩, ⟨u1_ BK1⟩, ⟨be6g_⟩⟩
 clear H'
 obtain ⟨x5_1, x6_1, rfl, HA, HK1, HO_1, BK1, HB⟩ := hrel
 cases gk with | zero => exact absurd HA.out (by simp [spec_l2Near.l0]) | succ k1 => ?_
 have H := HA.out
 clear HA
 simp only [spec_l2Near.l0] at H
 by_cases c1 : x6_1 < a0_0
 case neg =>
  rw [if_neg c1] at H
  have c1b0 : decide (x6_1 < a0_0) = false := decide_eq_false c1
  clear c1
  obtain rfl := si_ H
  have hcz1 := c3_ BK1
  go_wp2
  go_ret
  exact ⟨_, bnwh_, bwik_, be6g_⟩
 rw [if_pos c1] at H
 have c1b0 : decide (x6_1 < a0_0) = true := dt_ c1
 clear c1
 obtain ⟨t1, A2, H⟩ := o1_ H
 by_cases c2 : t1 = 1
 case neg =>
  rw [if_neg c2] at H
  obtain ⟨c2b0, c2b1⟩ := ef_ c2
  have H' := A0_ H
  clear H
  have hcz1 := c3_ BK1
  go_wp2_with (first | ((with_reducible refine gc_ (f := 80) rfl ?_); refine gl_ 17 Tryd.func80 #[.agg #[.int .i64 a0_0, .bool a0_1, .slice A0_2 l0_2.length c0_2], .int .i64 a1, .int .i64 x6_1] ?_; (with_reducible refine (spec_l2Gap.calls a0_0 a0_1 _ _ l0_2 a1 x6_1 t1 _ ?side1 ?side2 A2.out).mono ?_); (case side1 => exact b6n8_); (case side2 => exact HC0_2.out); rintro e w3 ⟨rfl, hb⟩; refine ⟨_, rfl, ?_⟩; replace HO_1 := A0_ (Kd.R_below bwik_ hb); replace BK1 := k1_ BK1 hb; replace HB := hb_ hb be6g_; (try clear hb)))
  go_roundg k1
  case measure => have := HK1.out; omega
  exact ⟨(x5_1), (wrap64 (x6_1 + 1)), b2ew_, H', ⟨bxjq_⟩, ⟨bwik_⟩, ⟨u1_ BK1⟩, ⟨be6g_⟩⟩
 rw [if_pos c2] at H
 obtain ⟨c2b0, c2b1⟩ := et_ c2
 clear c2
 by_cases c3 : x5_1.length < 17592186044416
 case neg =>
  rw [if_neg c3] at H
  exact absurd H bxka_
 rw [if_pos c3] at H
 have LMc1 := A0_ c3
 clear c3
 obtain ⟨y2, hy2⟩ : ∃ y_ : List Int, y_ = (x5_1 ++ [x6_1]) := ⟨_, rfl⟩
 replace H : (spec_l2Near.l0 k1 a1 y2 (wrap64 (x6_1 + 1)) a0_0 a0_1 l0_2) = some r := bscs_
 have Ny2 := A0_ hy2
 clear hy2
 have H' := A0_ H
 clear H
 have hcz1 := c3_ BK1
 go_wp2_with (first | ((with_reducible refine gc_ (f := 80) rfl ?_); refine gl_ 17 Tryd.func80 #[.agg #[.int .i64 a0_0, .bool a0_1, .slice A0_2 l0_2.length c0_2], .int .i64 a1, .int .i64 x6_1] ?_; (with_reducible refine (spec_l2Gap.calls a0_0 a0_1 _ _ l0_2 a1 x6_1 t1 _ ?side1 ?side2 A2.out).mono ?_); (case side1 => exact b6n8_); (case side2 => exact HC0_2.out); rintro e w3 ⟨rfl, hb⟩; refine ⟨_, rfl, ?_⟩; replace HO_1 := A0_ (Kd.R_below bwik_ hb); replace BK1 := k1_ BK1 hb; replace HB := hb_ hb be6g_; (try clear hb)) | ((with_reducible refine gate_builtin (b := .append) (xs := #[.tmp 19, .tmp 21]) rfl ?_); at_builtin; refine Kd.R_append (Kd.int .i64) (w0 := w) w.heap.size rfl (.tmp 19) (.tmp 21) 22 3 (.int .i64 0) 8 rfl Tryd.underlying22 info3 rfl bi3y_ bh19_ u5 x5_1 x6_1 [.int .i64 x6_1] (fun _ => True) (fun _ => False) rfl rfl ?aP (fun _ hk => hk.elim) ?aF ?aO ?aB ?aS ?aL ?_; (case aP => exact rfl); (case aB => exact be6g_); (case aF => exact (fun _ _ => trivial)); (case aO => exact bwik_); (case aS => exact (bz_ be6g_)); (case aL => have := LMc1.out; omega); intro v4 w4 ho hb hg hat; rw [← Ny2.out] at ho; have n0_ := A0_ (blk_grown (g := gb1) (o := .cells #[.int .i64 a0_0, .bool a0_1, .slice A0_2 l0_2.length c0_2] 24 (0, 0)) (u1_ BK1) hg (Kd.R_ne HO_1.out BK1.out bi3y_)); have n1_ := A0_ (hb); have n2_ := A0_ (ho); clear BK1 HB HO_1; have BK1 := n0_; have HB := n1_; have HO2 := n2_; clear n0_ n1_ n2_ ho hb hg hat))
 go_roundg k1
 case measure => have := HK1.out; omega
 exact ⟨(y2), (wrap64 (x6_1 + 1)), b2ew_, H', ⟨bxjq_⟩, ⟨b9so_⟩, ⟨u1_ BK1⟩, ⟨be6g_⟩⟩

def spec_l2Is.f (k : Nat) (a0_0 : Int) (a0_1 : Bool) (l0_2 : List Int) (a1 : Int) : Option (Bool) := (spec_l1Has.f k l0_2 a1).bind fun t128 => (some t128)
theorem spec_l2Is.mono : ∀ a0 a1 a2 a3 k, LeO (spec_l2Is.f k a0 a1 a2 a3) (spec_l2Is.f (k + 1) a0 a1 a2 a3) := by
 intro a0 a1 a2 a3 k
 unfold spec_l2Is.f
 repeat' with_reducible first | exact spec_l1Has.mono .. | exact LeO.refl .. | exact LeO.none .. | refine LeO.ite ?_ ?_ | refine LeO.bind ?_ (fun _ => ?_)
theorem spec_l2Is.calls (k : Nat) (a0_0 : Int) (a0_1 : Bool) (A0_2 : Option Addr) (c0_2 : Nat) (l0_2 : List Int) (a1 : Int) (r : Bool) (w : World) (hr0_2 : Kd.C (Kd.int .i64) w A0_2 l0_2.length l0_2) (hc0_2 : l0_2.length ≤ c0_2) (h : spec_l2Is.f k a0_0 a0_1 l0_2 a1 = some r) :
  Calls Tryd.prog 64 #[.agg #[.int .i64 a0_0, .bool a0_1, .slice A0_2 l0_2.length c0_2], .int .i64 a1] w fun e w' => e = .returned (.bool r) ∧ Below w.heap.size w w' := by
 have hu24 := Tryd.underlying24
 have HR0_2 := A0_ hr0_2
 have HC0_2 := A0_ hc0_2
 clear hr0_2 hc0_2
 have HB := A0_ (Below.refl w.heap.size w)
 have H : ((spec_l1Has.f k l0_2 a1).bind fun t1 => (some t1)) = some r := h
 clear h
 obtain ⟨t1, A2, H⟩ := o1_ H
 replace H : (some t1) = some r := H
 obtain rfl := si_ H
 go_enter Tryd.func64, Tryd.ntmps64
 go_wp2_with (first | ((with_reducible refine gd_ (N := 2) rfl ?_); refine bx_ 2 #[.int .i64 a0_0, .bool a0_1, .slice A0_2 l0_2.length c0_2] 24 ?_; intro gb1 hg w1 BK1 hb; have GW1 := ge_ hg brt4_; have GE1 := GW1; replace HB := hb_ hb brt4_; clear hb hg; have hcz1 := c3_ BK1) | ((with_reducible refine gc_ (f := 61) rfl ?_); refine gl_ 8 Tryd.func61 #[.slice A0_2 l0_2.length c0_2, .int .i64 a1] ?_; (with_reducible refine (spec_l1Has.calls k _ _ l0_2 a1 t1 _ ?side1 ?side2 A2.out).mono ?_); (case side1 => exact b6n8_); (case side2 => exact HC0_2.out); rintro e w' ⟨rfl, ⟨nd, rfl⟩⟩; refine ⟨_, rfl, ?_⟩))
 go_ret
 exact ⟨bnwh_, be6g_⟩

mutual
def spec_l12Crowded.l0 : Nat → List Int → Int → Int → Bool → List Int → List Int → Int → Option (List Int)
 | 0, _, _, _, _, _, _, _ => none
 | k + 1, x3, x4, x130000, x130001, x130002, x130003, x130004 => if x4 < (x130002.length : Int) then (if 0 ≤ x4 then ((spec_l2Near.f k x130000 x130001 x130002 (rd x130002 x4)).bind fun t134 => (spec_l12Crowded.l1 k x3 x4 (rd x130002 x4) t134 false 0 x130000 x130001 x130002 x130003 x130004)) else (none)) else (some x3)
def spec_l12Crowded.l1 : Nat → List Int → Int → Int → List Int → Bool → Int → Int → Bool → List Int → List Int → Int → Option (List Int)
 | 0, _, _, _, _, _, _, _, _, _, _, _ => none
 | k + 1, x3, x4, x5, x6, x7, x8, x130000, x130001, x130002, x130003, x130004 => if x8 < (x6.length : Int) then (if 0 ≤ x8 then ((spec_l2Is.f k x130000 x130001 x130002 (rd x6 x8)).bind fun t141 => (if t141 = true then ((spec_l12Place.f k x130003 (rd x6 x8)).bind fun t143 => ((spec_l12Place.f k x130003 x5).bind fun t144 => (if t143 > t144 then (spec_l12Crowded.l1 k x3 x4 x5 x6 true (wrap64 (x8 + 1)) x130000 x130001 x130002 x130003 x130004) else (spec_l12Crowded.l1 k x3 x4 x5 x6 x7 (wrap64 (x8 + 1)) x130000 x130001 x130002 x130003 x130004)))) else (spec_l12Crowded.l1 k x3 x4 x5 x6 x7 (wrap64 (x8 + 1)) x130000 x130001 x130002 x130003 x130004))) else (none)) else (if x7 = true then (if x3.length < 17592186044416 then (spec_l12Crowded.l0 k (x3 ++ [x5]) (wrap64 (x4 + 1)) x130000 x130001 x130002 x130003 x130004) else (none)) else (spec_l12Crowded.l0 k x3 (wrap64 (x4 + 1)) x130000 x130001 x130002 x130003 x130004))
end
def spec_l12Crowded.f (k : Nat) (a0_0 : Int) (a0_1 : Bool) (l0_2 : List Int) (l0_3 : List Int) (a0_4 : Int) : Option (List Int) := spec_l12Crowded.l0 k (([] : List Int)) 0 a0_0 a0_1 l0_2 l0_3 a0_4
theorem spec_l12Crowded.mono_l : ∀ k, (∀ y0 y1 y2 y3 y4 y5 y6, LeO (spec_l12Crowded.l0 k y0 y1 y2 y3 y4 y5 y6) (spec_l12Crowded.l0 (k + 1) y0 y1 y2 y3 y4 y5 y6)) ∧ (∀ y0 y1 y2 y3 y4 y5 y6 y7 y8 y9 y10, LeO (spec_l12Crowded.l1 k y0 y1 y2 y3 y4 y5 y6 y7 y8 y9 y10) (spec_l12Crowded.l1 (k + 1) y0 y1 y2 y3 y4 y5 y6 y7 y8 y9 y10))
 | 0 => ⟨fun _ _ _ _ _ _ _ r h => by simp [spec_l12Crowded.l0] at h, fun _ _ _ _ _ _ _ _ _ _ _ r h => by simp [spec_l12Crowded.l1] at h⟩
 | k + 1 => by
  obtain ⟨ih0, ih1⟩ := spec_l12Crowded.mono_l k
  refine ⟨?_, ?_⟩
  ·intro y0 y1 y2 y3 y4 y5 y6
   unfold spec_l12Crowded.l0
   repeat' with_reducible first | exact ih0 .. | exact ih1 .. | exact spec_l12Place.mono .. | exact spec_l2Is.mono .. | exact spec_l2Near.mono .. | exact LeO.refl .. | exact LeO.none .. | refine LeO.ite ?_ ?_ | refine LeO.bind ?_ (fun _ => ?_)
  ·intro y0 y1 y2 y3 y4 y5 y6 y7 y8 y9 y10
   unfold spec_l12Crowded.l1
   repeat' with_reducible first | exact ih0 .. | exact ih1 .. | exact spec_l12Place.mono .. | exact spec_l2Is.mono .. | exact spec_l2Near.mono .. | exact LeO.refl .. | exact LeO.none .. | refine LeO.ite ?_ ?_ | refine LeO.bind ?_ (fun _ => ?_)
theorem spec_l12Crowded.mono : ∀ a0 a1 a2 a3 a4 k, LeO (spec_l12Crowded.f k a0 a1 a2 a3 a4) (spec_l12Crowded.f (k + 1) a0 a1 a2 a3 a4) := by
 intro a0 a1 a2 a3 a4 k
 obtain ⟨ih0, ih1⟩ := spec_l12Crowded.mono_l k
 unfold spec_l12Crowded.f
 repeat' with_reducible first | exact ih0 .. | exact ih1 .. | exact spec_l12Place.mono .. | exact spec_l2Is.mono .. | exact spec_l2Near.mono .. | exact LeO.refl .. | exact LeO.none .. | refine LeO.ite ?_ ?_ | refine LeO.bind ?_ (fun _ => ?_)
def spec_l12Crowded.T10 : Bool × List (List Nat × List Nat) := (true, [([], []), ([0], [0]), ([], []), ([], []), ([2, 3], [2, 3]), ([4], [4]), ([1, 5], [1, 5]), ([6, 6], [6]), ([7], [7]), ([8, 7], [7, 8]), ([7], [7]), ([7], [7]), ([10, 11, 7], [7, 10, 11]), ([12, 7], [7, 12]), ([9, 13, 7, 7], [7, 9, 13]), ([7], [7]), ([15, 7], [7, 15]), ([7], [7]), ([16, 17, 14, 7], [7, 16, 17]), ([14, 18, 7], [7, 14, 18]), ([7, 19], [7, 19])])
def spec_l12Crowded.B10 : List Nat := [0, 1, 0, 0, 12, 28, 63, 127, 255, 511, 255, 255, 3327, 7423, 16383, 255, 33023, 255, 262143, 524287, 1048575]
theorem spec_l12Crowded.tab10 : rtab .any (opsOf Tryd.f40 10) = spec_l12Crowded.T10 := by kernel_rfl
theorem spec_l12Crowded.bits10 : waitsOk spec_l12Crowded.T10.2 spec_l12Crowded.B10 = true := by kernel_rfl
theorem spec_l12Crowded.calls (k : Nat) (a0_0 : Int) (a0_1 : Bool) (A0_2 : Option Addr) (c0_2 : Nat) (l0_2 : List Int) (A0_3 : Option Addr) (c0_3 : Nat) (l0_3 : List Int) (a0_4 : Int) (r : List Int) (w : World) (hr0_2 : Kd.C (Kd.int .i64) w A0_2 l0_2.length l0_2) (hc0_2 : l0_2.length ≤ c0_2) (hr0_3 : Kd.C (Kd.int .i64) w A0_3 l0_3.length l0_3) (hc0_3 : l0_3.length ≤ c0_3) (h : spec_l12Crowded.f k a0_0 a0_1 l0_2 l0_3 a0_4 = some r) :
  Calls Tryd.prog 40 #[.agg #[.int .i64 a0_0, .bool a0_1, .slice A0_2 l0_2.length c0_2, .slice A0_3 l0_3.length c0_3, .int .i64 a0_4]] w fun e w' => ∃ v0_ : Value, e = .returned (v0_) ∧ Kd.R (Kd.int .i64) 3 w' w.heap.size (fun _ => True) v0_ r ∧ Below w.heap.size w w' := by
 have hu26 := Tryd.underlying26
 have hu24 := Tryd.underlying24
 have HR0_2 := A0_ hr0_2
 have HC0_2 := A0_ hc0_2
 clear hr0_2 hc0_2
 have HR0_3 := A0_ hr0_3
 have HC0_3 := A0_ hc0_3
 clear hr0_3 hc0_3
 have HB := A0_ (Below.refl w.heap.size w)
 have H : (spec_l12Crowded.l0 k (([] : List Int)) 0 a0_0 a0_1 l0_2 l0_3 a0_4) = some r := h
 clear h
 obtain ⟨y1, hy1⟩ : ∃ y_ : List Int, y_ = (([] : List Int)) := ⟨_, rfl⟩
 replace H : (spec_l12Crowded.l0 k y1 0 a0_0 a0_1 l0_2 l0_3 a0_4) = some r := bgiq_
 have Ny1 := A0_ hy1
 clear hy1
 have H' := A0_ H
 clear H
 go_enter Tryd.func40, Tryd.ntmps40
 go_wp2_with (first | ((with_reducible refine gd_ (N := 1) rfl ?_); refine bx_ 1 #[.int .i64 a0_0, .bool a0_1, .slice A0_2 l0_2.length c0_2, .slice A0_3 l0_3.length c0_3, .int .i64 a0_4] 26 ?_; intro gb1 hg w1 BK1 hb; have GW1 := ge_ hg brt4_; have GE1 := GW1; replace HB := hb_ hb brt4_; clear hb hg) | ((with_reducible refine gd_ (N := 9) rfl ?_); refine Kd.R_lit (Kd.int .i64) _ 3 ?hg (N := 9) ?hd (xs := ([] : List Int)) (inner := []) (ok := fun _ => True) (okp := fun _ => True) ?hr ?hp (fun _ hk => hk) trivial (Below.refl _ _) (Nat.le_refl _) bxka_ ?_; (case hd => rfl); (case hg => rfl); (case hr => go_simp; first | done | rfl); (case hp => exact (Reps.none _ _)); intro v1 w2 ho4 hb hg_ hnew_; clear hg_ hnew_; (first | rw [← Ny1.out] at ho4 | (simp only [Int.reduceToNat] at ho4; rw [← Ny1.out] at ho4)); have HO1 := A0_ (Kd.R_lower ho4 (bz_ be6g_)); replace BK1 := k1_ BK1 hb; replace HB := hb_ hb be6g_; clear hb ho4))
 go_loopg [3, 4] k (fun kq v2 v3 w' => ∃ (x3_1 : List Int) (x4_1 : Int), v3 = .int .i64 x4_1 ∧ Aside0 (spec_l12Crowded.l0 kq x3_1 x4_1 a0_0 a0_1 l0_2 l0_3 a0_4 = some r) ∧ Aside0 (kq ≤ k) ∧ Aside0 (Kd.R (Kd.int .i64) 3 w' w.heap.size (fun _ => True) v2 x3_1) ∧ Aside0 (w'.heap[gb1]? = some (.cells #[.int .i64 a0_0, .bool a0_1, (.slice A0_2 l0_2.length c0_2), (.slice A0_3 l0_3.length c0_3), .int .i64 a0_4] 26 (0, 0))) ∧ Aside0 (Below w.heap.size w w'))
 case atStart => exact ⟨(y1), (0), b2ew_, H', ⟨Nat.le_refl _⟩, ⟨bsm5_⟩, ⟨u1_ BK1⟩, ⟨be6g_⟩⟩
 clear H'
 obtain ⟨x3_1, x4_1, rfl, HA, HK1, HO_1, BK1, HB⟩ := hrel
 cases gk with | zero => exact absurd HA.out (by simp [spec_l12Crowded.l0]) | succ k1 => ?_
 have H := HA.out
 clear HA
 simp only [spec_l12Crowded.l0] at H
 by_cases c1 : x4_1 < (l0_2.length : Int)
 case neg =>
  rw [if_neg c1] at H
  have c1b0 : decide (x4_1 < (l0_2.length : Int)) = false := decide_eq_false c1
  clear c1
  obtain rfl := si_ H
  have hcz1 := c5_ BK1
  go_wp2
  go_ret
  exact ⟨_, bnwh_, bwik_, be6g_⟩
 rw [if_pos c1] at H
 have c1b0 : decide (x4_1 < (l0_2.length : Int)) = true := dt_ c1
 clear c1
 by_cases c2 : 0 ≤ x4_1
 case neg =>
  rw [if_neg c2] at H
  exact absurd H bxka_
 rw [if_pos c2] at H
 have c2b0 : decide (0 ≤ x4_1) = true := dt_ c2
 clear c2
 obtain ⟨t1, A2, H⟩ := o1_ H
 have H' := A0_ H
 clear H
 have hcz1 := c5_ BK1
 have p1 : 0 ≤ (x4_1 : Int) := od_ bpil_
 have q1 : x4_1 < (l0_2.length : Int) := od_ bpil_
 obtain ⟨ad1, e1, hx1_0⟩ := Kd.at_int HR0_2.out x4_1 p1 q1
 cases e1
 replace hx1_0 := (HB.out.cell (World.block_lt_of_cell? w _ hx1_0)).trans hx1_0
 replace p1 := eq_true p1
 replace q1 := eq_true q1
 go_wp2_with (first | ((with_reducible refine gc_ (f := 63) rfl ?_); refine gl_ 27 Tryd.func63 #[.agg #[.int .i64 a0_0, .bool a0_1, .slice (some ad1) l0_2.length c0_2], .int .i64 (rd l0_2 x4_1)] ?_; (with_reducible refine (spec_l2Near.calls k1 a0_0 a0_1 _ _ l0_2 (rd l0_2 x4_1) t1 _ ?side1 ?side2 A2.out).mono ?_); (case side1 => exact b6n8_); (case side2 => exact HC0_2.out); rintro e w3 ⟨v4, rfl, ho0, hb⟩; refine ⟨_, rfl, ?_⟩; have HO2 := A0_ (Kd.R_lower (Kd.R_new' ho0 (Kd.R_lt bwik_)) (bz_ be6g_)); replace HO_1 := A0_ (Kd.R_elder' bwik_ (Kd.R_base ho0) hb); replace BK1 := k1_ BK1 hb; replace HB := hb_ hb be6g_; (try clear hb); (try clear ho0)))
 go_loopg [7, 8] k1 (fun kq v5 v6 w' => ∃ (x7_2 : Bool) (x8_2 : Int), v5 = .bool x7_2 ∧ v6 = .int .i64 x8_2 ∧ Aside0 (spec_l12Crowded.l1 kq x3_1 x4_1 (rd l0_2 x4_1) t1 x7_2 x8_2 a0_0 a0_1 l0_2 l0_3 a0_4 = some r) ∧ Aside0 (kq ≤ k1) ∧ Aside0 (Kd.R (Kd.int .i64) 3 w' w.heap.size (fun k_ => no_ v4 k_) u3 x3_1) ∧ Aside0 (Kd.R (Kd.int .i64) 3 w' w.heap.size (fun k_ => no_ u3 k_) v4 t1) ∧ Aside0 (w'.heap[gb1]? = some (.cells #[.int .i64 a0_0, .bool a0_1, (.slice (some ad1) l0_2.length c0_2), (.slice A0_3 l0_3.length c0_3), .int .i64 a0_4] 26 (0, 0))) ∧ Aside0 (Below w.heap.size w w'))
 case atStart => exact ⟨(false), (0), b2ew_, b2ew_, H', ⟨Nat.le_refl _⟩, ⟨by (with_reducible repeat (first | apply ra_ | apply rn_ | apply rd_)); exact Kd.R_mono HO_1.out (fun _ hk => hk.2)⟩, ⟨b61e_⟩, ⟨u1_ BK1⟩, ⟨be6g_⟩⟩
 clear H'
 try clear c1
 try clear c1b0
 try clear c2
 try clear c2b0
 (try clear hcz1)
 try clear hx1_0
 try clear p1
 try clear q1
 obtain ⟨x7_2, x8_2, rfl, rfl, HA, HK2, HO_1, HO_2, BK1, HB⟩ := hrel
 cases gk with | zero => exact absurd HA.out (by simp [spec_l12Crowded.l1]) | succ k2 => ?_
 have H := HA.out
 clear HA
 simp only [spec_l12Crowded.l1] at H
 by_cases c3 : x8_2 < (t1.length : Int)
 case neg =>
  rw [if_neg c3] at H
  have c3b0 : decide (x8_2 < (t1.length : Int)) = false := decide_eq_false c3
  clear c3
  by_cases c4 : x7_2 = true
  case neg =>
   obtain rfl := bf_.mpr c4
   rw [if_neg ft_] at H
   have H' := A0_ H
   clear H
   obtain ⟨Ao1, co1, eo1⟩ := Kd.R_slice HO_2.out
   subst eo1
   go_wp2
   go_roundg k2
   case measure => have := HK1.out; have := HK2.out; omega
   exact ⟨(x3_1), (wrap64 (x4_1 + 1)), b2ew_, H', ⟨b0r5_⟩, ⟨bzf8_⟩, ⟨u1_ BK1⟩, ⟨be6g_⟩⟩
  subst c4
  rw [if_pos rfl] at H
  by_cases c5 : x3_1.length < 17592186044416
  case neg =>
   rw [if_neg c5] at H
   exact absurd H bxka_
  rw [if_pos c5] at H
  have LMc1 := A0_ c5
  clear c5
  obtain ⟨y2, hy2⟩ : ∃ y_ : List Int, y_ = (x3_1 ++ [(rd l0_2 x4_1)]) := ⟨_, rfl⟩
  replace H : (spec_l12Crowded.l0 k2 y2 (wrap64 (x4_1 + 1)) a0_0 a0_1 l0_2 l0_3 a0_4) = some r := bscs_
  have Ny2 := A0_ hy2
  clear hy2
  have H' := A0_ H
  clear H
  obtain ⟨Ao1, co1, eo1⟩ := Kd.R_slice HO_2.out
  subst eo1
  go_wp2_with (first | ((with_reducible refine gate_builtin (b := .append) (xs := #[.tmp 56, .tmp 58]) rfl ?_); at_builtin; refine Kd.R_append (Kd.int .i64) (w0 := w) w.heap.size rfl (.tmp 56) (.tmp 58) 22 3 (.int .i64 0) 8 rfl Tryd.underlying22 info3 rfl bi3y_ bh19_ u3 x3_1 (rd l0_2 x4_1) [.int .i64 (rd l0_2 x4_1)] (fun k_ => no_ (.slice Ao1 t1.length co1) k_) (fun _ => False) rfl rfl ?aP (fun _ hk => hk.elim) ?aF ?aO ?aB ?aS ?aL ?_; (case aP => exact rfl); (case aB => exact be6g_); (case aF => exact (fun k_ hk => Kd.fresh' (Kd.R_lt b7sq_) k_ hk)); (case aO => exact bwik_); (case aS => exact (bz_ be6g_)); (case aL => have := LMc1.out; omega); intro v7 w4 ho hb hg hat; rw [← Ny2.out] at ho; have n0_ := A0_ (Kd.R_after (ok := (fun _ => True)) bapr_ hg hat); have n1_ := A0_ (blk_grown (g := gb1) (o := .cells #[.int .i64 a0_0, .bool a0_1, .slice (some ad1) l0_2.length c0_2, .slice A0_3 l0_3.length c0_3, .int .i64 a0_4] 26 (0, 0)) (u1_ BK1) hg (Kd.R_ne HO_1.out BK1.out bi3y_)); have n2_ := A0_ (hb); have n3_ := A0_ (ho); clear HO_2 BK1 HB HO_1; have HO_2 := n0_; have BK1 := n1_; have HB := n2_; have HO3 := n3_; clear n0_ n1_ n2_ n3_ ho hb hg hat))
  go_roundg k2
  case measure => have := HK1.out; have := HK2.out; omega
  exact ⟨(y2), (wrap64 (x4_1 + 1)), b2ew_, H', ⟨b0r5_⟩, ⟨by (with_reducible repeat (first | apply ra_ | apply rn_ | apply rd_)); exact Kd.R_mono HO3.out (fun _ hk => trivial)⟩, ⟨u1_ BK1⟩, ⟨be6g_⟩⟩
 rw [if_pos c3] at H
 have c3b0 : decide (x8_2 < (t1.length : Int)) = true := dt_ c3
 clear c3
 by_cases c4 : 0 ≤ x8_2
 case neg =>
  rw [if_neg c4] at H
  exact absurd H bxka_
 rw [if_pos c4] at H
 have c4b0 : decide (0 ≤ x8_2) = true := dt_ c4
 clear c4
 obtain ⟨t2, A4, H⟩ := o1_ H
 by_cases c5 : t2 = true
 case neg =>
  obtain rfl := bf_.mpr c5
  rw [if_neg ft_] at H
  have H' := A0_ H
  clear H
  obtain ⟨Ao1, co1, eo1⟩ := Kd.R_slice HO_2.out
  subst eo1
  try go_wp2
  replace HO_1 := A0_ (rd_ HO_1.out)
  replace HO_2 := A0_ (rd_ HO_2.out)
  replace BK1 := A0_ (kd_ BK1.out)
  replace HB := A0_ (bd_ HB.out)
  have p2 : 0 ≤ (x8_2 : Int) := od_ bpil_
  have q2 : x8_2 < (t1.length : Int) := od_ bpil_
  obtain ⟨ad2, e2, hx2_0⟩ := Kd.at_int (rr_ HO_2.out).2.2 x8_2 p2 q2
  cases e2
  replace p2 := eq_true p2
  replace q2 := eq_true q2
  refine start_ (n := 21) (S := fun w' => w'.cell? ⟨gb1, 0, none⟩ = some (.int .i64 a0_0) ∧ w'.cell? ⟨gb1, 1, none⟩ = some (.bool a0_1) ∧ w'.cell? ⟨gb1, 2, none⟩ = some (.slice (some ad1) l0_2.length c0_2) ∧ w'.cell? ⟨gb1, 3, none⟩ = some (.slice A0_3 l0_3.length c0_3) ∧ w'.cell? ⟨gb1, 4, none⟩ = some (.int .i64 a0_4) ∧ w'.cell? (ad2.add (x8_2).toNat) = some (.int .i64 (rd t1 x8_2))) (ds := []) #[false, false, false, false, false, false, false, false, false, false, false, false, false, false, false, false, false, false, false, false, false] bfqv_ rfl rfl ⟨(kc_ BK1.out 0).trans rfl, (kc_ BK1.out 1).trans rfl, (kc_ BK1.out 2).trans rfl, (kc_ BK1.out 3).trans rfl, (kc_ BK1.out 4).trans rfl, hx2_0⟩ (fun hHeld => ?_); refine with_tabW spec_l12Crowded.tab10 spec_l12Crowded.bits10 (fun HT_ HW_ => ?_)
  generalize wr.drew = w4 at HO_1 HO_2 BK1 HB hx2_0 hHeld ⊢
  refine pu_ 0 34 ?_
  refine pu_ 2 36 ?_
  refine pu_ 3 37 ?_
  refine pu_ 4 38 ?_
  refine tk_ 1 35 hHeld ?_
  refine tk_ 5 39 hHeld ?_
  refine on_ 6 (some 40) (fun K hK => ?_)
  refine gs_ Tryd.func64 #[.agg #[.int .i64 a0_0, .bool a0_1, .slice (some ad1) l0_2.length c0_2], .int .i64 (rd t1 x8_2)] ?_
  with_reducible refine (spec_l2Is.calls k2 a0_0 a0_1 _ _ l0_2 (rd t1 x8_2) false _ ?side1 ?side2 A4.out).mono ?_
  (case side1 => exact b6n8_)
  (case side2 => exact HC0_2.out)
  rintro e w5 ⟨rfl, hb⟩
  have HS5_ := (hb.cell (World.block_lt_of_cell? _ _ (hHeld.2.2.2.2.2))).trans (hHeld.2.2.2.2.2)
  refine ⟨_, rfl, ?_⟩
  replace HO_1 := A0_ (Kd.R_below bwik_ hb)
  replace HO_2 := A0_ (Kd.R_below b7sq_ hb)
  replace BK1 := k1_ BK1 hb
  replace HB := hb_ hb be6g_
  (try clear hb)
  refine hK.out _ _ ⟨(kc_ BK1.out 0).trans rfl, (kc_ BK1.out 1).trans rfl, (kc_ BK1.out 2).trans rfl, (kc_ BK1.out 3).trans rfl, (kc_ BK1.out 4).trans rfl, HS5_⟩ (fun hHeld => ?_)
  clear hK K
  refine nm_ 40 ?_
  refine pu_ 7 41 ?_
  refine pv_ 8 42 ?_
  refine pv_ 9 43 ?_
  refine pv_ 10 44 ?_
  refine pv_ 11 45 ?_
  refine pv_ 12 46 ?_
  refine pv_ 13 47 ?_
  refine pv_ 14 48 ?_
  refine pv_ 15 49 ?_
  refine pv_ 16 50 ?_
  refine pv_ 17 51 ?_
  refine pv_ 18 52 ?_
  refine pv_ 19 53 ?_
  refine pu_ 20 54 ?_
  refine dn_ ?_
  try go_wp2
  go_roundg k2
  case measure => have := HK1.out; have := HK2.out; omega
  exact ⟨(x7_2), (wrap64 (x8_2 + 1)), b2ew_, b2ew_, H', ⟨b0r5_⟩, ⟨bwik_⟩, ⟨b7sq_⟩, ⟨u1_ BK1⟩, ⟨be6g_⟩⟩
 subst c5
 rw [if_pos rfl] at H
 obtain ⟨t3, A6, H⟩ := o1_ H
 obtain ⟨t4, A8, H⟩ := o1_ H
 by_cases c6 : t3 > t4
 ·rw [if_pos c6] at H
  have c6b0 : decide (t4 < t3) = true := dt_ c6
  clear c6
  have H' := A0_ H
  clear H
  obtain ⟨Ao1, co1, eo1⟩ := Kd.R_slice HO_2.out
  subst eo1
  try go_wp2
  replace HO_1 := A0_ (rd_ HO_1.out)
  replace HO_2 := A0_ (rd_ HO_2.out)
  replace BK1 := A0_ (kd_ BK1.out)
  replace HB := A0_ (bd_ HB.out)
  have p2 : 0 ≤ (x8_2 : Int) := od_ bpil_
  have q2 : x8_2 < (t1.length : Int) := od_ bpil_
  obtain ⟨ad2, e2, hx2_0⟩ := Kd.at_int (rr_ HO_2.out).2.2 x8_2 p2 q2
  cases e2
  replace p2 := eq_true p2
  replace q2 := eq_true q2
  have p3 : 0 ≤ (x8_2 : Int) := od_ bpil_
  have q3 : x8_2 < (t1.length : Int) := od_ bpil_
  obtain ⟨ad3, e3, hx3_0⟩ := Kd.at_int (rr_ HO_2.out).2.2 x8_2 p3 q3
  obtain rfl : ad2 = ad3 := (by injection e3)
  replace p3 := eq_true p3
  replace q3 := eq_true q3
  refine start_ (n := 21) (S := fun w' => w'.cell? ⟨gb1, 0, none⟩ = some (.int .i64 a0_0) ∧ w'.cell? ⟨gb1, 1, none⟩ = some (.bool a0_1) ∧ w'.cell? ⟨gb1, 2, none⟩ = some (.slice (some ad1) l0_2.length c0_2) ∧ w'.cell? ⟨gb1, 3, none⟩ = some (.slice A0_3 l0_3.length c0_3) ∧ w'.cell? ⟨gb1, 4, none⟩ = some (.int .i64 a0_4) ∧ w'.cell? (ad2.add (x8_2).toNat) = some (.int .i64 (rd t1 x8_2)) ∧ w'.cell? (ad2.add (x8_2).toNat) = some (.int .i64 (rd t1 x8_2))) (ds := []) #[false, false, false, false, false, false, false, false, false, false, false, false, false, false, false, false, false, false, false, false, false] bfqv_ rfl rfl ⟨(kc_ BK1.out 0).trans rfl, (kc_ BK1.out 1).trans rfl, (kc_ BK1.out 2).trans rfl, (kc_ BK1.out 3).trans rfl, (kc_ BK1.out 4).trans rfl, hx2_0, hx3_0⟩ (fun hHeld => ?_); refine with_tabW spec_l12Crowded.tab10 spec_l12Crowded.bits10 (fun HT_ HW_ => ?_)
  generalize wr.drew = w4 at HO_1 HO_2 BK1 HB hx2_0 hx3_0 hHeld ⊢
  refine pu_ 0 34 ?_
  refine pu_ 2 36 ?_
  refine pu_ 3 37 ?_
  refine pu_ 4 38 ?_
  refine tk_ 1 35 hHeld ?_
  refine tk_ 5 39 hHeld ?_
  refine on_ 6 (some 40) (fun K hK => ?_)
  refine gs_ Tryd.func64 #[.agg #[.int .i64 a0_0, .bool a0_1, .slice (some ad1) l0_2.length c0_2], .int .i64 (rd t1 x8_2)] ?_
  with_reducible refine (spec_l2Is.calls k2 a0_0 a0_1 _ _ l0_2 (rd t1 x8_2) true _ ?side1 ?side2 A4.out).mono ?_
  (case side1 => exact b6n8_)
  (case side2 => exact HC0_2.out)
  rintro e w5 ⟨rfl, hb⟩
  have HS5_ := (hb.cell (World.block_lt_of_cell? _ _ (hHeld.2.2.2.2.2.1))).trans (hHeld.2.2.2.2.2.1)
  have HS6_ := (hb.cell (World.block_lt_of_cell? _ _ (hHeld.2.2.2.2.2.2))).trans (hHeld.2.2.2.2.2.2)
  refine ⟨_, rfl, ?_⟩
  replace HO_1 := A0_ (Kd.R_below bwik_ hb)
  replace HO_2 := A0_ (Kd.R_below b7sq_ hb)
  replace BK1 := k1_ BK1 hb
  replace HB := hb_ hb be6g_
  (try clear hb)
  refine hK.out _ _ ⟨(kc_ BK1.out 0).trans rfl, (kc_ BK1.out 1).trans rfl, (kc_ BK1.out 2).trans rfl, (kc_ BK1.out 3).trans rfl, (kc_ BK1.out 4).trans rfl, HS5_, HS6_⟩ (fun hHeld => ?_)
  clear hK K
  refine nm_ 40 ?_
  refine pu_ 7 41 ?_
  refine pu_ 8 42 ?_
  refine pu_ 10 44 ?_
  refine pu_ 11 45 ?_
  refine pu_ 12 46 ?_
  refine pu_ 15 49 ?_
  refine pu_ 17 51 ?_
  refine tk_ 9 43 hHeld ?_
  refine tk_ 13 47 hHeld ?_
  refine tk_ 16 50 hHeld ?_
  refine on_ 14 (some 48) (fun K hK => ?_)
  refine gs_ Tryd.func52 #[.slice A0_3 l0_3.length c0_3, .int .i64 (rd t1 x8_2)] ?_
  with_reducible refine (spec_l12Place.calls k2 _ _ l0_3 (rd t1 x8_2) t3 _ ?side1 ?side2 A6.out).mono ?_
  (case side1 => exact bkan_)
  (case side2 => exact HC0_3.out)
  rintro e w' ⟨rfl, ⟨nd, rfl⟩⟩
  refine ⟨_, rfl, ?_⟩
  refine hK.out _ _ ⟨(kc_ BK1.out 0).trans rfl, (kc_ BK1.out 1).trans rfl, (kc_ BK1.out 2).trans rfl, (kc_ BK1.out 3).trans rfl, (kc_ BK1.out 4).trans rfl, hHeld.2.2.2.2.2.1, hHeld.2.2.2.2.2.2⟩ (fun hHeld => ?_)
  clear hK K
  refine nm_ 48 ?_
  refine on_ 18 (some 52) (fun K hK => ?_)
  refine gs_ Tryd.func52 #[.slice A0_3 l0_3.length c0_3, .int .i64 (rd l0_2 x4_1)] ?_
  with_reducible refine (spec_l12Place.calls k2 _ _ l0_3 (rd l0_2 x4_1) t4 _ ?side1 ?side2 A8.out).mono ?_
  (case side1 => exact bl2y_)
  (case side2 => exact HC0_3.out)
  rintro e w' ⟨rfl, ⟨nd, rfl⟩⟩
  refine ⟨_, rfl, ?_⟩
  refine hK.out _ _ ⟨(kc_ BK1.out 0).trans rfl, (kc_ BK1.out 1).trans rfl, (kc_ BK1.out 2).trans rfl, (kc_ BK1.out 3).trans rfl, (kc_ BK1.out 4).trans rfl, hHeld.2.2.2.2.2.1, hHeld.2.2.2.2.2.2⟩ (fun hHeld => ?_)
  clear hK K
  refine nm_ 52 ?_
  refine pu_ 19 53 ?_
  refine pu_ 20 54 ?_
  refine dn_ ?_
  try go_wp2
  go_roundg k2
  case measure => have := HK1.out; have := HK2.out; omega
  exact ⟨(true), (wrap64 (x8_2 + 1)), b2ew_, b2ew_, H', ⟨b0r5_⟩, ⟨bwik_⟩, ⟨b7sq_⟩, ⟨u1_ BK1⟩, ⟨be6g_⟩⟩
 rw [if_neg c6] at H
 have c6b0 : decide (t4 < t3) = false := decide_eq_false c6
 clear c6
 have H' := A0_ H
 clear H
 obtain ⟨Ao1, co1, eo1⟩ := Kd.R_slice HO_2.out
 subst eo1
 try go_wp2
 replace HO_1 := A0_ (rd_ HO_1.out)
 replace HO_2 := A0_ (rd_ HO_2.out)
 replace BK1 := A0_ (kd_ BK1.out)
 replace HB := A0_ (bd_ HB.out)
 have p2 : 0 ≤ (x8_2 : Int) := od_ bpil_
 have q2 : x8_2 < (t1.length : Int) := od_ bpil_
 obtain ⟨ad2, e2, hx2_0⟩ := Kd.at_int (rr_ HO_2.out).2.2 x8_2 p2 q2
 cases e2
 replace p2 := eq_true p2
 replace q2 := eq_true q2
 have p3 : 0 ≤ (x8_2 : Int) := od_ bpil_
 have q3 : x8_2 < (t1.length : Int) := od_ bpil_
 obtain ⟨ad3, e3, hx3_0⟩ := Kd.at_int (rr_ HO_2.out).2.2 x8_2 p3 q3
 obtain rfl : ad2 = ad3 := (by injection e3)
 replace p3 := eq_true p3
 replace q3 := eq_true q3
 refine start_ (n := 21) (S := fun w' => w'.cell? ⟨gb1, 0, none⟩ = some (.int .i64 a0_0) ∧ w'.cell? ⟨gb1, 1, none⟩ = some (.bool a0_1) ∧ w'.cell? ⟨gb1, 2, none⟩ = some (.slice (some ad1) l0_2.length c0_2) ∧ w'.cell? ⟨gb1, 3, none⟩ = some (.slice A0_3 l0_3.length c0_3) ∧ w'.cell? ⟨gb1, 4, none⟩ = some (.int .i64 a0_4) ∧ w'.cell? (ad2.add (x8_2).toNat) = some (.int .i64 (rd t1 x8_2)) ∧ w'.cell? (ad2.add (x8_2).toNat) = some (.int .i64 (rd t1 x8_2))) (ds := []) #[false, false, false, false, false, false, false, false, false, false, false, false, false, false, false, false, false, false, false, false, false] bfqv_ rfl rfl ⟨(kc_ BK1.out 0).trans rfl, (kc_ BK1.out 1).trans rfl, (kc_ BK1.out 2).trans rfl, (kc_ BK1.out 3).trans rfl, (kc_ BK1.out 4).trans rfl, hx2_0, hx3_0⟩ (fun hHeld => ?_); refine with_tabW spec_l12Crowded.tab10 spec_l12Crowded.bits10 (fun HT_ HW_ => ?_)
 generalize wr.drew = w4 at HO_1 HO_2 BK1 HB hx2_0 hx3_0 hHeld ⊢
 refine pu_ 0 34 ?_
 refine pu_ 2 36 ?_
 refine pu_ 3 37 ?_
 refine pu_ 4 38 ?_
 refine tk_ 1 35 hHeld ?_
 refine tk_ 5 39 hHeld ?_
 refine on_ 6 (some 40) (fun K hK => ?_)
 refine gs_ Tryd.func64 #[.agg #[.int .i64 a0_0, .bool a0_1, .slice (some ad1) l0_2.length c0_2], .int .i64 (rd t1 x8_2)] ?_
 with_reducible refine (spec_l2Is.calls k2 a0_0 a0_1 _ _ l0_2 (rd t1 x8_2) true _ ?side1 ?side2 A4.out).mono ?_
 (case side1 => exact b6n8_)
 (case side2 => exact HC0_2.out)
 rintro e w5 ⟨rfl, hb⟩
 have HS5_ := (hb.cell (World.block_lt_of_cell? _ _ (hHeld.2.2.2.2.2.1))).trans (hHeld.2.2.2.2.2.1)
 have HS6_ := (hb.cell (World.block_lt_of_cell? _ _ (hHeld.2.2.2.2.2.2))).trans (hHeld.2.2.2.2.2.2)
 refine ⟨_, rfl, ?_⟩
 replace HO_1 := A0_ (Kd.R_below bwik_ hb)
 replace HO_2 := A0_ (Kd.R_below b7sq_ hb)
 replace BK1 := k1_ BK1 hb
 replace HB := hb_ hb be6g_
 (try clear hb)
 refine hK.out _ _ ⟨(kc_ BK1.out 0).trans rfl, (kc_ BK1.out 1).trans rfl, (kc_ BK1.out 2).trans rfl, (kc_ BK1.out 3).trans rfl, (kc_ BK1.out 4).trans rfl, HS5_, HS6_⟩ (fun hHeld => ?_)
 clear hK K
 refine nm_ 40 ?_
 refine pu_ 7 41 ?_
 refine pu_ 8 42 ?_
 refine pu_ 10 44 ?_
 refine pu_ 11 45 ?_
 refine pu_ 12 46 ?_
 refine pu_ 15 49 ?_
 refine pu_ 17 51 ?_
 refine tk_ 9 43 hHeld ?_
 refine tk_ 13 47 hHeld ?_
 refine tk_ 16 50 hHeld ?_
 refine on_ 14 (some 48) (fun K hK => ?_)
 refine gs_ Tryd.func52 #[.slice A0_3 l0_3.length c0_3, .int .i64 (rd t1 x8_2)] ?_
 with_reducible refine (spec_l12Place.calls k2 _ _ l0_3 (rd t1 x8_2) t3 _ ?side1 ?side2 A6.out).mono ?_
 (case side1 => exact bkan_)
 (case side2 => exact HC0_3.out)
 rintro e w' ⟨rfl, ⟨nd, rfl⟩⟩
 refine ⟨_, rfl, ?_⟩
 refine hK.out _ _ ⟨(kc_ BK1.out 0).trans rfl, (kc_ BK1.out 1).trans rfl, (kc_ BK1.out 2).trans rfl, (kc_ BK1.out 3).trans rfl, (kc_ BK1.out 4).trans rfl, hHeld.2.2.2.2.2.1, hHeld.2.2.2.2.2.2⟩ (fun hHeld => ?_)
 clear hK K
 refine nm_ 48 ?_
 refine on_ 18 (some 52) (fun K hK => ?_)
 refine gs_ Tryd.func52 #[.slice A0_3 l0_3.length c0_3, .int .i64 (rd l0_2 x4_1)] ?_
 with_reducible refine (spec_l12Place.calls k2 _ _ l0_3 (rd l0_2 x4_1) t4 _ ?side1 ?side2 A8.out).mono ?_
 (case side1 => exact bl2y_)
 (case side2 => exact HC0_3.out)
 rintro e w' ⟨rfl, ⟨nd, rfl⟩⟩
 refine ⟨_, rfl, ?_⟩
 refine hK.out _ _ ⟨(kc_ BK1.out 0).trans rfl, (kc_ BK1.out 1).trans rfl, (kc_ BK1.out 2).trans rfl, (kc_ BK1.out 3).trans rfl, (kc_ BK1.out 4).trans rfl, hHeld.2.2.2.2.2.1, hHeld.2.2.2.2.2.2⟩ (fun hHeld => ?_)
 clear hK K
 refine nm_ 52 ?_
 refine pu_ 19 53 ?_
 refine pu_ 20 54 ?_
 refine dn_ ?_
 try go_wp2
 go_roundg k2
 case measure => have := HK1.out; have := HK2.out; omega
 exact ⟨(x7_2), (wrap64 (x8_2 + 1)), b2ew_, b2ew_, H', ⟨b0r5_⟩, ⟨bwik_⟩, ⟨b7sq_⟩, ⟨u1_ BK1⟩, ⟨be6g_⟩⟩

def spec_CrowdedGuests.f (k : Nat) (a0_0 : Int) (a0_1 : Bool) (l0_2 : List Int) (l0_3 : List Int) (a0_4 : Int) : Option (List Int × Bool) := (spec_l12Good.f k a0_0 a0_1 l0_2 l0_3 a0_4).bind fun t146 => (if t146 = true then ((spec_l12Crowded.f k a0_0 a0_1 l0_2 l0_3 a0_4).bind fun t147 => (some (t147, true))) else (some ((([] : List Int)), false)))
theorem spec_CrowdedGuests.mono : ∀ a0 a1 a2 a3 a4 k, LeO (spec_CrowdedGuests.f k a0 a1 a2 a3 a4) (spec_CrowdedGuests.f (k + 1) a0 a1 a2 a3 a4) := by
 intro a0 a1 a2 a3 a4 k
 unfold spec_CrowdedGuests.f
 repeat' with_reducible first | exact spec_l12Crowded.mono .. | exact spec_l12Good.mono .. | exact LeO.refl .. | exact LeO.none .. | refine LeO.ite ?_ ?_ | refine LeO.bind ?_ (fun _ => ?_)
theorem spec_CrowdedGuests.calls (k : Nat) (a0_0 : Int) (a0_1 : Bool) (A0_2 : Option Addr) (c0_2 : Nat) (l0_2 : List Int) (A0_3 : Option Addr) (c0_3 : Nat) (l0_3 : List Int) (a0_4 : Int) (r1 : List Int) (r2 : Bool) (w : World) (hr0_2 : Kd.C (Kd.int .i64) w A0_2 l0_2.length l0_2) (hc0_2 : l0_2.length ≤ c0_2) (hr0_3 : Kd.C (Kd.int .i64) w A0_3 l0_3.length l0_3) (hc0_3 : l0_3.length ≤ c0_3) (h : spec_CrowdedGuests.f k a0_0 a0_1 l0_2 l0_3 a0_4 = some (r1, r2)) :
  Calls Tryd.prog 13 #[.agg #[.int .i64 a0_0, .bool a0_1, .slice A0_2 l0_2.length c0_2, .slice A0_3 l0_3.length c0_3, .int .i64 a0_4]] w fun e w' => ∃ v0_ : Value, e = .returned (.tuple #[v0_, .bool r2]) ∧ Kd.R (Kd.int .i64) 3 w' w.heap.size (fun _ => True) v0_ r1 ∧ Below w.heap.size w w' := by
 have hu26 := Tryd.underlying26
 have HR0_2 := A0_ hr0_2
 have HC0_2 := A0_ hc0_2
 clear hr0_2 hc0_2
 have HR0_3 := A0_ hr0_3
 have HC0_3 := A0_ hc0_3
 clear hr0_3 hc0_3
 have HB := A0_ (Below.refl w.heap.size w)
 have H : ((spec_l12Good.f k a0_0 a0_1 l0_2 l0_3 a0_4).bind fun t1 => (if t1 = true then ((spec_l12Crowded.f k a0_0 a0_1 l0_2 l0_3 a0_4).bind fun t2 => (some (t2, true))) else (some ((([] : List Int)), false)))) = some (r1, r2) := h
 clear h
 obtain ⟨t1, A2, H⟩ := o1_ H
 by_cases c1 : t1 = true
 ·subst c1
  rw [if_pos rfl] at H
  obtain ⟨t2, A4, H⟩ := o1_ H
  replace H : (some (t2, true)) = some (r1, r2) := H
  simp only [sj_, pj_] at H
  obtain ⟨rfl, rfl⟩ := H
  go_enter Tryd.func13, Tryd.ntmps13
  go_wp2_with (first | ((with_reducible refine gd_ (N := 1) rfl ?_); refine bx_ 1 #[.int .i64 a0_0, .bool a0_1, .slice A0_2 l0_2.length c0_2, .slice A0_3 l0_3.length c0_3, .int .i64 a0_4] 26 ?_; intro gb1 hg w1 BK1 hb; have GW1 := ge_ hg brt4_; have GE1 := GW1; replace HB := hb_ hb brt4_; clear hb hg; have hcz1 := c5_ BK1) | ((with_reducible refine gc_ (f := 32) rfl ?_); refine gl_ 5 Tryd.func32 #[.agg #[.int .i64 a0_0, .bool a0_1, .slice A0_2 l0_2.length c0_2, .slice A0_3 l0_3.length c0_3, .int .i64 a0_4]] ?_; (with_reducible refine (spec_l12Good.calls k a0_0 a0_1 _ _ l0_2 _ _ l0_3 a0_4 true _ ?side1 ?side2 ?side3 ?side4 A2.out).mono ?_); (case side1 => exact b6n8_); (case side2 => exact HC0_2.out); (case side3 => exact bkan_); (case side4 => exact HC0_3.out); rintro e w2 ⟨rfl, hb⟩; refine ⟨_, rfl, ?_⟩; replace BK1 := k1_ BK1 hb; replace HB := hb_ hb be6g_; (try clear hb); have hcz2 := c5_ BK1) | ((with_reducible refine gc_ (f := 40) rfl ?_); refine gl_ 9 Tryd.func40 #[.agg #[.int .i64 a0_0, .bool a0_1, .slice A0_2 l0_2.length c0_2, .slice A0_3 l0_3.length c0_3, .int .i64 a0_4]] ?_; (with_reducible refine (spec_l12Crowded.calls k a0_0 a0_1 _ _ l0_2 _ _ l0_3 a0_4 t2 _ ?side1 ?side2 ?side3 ?side4 A4.out).mono ?_); (case side1 => exact b6n8_); (case side2 => exact HC0_2.out); (case side3 => exact bkan_); (case side4 => exact HC0_3.out); rintro e w3 ⟨v1, rfl, ho0, hb⟩; refine ⟨_, rfl, ?_⟩; have HO1 := A0_ (Kd.R_lower ho0 (bz_ be6g_)); replace BK1 := k1_ BK1 hb; replace HB := hb_ hb be6g_; (try clear hb); (try clear ho0)))
  go_ret2
  exact ⟨_, bnwh_, bsm5_, be6g_⟩
 obtain rfl := bf_.mpr c1
 rw [if_neg ft_] at H
 obtain ⟨y1, hy1⟩ : ∃ y_ : List Int, y_ = (([] : List Int)) := ⟨_, rfl⟩
 replace H : (some (y1, false)) = some (r1, r2) := bgiq_
 have Ny1 := A0_ hy1
 clear hy1
 simp only [sj_, pj_] at H
 obtain ⟨rfl, rfl⟩ := H
 go_enter Tryd.func13, Tryd.ntmps13
 go_wp2_with (first | ((with_reducible refine gd_ (N := 1) rfl ?_); refine bx_ 1 #[.int .i64 a0_0, .bool a0_1, .slice A0_2 l0_2.length c0_2, .slice A0_3 l0_3.length c0_3, .int .i64 a0_4] 26 ?_; intro gb1 hg w1 BK1 hb; have GW1 := ge_ hg brt4_; have GE1 := GW1; replace HB := hb_ hb brt4_; clear hb hg; have hcz1 := c5_ BK1) | ((with_reducible refine gc_ (f := 32) rfl ?_); refine gl_ 5 Tryd.func32 #[.agg #[.int .i64 a0_0, .bool a0_1, .slice A0_2 l0_2.length c0_2, .slice A0_3 l0_3.length c0_3, .int .i64 a0_4]] ?_; (with_reducible refine (spec_l12Good.calls k a0_0 a0_1 _ _ l0_2 _ _ l0_3 a0_4 false _ ?side1 ?side2 ?side3 ?side4 A2.out).mono ?_); (case side1 => exact b6n8_); (case side2 => exact HC0_2.out); (case side3 => exact bkan_); (case side4 => exact HC0_3.out); rintro e w2 ⟨rfl, hb⟩; refine ⟨_, rfl, ?_⟩; replace BK1 := k1_ BK1 hb; replace HB := hb_ hb be6g_; (try clear hb)) | ((with_reducible refine gd_ (N := 7) rfl ?_); refine Kd.R_lit (Kd.int .i64) _ 3 ?hg (N := 7) ?hd (xs := ([] : List Int)) (inner := []) (ok := fun _ => True) (okp := fun _ => True) ?hr ?hp (fun _ hk => hk) trivial (Below.refl _ _) (Nat.le_refl _) bxka_ ?_; (case hd => rfl); (case hg => rfl); (case hr => go_simp; first | done | rfl); (case hp => exact (Reps.none _ _)); intro v1 w3 ho14 hb hg_ hnew_; clear hg_ hnew_; (first | rw [← Ny1.out] at ho14 | (simp only [Int.reduceToNat] at ho14; rw [← Ny1.out] at ho14)); have HO1 := A0_ (Kd.R_lower ho14 (bz_ be6g_)); replace BK1 := k1_ BK1 hb; replace HB := hb_ hb be6g_; clear hb ho14))
 go_ret2
 exact ⟨_, bnwh_, bsm5_, be6g_⟩

def impl_within.f (a0 : Int) (a1 : Int) (a2 : Int) : Option (Bool) := if a0 ≥ a1 then (some (decide (a0 ≤ a2))) else (some false)
theorem impl_within.calls (a0 : Int) (a1 : Int) (a2 : Int) (r : Bool) (w : World) (h : impl_within.f a0 a1 a2 = some r) :
  Calls Tryd.prog 62 #[.int .i64 a0, .int .i64 a1, .int .i64 a2] w fun e w' => e = .returned (.bool r) ∧ Drawn0 w w' := by
 have H : (if a0 ≥ a1 then (some (decide (a0 ≤ a2))) else (some false)) = some r := h
 clear h
 by_cases c1 : a0 ≥ a1
 ·rw [if_pos c1] at H
  have c1b0 : decide (a1 ≤ a0) = true := dt_ c1
  clear c1
  obtain rfl := si_ H
  go_enter Tryd.func62, Tryd.ntmps62
  go_wp2
  go_ret
  exact ⟨b04z_, boaj_⟩
 rw [if_neg c1] at H
 have c1b0 : decide (a1 ≤ a0) = false := decide_eq_false c1
 clear c1
 obtain rfl := si_ H
 go_enter Tryd.func62, Tryd.ntmps62
 go_wp2
 go_ret
 exact ⟨b04z_, boaj_⟩

def impl_bench_valid.f (a0_0 : Int) (a0_1 : Bool) : Option (Bool) := (impl_within.f a0_0 2 24).bind fun t154 => (if t154 = true then (if a0_1 = true then (some (decide (a0_0 ≥ 3))) else (some true)) else (some false))
theorem impl_bench_valid.calls (a0_0 : Int) (a0_1 : Bool) (r : Bool) (w : World) (h : impl_bench_valid.f a0_0 a0_1 = some r) :
  Calls Tryd.prog 33 #[.agg #[.int .i64 a0_0, .bool a0_1]] w fun e w' => e = .returned (.bool r) ∧ Below w.heap.size w w' := by
 have hu58 := Tryd.underlying58
 have HB := A0_ (Below.refl w.heap.size w)
 have H : ((impl_within.f a0_0 2 24).bind fun t1 => (if t1 = true then (if a0_1 = true then (some (decide (a0_0 ≥ 3))) else (some true)) else (some false))) = some r := h
 clear h
 obtain ⟨t1, A2, H⟩ := o1_ H
 by_cases c1 : t1 = true
 case neg =>
  obtain rfl := bf_.mpr c1
  rw [if_neg ft_] at H
  obtain rfl := si_ H
  go_enter Tryd.func33, Tryd.ntmps33
  go_wp2_with (first | ((with_reducible refine gd_ (N := 1) rfl ?_); refine bx_ 1 #[.int .i64 a0_0, .bool a0_1] 58 ?_; intro gb1 hg w1 BK1 hb; have GW1 := ge_ hg brt4_; have GE1 := GW1; replace HB := hb_ hb brt4_; clear hb hg; have hcz1 := c2_ BK1) | ((with_reducible refine gc_ (f := 62) rfl ?_); refine gl_ 5 Tryd.func62 #[.int .i64 a0_0, .int .i64 2, .int .i64 24] ?_; (with_reducible refine (impl_within.calls a0_0 2 24 false _ A2.out).mono ?_); rintro e w' ⟨rfl, ⟨nd, rfl⟩⟩; refine ⟨_, rfl, ?_⟩))
  go_ret
  exact ⟨bnwh_, be6g_⟩
 subst c1
 rw [if_pos rfl] at H
 by_cases c2 : a0_1 = true
 ·subst c2
  rw [if_pos rfl] at H
  obtain rfl := si_ H
  go_enter Tryd.func33, Tryd.ntmps33
  go_wp2_with (first | ((with_reducible refine gd_ (N := 1) rfl ?_); refine bx_ 1 #[.int .i64 a0_0, .bool true] 58 ?_; intro gb1 hg w1 BK1 hb; have GW1 := ge_ hg brt4_; have GE1 := GW1; replace HB := hb_ hb brt4_; clear hb hg; have hcz1 := c2_ BK1) | ((with_reducible refine gc_ (f := 62) rfl ?_); refine gl_ 5 Tryd.func62 #[.int .i64 a0_0, .int .i64 2, .int .i64 24] ?_; (with_reducible refine (impl_within.calls a0_0 2 24 true _ A2.out).mono ?_); rintro e w' ⟨rfl, ⟨nd, rfl⟩⟩; refine ⟨_, rfl, ?_⟩))
  go_ret
  exact ⟨bnwh_, be6g_⟩
 obtain rfl := bf_.mpr c2
 rw [if_neg ft_] at H
 obtain rfl := si_ H
 go_enter Tryd.func33, Tryd.ntmps33
 go_wp2_with (first | ((with_reducible refine gd_ (N := 1) rfl ?_); refine bx_ 1 #[.int .i64 a0_0, .bool false] 58 ?_; intro gb1 hg w1 BK1 hb; have GW1 := ge_ hg brt4_; have GE1 := GW1; replace HB := hb_ hb brt4_; clear hb hg; have hcz1 := c2_ BK1) | ((with_reducible refine gc_ (f := 62) rfl ?_); refine gl_ 5 Tryd.func62 #[.int .i64 a0_0, .int .i64 2, .int .i64 24] ?_; (with_reducible refine (impl_within.calls a0_0 2 24 true _ A2.out).mono ?_); rintro e w' ⟨rfl, ⟨nd, rfl⟩⟩; refine ⟨_, rfl, ?_⟩))
 go_ret
 exact ⟨bnwh_, be6g_⟩

def impl_Row_bench.f (a0_0 : Int) (a0_1 : Bool) (l0_2 : List Int) : Option (Int × Bool) := some (a0_0, a0_1)
theorem impl_Row_bench.calls (a0_0 : Int) (a0_1 : Bool) (A0_2 : Option Addr) (c0_2 : Nat) (l0_2 : List Int) (r1 : Int) (r2 : Bool) (w : World) (hr0_2 : Kd.C (Kd.int .i64) w A0_2 l0_2.length l0_2) (hc0_2 : l0_2.length ≤ c0_2) (h : impl_Row_bench.f a0_0 a0_1 l0_2 = some (r1, r2)) :
  Calls Tryd.prog 44 #[.agg #[.int .i64 a0_0, .bool a0_1, .slice A0_2 l0_2.length c0_2]] w fun e w' => e = .returned (.agg #[.int .i64 r1, .bool r2]) ∧ Below w.heap.size w w' := by
 have hu24 := Tryd.underlying24
 have hu58 := Tryd.underlying58
 have HR0_2 := A0_ hr0_2
 have HC0_2 := A0_ hc0_2
 clear hr0_2 hc0_2
 have HB := A0_ (Below.refl w.heap.size w)
 have H : (some (a0_0, a0_1)) = some (r1, r2) := h
 clear h
 simp only [sj_, pj_] at H
 obtain ⟨rfl, rfl⟩ := H
 go_enter Tryd.func44, Tryd.ntmps44
 go_wp2_with (first | ((with_reducible refine gd_ (N := 1) rfl ?_); refine bx_ 1 #[.int .i64 a0_0, .bool a0_1, .slice A0_2 l0_2.length c0_2] 24 ?_; intro gb1 hg w1 BK1 hb; have GW1 := ge_ hg brt4_; have GE1 := GW1; replace HB := hb_ hb brt4_; clear hb hg) | ((with_reducible refine gd_ (N := 2) rfl ?_); refine bx_ 2 #[.int .i64 0, .bool false] 58 ?_; intro gb2 hg w2 BK2 hb; have GW2 := ge_ hg be6g_; have GE2 := GW2; replace HB := hb_ hb be6g_; have NB1_2 := nl_ hg BK1; have NB2_1 := ng_ hg BK1; replace BK1 := k1_ BK1 hb; clear hb hg; have hnb1 := NB1_2.out; have hnc1 := NB2_1.out; have hcz1 := z3_ BK1; have hcz2 := z2_ BK2))
 refine bodyPost_ret (results_cell_row rfl _ _ gb2 58 #[.int .i64 a0_0, .bool a0_1] (0, 0) _ rfl (u1_ BK2) Tryd.underlying58 rfl bfqv_) rfl ?_
 exact ⟨bnwh_, bfnq_⟩

def impl_allWithin.l0 : Nat → Int → Int → List Int → Int → Int → Option (Bool)
 | 0, _, _, _, _, _ => none
 | k + 1, x1, x2, x9, x10, x11 => if x11 < x10 then (if 0 ≤ x11 then (if x11 < (x9.length : Int) then ((impl_within.f (rd x9 x11) x1 x2).bind fun t158 => (if t158 = true then (impl_allWithin.l0 k x1 x2 x9 x10 (wrap64 (x11 + 1))) else (some false))) else (none)) else (none)) else (some true)
def impl_allWithin.f (k : Nat) (l0 : List Int) (a1 : Int) (a2 : Int) : Option (Bool) := impl_allWithin.l0 k a1 a2 l0 (l0.length : Int) 0
theorem impl_allWithin.mono_l : ∀ k, (∀ y0 y1 y2 y3 y4, LeO (impl_allWithin.l0 k y0 y1 y2 y3 y4) (impl_allWithin.l0 (k + 1) y0 y1 y2 y3 y4))
 | 0 => fun _ _ _ _ _ r h => by simp [impl_allWithin.l0] at h
 | k + 1 => by
  have ih0 := impl_allWithin.mono_l k
  ·intro y0 y1 y2 y3 y4
   unfold impl_allWithin.l0
   repeat' with_reducible first | exact ih0 .. | exact LeO.refl .. | exact LeO.none .. | refine LeO.ite ?_ ?_ | refine LeO.bind ?_ (fun _ => ?_)
theorem impl_allWithin.mono : ∀ a0 a1 a2 k, LeO (impl_allWithin.f k a0 a1 a2) (impl_allWithin.f (k + 1) a0 a1 a2) := by
 intro a0 a1 a2 k
 have ih0 := impl_allWithin.mono_l k
 unfold impl_allWithin.f
 repeat' with_reducible first | exact ih0 .. | exact LeO.refl .. | exact LeO.none .. | refine LeO.ite ?_ ?_ | refine LeO.bind ?_ (fun _ => ?_)
theorem impl_allWithin.calls (k : Nat) (A0 : Option Addr) (c0 : Nat) (l0 : List Int) (a1 : Int) (a2 : Int) (r : Bool) (w : World) (hr0 : Kd.C (Kd.int .i64) w A0 l0.length l0) (hc0 : l0.length ≤ c0) (h : impl_allWithin.f k l0 a1 a2 = some r) :
  Calls Tryd.prog 90 #[.slice A0 l0.length c0, .int .i64 a1, .int .i64 a2] w fun e w' => e = .returned (.bool r) ∧ Drawn0 w w' := by
 have HR0 := A0_ hr0
 have HC0 := A0_ hc0
 clear hr0 hc0
 have H : (impl_allWithin.l0 k a1 a2 l0 (l0.length : Int) 0) = some r := h
 clear h
 have H' := A0_ H
 clear H
 go_enter Tryd.func90, Tryd.ntmps90
 go_wp2
 go_loopg [11] k (fun kq v1 w' => ∃ (x11_1 : Int), v1 = .int .i64 x11_1 ∧ Aside0 (impl_allWithin.l0 kq a1 a2 l0 (l0.length : Int) x11_1 = some r) ∧ Aside0 (kq ≤ k) ∧ Drawn0 w w')
 case atStart => exact ⟨(0), b2ew_, H', ⟨Nat.le_refl _⟩, boaj_⟩
 clear H'
 obtain ⟨x11_1, rfl, HA, HK1, ⟨m1, rfl⟩⟩ := hrel
 cases gk with | zero => exact absurd HA.out (by simp [impl_allWithin.l0]) | succ k1 => ?_
 have H := HA.out
 clear HA
 simp only [impl_allWithin.l0] at H
 by_cases c1 : x11_1 < (l0.length : Int)
 case neg =>
  rw [if_neg c1] at H
  have c1b0 : decide (x11_1 < (l0.length : Int)) = false := decide_eq_false c1
  clear c1
  obtain rfl := si_ H
  go_wp2
  go_ret
  exact ⟨b04z_, boaj_⟩
 rw [if_pos c1] at H
 have c1b0 : decide (x11_1 < (l0.length : Int)) = true := dt_ c1
 clear c1
 by_cases c2 : 0 ≤ x11_1
 case neg =>
  rw [if_neg c2] at H
  exact absurd H bxka_
 rw [if_pos c2] at H
 have c2b0 : decide (0 ≤ x11_1) = true := dt_ c2
 clear c2
 by_cases c3 : x11_1 < (l0.length : Int)
 case neg =>
  rw [if_neg c3] at H
  exact absurd H bxka_
 rw [if_pos c3] at H
 have c3b0 : decide (x11_1 < (l0.length : Int)) = true := dt_ c3
 clear c3
 obtain ⟨t1, A2, H⟩ := o1_ H
 by_cases c4 : t1 = true
 case neg =>
  obtain rfl := bf_.mpr c4
  rw [if_neg ft_] at H
  obtain rfl := si_ H
  have p1 : 0 ≤ (x11_1 : Int) := od_ bpil_
  have q1 : x11_1 < (l0.length : Int) := od_ bpil_
  obtain ⟨ad1, e1, hx1_0⟩ := Kd.at_int HR0.out x11_1 p1 q1
  cases e1
  replace p1 := eq_true p1
  replace q1 := eq_true q1
  go_wp2_with (first | ((with_reducible refine gc_ (f := 62) rfl ?_); refine gl_ 18 Tryd.func62 #[.int .i64 (rd l0 x11_1), .int .i64 a1, .int .i64 a2] ?_; (with_reducible refine (impl_within.calls (rd l0 x11_1) a1 a2 false _ A2.out).mono ?_); rintro e w' ⟨rfl, ⟨nd, rfl⟩⟩; refine ⟨_, rfl, ?_⟩))
  go_ret
  exact ⟨b04z_, boaj_⟩
 subst c4
 rw [if_pos rfl] at H
 have H' := A0_ H
 clear H
 have p1 : 0 ≤ (x11_1 : Int) := od_ bpil_
 have q1 : x11_1 < (l0.length : Int) := od_ bpil_
 obtain ⟨ad1, e1, hx1_0⟩ := Kd.at_int HR0.out x11_1 p1 q1
 cases e1
 replace p1 := eq_true p1
 replace q1 := eq_true q1
 go_wp2_with (first | ((with_reducible refine gc_ (f := 62) rfl ?_); refine gl_ 18 Tryd.func62 #[.int .i64 (rd l0 x11_1), .int .i64 a1, .int .i64 a2] ?_; (with_reducible refine (impl_within.calls (rd l0 x11_1) a1 a2 true _ A2.out).mono ?_); rintro e w' ⟨rfl, ⟨nd, rfl⟩⟩; refine ⟨_, rfl, ?_⟩))
 go_roundg k1
 case measure => have := HK1.out; omega
 exact ⟨(wrap64 (x11_1 + 1)), b2ew_, H', ⟨bxjq_⟩, boaj_⟩

def impl_bench_has.f (k : Nat) (a0_0 : Int) (a0_1 : Bool) (l1 : List Int) : Option (Bool) := (impl_allWithin.f k l1 0 (wrap64 (a0_0 - 1))).bind fun t160 => (some t160)
theorem impl_bench_has.mono : ∀ a0 a1 a2 k, LeO (impl_bench_has.f k a0 a1 a2) (impl_bench_has.f (k + 1) a0 a1 a2) := by
 intro a0 a1 a2 k
 unfold impl_bench_has.f
 repeat' with_reducible first | exact impl_allWithin.mono .. | exact LeO.refl .. | exact LeO.none .. | refine LeO.ite ?_ ?_ | refine LeO.bind ?_ (fun _ => ?_)
theorem impl_bench_has.calls (k : Nat) (a0_0 : Int) (a0_1 : Bool) (A1 : Option Addr) (c1 : Nat) (l1 : List Int) (r : Bool) (w : World) (hr1 : Kd.C (Kd.int .i64) w A1 l1.length l1) (hc1 : l1.length ≤ c1) (h : impl_bench_has.f k a0_0 a0_1 l1 = some r) :
  Calls Tryd.prog 73 #[.agg #[.int .i64 a0_0, .bool a0_1], .slice A1 l1.length c1] w fun e w' => e = .returned (.bool r) ∧ Below w.heap.size w w' := by
 have hu58 := Tryd.underlying58
 have HR1 := A0_ hr1
 have HC1 := A0_ hc1
 clear hr1 hc1
 have HB := A0_ (Below.refl w.heap.size w)
 have H : ((impl_allWithin.f k l1 0 (wrap64 (a0_0 - 1))).bind fun t1 => (some t1)) = some r := h
 clear h
 obtain ⟨t1, A3, H⟩ := o1_ H
 replace H : (some t1) = some r := H
 obtain rfl := si_ H
 go_enter Tryd.func73, Tryd.ntmps73
 go_wp2_with (first | ((with_reducible refine gd_ (N := 2) rfl ?_); refine bx_ 2 #[.int .i64 a0_0, .bool a0_1] 58 ?_; intro gb1 hg w1 BK1 hb; have GW1 := ge_ hg brt4_; have GE1 := GW1; replace HB := hb_ hb brt4_; clear hb hg; have hcz1 := c2_ BK1) | ((with_reducible refine gc_ (f := 90) rfl ?_); refine gl_ 9 Tryd.func90 #[.slice A1 l1.length c1, .int .i64 0, .int .i64 (wrap64 (a0_0 - 1))] ?_; (with_reducible refine (impl_allWithin.calls k _ _ l1 0 (wrap64 (a0_0 - 1)) t1 _ ?side1 ?side2 A3.out).mono ?_); (case side1 => exact b3d8_); (case side2 => exact HC1.out); rintro e w' ⟨rfl, ⟨nd, rfl⟩⟩; refine ⟨_, rfl, ?_⟩))
 go_ret
 exact ⟨bnwh_, be6g_⟩

def impl_IsRow.l0 : Nat → List Int → Int → Int → Int → Bool → List Int → Option (Bool)
 | 0, _, _, _, _, _, _ => none
 | k + 1, x6, x7, x8, x162000, x162001, x162002 => if x8 < x7 then (if 0 ≤ x8 then (if x8 < (x6.length : Int) then ((impl_Row_bench.f x162000 x162001 x162002).bind fun bt166 => ((impl_bench_has.f k bt166.1 bt166.2 (([rd x6 x8] : List Int))).bind fun t171 => (if t171 = true then (if x8 > 0 then (if 0 ≤ (wrap64 (x8 - 1)) then (if (wrap64 (x8 - 1)) < (x162002.length : Int) then (if (rd x162002 (wrap64 (x8 - 1))) ≥ (rd x6 x8) then (some false) else (impl_IsRow.l0 k x6 x7 (wrap64 (x8 + 1)) x162000 x162001 x162002)) else (none)) else (none)) else (impl_IsRow.l0 k x6 x7 (wrap64 (x8 + 1)) x162000 x162001 x162002)) else (some false)))) else (none)) else (none)) else ((impl_Row_bench.f x162000 x162001 x162002).bind fun bt162 => ((impl_bench_valid.f bt162.1 bt162.2).bind fun t164 => (some t164)))
def impl_IsRow.f (k : Nat) (a0_0 : Int) (a0_1 : Bool) (l0_2 : List Int) : Option (Bool) := impl_IsRow.l0 k l0_2 (l0_2.length : Int) 0 a0_0 a0_1 l0_2
theorem impl_IsRow.mono_l : ∀ k, (∀ y0 y1 y2 y3 y4 y5, LeO (impl_IsRow.l0 k y0 y1 y2 y3 y4 y5) (impl_IsRow.l0 (k + 1) y0 y1 y2 y3 y4 y5))
 | 0 => fun _ _ _ _ _ _ r h => by simp [impl_IsRow.l0] at h
 | k + 1 => by
  have ih0 := impl_IsRow.mono_l k
  ·intro y0 y1 y2 y3 y4 y5
   unfold impl_IsRow.l0
   repeat' with_reducible first | exact ih0 .. | exact impl_bench_has.mono .. | exact LeO.refl .. | exact LeO.none .. | refine LeO.ite ?_ ?_ | refine LeO.bind ?_ (fun _ => ?_)
theorem impl_IsRow.mono : ∀ a0 a1 a2 k, LeO (impl_IsRow.f k a0 a1 a2) (impl_IsRow.f (k + 1) a0 a1 a2) := by
 intro a0 a1 a2 k
 have ih0 := impl_IsRow.mono_l k
 unfold impl_IsRow.f
 repeat' with_reducible first | exact ih0 .. | exact impl_bench_has.mono .. | exact LeO.refl .. | exact LeO.none .. | refine LeO.ite ?_ ?_ | refine LeO.bind ?_ (fun _ => ?_)
theorem impl_IsRow.calls (k : Nat) (a0_0 : Int) (a0_1 : Bool) (A0_2 : Option Addr) (c0_2 : Nat) (l0_2 : List Int) (r : Bool) (w : World) (hr0_2 : Kd.C (Kd.int .i64) w A0_2 l0_2.length l0_2) (hc0_2 : l0_2.length ≤ c0_2) (h : impl_IsRow.f k a0_0 a0_1 l0_2 = some r) :
  Calls Tryd.prog 55 #[.agg #[.int .i64 a0_0, .bool a0_1, .slice A0_2 l0_2.length c0_2]] w fun e w' => e = .returned (.bool r) ∧ Below w.heap.size w w' := by
 have hu24 := Tryd.underlying24
 have HR0_2 := A0_ hr0_2
 have HC0_2 := A0_ hc0_2
 clear hr0_2 hc0_2
 have HB := A0_ (Below.refl w.heap.size w)
 have H : (impl_IsRow.l0 k l0_2 (l0_2.length : Int) 0 a0_0 a0_1 l0_2) = some r := h
 clear h
 have H' := A0_ H
 clear H
 go_enter Tryd.func55, Tryd.ntmps55
 go_wp2_with (first | ((with_reducible refine gd_ (N := 1) rfl ?_); refine bx_ 1 #[.int .i64 a0_0, .bool a0_1, .slice A0_2 l0_2.length c0_2] 24 ?_; intro gb1 hg w1 BK1 hb; have GW1 := ge_ hg brt4_; have GE1 := GW1; replace HB := hb_ hb brt4_; clear hb hg; have hcz1 := c3_ BK1))
 go_loopg [8] k (fun kq v1 w' => ∃ (x8_1 : Int), v1 = .int .i64 x8_1 ∧ Aside0 (impl_IsRow.l0 kq l0_2 (l0_2.length : Int) x8_1 a0_0 a0_1 l0_2 = some r) ∧ Aside0 (kq ≤ k) ∧ Aside0 (w'.heap[gb1]? = some (.cells #[.int .i64 a0_0, .bool a0_1, (.slice A0_2 l0_2.length c0_2)] 24 (0, 0))) ∧ Aside0 (Below w.heap.size w w'))
 case atStart => exact ⟨(0), b2ew_, H', ⟨Nat.le_refl _⟩, ⟨u1_ BK1⟩, ⟨be6g_⟩⟩
 clear H'
 (try clear hcz1)
 obtain ⟨x8_1, rfl, HA, HK1, BK1, HB⟩ := hrel
 cases gk with | zero => exact absurd HA.out (by simp [impl_IsRow.l0]) | succ k1 => ?_
 have H := HA.out
 clear HA
 simp only [impl_IsRow.l0] at H
 by_cases c1 : x8_1 < (l0_2.length : Int)
 case neg =>
  rw [if_neg c1] at H
  have c1b0 : decide (x8_1 < (l0_2.length : Int)) = false := decide_eq_false c1
  clear c1
  obtain ⟨⟨t1, t2⟩, A2, H⟩ := o1_ H
  obtain ⟨t3, A4, H⟩ := o1_ H
  replace H : (some t3) = some r := H
  obtain rfl := si_ H
  have hcz2 := c3_ BK1
  go_wp2_with (first | ((with_reducible refine gc_ (f := 44) rfl ?_); refine gl_ 35 Tryd.func44 #[.agg #[.int .i64 a0_0, .bool a0_1, .slice A0_2 l0_2.length c0_2]] ?_; (with_reducible refine (impl_Row_bench.calls a0_0 a0_1 _ _ l0_2 t1 t2 _ ?side1 ?side2 A2.out).mono ?_); (case side1 => exact b6n8_); (case side2 => exact HC0_2.out); rintro e w2 ⟨rfl, hb⟩; refine ⟨_, rfl, ?_⟩; replace BK1 := k1_ BK1 hb; replace HB := hb_ hb be6g_; (try clear hb)) | ((with_reducible refine gc_ (f := 33) rfl ?_); refine gl_ 36 Tryd.func33 #[.agg #[.int .i64 t1, .bool t2]] ?_; (with_reducible refine (impl_bench_valid.calls t1 t2 t3 _ A4.out).mono ?_); rintro e w3 ⟨rfl, hb⟩; refine ⟨_, rfl, ?_⟩; replace BK1 := k1_ BK1 hb; replace HB := hb_ hb be6g_; (try clear hb)))
  go_ret
  exact ⟨bnwh_, be6g_⟩
 rw [if_pos c1] at H
 have c1b0 : decide (x8_1 < (l0_2.length : Int)) = true := dt_ c1
 clear c1
 by_cases c2 : 0 ≤ x8_1
 case neg =>
  rw [if_neg c2] at H
  exact absurd H bxka_
 rw [if_pos c2] at H
 have c2b0 : decide (0 ≤ x8_1) = true := dt_ c2
 clear c2
 by_cases c3 : x8_1 < (l0_2.length : Int)
 case neg =>
  rw [if_neg c3] at H
  exact absurd H bxka_
 rw [if_pos c3] at H
 have c3b0 : decide (x8_1 < (l0_2.length : Int)) = true := dt_ c3
 clear c3
 obtain ⟨⟨t1, t2⟩, A2, H⟩ := o1_ H
 obtain ⟨y1, hy1⟩ : ∃ y_ : List Int, y_ = (([rd l0_2 x8_1] : List Int)) := ⟨_, rfl⟩
 replace H : ((impl_bench_has.f k1 t1 t2 y1).bind fun t3 => (if t3 = true then (if x8_1 > 0 then (if 0 ≤ (wrap64 (x8_1 - 1)) then (if (wrap64 (x8_1 - 1)) < (l0_2.length : Int) then (if (rd l0_2 (wrap64 (x8_1 - 1))) ≥ (rd l0_2 x8_1) then (some false) else (impl_IsRow.l0 k1 l0_2 (l0_2.length : Int) (wrap64 (x8_1 + 1)) a0_0 a0_1 l0_2)) else (none)) else (none)) else (impl_IsRow.l0 k1 l0_2 (l0_2.length : Int) (wrap64 (x8_1 + 1)) a0_0 a0_1 l0_2)) else (some false))) = some r := bgiq_
 have Ny1 := A0_ hy1
 clear hy1
 obtain ⟨t3, A4, H⟩ := o1_ H
 by_cases c4 : t3 = true
 case neg =>
  obtain rfl := bf_.mpr c4
  rw [if_neg ft_] at H
  obtain rfl := si_ H
  have p1 : 0 ≤ (x8_1 : Int) := od_ bpil_
  have q1 : x8_1 < (l0_2.length : Int) := od_ bpil_
  obtain ⟨ad1, e1, hx1_0⟩ := Kd.at_int HR0_2.out x8_1 p1 q1
  cases e1
  replace hx1_0 := (HB.out.cell (World.block_lt_of_cell? w _ hx1_0)).trans hx1_0
  replace p1 := eq_true p1
  replace q1 := eq_true q1
  have hcz2 := c3_ BK1
  go_wp2_with (first | ((with_reducible refine gc_ (f := 44) rfl ?_); refine gl_ 14 Tryd.func44 #[.agg #[.int .i64 a0_0, .bool a0_1, .slice (some ad1) l0_2.length c0_2]] ?_; (with_reducible refine (impl_Row_bench.calls a0_0 a0_1 _ _ l0_2 t1 t2 _ ?side1 ?side2 A2.out).mono ?_); (case side1 => exact b6n8_); (case side2 => exact HC0_2.out); rintro e w2 ⟨rfl, hb⟩; refine ⟨_, rfl, ?_⟩; replace BK1 := k1_ BK1 hb; replace HB := hb_ hb be6g_; (try clear hb)) | ((with_reducible refine gd_ (N := 16) rfl ?_); refine Kd.R_lit (Kd.int .i64) _ 3 ?hg (N := 16) ?hd (xs := ([rd l0_2 x8_1] : List Int)) (inner := [.int .i64 (rd l0_2 x8_1)]) (ok := fun _ => True) (okp := fun _ => True) ?hr ?hp (fun _ hk => hk) trivial (Below.refl _ _) (Nat.le_refl _) bxka_ ?_; (case hd => rfl); (case hg => rfl); (case hr => go_simp; first | done | rfl); (case hp => exact (Reps.one (show Kd.M (Kd.int .i64) _ _ _ (rd l0_2 x8_1) [.int .i64 (rd l0_2 x8_1)] from rfl) (Reps.none _ _))); intro v2 w3 ho38 hb hg_ hnew_; clear hg_ hnew_; (first | rw [← Ny1.out] at ho38 | (simp only [Int.reduceToNat] at ho38; rw [← Ny1.out] at ho38)); have HO1 := A0_ (Kd.R_lower ho38 (bz_ be6g_)); replace BK1 := k1_ BK1 hb; replace HB := hb_ hb be6g_; clear hb ho38; obtain ⟨Ao1, co1, eo1⟩ := Kd.R_slice HO1.out; subst eo1) | ((with_reducible refine gc_ (f := 73) rfl ?_); refine gl_ 17 Tryd.func73 #[.agg #[.int .i64 t1, .bool t2], .slice Ao1 y1.length co1] ?_; (with_reducible refine (impl_bench_has.calls k1 t1 t2 _ _ y1 false _ ?side1 ?side2 A4.out).mono ?_); (case side1 => exact bayy_); (case side2 => exact (rr_ HO1.out).2.1); rintro e w4 ⟨rfl, hb⟩; refine ⟨_, rfl, ?_⟩; replace HO1 := A0_ (Kd.R_below bsm5_ hb); replace BK1 := k1_ BK1 hb; replace HB := hb_ hb be6g_; (try clear hb)))
  go_ret
  exact ⟨bnwh_, be6g_⟩
 subst c4
 rw [if_pos rfl] at H
 by_cases c5 : x8_1 > 0
 case neg =>
  rw [if_neg c5] at H
  have c5b0 : decide (0 < x8_1) = false := decide_eq_false c5
  clear c5
  have H' := A0_ H
  clear H
  have p1 : 0 ≤ (x8_1 : Int) := od_ bpil_
  have q1 : x8_1 < (l0_2.length : Int) := od_ bpil_
  obtain ⟨ad1, e1, hx1_0⟩ := Kd.at_int HR0_2.out x8_1 p1 q1
  cases e1
  replace hx1_0 := (HB.out.cell (World.block_lt_of_cell? w _ hx1_0)).trans hx1_0
  replace p1 := eq_true p1
  replace q1 := eq_true q1
  have hcz2 := c3_ BK1
  go_wp2_with (first | ((with_reducible refine gc_ (f := 44) rfl ?_); refine gl_ 14 Tryd.func44 #[.agg #[.int .i64 a0_0, .bool a0_1, .slice (some ad1) l0_2.length c0_2]] ?_; (with_reducible refine (impl_Row_bench.calls a0_0 a0_1 _ _ l0_2 t1 t2 _ ?side1 ?side2 A2.out).mono ?_); (case side1 => exact b6n8_); (case side2 => exact HC0_2.out); rintro e w2 ⟨rfl, hb⟩; refine ⟨_, rfl, ?_⟩; replace BK1 := k1_ BK1 hb; replace HB := hb_ hb be6g_; (try clear hb)) | ((with_reducible refine gd_ (N := 16) rfl ?_); refine Kd.R_lit (Kd.int .i64) _ 3 ?hg (N := 16) ?hd (xs := ([rd l0_2 x8_1] : List Int)) (inner := [.int .i64 (rd l0_2 x8_1)]) (ok := fun _ => True) (okp := fun _ => True) ?hr ?hp (fun _ hk => hk) trivial (Below.refl _ _) (Nat.le_refl _) bxka_ ?_; (case hd => rfl); (case hg => rfl); (case hr => go_simp; first | done | rfl); (case hp => exact (Reps.one (show Kd.M (Kd.int .i64) _ _ _ (rd l0_2 x8_1) [.int .i64 (rd l0_2 x8_1)] from rfl) (Reps.none _ _))); intro v2 w3 ho32 hb hg_ hnew_; clear hg_ hnew_; (first | rw [← Ny1.out] at ho32 | (simp only [Int.reduceToNat] at ho32; rw [← Ny1.out] at ho32)); have HO1 := A0_ (Kd.R_lower ho32 (bz_ be6g_)); replace BK1 := k1_ BK1 hb; replace HB := hb_ hb be6g_; clear hb ho32; obtain ⟨Ao1, co1, eo1⟩ := Kd.R_slice HO1.out; subst eo1) | ((with_reducible refine gc_ (f := 73) rfl ?_); refine gl_ 17 Tryd.func73 #[.agg #[.int .i64 t1, .bool t2], .slice Ao1 y1.length co1] ?_; (with_reducible refine (impl_bench_has.calls k1 t1 t2 _ _ y1 true _ ?side1 ?side2 A4.out).mono ?_); (case side1 => exact bayy_); (case side2 => exact (rr_ HO1.out).2.1); rintro e w4 ⟨rfl, hb⟩; refine ⟨_, rfl, ?_⟩; replace HO1 := A0_ (Kd.R_below bsm5_ hb); replace BK1 := k1_ BK1 hb; replace HB := hb_ hb be6g_; (try clear hb)))
  go_roundg k1
  case measure => have := HK1.out; omega
  exact ⟨(wrap64 (x8_1 + 1)), b2ew_, H', ⟨bxjq_⟩, ⟨u1_ BK1⟩, ⟨be6g_⟩⟩
 rw [if_pos c5] at H
 have c5b0 : decide (0 < x8_1) = true := dt_ c5
 clear c5
 obtain ⟨ji1, hji1⟩ : ∃ j_ : Int, (wrap64 (x8_1 - 1)) = j_ := ⟨_, rfl⟩
 replace H : (if 0 ≤ (ji1) then (if (ji1) < (l0_2.length : Int) then (if (rd l0_2 (ji1)) ≥ (rd l0_2 x8_1) then (some false) else (impl_IsRow.l0 k1 l0_2 (l0_2.length : Int) (wrap64 (x8_1 + 1)) a0_0 a0_1 l0_2)) else (none)) else (none)) = some r := bmns_
 (try rw [hji1] at A2)
 (try rw [hji1] at A4)
 have hji11w : (IntKind.i64.wrap (x8_1 - 1)) = ji1 := (i64_w _).trans hji1
 by_cases c6 : 0 ≤ (ji1)
 case neg =>
  rw [if_neg c6] at H
  exact absurd H bxka_
 rw [if_pos c6] at H
 have c6b0 : decide (0 ≤ (ji1)) = true := dt_ c6
 clear c6
 by_cases c7 : (ji1) < (l0_2.length : Int)
 case neg =>
  rw [if_neg c7] at H
  exact absurd H bxka_
 rw [if_pos c7] at H
 have c7b0 : decide ((ji1) < (l0_2.length : Int)) = true := dt_ c7
 clear c7
 by_cases c8 : (rd l0_2 (ji1)) ≥ (rd l0_2 x8_1)
 case neg =>
  rw [if_neg c8] at H
  have c8b0 : decide ((rd l0_2 x8_1) ≤ (rd l0_2 (ji1))) = false := decide_eq_false c8
  clear c8
  have H' := A0_ H
  clear H
  have p1 : 0 ≤ (x8_1 : Int) := od_ bpil_
  have q1 : x8_1 < (l0_2.length : Int) := od_ bpil_
  obtain ⟨ad1, e1, hx1_0⟩ := Kd.at_int HR0_2.out x8_1 p1 q1
  cases e1
  replace hx1_0 := (HB.out.cell (World.block_lt_of_cell? w _ hx1_0)).trans hx1_0
  replace p1 := eq_true p1
  replace q1 := eq_true q1
  have hcz2 := c3_ BK1
  go_wp2_with (first | ((with_reducible refine gc_ (f := 44) rfl ?_); refine gl_ 14 Tryd.func44 #[.agg #[.int .i64 a0_0, .bool a0_1, .slice (some ad1) l0_2.length c0_2]] ?_; (with_reducible refine (impl_Row_bench.calls a0_0 a0_1 _ _ l0_2 t1 t2 _ ?side1 ?side2 A2.out).mono ?_); (case side1 => exact b6n8_); (case side2 => exact HC0_2.out); rintro e w2 ⟨rfl, hb⟩; refine ⟨_, rfl, ?_⟩; replace BK1 := k1_ BK1 hb; replace HB := hb_ hb be6g_; (try clear hb)) | ((with_reducible refine gd_ (N := 16) rfl ?_); refine Kd.R_lit (Kd.int .i64) _ 3 ?hg (N := 16) ?hd (xs := ([rd l0_2 x8_1] : List Int)) (inner := [.int .i64 (rd l0_2 x8_1)]) (ok := fun _ => True) (okp := fun _ => True) ?hr ?hp (fun _ hk => hk) trivial (Below.refl _ _) (Nat.le_refl _) bxka_ ?_; (case hd => rfl); (case hg => rfl); (case hr => go_simp; first | done | rfl); (case hp => exact (Reps.one (show Kd.M (Kd.int .i64) _ _ _ (rd l0_2 x8_1) [.int .i64 (rd l0_2 x8_1)] from rfl) (Reps.none _ _))); intro v2 w3 ho25 hb hg_ hnew_; clear hg_ hnew_; (first | rw [← Ny1.out] at ho25 | (simp only [Int.reduceToNat] at ho25; rw [← Ny1.out] at ho25)); have HO1 := A0_ (Kd.R_lower ho25 (bz_ be6g_)); replace BK1 := k1_ BK1 hb; replace HB := hb_ hb be6g_; clear hb ho25; obtain ⟨Ao1, co1, eo1⟩ := Kd.R_slice HO1.out; subst eo1) | ((with_reducible refine gc_ (f := 73) rfl ?_); refine gl_ 17 Tryd.func73 #[.agg #[.int .i64 t1, .bool t2], .slice Ao1 y1.length co1] ?_; (with_reducible refine (impl_bench_has.calls k1 t1 t2 _ _ y1 true _ ?side1 ?side2 A4.out).mono ?_); (case side1 => exact bayy_); (case side2 => exact (rr_ HO1.out).2.1); rintro e w4 ⟨rfl, hb⟩; refine ⟨_, rfl, ?_⟩; replace HO1 := A0_ (Kd.R_below bsm5_ hb); replace BK1 := k1_ BK1 hb; replace HB := hb_ hb be6g_; (try clear hb); have hcz3 := c3_ BK1; have p2 : 0 ≤ ((ji1) : Int) := od_ bpil_; have q2 : (ji1) < (l0_2.length : Int) := od_ bpil_; obtain ⟨ad2, e2, hx2_0⟩ := Kd.at_int HR0_2.out (ji1) p2 q2; obtain rfl : ad1 = ad2 := bs6y_; replace hx2_0 := (HB.out.cell (World.block_lt_of_cell? w _ hx2_0)).trans hx2_0; replace p2 := eq_true p2; replace q2 := eq_true q2))
  go_roundg k1
  case measure => have := HK1.out; omega
  exact ⟨(wrap64 (x8_1 + 1)), b2ew_, H', ⟨bxjq_⟩, ⟨u1_ BK1⟩, ⟨be6g_⟩⟩
 rw [if_pos c8] at H
 have c8b0 : decide ((rd l0_2 x8_1) ≤ (rd l0_2 (ji1))) = true := dt_ c8
 clear c8
 obtain rfl := si_ H
 have p1 : 0 ≤ (x8_1 : Int) := od_ bpil_
 have q1 : x8_1 < (l0_2.length : Int) := od_ bpil_
 obtain ⟨ad1, e1, hx1_0⟩ := Kd.at_int HR0_2.out x8_1 p1 q1
 cases e1
 replace hx1_0 := (HB.out.cell (World.block_lt_of_cell? w _ hx1_0)).trans hx1_0
 replace p1 := eq_true p1
 replace q1 := eq_true q1
 have hcz2 := c3_ BK1
 go_wp2_with (first | ((with_reducible refine gc_ (f := 44) rfl ?_); refine gl_ 14 Tryd.func44 #[.agg #[.int .i64 a0_0, .bool a0_1, .slice (some ad1) l0_2.length c0_2]] ?_; (with_reducible refine (impl_Row_bench.calls a0_0 a0_1 _ _ l0_2 t1 t2 _ ?side1 ?side2 A2.out).mono ?_); (case side1 => exact b6n8_); (case side2 => exact HC0_2.out); rintro e w2 ⟨rfl, hb⟩; refine ⟨_, rfl, ?_⟩; replace BK1 := k1_ BK1 hb; replace HB := hb_ hb be6g_; (try clear hb)) | ((with_reducible refine gd_ (N := 16) rfl ?_); refine Kd.R_lit (Kd.int .i64) _ 3 ?hg (N := 16) ?hd (xs := ([rd l0_2 x8_1] : List Int)) (inner := [.int .i64 (rd l0_2 x8_1)]) (ok := fun _ => True) (okp := fun _ => True) ?hr ?hp (fun _ hk => hk) trivial (Below.refl _ _) (Nat.le_refl _) bxka_ ?_; (case hd => rfl); (case hg => rfl); (case hr => go_simp; first | done | rfl); (case hp => exact (Reps.one (show Kd.M (Kd.int .i64) _ _ _ (rd l0_2 x8_1) [.int .i64 (rd l0_2 x8_1)] from rfl) (Reps.none _ _))); intro v2 w3 ho18 hb hg_ hnew_; clear hg_ hnew_; (first | rw [← Ny1.out] at ho18 | (simp only [Int.reduceToNat] at ho18; rw [← Ny1.out] at ho18)); have HO1 := A0_ (Kd.R_lower ho18 (bz_ be6g_)); replace BK1 := k1_ BK1 hb; replace HB := hb_ hb be6g_; clear hb ho18; obtain ⟨Ao1, co1, eo1⟩ := Kd.R_slice HO1.out; subst eo1) | ((with_reducible refine gc_ (f := 73) rfl ?_); refine gl_ 17 Tryd.func73 #[.agg #[.int .i64 t1, .bool t2], .slice Ao1 y1.length co1] ?_; (with_reducible refine (impl_bench_has.calls k1 t1 t2 _ _ y1 true _ ?side1 ?side2 A4.out).mono ?_); (case side1 => exact bayy_); (case side2 => exact (rr_ HO1.out).2.1); rintro e w4 ⟨rfl, hb⟩; refine ⟨_, rfl, ?_⟩; replace HO1 := A0_ (Kd.R_below bsm5_ hb); replace BK1 := k1_ BK1 hb; replace HB := hb_ hb be6g_; (try clear hb); have hcz3 := c3_ BK1; have p2 : 0 ≤ ((ji1) : Int) := od_ bpil_; have q2 : (ji1) < (l0_2.length : Int) := od_ bpil_; obtain ⟨ad2, e2, hx2_0⟩ := Kd.at_int HR0_2.out (ji1) p2 q2; obtain rfl : ad1 = ad2 := bs6y_; replace hx2_0 := (HB.out.cell (World.block_lt_of_cell? w _ hx2_0)).trans hx2_0; replace p2 := eq_true p2; replace q2 := eq_true q2))
 go_ret
 exact ⟨bfw0_, be6g_⟩

def slices_Equal_int_int.l0 : Nat → List Int → List Int → Int → Int → Option (Bool)
 | 0, _, _, _, _ => none
 | k + 1, x0, x1, x12, x13 => if x13 < x12 then (if 0 ≤ x13 then (if x13 < (x0.length : Int) then (if x13 < (x1.length : Int) then (if (rd x0 x13) = (rd x1 x13) then (slices_Equal_int_int.l0 k x0 x1 x12 (wrap64 (x13 + 1))) else (some false)) else (none)) else (none)) else (none)) else (some true)
def slices_Equal_int_int.f (k : Nat) (l0 : List Int) (l1 : List Int) : Option (Bool) := if (l0.length : Int) = (l1.length : Int) then (slices_Equal_int_int.l0 k l0 l1 (l0.length : Int) 0) else (some false)
theorem slices_Equal_int_int.mono_l : ∀ k, (∀ y0 y1 y2 y3, LeO (slices_Equal_int_int.l0 k y0 y1 y2 y3) (slices_Equal_int_int.l0 (k + 1) y0 y1 y2 y3))
 | 0 => fun _ _ _ _ r h => by simp [slices_Equal_int_int.l0] at h
 | k + 1 => by
  have ih0 := slices_Equal_int_int.mono_l k
  ·intro y0 y1 y2 y3
   unfold slices_Equal_int_int.l0
   repeat' with_reducible first | exact ih0 .. | exact LeO.refl .. | exact LeO.none .. | refine LeO.ite ?_ ?_ | refine LeO.bind ?_ (fun _ => ?_)
theorem slices_Equal_int_int.mono : ∀ a0 a1 k, LeO (slices_Equal_int_int.f k a0 a1) (slices_Equal_int_int.f (k + 1) a0 a1) := by
 intro a0 a1 k
 have ih0 := slices_Equal_int_int.mono_l k
 unfold slices_Equal_int_int.f
 repeat' with_reducible first | exact ih0 .. | exact LeO.refl .. | exact LeO.none .. | refine LeO.ite ?_ ?_ | refine LeO.bind ?_ (fun _ => ?_)
theorem slices_Equal_int_int.calls (k : Nat) (A0 : Option Addr) (c0 : Nat) (l0 : List Int) (A1 : Option Addr) (c1 : Nat) (l1 : List Int) (r : Bool) (w : World) (hr0 : Kd.C (Kd.int .i64) w A0 l0.length l0) (hc0 : l0.length ≤ c0) (hr1 : Kd.C (Kd.int .i64) w A1 l1.length l1) (hc1 : l1.length ≤ c1) (h : slices_Equal_int_int.f k l0 l1 = some r) :
  Calls Tryd.prog 65 #[.slice A0 l0.length c0, .slice A1 l1.length c1] w fun e w' => e = .returned (.bool r) ∧ Drawn0 w w' := by
 have HR0 := A0_ hr0
 have HC0 := A0_ hc0
 clear hr0 hc0
 have HR1 := A0_ hr1
 have HC1 := A0_ hc1
 clear hr1 hc1
 have H : (if (l0.length : Int) = (l1.length : Int) then (slices_Equal_int_int.l0 k l0 l1 (l0.length : Int) 0) else (some false)) = some r := h
 clear h
 by_cases c2 : (l0.length : Int) = (l1.length : Int)
 case neg =>
  rw [if_neg c2] at H
  obtain ⟨c2b0, c2b1⟩ := ef_ c2
  have c2b2 : (l0.length == l1.length) = false := bds5_
  obtain rfl := si_ H
  go_enter Tryd.func65, Tryd.ntmps65
  go_wp2
  repeat (go_quiet (fail); try go_wp2)
  go_ret
  exact ⟨b04z_, boaj_⟩
 rw [if_pos c2] at H
 obtain ⟨c2b0, c2b1⟩ := et_ c2
 have c2b2 : (l0.length == l1.length) = true := bds5_
 clear c2
 have H' := A0_ H
 clear H
 go_enter Tryd.func65, Tryd.ntmps65
 go_wp2
 repeat (go_quiet (fail); try go_wp2)
 go_loopg [13] k (fun kq v1 w' => ∃ (x13_1 : Int), v1 = .int .i64 x13_1 ∧ Aside0 (slices_Equal_int_int.l0 kq l0 l1 (l0.length : Int) x13_1 = some r) ∧ Aside0 (kq ≤ k) ∧ Drawn0 w w')
 case atStart => exact ⟨(0), b2ew_, H', ⟨Nat.le_refl _⟩, boaj_⟩
 clear H'
 try clear c1
 try clear c2
 try clear c2b0
 try clear c2b1
 try clear c2b2
 obtain ⟨x13_1, rfl, HA, HK1, ⟨m1, rfl⟩⟩ := hrel
 cases gk with | zero => exact absurd HA.out (by simp [slices_Equal_int_int.l0]) | succ k1 => ?_
 have H := HA.out
 clear HA
 simp only [slices_Equal_int_int.l0] at H
 by_cases c3 : x13_1 < (l0.length : Int)
 case neg =>
  rw [if_neg c3] at H
  have c3b0 : decide (x13_1 < (l0.length : Int)) = false := decide_eq_false c3
  clear c3
  obtain rfl := si_ H
  go_wp2
  repeat (go_quiet (fail); try go_wp2)
  go_ret
  exact ⟨b04z_, boaj_⟩
 rw [if_pos c3] at H
 have c3b0 : decide (x13_1 < (l0.length : Int)) = true := dt_ c3
 clear c3
 by_cases c4 : 0 ≤ x13_1
 case neg =>
  rw [if_neg c4] at H
  exact absurd H bxka_
 rw [if_pos c4] at H
 have c4b0 : decide (0 ≤ x13_1) = true := dt_ c4
 clear c4
 by_cases c5 : x13_1 < (l0.length : Int)
 case neg =>
  rw [if_neg c5] at H
  exact absurd H bxka_
 rw [if_pos c5] at H
 have c5b0 : decide (x13_1 < (l0.length : Int)) = true := dt_ c5
 clear c5
 by_cases c6 : x13_1 < (l1.length : Int)
 case neg =>
  rw [if_neg c6] at H
  exact absurd H bxka_
 rw [if_pos c6] at H
 have c6b0 : decide (x13_1 < (l1.length : Int)) = true := dt_ c6
 clear c6
 by_cases c7 : (rd l0 x13_1) = (rd l1 x13_1)
 case neg =>
  rw [if_neg c7] at H
  obtain ⟨c7b0, c7b1⟩ := ef_ c7
  obtain rfl := si_ H
  have p1 : 0 ≤ (x13_1 : Int) := od_ bpil_
  have q1 : x13_1 < (l0.length : Int) := od_ bpil_
  obtain ⟨ad1, e1, hx1_0⟩ := Kd.at_int HR0.out x13_1 p1 q1
  cases e1
  replace p1 := eq_true p1
  replace q1 := eq_true q1
  have p2 : 0 ≤ (x13_1 : Int) := od_ bpil_
  have q2 : x13_1 < (l1.length : Int) := od_ bpil_
  obtain ⟨ad2, e2, hx2_0⟩ := Kd.at_int HR1.out x13_1 p2 q2
  cases e2
  replace p2 := eq_true p2
  replace q2 := eq_true q2
  go_wp2
  repeat (go_quiet (fail); try go_wp2)
  go_ret
  exact ⟨b04z_, boaj_⟩
 rw [if_pos c7] at H
 obtain ⟨c7b0, c7b1⟩ := et_ c7
 clear c7
 have H' := A0_ H
 clear H
 have p1 : 0 ≤ (x13_1 : Int) := od_ bpil_
 have q1 : x13_1 < (l0.length : Int) := od_ bpil_
 obtain ⟨ad1, e1, hx1_0⟩ := Kd.at_int HR0.out x13_1 p1 q1
 cases e1
 replace p1 := eq_true p1
 replace q1 := eq_true q1
 have p2 : 0 ≤ (x13_1 : Int) := od_ bpil_
 have q2 : x13_1 < (l1.length : Int) := od_ bpil_
 obtain ⟨ad2, e2, hx2_0⟩ := Kd.at_int HR1.out x13_1 p2 q2
 cases e2
 replace p2 := eq_true p2
 replace q2 := eq_true q2
 go_wp2
 repeat (go_quiet (fail); try go_wp2)
 go_roundg k1
 case measure => have := HK1.out; omega
 exact ⟨(wrap64 (x13_1 + 1)), b2ew_, H', ⟨bxjq_⟩, boaj_⟩

section
open Go.Shelf Go.Sort
attribute [local go_sem] Oper.semAt_some
theorem Sv.addb (a : Addr) (i : Nat) : (a.add i).block = a.block := by unfold Addr.add; split <;> rfl
def Sv.upto {α : Type} (f : Nat → α) (k : Nat) : List α := (List.range k).map f
theorem Sv.upto_succ {α : Type} (f : Nat → α) (k : Nat) : Sv.upto f (k + 1) = Sv.upto f k ++ [f k] := by simp [Sv.upto, List.range_succ]
theorem Sv.upto_length {α : Type} (f : Nat → α) (k : Nat) : (Sv.upto f k).length = k := by simp [Sv.upto]
theorem Sv.upto_all (zs : List Int) : Sv.upto (fun j => zs[j]?.getD 0) zs.length = zs := by
 apply List.ext_getElem
 ·simp [Sv.upto]
 ·intro i h1 h2
  simp [Sv.upto, h2]

set_option maxRecDepth 100000 in
set_option maxHeartbeats 2000000 in
theorem Sv.values1_in (F : Fence) (n : Nat) (h7 : F.fn 83) (hro : F.round = none) (hn : 1 ≤ n) (l Bs n₀ len cap : Nat) (ad : Addr) (zs : List Int) (hreach : len * 8 ≤ 140737488351232) (hb : ad.block < n₀) (J Jx : List Int → World → Prop)
  (hY : ∀ pre x W, J pre W → pre.length < len → YieldAt F (n - 1) Tryd.prog l #[.int .i64 x] W fun e W' =>
   (e = .returned (.bool true) ∧ J (pre ++ [x]) W' ∧ Below n₀ W W') ∨ (e = .returned (.bool false) ∧ Jx (pre ++ [x]) W'))
  (W : World) (hBs : W.cell? ⟨Bs, 0, none⟩ = some (.slice (some ad) len cap)) (hc : ∀ j, j < len → W.cell? (ad.add j) = some (.int .i64 (zs[j]?.getD 0))) (h0 : J [] W) :
  CallsIn F n Tryd.prog 83 #[.func (.yield l) #[] #[], .pointer (some ⟨Bs, 0, none⟩)] W fun e W' => (∃ v, e = .returned v) ∧
   ((∃ ys, ys = Sv.upto (fun j => zs[j]?.getD 0) len ∧ J ys W') ∨ (∃ pre, (∃ k, k ≤ len ∧ pre = Sv.upto (fun j => zs[j]?.getD 0) k) ∧ Jx pre W')) := by
 refine callsIn_of_wp Tryd.func83 rfl h7 ?_ hro
 simp only [Tryd.ntmps83, List.size_toArray, List.length_cons, List.length_nil, Nat.reduceAdd, Nat.reduceSub, Array.replicate_succ, Array.replicate_zero, List.push_toArray, List.append_toArray, List.nil_append, List.cons_append]
 gi_wp2
 gi_loopw [7] (fun i wr => ∃ k : Nat, k ≤ len ∧ i = .int .i64 k ∧ J (Sv.upto (fun j => zs[j]?.getD 0) k) wr ∧ Below n₀ W wr)
  (fun i _ => len - (intOf i).toNat)
 case atStart => exact ⟨0, Nat.zero_le _, rfl, h0, Below.refl _ _⟩
 case round =>
  obtain ⟨k, hk, rfl, hJs, hnx⟩ := hrel
  have hcx : k < len → wr.cell? (ad.add k) = some (.int .i64 (zs[k]?.getD 0)) := fun h => (hnx.cell (p := ad.add k) (by rw [Sv.addb]; exact hb)).trans (hc k h)
  by_cases hlt : k < len
  ·obtain ⟨fn, tmps, assign, body, hy, hR⟩ := hY _ (zs[k]?.getD 0) wr hJs (by rw [Sv.upto_length]; exact hlt)
   have hcx' := hcx hlt
   gi_wp2
   refine hR.mono ?_
   rintro e W3 (⟨rfl, hJ3, hk3⟩ | ⟨rfl, hJx3⟩)
   ·-- THE ROUND GOES ON
    gi_wp2
    go_roundw
    case rel => exact ⟨k + 1, bh19_, bxka_, by rw [Sv.upto_succ]; exact hJ3, hnx.trans hk3⟩
    case measure => simp [intOf]; omega
   ·gi_wp2
    refine bodyPost_ret (results_none rfl _ _ _) rfl ?_
    exact ⟨⟨_, rfl⟩, .inr ⟨_, ⟨k + 1, bh19_, (Sv.upto_succ _ _).symm⟩, hJx3⟩⟩
  ·obtain rfl : k = len := by omega
   gi_wp2
   go_end0
   exact ⟨⟨_, rfl⟩, .inl ⟨_, rfl, hJs⟩⟩

theorem Sv.upto_take (zs : List Int) {k : Nat} (hk : k ≤ zs.length) : Sv.upto (fun j => zs[j]?.getD 0) k = zs.take k := by
 apply List.ext_getElem
 ·simp [Sv.upto, hk]
 ·intro i h1 h2
  have : i < zs.length := by simp [Sv.upto] at h1; omega
  simp [Sv.upto, this]

def Sv.Ints (n₀ : Nat) (W : World) (sv : Value) (zs : List Int) : Prop :=
 (zs = [] ∧ ∃ A cap, sv = .slice A 0 cap) ∨ ∃ ad cap, sv = .slice (some ad) zs.length cap ∧ ad.block < n₀ ∧ ∀ j, j < zs.length → W.cell? (ad.add j) = some (.int .i64 (zs[j]?.getD 0))
theorem Sv.Ints.below {n₀ : Nat} {A B : World} (h : Below n₀ A B) {sv : Value} {zs : List Int} : Sv.Ints n₀ A sv zs → Sv.Ints n₀ B sv zs
 | .inl e => .inl e
 | .inr ⟨ad, cap, e, hb, hc⟩ => .inr ⟨ad, cap, e, hb, fun j hj => (h.cell (p := ad.add j) (by rw [Sv.addb]; exact hb)).trans (hc j hj)⟩
set_option maxRecDepth 100000 in
set_option maxHeartbeats 1000000 in
theorem Sv.values1_nil_in (F : Fence) (n : Nat) (h7 : F.fn 83) (hro : F.round = none) (l Bs : Nat) (J : List Int → World → Prop) (W : World) (A0 : Option Addr) (cap0 : Nat) (hBs : W.cell? ⟨Bs, 0, none⟩ = some (.slice A0 0 cap0)) (h0 : J [] W) :
  CallsIn F n Tryd.prog 83 #[.func (.yield l) #[] #[], .pointer (some ⟨Bs, 0, none⟩)] W fun e W' => (∃ v, e = .returned v) ∧ J [] W' := by
 refine callsIn_of_wp Tryd.func83 rfl h7 ?_ hro
 simp only [Tryd.ntmps83, List.size_toArray, List.length_cons, List.length_nil, Nat.reduceAdd, Nat.reduceSub, Array.replicate_succ, Array.replicate_zero, List.push_toArray, List.append_toArray, List.nil_append, List.cons_append]
 gi_wp2
 gi_loopw [7] (fun i wr => i = .int .i64 0 ∧ J [] wr) (fun _ _ => 0)
 case atStart => exact ⟨rfl, h0⟩
 case round =>
  obtain ⟨rfl, hJs⟩ := hrel
  gi_wp2
  go_end0
  exact ⟨⟨_, rfl⟩, hJs⟩

set_option maxHeartbeats 1000000 in
theorem Sv.values_in (F : Fence) (n : Nat) (h5 : F.fn 67) (hro : F.round = none) (a : Option Addr) (len cap : Nat) (w : World) :
  CallsIn F n Tryd.prog 67 #[.slice a len cap] w fun e w' => e = .returned (.func (.func 83) #[] #[.pointer (some ⟨w.heap.size, 0, none⟩)]) ∧ w' = w.alloc (.cells #[.slice a len cap] 22) := by
 refine callsIn_of_wp Tryd.func67 rfl h5 ?_ hro
 simp only [Tryd.ntmps67, List.size_toArray, List.length_cons, List.length_nil, Nat.reduceAdd, Nat.reduceSub, Array.replicate_succ, Array.replicate_zero, List.push_toArray, List.append_toArray, List.nil_append, List.cons_append]
 gi_wp2
 go_ret
 exact ⟨rfl, rfl⟩

theorem Sv.values_stops (F : Fence) (n : Nat) (h7 : F.fn 83) (hro : F.round = none) (hn : 1 ≤ n) (Bs n₀ : Nat) (sv : Value) (zs : List Int) (hreach : zs.length * 8 ≤ 140737488351232) (w : World) (hBs : Bs < w.heap.size) (hn₀ : n₀ ≤ w.heap.size)
  (hc : w.cell? ⟨Bs, 0, none⟩ = some sv) (hI : Sv.Ints n₀ w sv zs) :
  SeqStopsK F n Tryd.prog 83 #[.pointer (some ⟨Bs, 0, none⟩)] (fun x : Int => #[Value.int .i64 x]) (Below n₀) (fun ys => ys = zs) (fun pre => pre <+: zs) zs.length w := fun l J Jx W hW _ _ hY h0 => by
 have hc' := (hW.cell (p := ⟨Bs, 0, none⟩) hBs).trans hc
 rcases hI.below (hW.mono hn₀) with ⟨rfl, A0, cap0, rfl⟩ | ⟨ad, cap, rfl, hb, hcs⟩
 ·exact (Sv.values1_nil_in F n h7 hro l Bs J W A0 cap0 hc' h0).mono fun e W' ⟨he, hj⟩ => ⟨he, .inl ⟨_, rfl, hj⟩⟩
 ·refine (Sv.values1_in F n h7 hro hn l Bs n₀ zs.length cap ad zs hreach hb J Jx hY W hc' hcs h0).mono ?_
  rintro e W' ⟨he, ⟨ys, rfl, hj⟩ | ⟨pre, ⟨k, hk, rfl⟩, hj⟩⟩
  ·exact ⟨he, .inl ⟨_, Sv.upto_all zs, hj⟩⟩
  ·exact ⟨he, .inr ⟨_, by rw [Sv.upto_take zs hk]; exact List.take_prefix _ _, hj⟩⟩

theorem Sv.infoI : (Tryd.prog.info? 3).map (fun i => (i.zero, i.size, i.bytes)) = some (some (.int .i64 0), 1, 8) := by kernel_rfl
set_option maxRecDepth 100000 in
set_option maxHeartbeats 2000000 in
/-- slices.AppendSeq(nil, slices.Values(zs)): a slice of the call's own that holds zs. -/
theorem Sv.appendSeq_in (F : Fence) (n : Nat) (h3 : F.fn 98) (h5 : F.fn 83) (hro : F.round = none) (hn : 3 ≤ n) (Bv : Nat) (sv : Value) (zs : List Int) (hlen : zs.length ≤ maxLen) (hreach : zs.length * 8 ≤ 140737488351232) (w : World) (hBv : Bv < w.heap.size) (hcv : w.cell? ⟨Bv, 0, none⟩ = some sv) (hI : Sv.Ints w.heap.size w sv zs) :
  CallsIn F n Tryd.prog 98 #[.slice none 0 0, .func (.func 83) #[] #[.pointer (some ⟨Bv, 0, none⟩)]] w fun e W' => ∃ v, e = .returned v ∧ W'.ownsRow w.heap.size 3 1 v zs.length (zs.map (Value.int .i64)) ∧ Below w.heap.size w W' := by
 have h1 : 1 ≤ n := by omega
 obtain ⟨i0, hi, hz0, hz1, hz2⟩ := info_parts Sv.infoI
 refine callsIn_of_wp_marks Tryd.func98 rfl h3 ?_ hro
 simp only [Tryd.ntmps98, List.size_toArray, List.length_cons, List.length_nil, Nat.reduceAdd, Nat.reduceSub, Array.replicate_succ, Array.replicate_zero, List.push_toArray, List.append_toArray, List.nil_append, List.cons_append]
 gi_wp2
 have bO := Boxed.new w 22 (.slice none 0 0)
 have hB0 : Below w.heap.size w (w.alloc (.cells #[.slice none 0 0] 22)) := (Below.refl _ w).alloc (Nat.le_refl _) _
 refine wpIn_rangeFunc_ownG hro h1 (gf := 83) (lb := #[.pointer (some ⟨Bv, 0, none⟩)]) rfl h5 (enters_of Tryd.func83 bfqv_ rfl)
  (Sv.values_stops F (n - 1) h5 hro bh19_ Bv w.heap.size sv zs hreach _ (by simp; omega) bxka_ ((hB0.cell (p := ⟨Bv, 0, none⟩) hBv).trans hcv) (hI.below hB0)) belowK_t (belowK_b bxka_) (Below.refl _ _) (fun _ => rfl)
  (fun pre W => (∃ v, Boxed W w.heap.size 22 v ∧ W.ownsRow w.heap.size 3 1 v pre.length (pre.map (Value.int .i64)) ∧ (v = .slice none 0 0 ↔ pre = [])) ∧ Below w.heap.size w W)
  (fun _ _ _ => False)
  (OwnFrom.and (Own.from (holdsRow_own w.heap.size w.heap.size 22 3 1 (fun pre : List Int => pre.length) (fun pre => pre.map (Value.int .i64)) (fun pre v => v = .slice none 0 0 ↔ pre = [])) _) (ownFrom_below (Nat.le_refl _) bxka_))
  (fun _ _ _ _ _ hs _ _ => hs)
  ⟨⟨_, bO, World.ownsRow_nil _ _ _ _, bxka_⟩, hB0⟩
  (fun x => { tmps := #[.slice none 0 0, .func (.func 83) #[] #[.pointer (some ⟨Bv, 0, none⟩)], .pointer (some ⟨w.heap.size, 0, none⟩), undef, .slice none 0 0, .int .i64 x, .func (.func 83) #[] #[.pointer (some ⟨Bv, 0, none⟩)], .int .i64 x, undef, undef, undef, undef, undef], defers := [] }) ?assign ?body ?done ?stop
 case assign =>
  intro l x W K hK
  gi_wp2
  exact hK
 case body =>
  rintro l pre x W ⟨⟨v, hv, hrow, hnil⟩, hB⟩ hlt
  have hc := hv.cell
  gi_wp2_with (gi_at_builtin; refine wpListIn_append_own _ rfl _ _ 22 rfl w.heap.size 3 i0 (.int .i64 0) 1 8 Tryd.underlying22 hi hz0 hz1 hz2 rfl bi3y_ _ _ _ rfl (hrow.alloc _) ⟨W.heap.size, 0, none⟩ 1 1 [.int .i64 x] rfl rfl (cell_one_new _ _ _) (by simp [Value.oneCell']) bh19_ bh19_ (by have := hB.size; simp; omega) ?_; intro v' w1 hown' hgrow _; obtain ⟨g', cap', rfl⟩ := ownsRow_succ hown'; obtain ⟨hv1, hv2, hr2, hk2, hb2⟩ := hv.appended bi3y_ hrow hB.size (Nat.le_refl _) hown' hgrow; have hc1 := hv1.cell; have hf1 := hv1.frozen)
  exact ⟨hk2.from _, hb2, ⟨_, hv2, by simpa using hr2, bxka_⟩, hB.trans hb2⟩
 case done =>
  rintro D ys W hD rfl ⟨⟨v, hv, hrow, hnil⟩, hB⟩ hK
  have hc := hv.cell
  gi_wp2
  refine ⟨bxka_, .inl ⟨_, _, rfl, run_takeDeferred hK, ?_⟩⟩
  exact ⟨_, results_tmp rfl _ _ _, v, rfl, ownsRow_putObj hrow _ hK rfl, hB.trans (belowK_b (w := w) (Nat.le_refl _) W D _ _ (by simp at hD; omega) hK rfl rfl)⟩
 case stop =>
  rintro D c pre W _ _ h _
  exact h.elim
set_option maxHeartbeats 1000000 in
theorem Sv.collect_in (F : Fence) (n : Nat) (h0 : F.fn 81) (h3 : F.fn 98) (h5 : F.fn 83) (hro : F.round = none) (hn : 4 ≤ n) (Bv : Nat) (sv : Value) (zs : List Int) (hlen : zs.length ≤ maxLen) (hreach : zs.length * 8 ≤ 140737488351232) (w : World) (hBv : Bv < w.heap.size) (hcv : w.cell? ⟨Bv, 0, none⟩ = some sv) (hI : Sv.Ints w.heap.size w sv zs) :
  CallsIn F n Tryd.prog 81 #[.func (.func 83) #[] #[.pointer (some ⟨Bv, 0, none⟩)]] w fun e W' => ∃ v, e = .returned v ∧ W'.ownsRow w.heap.size 3 1 v zs.length (zs.map (Value.int .i64)) ∧ Below w.heap.size w W' := by
 have h1 : 1 ≤ n := by omega
 refine callsIn_of_wp Tryd.func81 rfl h0 ?_ hro
 simp only [Tryd.ntmps81, List.size_toArray, List.length_cons, List.length_nil, Nat.reduceAdd, Nat.reduceSub, Array.replicate_succ, Array.replicate_zero, List.push_toArray, List.append_toArray, List.nil_append, List.cons_append]
 gi_wp2_with (gi_at_call 98; refine (Sv.appendSeq_in F (n - 1) h3 h5 hro bh19_ Bv sv zs hlen hreach _ hBv hcv hI).mono ?_; rintro e w' ⟨v, rfl, hrow, hb⟩)
 go_ret
 exact ⟨v, rfl, hrow, hb⟩
def lays189_ren : Go.Shelf.Ren where
 f := fun x => match x with
  | 189 => 82
  | 125 => 100
  | 257 => 99
  | 128 => 117
  | 129 => 118
  | 294 => 108
  | 295 => 109
  | 296 => 110
  | 297 => 111
  | 298 => 112
  | 299 => 113
  | 216 => 114
  | 300 => 115
  | 301 => 116
  | 328 => 122
  | 329 => 123
  | 330 => 124
  | 331 => 125
  | 332 => 126
  | 215 => 127
  | 343 => 130
  | n => n
 t := fun x => match x with
  | 28 => 22
  | 3 => 3
  | 46 => 101
  | 0 => 0
  | 51 => 61
  | 53 => 93
  | 4 => 4
  | 183 => 120
  | 182 => 119
  | 131 => 52
  | 5 => 5
  | 9 => 9
  | 218 => 127
  | 222 => 131
  | 228 => 135
  | 229 => 136
  | n => n
 g := fun x => x
theorem lays189 : Lays.n189 Tryd.prog lays189_ren where
 mixed := by kernel_rfl
 f125 := Tryd.func100.trans bfqv_
 f128 := Tryd.func117.trans bfqv_
 f129 := Tryd.func118.trans bfqv_
 f189 := Tryd.func82.trans bfqv_
 f215 := Tryd.func127.trans bfqv_
 f216 := Tryd.func114.trans bfqv_
 f257 := Tryd.func99.trans bfqv_
 f294 := Tryd.func108.trans bfqv_
 f295 := Tryd.func109.trans bfqv_
 f296 := Tryd.func110.trans bfqv_
 f297 := Tryd.func111.trans bfqv_
 f298 := Tryd.func112.trans bfqv_
 f299 := Tryd.func113.trans bfqv_
 f300 := Tryd.func115.trans bfqv_
 f301 := Tryd.func116.trans bfqv_
 f328 := Tryd.func122.trans bfqv_
 f329 := Tryd.func123.trans bfqv_
 f330 := Tryd.func124.trans bfqv_
 f331 := Tryd.func125.trans bfqv_
 f332 := Tryd.func126.trans bfqv_
 f343 := Tryd.func130.trans bfqv_
 t0 := Tryd.underlying0
 a0 := Tryd.isAgg0
 z0 := Tryd.sizeOf0
 v0 := Tryd.zeroValue0
 t3 := Tryd.underlying3
 a3 := Tryd.isAgg3
 z3 := Tryd.sizeOf3
 v3 := Tryd.zeroValue3
 t4 := Tryd.underlying4
 a4 := Tryd.isAgg4
 z4 := Tryd.sizeOf4
 v4 := Tryd.zeroValue4
 t5 := Tryd.underlying5
 a5 := Tryd.isAgg5
 z5 := Tryd.sizeOf5
 v5 := Tryd.zeroValue5
 t9 := Tryd.underlying9
 a9 := Tryd.isAgg9
 z9 := Tryd.sizeOf9
 v9 := Tryd.zeroValue9
 t28 := Tryd.underlying22
 a28 := Tryd.isAgg22
 z28 := Tryd.sizeOf22
 v28 := Tryd.zeroValue22
 t46 := Tryd.underlying101
 a46 := Tryd.isAgg101
 z46 := Tryd.sizeOf101
 v46 := Tryd.zeroValue101
 t51 := Tryd.underlying61
 a51 := Tryd.isAgg61
 z51 := Tryd.sizeOf61
 v51 := Tryd.zeroValue61
 t53 := Tryd.underlying93
 a53 := Tryd.isAgg93
 z53 := Tryd.sizeOf93
 v53 := Tryd.zeroValue93
 t131 := Tryd.underlying52
 a131 := Tryd.isAgg52
 z131 := Tryd.sizeOf52
 v131 := Tryd.zeroValue52
 t182 := Tryd.underlying119
 a182 := Tryd.isAgg119
 z182 := Tryd.sizeOf119
 v182 := Tryd.zeroValue119
 t183 := Tryd.underlying120
 a183 := Tryd.isAgg120
 z183 := Tryd.sizeOf120
 v183 := Tryd.zeroValue120
 t218 := Tryd.underlying127
 a218 := Tryd.isAgg127
 z218 := Tryd.sizeOf127
 v218 := Tryd.zeroValue127
 t222 := Tryd.underlying131
 a222 := Tryd.isAgg131
 z222 := Tryd.sizeOf131
 v222 := Tryd.zeroValue131
 t228 := Tryd.underlying135
 a228 := Tryd.isAgg135
 z228 := Tryd.sizeOf135
 v228 := Tryd.zeroValue135
 t229 := Tryd.underlying136
 a229 := Tryd.isAgg136
 z229 := Tryd.sizeOf136
 v229 := Tryd.zeroValue136
end
theorem Sv.rd_at (l : List Int) (j : Nat) : rd l (j : Int) = l[j]?.getD 0 := by unfold rd; simp [List.getD]
section
open Go.Shelf Go.Sort
theorem Sv.reps (w : World) (base : Nat) (ok : Nat → Prop) : ∀ zs : List Int, Reps ((Kd.int .i64).M w base ok) 1 zs (zs.map (Value.int .i64))
 | [] => Reps.none _ _
 | z :: zs => Reps.one (show (Kd.int .i64).M w base ok z [.int .i64 z] from rfl) (Sv.reps w base ok zs)
theorem slices_Values_int.calls (A : Option Addr) (n c : Nat) (w : World) :
  Calls Tryd.prog 67 #[.slice A n c] w fun e w' => ∃ g : Nat, e = .returned (.func (.func 83) #[] #[.pointer (some ⟨g, 0, none⟩)]) ∧ w'.cell? ⟨g, 0, none⟩ = some (.slice A n c) ∧ Below w.heap.size w w' := by
 refine (callsIn_wide.1 (Sv.values_in Fence.wide 2 trivial rfl A n c w)).mono ?_
 rintro e w' ⟨rfl, rfl⟩
 exact ⟨w.heap.size, rfl, (Boxed.new w 22 (.slice A n c)).cell, (Below.refl _ w).alloc (Nat.le_refl _) _⟩
def slices_Sorted_int.f (l0 : List Int) : Option (List Int) := if l0.length ≤ 1048576 then some (l0.mergeSort fun x y => decide (x ≤ y)) else none
set_option maxHeartbeats 1000000 in
set_option maxRecDepth 100000 in
theorem slices_Sorted_int.calls (g : Nat) (A0 : Option Addr) (c0 : Nat) (l0 r : List Int) (w : World) (hg : w.cell? ⟨g, 0, none⟩ = some (.slice A0 l0.length c0)) (hr0 : Kd.C (Kd.int .i64) w A0 l0.length l0) (hc0 : l0.length ≤ c0) (h : slices_Sorted_int.f l0 = some r) :
  Calls Tryd.prog 66 #[.func (.func 83) #[] #[.pointer (some ⟨g, 0, none⟩)]] w fun e w' => ∃ v0_ : Value, e = .returned (v0_) ∧ Kd.R (Kd.int .i64) 3 w' w.heap.size (fun _ => True) v0_ r ∧ Below w.heap.size w w' := by
 unfold slices_Sorted_int.f at h
 split at h
 ·rename_i hl
  obtain rfl := si_ h
  clear h
  have hgl : g < w.heap.size := World.block_lt_of_cell? w _ hg
  have hI : Sv.Ints w.heap.size w (.slice A0 l0.length c0) l0 := by
   by_cases e : l0.length = 0
   ·exact .inl ⟨List.eq_nil_of_length_eq_zero e, A0, c0, by rw [e]⟩
   ·obtain ⟨ad, rfl, hx⟩ := Kd.at_int hr0 0 bh19_ bh19_
    refine .inr ⟨ad, c0, rfl, ?_, fun j hj => ?_⟩
    ·have := World.block_lt_of_cell? w _ hx
     rwa [Sv.addb] at this
    ·obtain ⟨ad', e', hx'⟩ := Kd.at_int hr0 (j : Int) bh19_ bh19_
     obtain rfl := si_ e'
     rw [Int.toNat_natCast] at hx'
     rw [hx', Sv.rd_at]
  have cC := callsIn_wide.1 (Sv.collect_in Fence.wide 10 trivial trivial trivial rfl bh19_ g _ l0 (by show l0.length ≤ 9223372036854775807; omega) bh19_ w hgl hg hI)
  go_enter Tryd.func66, Tryd.ntmps66
  go_wp2_with (go_at_call 81; refine cC.mono ?_; rintro e w1 ⟨v, rfl, hrow, hb⟩)
  rcases hrow.2 with ⟨rfl, hz⟩ | ⟨gb, cap, cur, rfl, hbase, hgb, r1, r2, r3, r4⟩
  ·obtain rfl := List.eq_nil_of_length_eq_zero hz
   have cS := Any.slices_Sort_int_none (ρ := lays189_ren) lays189 none 0 w1
   go_wp2_with (go_at_call 82; refine cS.mono ?_; rintro e w' ⟨rfl, rfl⟩)
   go_ret
   exact ⟨.slice none 0 0, rfl, by simpa using Kd.R_nil _ _ _ _ _, hb⟩
  have hH : Holds (Value.int .i64) w1 gb 0 l0.toArray := holds_of_blockI hgb (by simpa using r4)
  have hgl1 : gb < w1.heap.size := (Array.getElem?_eq_some_iff.1 hgb).1
  have cS := Any.slices_Sort_int (ρ := lays189_ren) lays189 gb 0 cap l0 w1 hH hgl1 bh19_
  go_wp2_with (go_at_call 82; refine cS.mono ?_; rintro e w' ⟨rfl, nn, os, rfl⟩)
  go_ret
  exact ⟨_, rfl, ⟨fun _ _ => trivial, _, by rw [List.length_mergeSort]; exact ownsRow_sortedI (ss := l0) bxka_ hbase hgb r1 r2 r3, Sv.reps _ _ _ _⟩, hb.grown (grownBy_sortedI _) hb.size (fun j hj => by cases hj; exact hbase)⟩
 cases h
end

def impl_IsHouse.f (k : Nat) (a0_0 : Int) (a0_1 : Bool) (l0_2 : List Int) (l0_3 : List Int) (a0_4 : Int) : Option (Bool) := (impl_IsRow.f k a0_0 a0_1 l0_2).bind fun t173 => (if t173 = true then ((slices_Sorted_int.f l0_3).bind fun t174 => ((slices_Equal_int_int.f k t174 l0_2).bind fun t177 => (if t177 = true then ((impl_within.f a0_4 0 1000).bind fun t178 => (some t178)) else (some false)))) else (some false))
theorem impl_IsHouse.mono : ∀ a0 a1 a2 a3 a4 k, LeO (impl_IsHouse.f k a0 a1 a2 a3 a4) (impl_IsHouse.f (k + 1) a0 a1 a2 a3 a4) := by
 intro a0 a1 a2 a3 a4 k
 unfold impl_IsHouse.f
 repeat' with_reducible first | exact impl_IsRow.mono .. | exact slices_Equal_int_int.mono .. | exact LeO.refl .. | exact LeO.none .. | refine LeO.ite ?_ ?_ | refine LeO.bind ?_ (fun _ => ?_)
def impl_IsHouse.T1 : Bool × List (List Nat × List Nat) := (true, [([], []), ([0], [0]), ([1], [1]), ([2, 2], [2]), ([3], [3]), ([4, 3], [3, 4]), ([5, 3, 3], [3, 5]), ([6, 6, 3], [3, 6]), ([3], [3]), ([8, 3], [3, 8]), ([9, 3], [3, 9]), ([7, 10, 7, 3], [3, 7, 10]), ([3, 11], [3, 11]), ([12, 11], [12]), ([13], [13]), ([14, 13], [13, 14]), ([15, 13, 13], [13, 15]), ([13, 16], [13, 16]), ([17, 16, 0, 1, 2, 3, 4, 5, 6, 7, 8, 9, 10, 11, 12, 13, 14, 15, 16, 17], [17])])
def impl_IsHouse.B1 : List Nat := [0, 1, 3, 7, 15, 31, 63, 127, 15, 271, 783, 2047, 4095, 8191, 16383, 32767, 65535, 131071, 262143]
theorem impl_IsHouse.tab1 : rtab .any (opsOf Tryd.f43 1) = impl_IsHouse.T1 := by kernel_rfl
theorem impl_IsHouse.bits1 : waitsOk impl_IsHouse.T1.2 impl_IsHouse.B1 = true := by kernel_rfl
theorem impl_IsHouse.calls (k : Nat) (a0_0 : Int) (a0_1 : Bool) (A0_2 : Option Addr) (c0_2 : Nat) (l0_2 : List Int) (A0_3 : Option Addr) (c0_3 : Nat) (l0_3 : List Int) (a0_4 : Int) (r : Bool) (w : World) (hr0_2 : Kd.C (Kd.int .i64) w A0_2 l0_2.length l0_2) (hc0_2 : l0_2.length ≤ c0_2) (hr0_3 : Kd.C (Kd.int .i64) w A0_3 l0_3.length l0_3) (hc0_3 : l0_3.length ≤ c0_3) (h : impl_IsHouse.f k a0_0 a0_1 l0_2 l0_3 a0_4 = some r) :
  Calls Tryd.prog 43 #[.agg #[.int .i64 a0_0, .bool a0_1, .slice A0_2 l0_2.length c0_2, .slice A0_3 l0_3.length c0_3, .int .i64 a0_4]] w fun e w' => e = .returned (.bool r) ∧ Below w.heap.size w w' := by
 have hu31 := Tryd.underlying26
 have hu29 := Tryd.underlying24
 have HR0_2 := A0_ hr0_2
 have HC0_2 := A0_ hc0_2
 clear hr0_2 hc0_2
 have HR0_3 := A0_ hr0_3
 have HC0_3 := A0_ hc0_3
 clear hr0_3 hc0_3
 have HB := A0_ (Below.refl w.heap.size w)
 have H : ((impl_IsRow.f k a0_0 a0_1 l0_2).bind fun t1 => (if t1 = true then ((slices_Sorted_int.f l0_3).bind fun t2 => ((slices_Equal_int_int.f k t2 l0_2).bind fun t3 => (if t3 = true then ((impl_within.f a0_4 0 1000).bind fun t4 => (some t4)) else (some false)))) else (some false))) = some r := h
 clear h
 obtain ⟨t1, A2, H⟩ := o1_ H
 by_cases c1 : t1 = true
 case neg =>
  obtain rfl := bf_.mpr c1
  rw [if_neg ft_] at H
  obtain rfl := si_ H
  go_enter Tryd.func43, Tryd.ntmps43
  try go_wp2_with (first | ((with_reducible refine gd_ (N := 1) rfl ?_); refine bx_ 1 #[.int .i64 a0_0, .bool a0_1, .slice A0_2 l0_2.length c0_2, .slice A0_3 l0_3.length c0_3, .int .i64 a0_4] 26 ?_; intro gb1 hg w1 BK1 hb; have GW1 := ge_ hg brt4_; have GE1 := GW1; replace HB := hb_ hb brt4_; clear hb hg))
  replace BK1 := A0_ (kd_ BK1.out)
  replace HB := A0_ (bd_ HB.out)
  refine s5_ 19 [] BK1 impl_IsHouse.tab1 impl_IsHouse.bits1 (fun hHeld HT_ HW_ => ?_)
  generalize w1.drew = w2 at BK1 HB hHeld ⊢
  refine pu_ 0 3 ?_
  refine tk_ 1 4 hHeld ?_
  refine on_ 2 (some 5) (fun K hK => ?_)
  refine gs_ Tryd.func55 #[.agg #[.int .i64 a0_0, .bool a0_1, .slice A0_2 l0_2.length c0_2]] ?_
  with_reducible refine (impl_IsRow.calls k a0_0 a0_1 _ _ l0_2 false _ ?side1 ?side2 A2.out).mono ?_
  (case side1 => exact b6n8_)
  (case side2 => exact HC0_2.out)
  rintro e w3 ⟨rfl, hb⟩
  refine ⟨_, rfl, ?_⟩
  replace BK1 := k1_ BK1 hb
  replace HB := hb_ hb be6g_
  (try clear hb)
  refine hK.out _ _ (c5_ BK1) (fun hHeld => ?_)
  clear hK K
  refine nm_ 5 ?_
  refine pu_ 3 6 ?_
  refine pv_ 4 7 ?_
  refine pv_ 5 8 ?_
  refine pv_ 6 9 ?_
  refine pv_ 7 10 ?_
  refine pv_ 8 11 ?_
  refine pv_ 9 12 ?_
  refine pv_ 10 13 ?_
  refine pv_ 11 14 ?_
  refine pu_ 12 15 ?_
  refine pu_ 13 16 ?_
  refine pv_ 14 17 ?_
  refine pv_ 15 18 ?_
  refine pv_ 16 19 ?_
  refine pu_ 17 20 ?_
  refine pu_ 18 2 ?_
  refine dn_ ?_
  try go_wp2
  go_ret
  exact ⟨bnwh_, be6g_⟩
 subst c1
 rw [if_pos rfl] at H
 obtain ⟨t2, A4, H⟩ := o1_ H
 obtain ⟨t3, A6, H⟩ := o1_ H
 by_cases c2 : t3 = true
 case neg =>
  obtain rfl := bf_.mpr c2
  rw [if_neg ft_] at H
  obtain rfl := si_ H
  go_enter Tryd.func43, Tryd.ntmps43
  try go_wp2_with (first | ((with_reducible refine gd_ (N := 1) rfl ?_); refine bx_ 1 #[.int .i64 a0_0, .bool a0_1, .slice A0_2 l0_2.length c0_2, .slice A0_3 l0_3.length c0_3, .int .i64 a0_4] 26 ?_; intro gb1 hg w1 BK1 hb; have GW1 := ge_ hg brt4_; have GE1 := GW1; replace HB := hb_ hb brt4_; clear hb hg))
  replace BK1 := A0_ (kd_ BK1.out)
  replace HB := A0_ (bd_ HB.out)
  refine s5_ 19 [] BK1 impl_IsHouse.tab1 impl_IsHouse.bits1 (fun hHeld HT_ HW_ => ?_)
  generalize w1.drew = w2 at BK1 HB hHeld ⊢
  refine pu_ 0 3 ?_
  refine tk_ 1 4 hHeld ?_
  refine on_ 2 (some 5) (fun K hK => ?_)
  refine gs_ Tryd.func55 #[.agg #[.int .i64 a0_0, .bool a0_1, .slice A0_2 l0_2.length c0_2]] ?_
  with_reducible refine (impl_IsRow.calls k a0_0 a0_1 _ _ l0_2 true _ ?side1 ?side2 A2.out).mono ?_
  (case side1 => exact b6n8_)
  (case side2 => exact HC0_2.out)
  rintro e w3 ⟨rfl, hb⟩
  refine ⟨_, rfl, ?_⟩
  replace BK1 := k1_ BK1 hb
  replace HB := hb_ hb be6g_
  (try clear hb)
  refine hK.out _ _ (c5_ BK1) (fun hHeld => ?_)
  clear hK K
  refine nm_ 5 ?_
  refine pu_ 3 6 ?_
  refine pu_ 4 7 ?_
  refine pu_ 8 11 ?_
  refine pu_ 9 12 ?_
  refine tk_ 5 8 hHeld ?_
  refine tk_ 10 13 hHeld ?_
  refine on_ 6 (some 9) (fun K hK => ?_)
  refine gs_ Tryd.func67 #[.slice A0_3 l0_3.length c0_3] ?_
  with_reducible refine (slices_Values_int.calls A0_3 l0_3.length c0_3 _).mono ?_
  rintro e wv_ ⟨gv_, rfl, hcv, hb⟩
  refine ⟨_, rfl, ?_⟩
  have HGV := A0_ hcv
  clear hcv
  replace BK1 := k1_ BK1 hb
  replace HB := hb_ hb be6g_
  (try clear hb)
  refine hK.out _ _ (c5_ BK1) (fun hHeld => ?_)
  clear hK K
  refine nm_ 9 ?_
  refine on_ 7 (some 10) (fun K hK => ?_)
  refine gs_ Tryd.func66 #[.func (.func 83) #[] #[.pointer (some ⟨gv_, 0, none⟩)]] ?_
  with_reducible refine (slices_Sorted_int.calls gv_ _ _ l0_3 t2 _ HGV.out ?side1 ?side2 A4.out).mono ?_
  (case side1 => exact bkan_)
  (case side2 => exact HC0_3.out)
  rintro e w4 ⟨v1, rfl, ho0, hb⟩
  refine ⟨_, rfl, ?_⟩
  have HO1 := A0_ (Kd.R_lower ho0 (bz_ be6g_))
  replace BK1 := k1_ BK1 hb
  replace HB := hb_ hb be6g_
  (try clear hb); (try clear ho0)
  obtain ⟨Ao1, co1, eo1⟩ := Kd.R_slice HO1.out
  (first | subst eo1 | (injection eo1 with f1_ f2_ f3_; have f4_ := f1_.symm; have f5_ := f3_.symm; clear f1_ f2_ f3_; subst f4_; subst f5_))
  refine hK.out _ _ (c5_ BK1) (fun hHeld => ?_)
  clear hK K
  refine nm_ 10 ?_
  refine on_ 11 (some 14) (fun K hK => ?_)
  refine gs_ Tryd.func65 #[.slice Ao1 t2.length co1, .slice A0_2 l0_2.length c0_2] ?_
  with_reducible refine (slices_Equal_int_int.calls k _ _ t2 _ _ l0_2 false _ ?side1 ?side2 ?side3 ?side4 A6.out).mono ?_
  (case side1 => exact bayy_)
  (case side2 => exact (rr_ HO1.out).2.1)
  (case side3 => exact b6n8_)
  (case side4 => exact HC0_2.out)
  rintro e w' ⟨rfl, ⟨nd, rfl⟩⟩
  refine ⟨_, rfl, ?_⟩
  refine hK.out _ _ (c5_ BK1) (fun hHeld => ?_)
  clear hK K
  refine nm_ 14 ?_
  refine pu_ 12 15 ?_
  refine pu_ 13 16 ?_
  refine pv_ 14 17 ?_
  refine pv_ 15 18 ?_
  refine pv_ 16 19 ?_
  refine pu_ 17 20 ?_
  refine pu_ 18 2 ?_
  refine dn_ ?_
  try go_wp2
  go_ret
  exact ⟨bnwh_, be6g_⟩
 subst c2
 rw [if_pos rfl] at H
 obtain ⟨t4, A8, H⟩ := o1_ H
 replace H : (some t4) = some r := H
 obtain rfl := si_ H
 go_enter Tryd.func43, Tryd.ntmps43
 try go_wp2_with (first | ((with_reducible refine gd_ (N := 1) rfl ?_); refine bx_ 1 #[.int .i64 a0_0, .bool a0_1, .slice A0_2 l0_2.length c0_2, .slice A0_3 l0_3.length c0_3, .int .i64 a0_4] 26 ?_; intro gb1 hg w1 BK1 hb; have GW1 := ge_ hg brt4_; have GE1 := GW1; replace HB := hb_ hb brt4_; clear hb hg))
 replace BK1 := A0_ (kd_ BK1.out)
 replace HB := A0_ (bd_ HB.out)
 refine s5_ 19 [] BK1 impl_IsHouse.tab1 impl_IsHouse.bits1 (fun hHeld HT_ HW_ => ?_)
 generalize w1.drew = w2 at BK1 HB hHeld ⊢
 refine pu_ 0 3 ?_
 refine tk_ 1 4 hHeld ?_
 refine on_ 2 (some 5) (fun K hK => ?_)
 refine gs_ Tryd.func55 #[.agg #[.int .i64 a0_0, .bool a0_1, .slice A0_2 l0_2.length c0_2]] ?_
 with_reducible refine (impl_IsRow.calls k a0_0 a0_1 _ _ l0_2 true _ ?side1 ?side2 A2.out).mono ?_
 (case side1 => exact b6n8_)
 (case side2 => exact HC0_2.out)
 rintro e w3 ⟨rfl, hb⟩
 refine ⟨_, rfl, ?_⟩
 replace BK1 := k1_ BK1 hb
 replace HB := hb_ hb be6g_
 (try clear hb)
 refine hK.out _ _ (c5_ BK1) (fun hHeld => ?_)
 clear hK K
 refine nm_ 5 ?_
 refine pu_ 3 6 ?_
 refine pu_ 4 7 ?_
 refine pu_ 8 11 ?_
 refine pu_ 9 12 ?_
 refine tk_ 5 8 hHeld ?_
 refine tk_ 10 13 hHeld ?_
 refine on_ 6 (some 9) (fun K hK => ?_)
 refine gs_ Tryd.func67 #[.slice A0_3 l0_3.length c0_3] ?_
 with_reducible refine (slices_Values_int.calls A0_3 l0_3.length c0_3 _).mono ?_
 rintro e wv_ ⟨gv_, rfl, hcv, hb⟩
 refine ⟨_, rfl, ?_⟩
 have HGV := A0_ hcv
 clear hcv
 replace BK1 := k1_ BK1 hb
 replace HB := hb_ hb be6g_
 (try clear hb)
 refine hK.out _ _ (c5_ BK1) (fun hHeld => ?_)
 clear hK K
 refine nm_ 9 ?_
 refine on_ 7 (some 10) (fun K hK => ?_)
 refine gs_ Tryd.func66 #[.func (.func 83) #[] #[.pointer (some ⟨gv_, 0, none⟩)]] ?_
 with_reducible refine (slices_Sorted_int.calls gv_ _ _ l0_3 t2 _ HGV.out ?side1 ?side2 A4.out).mono ?_
 (case side1 => exact bkan_)
 (case side2 => exact HC0_3.out)
 rintro e w4 ⟨v1, rfl, ho0, hb⟩
 refine ⟨_, rfl, ?_⟩
 have HO1 := A0_ (Kd.R_lower ho0 (bz_ be6g_))
 replace BK1 := k1_ BK1 hb
 replace HB := hb_ hb be6g_
 (try clear hb); (try clear ho0)
 obtain ⟨Ao1, co1, eo1⟩ := Kd.R_slice HO1.out
 (first | subst eo1 | (injection eo1 with f1_ f2_ f3_; have f4_ := f1_.symm; have f5_ := f3_.symm; clear f1_ f2_ f3_; subst f4_; subst f5_))
 refine hK.out _ _ (c5_ BK1) (fun hHeld => ?_)
 clear hK K
 refine nm_ 10 ?_
 refine on_ 11 (some 14) (fun K hK => ?_)
 refine gs_ Tryd.func65 #[.slice Ao1 t2.length co1, .slice A0_2 l0_2.length c0_2] ?_
 with_reducible refine (slices_Equal_int_int.calls k _ _ t2 _ _ l0_2 true _ ?side1 ?side2 ?side3 ?side4 A6.out).mono ?_
 (case side1 => exact bayy_)
 (case side2 => exact (rr_ HO1.out).2.1)
 (case side3 => exact b6n8_)
 (case side4 => exact HC0_2.out)
 rintro e w' ⟨rfl, ⟨nd, rfl⟩⟩
 refine ⟨_, rfl, ?_⟩
 refine hK.out _ _ (c5_ BK1) (fun hHeld => ?_)
 clear hK K
 refine nm_ 14 ?_
 refine pu_ 12 15 ?_
 refine pu_ 13 16 ?_
 refine pu_ 14 17 ?_
 refine tk_ 15 18 hHeld ?_
 refine on_ 16 (some 19) (fun K hK => ?_)
 refine gs_ Tryd.func62 #[.int .i64 a0_4, .int .i64 0, .int .i64 1000] ?_
 with_reducible refine (impl_within.calls a0_4 0 1000 t4 _ A8.out).mono ?_
 rintro e w' ⟨rfl, ⟨nd, rfl⟩⟩
 refine ⟨_, rfl, ?_⟩
 refine hK.out _ _ (c5_ BK1) (fun hHeld => ?_)
 clear hK K
 refine nm_ 19 ?_
 refine pu_ 17 20 ?_
 refine pu_ 18 2 ?_
 refine dn_ ?_
 try go_wp2
 go_ret
 exact ⟨bnwh_, be6g_⟩


def impl_bench_gap.f (a0_0 : Int) (a0_1 : Bool) (a1 : Int) (a2 : Int) : Option (Int) := if a0_1 = true then (some (mn (mx (wrap64 (a1 - a2)) (wrap64 (a2 - a1))) (wrap64 (a0_0 - (mx (wrap64 (a1 - a2)) (wrap64 (a2 - a1))))))) else (some (mx (wrap64 (a1 - a2)) (wrap64 (a2 - a1))))
theorem impl_bench_gap.calls (a0_0 : Int) (a0_1 : Bool) (a1 : Int) (a2 : Int) (r : Int) (w : World) (h : impl_bench_gap.f a0_0 a0_1 a1 a2 = some r) :
  Calls Tryd.prog 54 #[.agg #[.int .i64 a0_0, .bool a0_1], .int .i64 a1, .int .i64 a2] w fun e w' => e = .returned (.int .i64 r) ∧ Below w.heap.size w w' := by
 have hu58 := Tryd.underlying58
 have HB := A0_ (Below.refl w.heap.size w)
 have H : (if a0_1 = true then (some (mn (mx (wrap64 (a1 - a2)) (wrap64 (a2 - a1))) (wrap64 (a0_0 - (mx (wrap64 (a1 - a2)) (wrap64 (a2 - a1))))))) else (some (mx (wrap64 (a1 - a2)) (wrap64 (a2 - a1))))) = some r := h
 clear h
 obtain ⟨ji1, hji1⟩ : ∃ j_ : Int, (mx (wrap64 (a1 - a2)) (wrap64 (a2 - a1))) = j_ := ⟨_, rfl⟩
 replace H : (if a0_1 = true then (some (mn (ji1) (wrap64 (a0_0 - (ji1))))) else (some ji1)) = some r := bmns_
 have hji1_ : (if (wrap64 (a1 - a2)) < (wrap64 (a2 - a1)) then (wrap64 (a2 - a1)) else (wrap64 (a1 - a2))) = ji1 := hji1
 by_cases c1 : a0_1 = true
 case neg =>
  obtain rfl := bf_.mpr c1
  rw [if_neg ft_] at H
  obtain rfl := si_ H
  go_enter Tryd.func54, Tryd.ntmps54
  go_wp2_with (first | ((with_reducible refine gd_ (N := 3) rfl ?_); refine bx_ 3 #[.int .i64 a0_0, .bool false] 58 ?_; intro gb1 hg w1 BK1 hb; have GW1 := ge_ hg brt4_; have GE1 := GW1; replace HB := hb_ hb brt4_; clear hb hg; have hcz1 := c2_ BK1))
  go_ret
  exact ⟨bfw0_, be6g_⟩
 subst c1
 rw [if_pos rfl] at H
 obtain ⟨ji2, hji2⟩ : ∃ j_ : Int, (mn (ji1) (wrap64 (a0_0 - (ji1)))) = j_ := ⟨_, rfl⟩
 replace H : (some ji2) = some r := by first | (rw [hji2] at H; exact H) | (simp only [hji2] at H ⊢; exact H)
 have hji2_ : (if (wrap64 (a0_0 - (ji1))) < (ji1) then (wrap64 (a0_0 - (ji1))) else (ji1)) = ji2 := hji2
 obtain rfl := si_ H
 go_enter Tryd.func54, Tryd.ntmps54
 go_wp2_with (first | ((with_reducible refine gd_ (N := 3) rfl ?_); refine bx_ 3 #[.int .i64 a0_0, .bool true] 58 ?_; intro gb1 hg w1 BK1 hb; have GW1 := ge_ hg brt4_; have GE1 := GW1; replace HB := hb_ hb brt4_; clear hb hg; have hcz1 := c2_ BK1))
 go_ret
 exact ⟨by first | rfl | (simp [errW_none, errW_some] <;> rfl) | (simp only [← hji1, ← hji2]; first | rfl | (simp [errW_none, errW_some] <;> rfl)) | (simp [*, errW_none, errW_some] <;> rfl), be6g_⟩

def impl_bench_near.l0 : Nat → Int → Int → Int → Int → Int → Bool → Option (Int)
 | 0, _, _, _, _, _, _ => none
 | k + 1, x1, x5, x8, x9, x190000, x190001 => if x9 < x8 then ((impl_bench_gap.f x190000 x190001 x1 x9).bind fun t190 => (if t190 = 1 then (if 0 ≤ x9 then (impl_bench_near.l0 k x1 (Go.bits .or .u32 x5 (shl .u32 1 x9)) x8 (wrap64 (x9 + 1)) x190000 x190001) else (none)) else (impl_bench_near.l0 k x1 x5 x8 (wrap64 (x9 + 1)) x190000 x190001))) else (some x5)
def impl_bench_near.f (k : Nat) (a0_0 : Int) (a0_1 : Bool) (a1 : Int) : Option (Int) := impl_bench_near.l0 k a1 0 a0_0 0 a0_0 a0_1
theorem impl_bench_near.mono_l : ∀ k, (∀ y0 y1 y2 y3 y4 y5, LeO (impl_bench_near.l0 k y0 y1 y2 y3 y4 y5) (impl_bench_near.l0 (k + 1) y0 y1 y2 y3 y4 y5))
 | 0 => fun _ _ _ _ _ _ r h => by simp [impl_bench_near.l0] at h
 | k + 1 => by
  have ih0 := impl_bench_near.mono_l k
  ·intro y0 y1 y2 y3 y4 y5
   unfold impl_bench_near.l0
   repeat' with_reducible first | exact ih0 .. | exact LeO.refl .. | exact LeO.none .. | refine LeO.ite ?_ ?_ | refine LeO.bind ?_ (fun _ => ?_)
theorem impl_bench_near.mono : ∀ a0 a1 a2 k, LeO (impl_bench_near.f k a0 a1 a2) (impl_bench_near.f (k + 1) a0 a1 a2) := by
 intro a0 a1 a2 k
 have ih0 := impl_bench_near.mono_l k
 unfold impl_bench_near.f
 repeat' with_reducible first | exact ih0 .. | exact LeO.refl .. | exact LeO.none .. | refine LeO.ite ?_ ?_ | refine LeO.bind ?_ (fun _ => ?_)
theorem impl_bench_near.calls (k : Nat) (a0_0 : Int) (a0_1 : Bool) (a1 : Int) (r : Int) (w : World) (h : impl_bench_near.f k a0_0 a0_1 a1 = some r) :
  Calls Tryd.prog 45 #[.agg #[.int .i64 a0_0, .bool a0_1], .int .i64 a1] w fun e w' => e = .returned (.int .u32 r) ∧ Below w.heap.size w w' := by
 have hu58 := Tryd.underlying58
 have HB := A0_ (Below.refl w.heap.size w)
 have H : (impl_bench_near.l0 k a1 0 a0_0 0 a0_0 a0_1) = some r := h
 clear h
 have H' := A0_ H
 clear H
 go_enter Tryd.func45, Tryd.ntmps45
 go_wp2_with (first | ((with_reducible refine gd_ (N := 2) rfl ?_); refine bx_ 2 #[.int .i64 a0_0, .bool a0_1] 58 ?_; intro gb1 hg w1 BK1 hb; have GW1 := ge_ hg brt4_; have GE1 := GW1; replace HB := hb_ hb brt4_; clear hb hg; have hcz1 := c2_ BK1))
 go_loopg [5, 9] k (fun kq v1 v2 w' => ∃ (x5_1 : Int) (x9_1 : Int), v1 = .int .u32 x5_1 ∧ v2 = .int .i64 x9_1 ∧ Aside0 (impl_bench_near.l0 kq a1 x5_1 a0_0 x9_1 a0_0 a0_1 = some r) ∧ Aside0 (kq ≤ k) ∧ Aside0 (w'.heap[gb1]? = some (.cells #[.int .i64 a0_0, .bool a0_1] 58 (0, 0))) ∧ Aside0 (Below w.heap.size w w'))
 case atStart => exact ⟨(0), (0), b2ew_, b2ew_, H', ⟨Nat.le_refl _⟩, ⟨u1_ BK1⟩, ⟨be6g_⟩⟩
 clear H'
 (try clear hcz1)
 obtain ⟨x5_1, x9_1, rfl, rfl, HA, HK1, BK1, HB⟩ := hrel
 cases gk with | zero => exact absurd HA.out (by simp [impl_bench_near.l0]) | succ k1 => ?_
 have H := HA.out
 clear HA
 simp only [impl_bench_near.l0] at H
 by_cases c1 : x9_1 < a0_0
 case neg =>
  rw [if_neg c1] at H
  have c1b0 : decide (x9_1 < a0_0) = false := decide_eq_false c1
  clear c1
  obtain rfl := si_ H
  go_wp2
  go_ret
  exact ⟨bnwh_, be6g_⟩
 rw [if_pos c1] at H
 have c1b0 : decide (x9_1 < a0_0) = true := dt_ c1
 clear c1
 obtain ⟨t1, A2, H⟩ := o1_ H
 by_cases c2 : t1 = 1
 case neg =>
  rw [if_neg c2] at H
  obtain ⟨c2b0, c2b1⟩ := ef_ c2
  have H' := A0_ H
  clear H
  have hcz2 := c2_ BK1
  go_wp2_with (first | ((with_reducible refine gc_ (f := 54) rfl ?_); refine gl_ 15 Tryd.func54 #[.agg #[.int .i64 a0_0, .bool a0_1], .int .i64 a1, .int .i64 x9_1] ?_; (with_reducible refine (impl_bench_gap.calls a0_0 a0_1 a1 x9_1 t1 _ A2.out).mono ?_); rintro e w2 ⟨rfl, hb⟩; refine ⟨_, rfl, ?_⟩; replace BK1 := k1_ BK1 hb; replace HB := hb_ hb be6g_; (try clear hb)))
  go_roundg k1
  case measure => have := HK1.out; omega
  exact ⟨(x5_1), (wrap64 (x9_1 + 1)), b2ew_, b2ew_, H', ⟨bxjq_⟩, ⟨u1_ BK1⟩, ⟨be6g_⟩⟩
 rw [if_pos c2] at H
 obtain ⟨c2b0, c2b1⟩ := et_ c2
 clear c2
 by_cases c3 : 0 ≤ x9_1
 case neg =>
  rw [if_neg c3] at H
  exact absurd H bxka_
 rw [if_pos c3] at H
 have c3b0 := eq_true c3
 have c3b1 : decide (0 ≤ x9_1) = true := dt_ c3
 clear c3
 obtain ⟨ji1, hji1⟩ : ∃ j_ : Int, (shl .u32 1 x9_1) = j_ := ⟨_, rfl⟩
 replace H : (impl_bench_near.l0 k1 a1 (Go.bits .or .u32 x5_1 (ji1)) a0_0 (wrap64 (x9_1 + 1)) a0_0 a0_1) = some r := bmns_
 (try rw [hji1] at A2)
 have hji1_ : (IntKind.u32.wrap (1 * 2 ^ min x9_1.toNat 32)) = ji1 := hji1
 have hji9z : x9_1 ≤ 32 → (IntKind.u32.wrap (1 * 2 ^ x9_1.toNat)) = ji1 := shl_small hji1
 have hji9u : (IntKind.u32.wrap (2 ^ min x9_1.toNat 32)) = ji1 := by have h_ := hji1_; rw [Int.one_mul] at h_; exact h_
 have hji9v : x9_1 ≤ 32 → (IntKind.u32.wrap (2 ^ x9_1.toNat)) = ji1 := fun hle_ => by have h_ := hji9z hle_; rw [Int.one_mul] at h_; exact h_
 have H' := A0_ H
 clear H
 have hcz2 := c2_ BK1
 go_wp2_with (first | ((with_reducible refine gc_ (f := 54) rfl ?_); refine gl_ 15 Tryd.func54 #[.agg #[.int .i64 a0_0, .bool a0_1], .int .i64 a1, .int .i64 x9_1] ?_; (with_reducible refine (impl_bench_gap.calls a0_0 a0_1 a1 x9_1 t1 _ A2.out).mono ?_); rintro e w2 ⟨rfl, hb⟩; refine ⟨_, rfl, ?_⟩; replace BK1 := k1_ BK1 hb; replace HB := hb_ hb be6g_; (try clear hb)))
 go_roundg k1
 case measure => have := HK1.out; omega
 exact ⟨(Go.bits .or .u32 x5_1 (ji1)), (wrap64 (x9_1 + 1)), b1tc_, b2ew_, H', ⟨bxjq_⟩, ⟨u1_ BK1⟩, ⟨be6g_⟩⟩

def impl_setOf.l0 : Nat → Int → List Int → Int → Int → Option (Int)
 | 0, _, _, _, _ => none
 | k + 1, x3, x6, x7, x8 => if x8 < x7 then (if 0 ≤ x8 then (if x8 < (x6.length : Int) then (if 0 ≤ (rd x6 x8) then (impl_setOf.l0 k (Go.bits .or .u32 x3 (shl .u32 1 (rd x6 x8))) x6 x7 (wrap64 (x8 + 1))) else (none)) else (none)) else (none)) else (some x3)
def impl_setOf.f (k : Nat) (l0 : List Int) : Option (Int) := impl_setOf.l0 k 0 l0 (l0.length : Int) 0
theorem impl_setOf.mono_l : ∀ k, (∀ y0 y1 y2 y3, LeO (impl_setOf.l0 k y0 y1 y2 y3) (impl_setOf.l0 (k + 1) y0 y1 y2 y3))
 | 0 => fun _ _ _ _ r h => by simp [impl_setOf.l0] at h
 | k + 1 => by
  have ih0 := impl_setOf.mono_l k
  ·intro y0 y1 y2 y3
   unfold impl_setOf.l0
   repeat' with_reducible first | exact ih0 .. | exact LeO.refl .. | exact LeO.none .. | refine LeO.ite ?_ ?_ | refine LeO.bind ?_ (fun _ => ?_)
theorem impl_setOf.mono : ∀ a0 k, LeO (impl_setOf.f k a0) (impl_setOf.f (k + 1) a0) := by
 intro a0 k
 have ih0 := impl_setOf.mono_l k
 unfold impl_setOf.f
 repeat' with_reducible first | exact ih0 .. | exact LeO.refl .. | exact LeO.none .. | refine LeO.ite ?_ ?_ | refine LeO.bind ?_ (fun _ => ?_)
theorem impl_setOf.calls (k : Nat) (A0 : Option Addr) (c0 : Nat) (l0 : List Int) (r : Int) (w : World) (hr0 : Kd.C (Kd.int .i64) w A0 l0.length l0) (hc0 : l0.length ≤ c0) (h : impl_setOf.f k l0 = some r) :
  Calls Tryd.prog 46 #[.slice A0 l0.length c0] w fun e w' => e = .returned (.int .u32 r) ∧ Drawn0 w w' := by
 have HR0 := A0_ hr0
 have HC0 := A0_ hc0
 clear hr0 hc0
 have H : (impl_setOf.l0 k 0 l0 (l0.length : Int) 0) = some r := h
 clear h
 have H' := A0_ H
 clear H
 go_enter Tryd.func46, Tryd.ntmps46
 go_wp2
 go_loopg [3, 8] k (fun kq v1 v2 w' => ∃ (x3_1 : Int) (x8_1 : Int), v1 = .int .u32 x3_1 ∧ v2 = .int .i64 x8_1 ∧ Aside0 (impl_setOf.l0 kq x3_1 l0 (l0.length : Int) x8_1 = some r) ∧ Aside0 (kq ≤ k) ∧ Drawn0 w w')
 case atStart => exact ⟨(0), (0), b2ew_, b2ew_, H', ⟨Nat.le_refl _⟩, boaj_⟩
 case round =>
  clear H'
  obtain ⟨x3_1, x8_1, rfl, rfl, HA, HK1, ⟨m1, rfl⟩⟩ := hrel
  cases gk with | zero => exact absurd HA.out (by simp [impl_setOf.l0]) | succ k1 => ?_
  have H := HA.out
  clear HA
  simp only [impl_setOf.l0] at H
  by_cases c1 : x8_1 < (l0.length : Int)
  case neg =>
   rw [if_neg c1] at H
   have c1b0 : decide (x8_1 < (l0.length : Int)) = false := decide_eq_false c1
   clear c1
   obtain rfl := si_ H
   go_wp2
   go_ret
   exact ⟨b04z_, boaj_⟩
  rw [if_pos c1] at H
  have c1b0 : decide (x8_1 < (l0.length : Int)) = true := dt_ c1
  clear c1
  by_cases c2 : 0 ≤ x8_1
  case neg =>
   rw [if_neg c2] at H
   exact absurd H bxka_
  rw [if_pos c2] at H
  have c2b0 : decide (0 ≤ x8_1) = true := dt_ c2
  clear c2
  by_cases c3 : x8_1 < (l0.length : Int)
  case neg =>
   rw [if_neg c3] at H
   exact absurd H bxka_
  rw [if_pos c3] at H
  have c3b0 : decide (x8_1 < (l0.length : Int)) = true := dt_ c3
  clear c3
  by_cases c4 : 0 ≤ (rd l0 x8_1)
  case neg =>
   rw [if_neg c4] at H
   exact absurd H bxka_
  rw [if_pos c4] at H
  have c4b0 := eq_true c4
  have c4b1 : decide (0 ≤ (rd l0 x8_1)) = true := dt_ c4
  clear c4
  obtain ⟨ji1, hji1⟩ : ∃ j_ : Int, (shl .u32 1 (rd l0 x8_1)) = j_ := ⟨_, rfl⟩
  replace H : (impl_setOf.l0 k1 (Go.bits .or .u32 x3_1 (ji1)) l0 (l0.length : Int) (wrap64 (x8_1 + 1))) = some r := bmns_
  have hji1_ : (IntKind.u32.wrap (1 * 2 ^ min (rd l0 x8_1).toNat 32)) = ji1 := hji1
  have hji6z : (rd l0 x8_1) ≤ 32 → (IntKind.u32.wrap (1 * 2 ^ (rd l0 x8_1).toNat)) = ji1 := shl_small hji1
  have hji6u : (IntKind.u32.wrap (2 ^ min (rd l0 x8_1).toNat 32)) = ji1 := by have h_ := hji1_; rw [Int.one_mul] at h_; exact h_
  have hji6v : (rd l0 x8_1) ≤ 32 → (IntKind.u32.wrap (2 ^ (rd l0 x8_1).toNat)) = ji1 := fun hle_ => by have h_ := hji6z hle_; rw [Int.one_mul] at h_; exact h_
  have H' := A0_ H
  clear H
  have p1 : 0 ≤ (x8_1 : Int) := od_ bpil_
  have q1 : x8_1 < (l0.length : Int) := od_ bpil_
  obtain ⟨ad1, e1, hx1_0⟩ := Kd.at_int HR0.out x8_1 p1 q1
  cases e1
  replace p1 := eq_true p1
  replace q1 := eq_true q1
  go_wp2
  go_roundg k1
  case measure => have := HK1.out; omega
  exact ⟨(Go.bits .or .u32 x3_1 (ji1)), (wrap64 (x8_1 + 1)), b1tc_, b2ew_, H', ⟨bxjq_⟩, boaj_⟩
 /-- The table of the library's stands in its variable: what the row's list gives. -/
def TabOK (w : World) : Prop := ∀ j, j < Lib.deBruijn32tab.length → w.cell? ⟨0, j, none⟩ = some (.int .u8 (Lib.deBruijn32tab.getD j 0))
theorem TabOK.below {w w' : World} (h : TabOK w) (hb : Below w.heap.size w w') : TabOK w' := fun j hj => (hb.cell (World.block_lt_of_cell? w _ (h j hj))).trans (h j hj)
theorem TabOK.drew {w : World} (h : TabOK w) : TabOK w.drew := h
theorem TabOK.drewN {w : World} (h : TabOK w) (n : Nat) : TabOK (w.drewN n) := fun j hj => h j hj
theorem tz_bits_and_u32_nat (a b : Nat) (ha : a < 4294967296) (hb : b < 4294967296) : Go.bits .and .u32 (a : Int) (b : Int) = ((a &&& b : Nat) : Int) := by
 have hx : a &&& b < 2 ^ 32 := Nat.and_lt_two_pow _ bh19_
 have h1 : (BitVec.ofInt 32 (a : Int)).toNat = a := by
  rw [BitVec.ofInt_natCast, BitVec.toNat_ofNat]; exact Nat.mod_eq_of_lt bh19_
 have h2 : (BitVec.ofInt 32 (b : Int)).toNat = b := by
  rw [BitVec.ofInt_natCast, BitVec.toNat_ofNat]; exact Nat.mod_eq_of_lt bh19_
 show IntKind.u32.wrap ((BitVec.ofInt 32 (a : Int) &&& BitVec.ofInt 32 (b : Int)).toNat : Int) = _
 rw [BitVec.toNat_and, h1, h2, IntKind.wrap_u32]
 omega
theorem tz_key (x a : Nat) (hx : x < 4294967296) (hx0 : x ≠ 0) (hlow : x &&& (4294967296 - x) = a) :
  Go.bits BinOp.and IntKind.u32 (x : Int) (-(x : Int) % 4294967296) * 125613361 % 4294967296 / 134217728 = ((a * 125613361 % 4294967296 / 134217728 : Nat) : Int) := by
 have e1 : -(x : Int) % 4294967296 = ((4294967296 - x : Nat) : Int) := by omega
 rw [e1, tz_bits_and_u32_nat x _ hx bh19_, hlow]
 omega
def bits_TrailingZeros32.f (a0 : Int) : Option (Int) := if 0 ≤ a0 ∧ a0 < 4294967296 then some (Lib.ctz 32 a0.toNat : Int) else none
set_option maxHeartbeats 1000000 in
theorem bits_TrailingZeros32.core (x k idx : Nat) (w : World) (hx0 : ((x : Int) == 0) = false)
  (key : Go.bits BinOp.and IntKind.u32 (x : Int) (-(x : Int) % 4294967296) * 125613361 % 4294967296 / 134217728 = (idx : Int))
  (hi : idx < 32) (hk : k < 32) (hcell : w.cell? ⟨0, idx, none⟩ = some (.int .u8 k)) :
  Calls Tryd.prog 68 #[.int .u32 x] w fun e w' => e = .returned (.int .i64 k) ∧ Drawn0 w w' := by
 go_enter Tryd.func68, Tryd.ntmps68
 go_wp2_with (simp only [key])
 go_ret
 exact ⟨rfl, boaj_⟩
theorem bits_TrailingZeros32.zero (w : World) :
  Calls Tryd.prog 68 #[.int .u32 0] w fun e w' => e = .returned (.int .i64 32) ∧ Drawn0 w w' := by
 go_enter Tryd.func68, Tryd.ntmps68
 go_wp2
 go_ret
 exact ⟨rfl, boaj_⟩
set_option maxHeartbeats 400000 in
set_option maxRecDepth 100000 in
theorem bits_TrailingZeros32.calls (a0 : Int) (r : Int) (w : World) (hG : TabOK w) (h : bits_TrailingZeros32.f a0 = some r) :
  Calls Tryd.prog 68 #[.int .u32 a0] w fun e w' => e = .returned (.int .i64 r) ∧ Drawn0 w w' := by
 unfold bits_TrailingZeros32.f at h
 split at h
 ·rename_i hh
  obtain ⟨h0, h1⟩ := hh
  obtain rfl := si_ h
  obtain ⟨x, rfl⟩ : ∃ x : Nat, a0 = x := ⟨a0.toNat, bh19_⟩
  rw [Int.toNat_natCast]
  by_cases hx1 : x = 0
  ·subst hx1
   exact bits_TrailingZeros32.zero w
  obtain ⟨hlow, hk⟩ := Lib.lowest_bit 32 x hx1 bh19_
  obtain ⟨hi, htab⟩ := Lib.deBruijn32_at _ hk
  have hcell := hG _ hi
  rw [htab] at hcell
  exact bits_TrailingZeros32.core x _ _ w (by simp; omega) (tz_key x _ bh19_ hx1 hlow) hi hk hcell
 cases h


def impl_set_list.l0 : Nat → Int → List Int → Option (List Int)
 | 0, _, _ => none
 | k + 1, x0, x3 => if x0 = 0 then (some x3) else ((bits_TrailingZeros32.f x0).bind fun t195 => (if x3.length < 17592186044416 then (impl_set_list.l0 k (Go.bits .and .u32 x0 ((x0 - 1) % 4294967296)) (x3 ++ [t195])) else (none)))
def impl_set_list.f (k : Nat) (a0 : Int) : Option (List Int) := impl_set_list.l0 k a0 (([] : List Int))
theorem impl_set_list.mono_l : ∀ k, (∀ y0 y1, LeO (impl_set_list.l0 k y0 y1) (impl_set_list.l0 (k + 1) y0 y1))
 | 0 => fun _ _ r h => by simp [impl_set_list.l0] at h
 | k + 1 => by
  have ih0 := impl_set_list.mono_l k
  ·intro y0 y1
   unfold impl_set_list.l0
   repeat' with_reducible first | exact ih0 .. | exact LeO.refl .. | exact LeO.none .. | refine LeO.ite ?_ ?_ | refine LeO.bind ?_ (fun _ => ?_)
theorem impl_set_list.mono : ∀ a0 k, LeO (impl_set_list.f k a0) (impl_set_list.f (k + 1) a0) := by
 intro a0 k
 have ih0 := impl_set_list.mono_l k
 unfold impl_set_list.f
 repeat' with_reducible first | exact ih0 .. | exact LeO.refl .. | exact LeO.none .. | refine LeO.ite ?_ ?_ | refine LeO.bind ?_ (fun _ => ?_)
theorem impl_set_list.calls (k : Nat) (a0 : Int) (r : List Int) (w : World) (hG : TabOK w) (h : impl_set_list.f k a0 = some r) :
  Calls Tryd.prog 47 #[.int .u32 a0] w fun e w' => ∃ v0_ : Value, e = .returned (v0_) ∧ Kd.R (Kd.int .i64) 3 w' w.heap.size (fun _ => True) v0_ r ∧ Below w.heap.size w w' := by
 have HG0 := A0_ hG
 clear hG
 have HB := A0_ (Below.refl w.heap.size w)
 have H : (impl_set_list.l0 k a0 (([] : List Int))) = some r := h
 clear h
 obtain ⟨y1, hy1⟩ : ∃ y_ : List Int, y_ = (([] : List Int)) := ⟨_, rfl⟩
 replace H : (impl_set_list.l0 k a0 y1) = some r := bgiq_
 have Ny1 := A0_ hy1
 clear hy1
 have H' := A0_ H
 clear H
 go_enter Tryd.func47, Tryd.ntmps47
 go_wp2_with (first | ((with_reducible refine gd_ (N := 4) rfl ?_); refine Kd.R_lit (Kd.int .i64) _ 3 ?hg (N := 4) ?hd (xs := ([] : List Int)) (inner := []) (ok := fun _ => True) (okp := fun _ => True) ?hr ?hp (fun _ hk => hk) trivial (Below.refl _ _) (Nat.le_refl _) bxka_ ?_; (case hd => rfl); (case hg => rfl); (case hr => go_simp; first | done | rfl); (case hp => exact (Reps.none _ _)); intro v1 w1 ho3 hb hg_ hnew_; clear hg_ hnew_; (first | rw [← Ny1.out] at ho3 | (simp only [Int.reduceToNat] at ho3; rw [← Ny1.out] at ho3)); have HO1 := A0_ (Kd.R_lower ho3 (bz_ brt4_)); replace HB := hb_ hb brt4_; clear hb ho3))
 go_loopg [0, 3] k (fun kq v0 v2 w' => ∃ (x0_1 : Int) (x3_1 : List Int), v0 = .int .u32 x0_1 ∧ Aside0 (impl_set_list.l0 kq x0_1 x3_1 = some r) ∧ Aside0 (kq ≤ k) ∧ Aside0 (Kd.R (Kd.int .i64) 3 w' w.heap.size (fun _ => True) v2 x3_1) ∧ Aside0 (Below w.heap.size w w'))
 case atStart => exact ⟨(a0), (y1), b2ew_, H', ⟨Nat.le_refl _⟩, ⟨bsm5_⟩, ⟨brt4_⟩⟩
 clear H'
 obtain ⟨x0_1, x3_1, rfl, HA, HK1, HO_1, HB⟩ := hrel
 cases gk with | zero => exact absurd HA.out (by simp [impl_set_list.l0]) | succ k1 => ?_
 have H := HA.out
 clear HA
 simp only [impl_set_list.l0] at H
 by_cases c1 : x0_1 = 0
 ·rw [if_pos c1] at H
  obtain ⟨c1b0, c1b1⟩ := et_ c1
  clear c1
  obtain rfl := si_ H
  go_wp2
  go_ret
  exact ⟨_, bnwh_, bwik_, brt4_⟩
 rw [if_neg c1] at H
 obtain ⟨c1b0, c1b1⟩ := ef_ c1
 obtain ⟨t1, A2, H⟩ := o1_ H
 by_cases c2 : x3_1.length < 17592186044416
 case neg =>
  rw [if_neg c2] at H
  exact absurd H bxka_
 rw [if_pos c2] at H
 have LMc1 := A0_ c2
 clear c2
 obtain ⟨y2, hy2⟩ : ∃ y_ : List Int, y_ = (x3_1 ++ [t1]) := ⟨_, rfl⟩
 replace H : (impl_set_list.l0 k1 (Go.bits .and .u32 x0_1 ((x0_1 - 1) % 4294967296)) y2) = some r := bscs_
 have Ny2 := A0_ hy2
 clear hy2
 have H' := A0_ H
 clear H
 go_wp2_with (first | ((with_reducible refine gc_ (f := 68) rfl ?_); refine gl_ 13 Tryd.func68 #[.int .u32 x0_1] ?_; (with_reducible refine (bits_TrailingZeros32.calls x0_1 t1 _ (by first | exact TabOK.below HG0.out brt4_ | (repeat (first | exact HG0.out | apply TabOK.drew | apply TabOK.drewN)) | exact TabOK.drawn HG0.out (by assumption)) A2.out).mono ?_); rintro e w' ⟨rfl, ⟨nd, rfl⟩⟩; refine ⟨_, rfl, ?_⟩) | ((with_reducible refine gate_builtin (b := .append) (xs := #[.tmp 11, .tmp 14]) rfl ?_); at_builtin; refine Kd.R_append (Kd.int .i64) (w0 := w) w.heap.size rfl (.tmp 11) (.tmp 14) 22 3 (.int .i64 0) 8 rfl Tryd.underlying22 info3 rfl bi3y_ bh19_ u3 x3_1 t1 [.int .i64 t1] (fun _ => True) (fun _ => False) rfl rfl ?aP (fun _ hk => hk.elim) ?aF ?aO ?aB ?aS ?aL ?_; (case aP => exact rfl); (case aB => exact brt4_); (case aF => exact (fun _ _ => trivial)); (case aO => exact bwik_); (case aS => exact (bz_ brt4_)); (case aL => have := LMc1.out; omega); intro v3 w2 ho hb hg hat; rw [← Ny2.out] at ho; have n0_ := A0_ (hb); have n1_ := A0_ (ho); clear HB HO_1; have HB := n0_; have HO2 := n1_; clear n0_ n1_ ho hb hg hat))
 go_roundg k1
 case measure => have := HK1.out; omega
 exact ⟨(Go.bits .and .u32 x0_1 ((x0_1 - 1) % 4294967296)), (y2), b2ew_, H', ⟨bxjq_⟩, ⟨b9so_⟩, ⟨brt4_⟩⟩

def impl_CrowdedGuests.l0 : Nat → Int → List Int → Int → Int → Int → Bool → List Int → List Int → Int → Option (List Int × Bool)
 | 0, _, _, _, _, _, _, _, _, _ => none
 | k + 1, x4, x11, x12, x13, x200000, x200001, x200002, x200003, x200004 => if x13 < x12 then (if 0 ≤ x13 then (if x13 < (x11.length : Int) then ((impl_Row_bench.f x200000 x200001 x200002).bind fun bt205 => ((impl_bench_near.f k bt205.1 bt205.2 (rd x11 x13)).bind fun t207 => (if x13 ≤ (x200003.length : Int) then ((impl_setOf.f k (x200003.drop (x13 : Int).toNat)).bind fun t209 => (if (Go.bits .and .u32 t207 t209) = 0 then (impl_CrowdedGuests.l0 k x4 x11 x12 (wrap64 (x13 + 1)) x200000 x200001 x200002 x200003 x200004) else (if 0 ≤ (rd x11 x13) then (impl_CrowdedGuests.l0 k (Go.bits .or .u32 x4 (shl .u32 1 (rd x11 x13))) x11 x12 (wrap64 (x13 + 1)) x200000 x200001 x200002 x200003 x200004) else (none)))) else (none)))) else (none)) else (none)) else ((impl_set_list.f k x4).bind fun t201 => (some (t201, true)))
def impl_CrowdedGuests.f (k : Nat) (a0_0 : Int) (a0_1 : Bool) (l0_2 : List Int) (l0_3 : List Int) (a0_4 : Int) : Option (List Int × Bool) := (impl_IsHouse.f k a0_0 a0_1 l0_2 l0_3 a0_4).bind fun t200 => (if t200 = true then (impl_CrowdedGuests.l0 k 0 l0_3 (l0_3.length : Int) 0 a0_0 a0_1 l0_2 l0_3 a0_4) else (some (([] : List Int), false)))
theorem impl_CrowdedGuests.mono_l : ∀ k, (∀ y0 y1 y2 y3 y4 y5 y6 y7 y8, LeO (impl_CrowdedGuests.l0 k y0 y1 y2 y3 y4 y5 y6 y7 y8) (impl_CrowdedGuests.l0 (k + 1) y0 y1 y2 y3 y4 y5 y6 y7 y8))
 | 0 => fun _ _ _ _ _ _ _ _ _ r h => by simp [impl_CrowdedGuests.l0] at h
 | k + 1 => by
  have ih0 := impl_CrowdedGuests.mono_l k
  ·intro y0 y1 y2 y3 y4 y5 y6 y7 y8
   unfold impl_CrowdedGuests.l0
   repeat' with_reducible first | exact ih0 .. | exact impl_IsHouse.mono .. | exact impl_bench_near.mono .. | exact impl_setOf.mono .. | exact impl_set_list.mono .. | exact LeO.refl .. | exact LeO.none .. | refine LeO.ite ?_ ?_ | refine LeO.bind ?_ (fun _ => ?_)
theorem impl_CrowdedGuests.mono : ∀ a0 a1 a2 a3 a4 k, LeO (impl_CrowdedGuests.f k a0 a1 a2 a3 a4) (impl_CrowdedGuests.f (k + 1) a0 a1 a2 a3 a4) := by
 intro a0 a1 a2 a3 a4 k
 have ih0 := impl_CrowdedGuests.mono_l k
 unfold impl_CrowdedGuests.f
 repeat' with_reducible first | exact ih0 .. | exact impl_IsHouse.mono .. | exact impl_bench_near.mono .. | exact impl_setOf.mono .. | exact impl_set_list.mono .. | exact LeO.refl .. | exact LeO.none .. | refine LeO.ite ?_ ?_ | refine LeO.bind ?_ (fun _ => ?_)
def impl_CrowdedGuests.T7 : Bool × List (List Nat × List Nat) := (true, [([], []), ([0], [0]), ([1], [1]), ([], []), ([2, 3, 2], [2, 3]), ([], []), ([5], [5]), ([], []), ([6, 7], [6, 7]), ([8, 4], [8]), ([4, 9], [4, 9]), ([10], [10])])
def impl_CrowdedGuests.B7 : List Nat := [0, 1, 3, 0, 15, 0, 32, 0, 224, 511, 1023, 2047]
theorem impl_CrowdedGuests.tab7 : rtab .any (opsOf Tryd.f15 7) = impl_CrowdedGuests.T7 := by kernel_rfl
theorem impl_CrowdedGuests.bits7 : waitsOk impl_CrowdedGuests.T7.2 impl_CrowdedGuests.B7 = true := by kernel_rfl
theorem impl_CrowdedGuests.calls (k : Nat) (a0_0 : Int) (a0_1 : Bool) (A0_2 : Option Addr) (c0_2 : Nat) (l0_2 : List Int) (A0_3 : Option Addr) (c0_3 : Nat) (l0_3 : List Int) (a0_4 : Int) (r1 : List Int) (r2 : Bool) (w : World) (hr0_2 : Kd.C (Kd.int .i64) w A0_2 l0_2.length l0_2) (hc0_2 : l0_2.length ≤ c0_2) (hr0_3 : Kd.C (Kd.int .i64) w A0_3 l0_3.length l0_3) (hc0_3 : l0_3.length ≤ c0_3) (hG : TabOK w) (h : impl_CrowdedGuests.f k a0_0 a0_1 l0_2 l0_3 a0_4 = some (r1, r2)) :
  Calls Tryd.prog 15 #[.agg #[.int .i64 a0_0, .bool a0_1, .slice A0_2 l0_2.length c0_2, .slice A0_3 l0_3.length c0_3, .int .i64 a0_4]] w fun e w' => ∃ v0_ : Value, e = .returned (.tuple #[v0_, .bool r2]) ∧ Kd.R (Kd.int .i64) 3 w' w.heap.size (fun _ => True) v0_ r1 ∧ Below w.heap.size w w' := by
 have HG0 := A0_ hG
 clear hG
 have hu26 := Tryd.underlying26
 have hu24 := Tryd.underlying24
 have HR0_2 := A0_ hr0_2
 have HC0_2 := A0_ hc0_2
 clear hr0_2 hc0_2
 have HR0_3 := A0_ hr0_3
 have HC0_3 := A0_ hc0_3
 clear hr0_3 hc0_3
 have HB := A0_ (Below.refl w.heap.size w)
 have H : ((impl_IsHouse.f k a0_0 a0_1 l0_2 l0_3 a0_4).bind fun t1 => (if t1 = true then (impl_CrowdedGuests.l0 k 0 l0_3 (l0_3.length : Int) 0 a0_0 a0_1 l0_2 l0_3 a0_4) else (some (([] : List Int), false)))) = some (r1, r2) := h
 clear h
 obtain ⟨t1, A2, H⟩ := o1_ H
 by_cases c1 : t1 = true
 case neg =>
  obtain rfl := bf_.mpr c1
  rw [if_neg ft_] at H
  simp only [sj_, pj_] at H
  obtain ⟨rfl, rfl⟩ := H
  go_enter Tryd.func15, Tryd.ntmps15
  go_wp2_with (first | ((with_reducible refine gd_ (N := 1) rfl ?_); refine bx_ 1 #[.int .i64 a0_0, .bool a0_1, .slice A0_2 l0_2.length c0_2, .slice A0_3 l0_3.length c0_3, .int .i64 a0_4] 26 ?_; intro gb1 hg w1 BK1 hb; have GW1 := ge_ hg brt4_; have GE1 := GW1; replace HB := hb_ hb brt4_; clear hb hg; have hcz1 := c5_ BK1) | ((with_reducible refine gc_ (f := 43) rfl ?_); refine gl_ 8 Tryd.func43 #[.agg #[.int .i64 a0_0, .bool a0_1, .slice A0_2 l0_2.length c0_2, .slice A0_3 l0_3.length c0_3, .int .i64 a0_4]] ?_; (with_reducible refine (impl_IsHouse.calls k a0_0 a0_1 _ _ l0_2 _ _ l0_3 a0_4 false _ ?side1 ?side2 ?side3 ?side4 A2.out).mono ?_); (case side1 => exact b6n8_); (case side2 => exact HC0_2.out); (case side3 => exact bkan_); (case side4 => exact HC0_3.out); rintro e w2 ⟨rfl, hb⟩; refine ⟨_, rfl, ?_⟩; replace BK1 := k1_ BK1 hb; replace HB := hb_ hb be6g_; (try clear hb)))
  go_ret2
  exact ⟨_, bnwh_, bwfe_, be6g_⟩
 subst c1
 rw [if_pos rfl] at H
 have H' := A0_ H
 clear H
 go_enter Tryd.func15, Tryd.ntmps15
 go_wp2_with (first | ((with_reducible refine gd_ (N := 1) rfl ?_); refine bx_ 1 #[.int .i64 a0_0, .bool a0_1, .slice A0_2 l0_2.length c0_2, .slice A0_3 l0_3.length c0_3, .int .i64 a0_4] 26 ?_; intro gb1 hg w1 BK1 hb; have GW1 := ge_ hg brt4_; have GE1 := GW1; replace HB := hb_ hb brt4_; clear hb hg; have hcz1 := c5_ BK1) | ((with_reducible refine gc_ (f := 43) rfl ?_); refine gl_ 8 Tryd.func43 #[.agg #[.int .i64 a0_0, .bool a0_1, .slice A0_2 l0_2.length c0_2, .slice A0_3 l0_3.length c0_3, .int .i64 a0_4]] ?_; (with_reducible refine (impl_IsHouse.calls k a0_0 a0_1 _ _ l0_2 _ _ l0_3 a0_4 true _ ?side1 ?side2 ?side3 ?side4 A2.out).mono ?_); (case side1 => exact b6n8_); (case side2 => exact HC0_2.out); (case side3 => exact bkan_); (case side4 => exact HC0_3.out); rintro e w2 ⟨rfl, hb⟩; refine ⟨_, rfl, ?_⟩; replace BK1 := k1_ BK1 hb; replace HB := hb_ hb be6g_; (try clear hb); have hcz2 := c5_ BK1))
 go_loopg [4, 13] k (fun kq v1 v2 w' => ∃ (x4_1 : Int) (x13_1 : Int), v1 = .int .u32 x4_1 ∧ v2 = .int .i64 x13_1 ∧ Aside0 (impl_CrowdedGuests.l0 kq x4_1 l0_3 (l0_3.length : Int) x13_1 a0_0 a0_1 l0_2 l0_3 a0_4 = some (r1, r2)) ∧ Aside0 (kq ≤ k) ∧ Aside0 (w'.heap[gb1]? = some (.cells #[.int .i64 a0_0, .bool a0_1, (.slice A0_2 l0_2.length c0_2), (.slice A0_3 l0_3.length c0_3), .int .i64 a0_4] 26 (0, 0))) ∧ Aside0 (Below w.heap.size w w'))
 case atStart => exact ⟨(0), (0), b2ew_, b2ew_, H', ⟨Nat.le_refl _⟩, ⟨u1_ BK1⟩, ⟨be6g_⟩⟩
 clear H'
 try clear c1
 (try clear hcz1); (try clear hcz2)
 obtain ⟨x4_1, x13_1, rfl, rfl, HA, HK1, BK1, HB⟩ := hrel
 cases gk with | zero => exact absurd HA.out (by simp [impl_CrowdedGuests.l0]) | succ k1 => ?_
 have H := HA.out
 clear HA
 simp only [impl_CrowdedGuests.l0] at H
 by_cases c2 : x13_1 < (l0_3.length : Int)
 case neg =>
  rw [if_neg c2] at H
  have c2b0 : decide (x13_1 < (l0_3.length : Int)) = false := decide_eq_false c2
  clear c2
  obtain ⟨t2, A4, H⟩ := o1_ H
  replace H : (some (t2, true)) = some (r1, r2) := H
  simp only [sj_, pj_] at H
  obtain ⟨rfl, rfl⟩ := H
  go_wp2_with (first | ((with_reducible refine gc_ (f := 47) rfl ?_); refine gl_ 36 Tryd.func47 #[.int .u32 x4_1] ?_; (with_reducible refine (impl_set_list.calls k1 x4_1 t2 _ bko1_ A4.out).mono ?_); rintro e w3 ⟨v3, rfl, ho0, hb⟩; refine ⟨_, rfl, ?_⟩; have HO1 := A0_ (Kd.R_lower ho0 (bz_ be6g_)); replace BK1 := k1_ BK1 hb; replace HB := hb_ hb be6g_; (try clear hb); (try clear ho0)))
  go_ret2
  exact ⟨_, bnwh_, bsm5_, be6g_⟩
 rw [if_pos c2] at H
 have c2b0 : decide (x13_1 < (l0_3.length : Int)) = true := dt_ c2
 clear c2
 by_cases c3 : 0 ≤ x13_1
 case neg =>
  rw [if_neg c3] at H
  exact absurd H bxka_
 rw [if_pos c3] at H
 have c3b0 : decide (0 ≤ x13_1) = true := dt_ c3
 clear c3
 by_cases c4 : x13_1 < (l0_3.length : Int)
 case neg =>
  rw [if_neg c4] at H
  exact absurd H bxka_
 rw [if_pos c4] at H
 have c4b0 : decide (x13_1 < (l0_3.length : Int)) = true := dt_ c4
 clear c4
 obtain ⟨⟨t2, t3⟩, A4, H⟩ := o1_ H
 obtain ⟨t4, A6, H⟩ := o1_ H
 have c5b0 := eq_true (od_ bpil_ : 0 ≤ x13_1)
 by_cases c6 : x13_1 ≤ (l0_3.length : Int)
 case neg =>
  rw [if_neg c6] at H
  exact absurd H bxka_
 rw [if_pos c6] at H
 have c6b0 := eq_true c6
 have c6b1 : decide (x13_1 ≤ (l0_3.length : Int)) = true := dt_ c6
 clear c6
 obtain ⟨t5, A8, H⟩ := o1_ H
 by_cases c7 : (Go.bits .and .u32 t4 t5) = 0
 ·rw [if_pos c7] at H
  obtain ⟨c7b0, c7b1⟩ := et_ c7
  clear c7
  have H' := A0_ H
  clear H
  have p1 : 0 ≤ (x13_1 : Int) := od_ bpil_
  have q1 : x13_1 < (l0_3.length : Int) := od_ bpil_
  obtain ⟨ad1, e1, hx1_0⟩ := Kd.at_int HR0_3.out x13_1 p1 q1
  cases e1
  replace hx1_0 := (HB.out.cell (World.block_lt_of_cell? w _ hx1_0)).trans hx1_0
  replace p1 := eq_true p1
  replace q1 := eq_true q1
  try go_wp2
  replace BK1 := A0_ (kd_ BK1.out)
  replace HB := A0_ (bd_ HB.out)
  obtain ⟨i018, hi018, _, hsz18, _⟩ := info_parts info3
  obtain ⟨A9, hcut18, hA18, hC18⟩ := print_drop_of (P := Tryd.prog) (Value.int .i64) 0 22 3 .i64 Tryd.underlying22 hi018 hsz18 (some ad1) c0_3 l0_3 x13_1 (od_ bpil_) (od_ bpil_) HC0_3.out
  have HR208 := A0_ (Kd.C_of_reads (h1 := fun _ => rfl) (hA18 _ (Kd.reads_of_C HR0_3.out)))
  have HC208 := A0_ hC18
  clear hA18 hC18 hi018 hsz18
  refine s5_ 12 [] BK1 impl_CrowdedGuests.tab7 impl_CrowdedGuests.bits7 (fun hHeld HT_ HW_ => ?_)
  generalize wr.drew = w3 at BK1 HB HR208 hHeld ⊢
  refine pu_ 0 18 ?_
  refine pu_ 3 21 ?_
  refine pu_ 5 23 ?_
  refine pu_ 7 25 ?_
  refine tk_ 1 19 hHeld ?_
  refine tk_ 6 24 hHeld ?_
  refine pu_ 8 26 ?_
  refine on_ 2 (some 20) (fun K hK => ?_)
  refine gs_ Tryd.func44 #[.agg #[.int .i64 a0_0, .bool a0_1, .slice A0_2 l0_2.length c0_2]] ?_
  with_reducible refine (impl_Row_bench.calls a0_0 a0_1 _ _ l0_2 t2 t3 _ ?side1 ?side2 A4.out).mono ?_
  (case side1 => exact b6n8_)
  (case side2 => exact HC0_2.out)
  rintro e w4 ⟨rfl, hb⟩
  refine ⟨_, rfl, ?_⟩
  replace BK1 := k1_ BK1 hb
  replace HB := hb_ hb be6g_
  (try clear hb)
  refine hK.out _ _ (c5_ BK1) (fun hHeld => ?_)
  clear hK K
  refine nm_ 20 ?_
  refine on_ 4 (some 22) (fun K hK => ?_)
  refine gs_ Tryd.func45 #[.agg #[.int .i64 t2, .bool t3], .int .i64 (rd l0_3 x13_1)] ?_
  with_reducible refine (impl_bench_near.calls k1 t2 t3 (rd l0_3 x13_1) t4 _ A6.out).mono ?_
  rintro e w5 ⟨rfl, hb⟩
  refine ⟨_, rfl, ?_⟩
  replace BK1 := k1_ BK1 hb
  replace HB := hb_ hb be6g_
  (try clear hb)
  refine hK.out _ _ (c5_ BK1) (fun hHeld => ?_)
  clear hK K
  refine nm_ 22 ?_
  refine on_ 9 (some 27) (fun K hK => ?_)
  refine goes_ Tryd.func46 bfqv_ rfl #[.slice A9 (l0_3.drop (x13_1 : Int).toNat).length (c0_3 - x13_1.toNat)] (by rfl) rfl rfl by2a_ ?_
  with_reducible refine (impl_setOf.calls k1 _ _ (l0_3.drop (x13_1 : Int).toNat) t5 _ ?side1 ?side2 A8.out).mono ?_
  (case side1 => exact b8fp_)
  (case side2 => exact HC208.out)
  rintro e w' ⟨rfl, ⟨nd, rfl⟩⟩
  refine ⟨_, rfl, ?_⟩
  refine hK.out _ _ (c5_ BK1) (fun hHeld => ?_)
  clear hK K
  refine nm_ 27 ?_
  refine pu_ 10 28 ?_
  refine pu_ 11 29 ?_
  refine dn_ ?_
  try go_wp2
  go_roundg k1
  case measure => have := HK1.out; omega
  exact ⟨(x4_1), (wrap64 (x13_1 + 1)), b2ew_, b2ew_, H', ⟨bxjq_⟩, ⟨u1_ BK1⟩, ⟨be6g_⟩⟩
 rw [if_neg c7] at H
 obtain ⟨c7b0, c7b1⟩ := ef_ c7
 by_cases c8 : 0 ≤ (rd l0_3 x13_1)
 case neg =>
  rw [if_neg c8] at H
  exact absurd H bxka_
 rw [if_pos c8] at H
 have c8b0 := eq_true c8
 have c8b1 : decide (0 ≤ (rd l0_3 x13_1)) = true := dt_ c8
 clear c8
 obtain ⟨ji1, hji1⟩ : ∃ j_ : Int, (shl .u32 1 (rd l0_3 x13_1)) = j_ := ⟨_, rfl⟩
 replace H : (impl_CrowdedGuests.l0 k1 (Go.bits .or .u32 x4_1 (ji1)) l0_3 (l0_3.length : Int) (wrap64 (x13_1 + 1)) a0_0 a0_1 l0_2 l0_3 a0_4) = some (r1, r2) := bmns_
 (try rw [hji1] at A4)
 (try rw [hji1] at A6)
 (try rw [hji1] at A8)
 have hji1_ : (IntKind.u32.wrap (1 * 2 ^ min (rd l0_3 x13_1).toNat 32)) = ji1 := hji1
 have hji22z : (rd l0_3 x13_1) ≤ 32 → (IntKind.u32.wrap (1 * 2 ^ (rd l0_3 x13_1).toNat)) = ji1 := shl_small hji1
 have hji22u : (IntKind.u32.wrap (2 ^ min (rd l0_3 x13_1).toNat 32)) = ji1 := by have h_ := hji1_; rw [Int.one_mul] at h_; exact h_
 have hji22v : (rd l0_3 x13_1) ≤ 32 → (IntKind.u32.wrap (2 ^ (rd l0_3 x13_1).toNat)) = ji1 := fun hle_ => by have h_ := hji22z hle_; rw [Int.one_mul] at h_; exact h_
 have H' := A0_ H
 clear H
 have p1 : 0 ≤ (x13_1 : Int) := od_ bpil_
 have q1 : x13_1 < (l0_3.length : Int) := od_ bpil_
 obtain ⟨ad1, e1, hx1_0⟩ := Kd.at_int HR0_3.out x13_1 p1 q1
 cases e1
 replace hx1_0 := (HB.out.cell (World.block_lt_of_cell? w _ hx1_0)).trans hx1_0
 replace p1 := eq_true p1
 replace q1 := eq_true q1
 try go_wp2
 replace BK1 := A0_ (kd_ BK1.out)
 replace HB := A0_ (bd_ HB.out)
 obtain ⟨i024, hi024, _, hsz24, _⟩ := info_parts info3
 obtain ⟨A9, hcut24, hA24, hC24⟩ := print_drop_of (P := Tryd.prog) (Value.int .i64) 0 22 3 .i64 Tryd.underlying22 hi024 hsz24 (some ad1) c0_3 l0_3 x13_1 (od_ bpil_) (od_ bpil_) HC0_3.out
 have HR208 := A0_ (Kd.C_of_reads (h1 := fun _ => rfl) (hA24 _ (Kd.reads_of_C HR0_3.out)))
 have HC208 := A0_ hC24
 clear hA24 hC24 hi024 hsz24
 refine s5_ 12 [] BK1 impl_CrowdedGuests.tab7 impl_CrowdedGuests.bits7 (fun hHeld HT_ HW_ => ?_)
 generalize wr.drew = w3 at BK1 HB HR208 hHeld ⊢
 refine pu_ 0 18 ?_
 refine pu_ 3 21 ?_
 refine pu_ 5 23 ?_
 refine pu_ 7 25 ?_
 refine tk_ 1 19 hHeld ?_
 refine tk_ 6 24 hHeld ?_
 refine pu_ 8 26 ?_
 refine on_ 2 (some 20) (fun K hK => ?_)
 refine gs_ Tryd.func44 #[.agg #[.int .i64 a0_0, .bool a0_1, .slice A0_2 l0_2.length c0_2]] ?_
 with_reducible refine (impl_Row_bench.calls a0_0 a0_1 _ _ l0_2 t2 t3 _ ?side1 ?side2 A4.out).mono ?_
 (case side1 => exact b6n8_)
 (case side2 => exact HC0_2.out)
 rintro e w4 ⟨rfl, hb⟩
 refine ⟨_, rfl, ?_⟩
 replace BK1 := k1_ BK1 hb
 replace HB := hb_ hb be6g_
 (try clear hb)
 refine hK.out _ _ (c5_ BK1) (fun hHeld => ?_)
 clear hK K
 refine nm_ 20 ?_
 refine on_ 4 (some 22) (fun K hK => ?_)
 refine gs_ Tryd.func45 #[.agg #[.int .i64 t2, .bool t3], .int .i64 (rd l0_3 x13_1)] ?_
 with_reducible refine (impl_bench_near.calls k1 t2 t3 (rd l0_3 x13_1) t4 _ A6.out).mono ?_
 rintro e w5 ⟨rfl, hb⟩
 refine ⟨_, rfl, ?_⟩
 replace BK1 := k1_ BK1 hb
 replace HB := hb_ hb be6g_
 (try clear hb)
 refine hK.out _ _ (c5_ BK1) (fun hHeld => ?_)
 clear hK K
 refine nm_ 22 ?_
 refine on_ 9 (some 27) (fun K hK => ?_)
 refine goes_ Tryd.func46 bfqv_ rfl #[.slice A9 (l0_3.drop (x13_1 : Int).toNat).length (c0_3 - x13_1.toNat)] (by rfl) rfl rfl by2a_ ?_
 with_reducible refine (impl_setOf.calls k1 _ _ (l0_3.drop (x13_1 : Int).toNat) t5 _ ?side1 ?side2 A8.out).mono ?_
 (case side1 => exact b8fp_)
 (case side2 => exact HC208.out)
 rintro e w' ⟨rfl, ⟨nd, rfl⟩⟩
 refine ⟨_, rfl, ?_⟩
 refine hK.out _ _ (c5_ BK1) (fun hHeld => ?_)
 clear hK K
 refine nm_ 27 ?_
 refine pu_ 10 28 ?_
 refine pu_ 11 29 ?_
 refine dn_ ?_
 try go_wp2
 go_roundg k1
 case measure => have := HK1.out; omega
 exact ⟨(Go.bits .or .u32 x4_1 (ji1)), (wrap64 (x13_1 + 1)), b1tc_, b2ew_, H', ⟨bxjq_⟩, ⟨u1_ BK1⟩, ⟨be6g_⟩⟩

def laws_vBig.f (l0 : List Int) : Option (Bool) := some (decide ((l0.length : Int) > 65536))
theorem laws_vBig.calls (A0 : Option Addr) (c0 : Nat) (l0 : List Int) (r : Bool) (w : World) (hr0 : Kd.C (Kd.int .u8) w A0 l0.length l0) (hc0 : l0.length ≤ c0) (h : laws_vBig.f l0 = some r) :
  Calls Tryd.prog 22 #[.slice A0 l0.length c0] w fun e w' => e = .returned (.bool r) ∧ Drawn0 w w' := by
 have HR0 := A0_ hr0
 have HC0 := A0_ hc0
 clear hr0 hc0
 have H : (some (decide ((l0.length : Int) > 65536))) = some r := h
 clear h
 obtain rfl := si_ H
 go_enter Tryd.func22, Tryd.ntmps22
 go_wp2
 go_ret
 exact ⟨b04z_, boaj_⟩

def spec_l1Own.f (l0 : List Int) : Option (List Int) := (some (([] : List Int) : List Int)).bind fun y210 => (if y210.length + l0.length < 17592186044416 then (some (y210 ++ l0)) else (none))
theorem spec_l1Own.calls (A0 : Option Addr) (c0 : Nat) (l0 : List Int) (r : List Int) (w : World) (hr0 : Kd.C (Kd.int .i64) w A0 l0.length l0) (hc0 : l0.length ≤ c0) (h : spec_l1Own.f l0 = some r) :
  Calls Tryd.prog 58 #[.slice A0 l0.length c0] w fun e w' => ∃ v0_ : Value, e = .returned (v0_) ∧ Kd.R (Kd.int .i64) 3 w' w.heap.size (fun _ => True) v0_ r ∧ Below w.heap.size w w' := by
 have HR0 := A0_ hr0
 have HC0 := A0_ hc0
 clear hr0 hc0
 have HB := A0_ (Below.refl w.heap.size w)
 have H : ((some (([] : List Int) : List Int)).bind fun y1 => (if y1.length + l0.length < 17592186044416 then (some (y1 ++ l0)) else (none))) = some r := h
 clear h
 obtain ⟨y1, hy1⟩ : ∃ y_ : List Int, y_ = (([] : List Int)) := ⟨_, rfl⟩
 replace H : (if y1.length + l0.length < 17592186044416 then (some (y1 ++ l0)) else (none)) = some r := bgiq_
 have Ny1 := A0_ hy1
 clear hy1
 by_cases c1 : y1.length + l0.length < 17592186044416
 case neg =>
  rw [if_neg c1] at H
  exact absurd H bxka_
 rw [if_pos c1] at H
 have LMc1 := A0_ c1
 clear c1
 obtain ⟨y2, hy2⟩ : ∃ y_ : List Int, y_ = (y1 ++ l0) := ⟨_, rfl⟩
 replace H : (some y2) = some r := bscs_
 have Ny2 := A0_ hy2
 clear hy2
 obtain rfl := si_ H
 go_enter Tryd.func58, Tryd.ntmps58
 go_wp2_with (first | ((with_reducible refine gd_ (N := 3) rfl ?_); refine Kd.R_lit (Kd.int .i64) _ 3 ?hg (N := 3) ?hd (xs := ([] : List Int)) (inner := []) (ok := fun _ => True) (okp := fun _ => True) ?hr ?hp (fun _ hk => hk) trivial (Below.refl _ _) (Nat.le_refl _) bxka_ ?_; (case hd => rfl); (case hg => rfl); (case hr => go_simp; first | done | rfl); (case hp => exact (Reps.none _ _)); intro v1 w1 ho4 hb hg_ hnew_; clear hg_ hnew_; (first | rw [← Ny1.out] at ho4 | (simp only [Int.reduceToNat] at ho4; rw [← Ny1.out] at ho4)); have HO1 := A0_ (Kd.R_lower ho4 (bz_ brt4_)); replace HB := hb_ hb brt4_; clear hb ho4) | ((with_reducible refine gate_builtin (b := .append) (xs := #[.tmp 3, .tmp 4]) rfl ?_); at_builtin; refine Kd.R_append_rows (Kd.int .i64) (w0 := w) w.heap.size rfl (.tmp 3) (.tmp 4) 22 3 (.int .i64 0) 8 rfl Tryd.underlying22 info3 rfl bi3y_ bh19_ v1 y1 l0 _ _ _ (fun _ => True) (fun _ => False) rfl rfl ?aO ?aR (fun _ _ h => h) (fun _ h => h.elim) ?aF ?aB ?aS ?aL ?_; (case aR => exact bg0z_); (case aB => exact brt4_); (case aF => exact (fun _ _ => trivial)); (case aO => exact bsm5_); (case aS => exact (bz_ brt4_)); (case aL => have := LMc1.out; omega); intro v2 w2 ho hb hg hat; rw [← Ny2.out] at ho; have n0_ := A0_ (hb); have n1_ := A0_ (ho); clear HB HO1; have HB := n0_; have HO2 := n1_; clear n0_ n1_ ho hb hg hat))
 go_ret
 exact ⟨_, bnwh_, b9so_, brt4_⟩

def spec_l12Own.f (a0_0 : Int) (a0_1 : Bool) (l0_2 : List Int) (l0_3 : List Int) (a0_4 : Int) : Option (Int × Bool × List Int × List Int × Int) := (spec_l1Own.f l0_2).bind fun t219 => ((spec_l1Own.f l0_3).bind fun t222 => (some (a0_0, a0_1, t219, t222, a0_4)))
theorem spec_l12Own.calls (a0_0 : Int) (a0_1 : Bool) (A0_2 : Option Addr) (c0_2 : Nat) (l0_2 : List Int) (A0_3 : Option Addr) (c0_3 : Nat) (l0_3 : List Int) (a0_4 : Int) (r1 : Int) (r2 : Bool) (r3 : List Int) (r4 : List Int) (r5 : Int) (w : World) (hr0_2 : Kd.C (Kd.int .i64) w A0_2 l0_2.length l0_2) (hc0_2 : l0_2.length ≤ c0_2) (hr0_3 : Kd.C (Kd.int .i64) w A0_3 l0_3.length l0_3) (hc0_3 : l0_3.length ≤ c0_3) (h : spec_l12Own.f a0_0 a0_1 l0_2 l0_3 a0_4 = some (r1, r2, r3, r4, r5)) :
  Calls Tryd.prog 31 #[.agg #[.int .i64 a0_0, .bool a0_1, .slice A0_2 l0_2.length c0_2, .slice A0_3 l0_3.length c0_3, .int .i64 a0_4]] w fun e w' => ∃ v2_ v3_ : Value, e = .returned (.agg #[.int .i64 r1, .bool r2, v2_, v3_, .int .i64 r5]) ∧ Kd.R (Kd.int .i64) 3 w' w.heap.size (fun k_ => no_ v3_ k_) v2_ r3 ∧ Kd.R (Kd.int .i64) 3 w' w.heap.size (fun k_ => no_ v2_ k_) v3_ r4 ∧ Below w.heap.size w w' := by
 have hu26 := Tryd.underlying26
 have HR0_2 := A0_ hr0_2
 have HC0_2 := A0_ hc0_2
 clear hr0_2 hc0_2
 have HR0_3 := A0_ hr0_3
 have HC0_3 := A0_ hc0_3
 clear hr0_3 hc0_3
 have HB := A0_ (Below.refl w.heap.size w)
 have H : ((spec_l1Own.f l0_2).bind fun t1 => ((spec_l1Own.f l0_3).bind fun t2 => (some (a0_0, a0_1, t1, t2, a0_4)))) = some (r1, r2, r3, r4, r5) := h
 clear h
 obtain ⟨t1, A2, H⟩ := o1_ H
 obtain ⟨t2, A4, H⟩ := o1_ H
 replace H : (some (a0_0, a0_1, t1, t2, a0_4)) = some (r1, r2, r3, r4, r5) := H
 simp only [sj_, pj_] at H
 obtain ⟨rfl, rfl, rfl, rfl, rfl⟩ := H
 go_enter Tryd.func31, Tryd.ntmps31
 go_wp2_with (first | ((with_reducible refine gd_ (N := 1) rfl ?_); refine bx_ 1 #[.int .i64 a0_0, .bool a0_1, .slice A0_2 l0_2.length c0_2, .slice A0_3 l0_3.length c0_3, .int .i64 a0_4] 26 ?_; intro gb1 hg w1 BK1 hb; have GW1 := ge_ hg brt4_; have GE1 := GW1; replace HB := hb_ hb brt4_; clear hb hg) | ((with_reducible refine gd_ (N := 2) rfl ?_); refine bx_ 2 #[.int .i64 0, .bool false, .slice none 0 0, .slice none 0 0, .int .i64 0] 26 ?_; intro gb2 hg w2 BK2 hb; have GW2 := ge_ hg be6g_; have GE2 := GW2; replace HB := hb_ hb be6g_; have NB1_2 := nl_ hg BK1; have NB2_1 := ng_ hg BK1; replace BK1 := k1_ BK1 hb; clear hb hg; have hnb1 := NB1_2.out; have hnc1 := NB2_1.out; have hcz1 := z5_ BK1) | ((with_reducible refine gd_ (N := 3) rfl ?_); refine bx_ 3 #[.int .i64 0, .bool false, .slice none 0 0, .slice none 0 0, .int .i64 0] 26 ?_; intro gb3 hg w3 BK3 hb; have GW3 := ge_ hg bfnq_; have GE3 := GW3; replace HB := hb_ hb bfnq_; have NB1_3 := nl_ hg BK1; have NB3_1 := ng_ hg BK1; replace BK1 := k1_ BK1 hb; have NB2_3 := nl_ hg BK2; have NB3_2 := ng_ hg BK2; replace BK2 := k1_ BK2 hb; clear hb hg; have hnb2 := NB3_1.out; have hnc2 := NB1_3.out; have hnb3 := NB3_2.out; have hnc3 := NB2_3.out; have hcz2 := z5_ BK3; have hcz3 := z5_ BK1) | ((with_reducible refine gc_ (f := 58) rfl ?_); refine gl_ 8 Tryd.func58 #[.slice A0_2 l0_2.length c0_2] ?_; (with_reducible refine (spec_l1Own.calls _ _ l0_2 t1 _ ?side1 ?side2 A2.out).mono ?_); (case side1 => exact cb_ HR0_2.out b850_); (case side2 => exact HC0_2.out); rintro e w4 ⟨v1, rfl, ho0, hb⟩; refine ⟨_, rfl, ?_⟩; have HO1 := A0_ (Kd.R_lower ho0 (bz_ b850_)); replace BK1 := k1_ BK1 hb; replace BK2 := k1_ BK2 hb; replace BK3 := k2_ (.cells #[.int .i64 a0_0, .bool a0_1, .slice A0_2 l0_2.length c0_2, .slice A0_3 l0_3.length c0_3, .int .i64 a0_4] 26 (0, 0)) BK3 hb; replace HB := hb_ hb b850_; (try clear hb); (try clear ho0); obtain ⟨Ao1, co1, eo1⟩ := Kd.R_slice HO1.out; subst eo1; have hcz4 := z5_ BK3; have hcz5 := z5_ BK1) | ((with_reducible refine gc_ (f := 58) rfl ?_); refine gl_ 13 Tryd.func58 #[.slice A0_3 l0_3.length c0_3] ?_; (with_reducible refine (spec_l1Own.calls _ _ l0_3 t2 _ ?side1 ?side2 A4.out).mono ?_); (case side1 => exact cb_ HR0_3.out b850_); (case side2 => exact HC0_3.out); rintro e w5 ⟨v4, rfl, ho0, hb⟩; refine ⟨_, rfl, ?_⟩; have HO2 := A0_ (Kd.R_lower (Kd.R_new' ho0 (Kd.R_lt bn35_)) (bz_ b850_)); replace HO1 := A0_ (Kd.R_elder' bn35_ (Kd.R_base ho0) hb); replace BK1 := k1_ BK1 hb; replace BK2 := k1_ BK2 hb; replace BK3 := k2_ (.cells #[.int .i64 a0_0, .bool a0_1, .slice Ao1 t1.length co1, .slice A0_3 l0_3.length c0_3, .int .i64 a0_4] 26 (0, 0)) BK3 hb; replace HB := hb_ hb b850_; (try clear hb); (try clear ho0); obtain ⟨Ao2, co2, eo2⟩ := Kd.R_slice HO2.out; subst eo2; have hcz6 := z5_ BK3; have hcz7 := z5_ BK2))
 refine bodyPost_ret (results_cell_row rfl _ _ gb2 26 #[.int .i64 a0_0, .bool a0_1, .slice Ao1 t1.length co1, .slice Ao2 t2.length co2, .int .i64 a0_4] (0, 0) _ rfl (u1_ BK2) Tryd.underlying26 rfl bfqv_) rfl ?_
 exact ⟨_, _, bnwh_, by (with_reducible repeat (first | apply ra_ | apply rn_ | apply rd_)); exact Kd.R_mono (rf_ (rf_ (rf_ (rf_ (rf_ (rf_ (Kd.R_types (Kd.R_types HO1.out BK3.out bi3y_) BK2.out bi3y_) (fun _ hk => hk.1.2) (.slice Ao2 t2.length co2)) k2_0 _) k2_0 _) k2_0 _) k2_0 _) k2_0 _) (fun _ hk => hk.1.1.2), by (with_reducible repeat (first | apply ra_ | apply rn_ | apply rd_)); exact Kd.R_mono (rf_ (rf_ (rf_ (rf_ (rf_ (rf_ (Kd.R_types (Kd.R_types HO2.out BK3.out bi3y_) BK2.out bi3y_) (fun _ hk => hk.1.2) (.slice Ao2 t2.length co2)) k2_0 _) k2_0 _) k2_0 _) k2_0 _) k2_0 _) (fun _ hk => hk.1.1.2), b850_⟩

end Go.Proofs.YtbohmfnjgjijdaaDoor.QFnGuests
-- packed
-- squeezed
