-- Written by px.py, a program of this session, over the kit's printer: some functions have a definition and a proof of this session's own.
import Derived.RangeFuncBox
import Derived.RangeFuncLeaves
import Derived.Shelf.Abstract
import Derived.OwnWalkIn
import Derived.TacticsInMore
import Derived.LoopNIn
import Derived.LoopIn
import Derived.Maps.AppendAt
import Derived.Sort.OwnSortedInts
import Derived.Shelf.Slices.In.SortNone
import Derived.Shelf.Sort.Plain
import Derived.KernelRfl
import Derived.Test.YtbohmfnjgjijdaaGreatDoorQFnExactDoWorksx0
import Derived.Lib.TrailingZeros
import Derived.Laws.Bits64b
import Derived.Test.YtbohmfnjgjijdaaGreatDoorQFnExactDoWorksx2
import Derived.Lib.SliceRun
import Derived.Shelf.Slices.Delete
namespace Go.Proofs.YtbohmfnjgjijdaaGreatDoor.QFnExactDoWorks
open Go.RowKit Go.Proofs.YtbohmfnjgjijdaaGreatDoorW.PrintWords Go.Proofs.YtbohmfnjgjijdaaGreatDoorW.PrintLast Go.Proofs.YtbohmfnjgjijdaaGreatDoorW.PrintMore
attribute [local go_sem] max2_int min2_int max_two min_two max_three min_three max_four min_four   -- for this text's walks alone
set_option linter.unusedVariables false
set_option linter.unusedSimpArgs false
set_option maxHeartbeats 8000000
set_option maxRecDepth 100000

def slices_Equal_int_int.l0 : Nat → List Int → List Int → Int → Int → Option (Bool)
 | 0, _, _, _, _ => none
 | k + 1, x0, x1, x12, x13 => if x13 < x12 then (if 0 ≤ x13 then (if x13 < (x0.length : Int) then (if x13 < (x1.length : Int) then (if (rd x0 x13) = (rd x1 x13) then (slices_Equal_int_int.l0 k x0 x1 x12 (wrap64 (x13 + 1))) else (some false)) else (none)) else (none)) else (none)) else (some true)
def slices_Equal_int_int.f (k : Nat) (l0 : List Int) (l1 : List Int) : Option (Bool) := if (l0.length : Int) = (l1.length : Int) then (slices_Equal_int_int.l0 k l0 l1 (l0.length : Int) 0) else (some false)
theorem slices_Equal_int_int.mono_l : ∀ k, (∀ y0 y1 y2 y3, LeO (slices_Equal_int_int.l0 k y0 y1 y2 y3) (slices_Equal_int_int.l0 (k + 1) y0 y1 y2 y3))
 | 0 => fun _ _ _ _ r h => by simp [slices_Equal_int_int.l0] at h
 | k + 1 => by
  have ih0 := slices_Equal_int_int.mono_l k
  ·intro y0 y1 y2 y3
   unfold slices_Equal_int_int.l0
   repeat' with_reducible first | exact ih0 .. | exact LeO.refl .. | exact LeO.none .. | refine LeO.ite ?_ ?_ | refine LeO.bind ?_ (fun _ => ?_)
theorem slices_Equal_int_int.mono : ∀ a0 a1 k, LeO (slices_Equal_int_int.f k a0 a1) (slices_Equal_int_int.f (k + 1) a0 a1) := by
 intro a0 a1 k
 have ih0 := slices_Equal_int_int.mono_l k
 unfold slices_Equal_int_int.f
 repeat' with_reducible first | exact ih0 .. | exact LeO.refl .. | exact LeO.none .. | refine LeO.ite ?_ ?_ | refine LeO.bind ?_ (fun _ => ?_)
theorem slices_Equal_int_int.calls (k : Nat) (A0 : Option Addr) (c0 : Nat) (l0 : List Int) (A1 : Option Addr) (c1 : Nat) (l1 : List Int) (r : Bool) (w : World) (hr0 : Kd.C (Kd.int .i64) w A0 l0.length l0) (hc0 : l0.length ≤ c0) (hr1 : Kd.C (Kd.int .i64) w A1 l1.length l1) (hc1 : l1.length ≤ c1) (h : slices_Equal_int_int.f k l0 l1 = some r) :
  Calls Tryz.prog 59 #[.slice A0 l0.length c0, .slice A1 l1.length c1] w fun e w' => e = .returned (.bool r) ∧ Drawn0 w w' := by
 have HR0 := A0_ hr0
 have HC0 := A0_ hc0
 clear hr0 hc0
 have HR1 := A0_ hr1
 have HC1 := A0_ hc1
 clear hr1 hc1
 have H : (if (l0.length : Int) = (l1.length : Int) then (slices_Equal_int_int.l0 k l0 l1 (l0.length : Int) 0) else (some false)) = some r := h
 clear h
 by_cases c2 : (l0.length : Int) = (l1.length : Int)
 case neg =>
  rw [if_neg c2] at H
  obtain ⟨c2b0, c2b1⟩ := ef_ c2
  have c2b2 : (l0.length == l1.length) = false := bds5_
  obtain rfl := si_ H
  go_enter Tryz.func59, Tryz.ntmps59
  go_wp2
  repeat (go_quiet (fail); try go_wp2)
  go_ret
  exact ⟨b04z_, boaj_⟩
 rw [if_pos c2] at H
 obtain ⟨c2b0, c2b1⟩ := et_ c2
 have c2b2 : (l0.length == l1.length) = true := bds5_
 clear c2
 have H' := A0_ H
 clear H
 go_enter Tryz.func59, Tryz.ntmps59
 go_wp2
 repeat (go_quiet (fail); try go_wp2)
 go_loopg [13] k (fun kq v1 w' => ∃ (x13_1 : Int), v1 = .int .i64 x13_1 ∧ Aside0 (slices_Equal_int_int.l0 kq l0 l1 (l0.length : Int) x13_1 = some r) ∧ Aside0 (kq ≤ k) ∧ Drawn0 w w')
 case atStart => exact ⟨(0), b2ew_, H', ⟨Nat.le_refl _⟩, boaj_⟩
 clear H'
 try clear c1
 try clear c2
 try clear c2b0
 try clear c2b1
 try clear c2b2
 obtain ⟨x13_1, rfl, HA, HK1, ⟨m1, rfl⟩⟩ := hrel
 cases gk with | zero => exact absurd HA.out (by simp [slices_Equal_int_int.l0]) | succ k1 => ?_
 have H := HA.out
 clear HA
 simp only [slices_Equal_int_int.l0] at H
 by_cases c3 : x13_1 < (l0.length : Int)
 case neg =>
  rw [if_neg c3] at H
  have c3b0 : decide (x13_1 < (l0.length : Int)) = false := decide_eq_false c3
  clear c3
  obtain rfl := si_ H
  go_wp2
  repeat (go_quiet (fail); try go_wp2)
  go_ret
  exact ⟨b04z_, boaj_⟩
 rw [if_pos c3] at H
 have c3b0 : decide (x13_1 < (l0.length : Int)) = true := dt_ c3
 clear c3
 by_cases c4 : 0 ≤ x13_1
 case neg =>
  rw [if_neg c4] at H
  exact absurd H bxka_
 rw [if_pos c4] at H
 have c4b0 : decide (0 ≤ x13_1) = true := dt_ c4
 clear c4
 by_cases c5 : x13_1 < (l0.length : Int)
 case neg =>
  rw [if_neg c5] at H
  exact absurd H bxka_
 rw [if_pos c5] at H
 have c5b0 : decide (x13_1 < (l0.length : Int)) = true := dt_ c5
 clear c5
 by_cases c6 : x13_1 < (l1.length : Int)
 case neg =>
  rw [if_neg c6] at H
  exact absurd H bxka_
 rw [if_pos c6] at H
 have c6b0 : decide (x13_1 < (l1.length : Int)) = true := dt_ c6
 clear c6
 by_cases c7 : (rd l0 x13_1) = (rd l1 x13_1)
 case neg =>
  rw [if_neg c7] at H
  obtain ⟨c7b0, c7b1⟩ := ef_ c7
  obtain rfl := si_ H
  have p1 : 0 ≤ (x13_1 : Int) := od_ bpil_
  have q1 : x13_1 < (l0.length : Int) := od_ bpil_
  obtain ⟨ad1, e1, hx1_0⟩ := Kd.at_int HR0.out x13_1 p1 q1
  cases e1
  replace p1 := eq_true p1
  replace q1 := eq_true q1
  have p2 : 0 ≤ (x13_1 : Int) := od_ bpil_
  have q2 : x13_1 < (l1.length : Int) := od_ bpil_
  obtain ⟨ad2, e2, hx2_0⟩ := Kd.at_int HR1.out x13_1 p2 q2
  cases e2
  replace p2 := eq_true p2
  replace q2 := eq_true q2
  go_wp2
  repeat (go_quiet (fail); try go_wp2)
  go_ret
  exact ⟨b04z_, boaj_⟩
 rw [if_pos c7] at H
 obtain ⟨c7b0, c7b1⟩ := et_ c7
 clear c7
 have H' := A0_ H
 clear H
 have p1 : 0 ≤ (x13_1 : Int) := od_ bpil_
 have q1 : x13_1 < (l0.length : Int) := od_ bpil_
 obtain ⟨ad1, e1, hx1_0⟩ := Kd.at_int HR0.out x13_1 p1 q1
 cases e1
 replace p1 := eq_true p1
 replace q1 := eq_true q1
 have p2 : 0 ≤ (x13_1 : Int) := od_ bpil_
 have q2 : x13_1 < (l1.length : Int) := od_ bpil_
 obtain ⟨ad2, e2, hx2_0⟩ := Kd.at_int HR1.out x13_1 p2 q2
 cases e2
 replace p2 := eq_true p2
 replace q2 := eq_true q2
 go_wp2
 repeat (go_quiet (fail); try go_wp2)
 go_roundg k1
 case measure => have := HK1.out; omega
 exact ⟨(wrap64 (x13_1 + 1)), b2ew_, H', ⟨bxjq_⟩, boaj_⟩

section
open Go.Shelf Go.Sort
attribute [local go_sem] Oper.semAt_some
theorem Sv.addb (a : Addr) (i : Nat) : (a.add i).block = a.block := by unfold Addr.add; split <;> rfl
def Sv.upto {α : Type} (f : Nat → α) (k : Nat) : List α := (List.range k).map f
theorem Sv.upto_succ {α : Type} (f : Nat → α) (k : Nat) : Sv.upto f (k + 1) = Sv.upto f k ++ [f k] := by simp [Sv.upto, List.range_succ]
theorem Sv.upto_length {α : Type} (f : Nat → α) (k : Nat) : (Sv.upto f k).length = k := by simp [Sv.upto]
theorem Sv.upto_all (zs : List Int) : Sv.upto (fun j => zs[j]?.getD 0) zs.length = zs := by
 apply List.ext_getElem
 ·simp [Sv.upto]
 ·intro i h1 h2
  simp [Sv.upto, h2]

set_option maxRecDepth 100000 in
set_option maxHeartbeats 2000000 in
theorem Sv.values1_in (F : Fence) (n : Nat) (h7 : F.fn 83) (hro : F.round = none) (hn : 1 ≤ n) (l Bs n₀ len cap : Nat) (ad : Addr) (zs : List Int) (hreach : len * 8 ≤ 140737488351232) (hb : ad.block < n₀) (J Jx : List Int → World → Prop)
  (hY : ∀ pre x W, J pre W → pre.length < len → YieldAt F (n - 1) Tryz.prog l #[.int .i64 x] W fun e W' =>
   (e = .returned (.bool true) ∧ J (pre ++ [x]) W' ∧ Below n₀ W W') ∨ (e = .returned (.bool false) ∧ Jx (pre ++ [x]) W'))
  (W : World) (hBs : W.cell? ⟨Bs, 0, none⟩ = some (.slice (some ad) len cap)) (hc : ∀ j, j < len → W.cell? (ad.add j) = some (.int .i64 (zs[j]?.getD 0))) (h0 : J [] W) :
  CallsIn F n Tryz.prog 83 #[.func (.yield l) #[] #[], .pointer (some ⟨Bs, 0, none⟩)] W fun e W' => (∃ v, e = .returned v) ∧
   ((∃ ys, ys = Sv.upto (fun j => zs[j]?.getD 0) len ∧ J ys W') ∨ (∃ pre, (∃ k, k ≤ len ∧ pre = Sv.upto (fun j => zs[j]?.getD 0) k) ∧ Jx pre W')) := by
 refine callsIn_of_wp Tryz.func83 rfl h7 ?_ hro
 simp only [Tryz.ntmps83, List.size_toArray, List.length_cons, List.length_nil, Nat.reduceAdd, Nat.reduceSub, Array.replicate_succ, Array.replicate_zero, List.push_toArray, List.append_toArray, List.nil_append, List.cons_append]
 gi_wp2
 gi_loopw [7] (fun i wr => ∃ k : Nat, k ≤ len ∧ i = .int .i64 k ∧ J (Sv.upto (fun j => zs[j]?.getD 0) k) wr ∧ Below n₀ W wr)
  (fun i _ => len - (intOf i).toNat)
 case atStart => exact ⟨0, Nat.zero_le _, rfl, h0, Below.refl _ _⟩
 case round =>
  obtain ⟨k, hk, rfl, hJs, hnx⟩ := hrel
  have hcx : k < len → wr.cell? (ad.add k) = some (.int .i64 (zs[k]?.getD 0)) := fun h => (hnx.cell (p := ad.add k) (by rw [Sv.addb]; exact hb)).trans (hc k h)
  by_cases hlt : k < len
  ·obtain ⟨fn, tmps, assign, body, hy, hR⟩ := hY _ (zs[k]?.getD 0) wr hJs (by rw [Sv.upto_length]; exact hlt)
   have hcx' := hcx hlt
   gi_wp2
   refine hR.mono ?_
   rintro e W3 (⟨rfl, hJ3, hk3⟩ | ⟨rfl, hJx3⟩)
   ·-- THE ROUND GOES ON
    gi_wp2
    go_roundw
    case rel => exact ⟨k + 1, bh19_, bxka_, by rw [Sv.upto_succ]; exact hJ3, hnx.trans hk3⟩
    case measure => simp [intOf]; omega
   ·gi_wp2
    refine bodyPost_ret (results_none rfl _ _ _) rfl ?_
    exact ⟨⟨_, rfl⟩, .inr ⟨_, ⟨k + 1, bh19_, (Sv.upto_succ _ _).symm⟩, hJx3⟩⟩
  ·obtain rfl : k = len := by omega
   gi_wp2
   go_end0
   exact ⟨⟨_, rfl⟩, .inl ⟨_, rfl, hJs⟩⟩

theorem Sv.upto_take (zs : List Int) {k : Nat} (hk : k ≤ zs.length) : Sv.upto (fun j => zs[j]?.getD 0) k = zs.take k := by
 apply List.ext_getElem
 ·simp [Sv.upto, hk]
 ·intro i h1 h2
  have : i < zs.length := by simp [Sv.upto] at h1; omega
  simp [Sv.upto, this]

def Sv.Ints (n₀ : Nat) (W : World) (sv : Value) (zs : List Int) : Prop :=
 (zs = [] ∧ ∃ A cap, sv = .slice A 0 cap) ∨ ∃ ad cap, sv = .slice (some ad) zs.length cap ∧ ad.block < n₀ ∧ ∀ j, j < zs.length → W.cell? (ad.add j) = some (.int .i64 (zs[j]?.getD 0))
theorem Sv.Ints.below {n₀ : Nat} {A B : World} (h : Below n₀ A B) {sv : Value} {zs : List Int} : Sv.Ints n₀ A sv zs → Sv.Ints n₀ B sv zs
 | .inl e => .inl e
 | .inr ⟨ad, cap, e, hb, hc⟩ => .inr ⟨ad, cap, e, hb, fun j hj => (h.cell (p := ad.add j) (by rw [Sv.addb]; exact hb)).trans (hc j hj)⟩
set_option maxRecDepth 100000 in
set_option maxHeartbeats 1000000 in
theorem Sv.values1_nil_in (F : Fence) (n : Nat) (h7 : F.fn 83) (hro : F.round = none) (l Bs : Nat) (J : List Int → World → Prop) (W : World) (A0 : Option Addr) (cap0 : Nat) (hBs : W.cell? ⟨Bs, 0, none⟩ = some (.slice A0 0 cap0)) (h0 : J [] W) :
  CallsIn F n Tryz.prog 83 #[.func (.yield l) #[] #[], .pointer (some ⟨Bs, 0, none⟩)] W fun e W' => (∃ v, e = .returned v) ∧ J [] W' := by
 refine callsIn_of_wp Tryz.func83 rfl h7 ?_ hro
 simp only [Tryz.ntmps83, List.size_toArray, List.length_cons, List.length_nil, Nat.reduceAdd, Nat.reduceSub, Array.replicate_succ, Array.replicate_zero, List.push_toArray, List.append_toArray, List.nil_append, List.cons_append]
 gi_wp2
 gi_loopw [7] (fun i wr => i = .int .i64 0 ∧ J [] wr) (fun _ _ => 0)
 case atStart => exact ⟨rfl, h0⟩
 case round =>
  obtain ⟨rfl, hJs⟩ := hrel
  gi_wp2
  go_end0
  exact ⟨⟨_, rfl⟩, hJs⟩

set_option maxHeartbeats 1000000 in
theorem Sv.values_in (F : Fence) (n : Nat) (h5 : F.fn 61) (hro : F.round = none) (a : Option Addr) (len cap : Nat) (w : World) :
  CallsIn F n Tryz.prog 61 #[.slice a len cap] w fun e w' => e = .returned (.func (.func 83) #[] #[.pointer (some ⟨w.heap.size, 0, none⟩)]) ∧ w' = w.alloc (.cells #[.slice a len cap] 22) := by
 refine callsIn_of_wp Tryz.func61 rfl h5 ?_ hro
 simp only [Tryz.ntmps61, List.size_toArray, List.length_cons, List.length_nil, Nat.reduceAdd, Nat.reduceSub, Array.replicate_succ, Array.replicate_zero, List.push_toArray, List.append_toArray, List.nil_append, List.cons_append]
 gi_wp2
 go_ret
 exact ⟨rfl, rfl⟩

theorem Sv.values_stops (F : Fence) (n : Nat) (h7 : F.fn 83) (hro : F.round = none) (hn : 1 ≤ n) (Bs n₀ : Nat) (sv : Value) (zs : List Int) (hreach : zs.length * 8 ≤ 140737488351232) (w : World) (hBs : Bs < w.heap.size) (hn₀ : n₀ ≤ w.heap.size)
  (hc : w.cell? ⟨Bs, 0, none⟩ = some sv) (hI : Sv.Ints n₀ w sv zs) :
  SeqStopsK F n Tryz.prog 83 #[.pointer (some ⟨Bs, 0, none⟩)] (fun x : Int => #[Value.int .i64 x]) (Below n₀) (fun ys => ys = zs) (fun pre => pre <+: zs) zs.length w := fun l J Jx W hW _ _ hY h0 => by
 have hc' := (hW.cell (p := ⟨Bs, 0, none⟩) hBs).trans hc
 rcases hI.below (hW.mono hn₀) with ⟨rfl, A0, cap0, rfl⟩ | ⟨ad, cap, rfl, hb, hcs⟩
 ·exact (Sv.values1_nil_in F n h7 hro l Bs J W A0 cap0 hc' h0).mono fun e W' ⟨he, hj⟩ => ⟨he, .inl ⟨_, rfl, hj⟩⟩
 ·refine (Sv.values1_in F n h7 hro hn l Bs n₀ zs.length cap ad zs hreach hb J Jx hY W hc' hcs h0).mono ?_
  rintro e W' ⟨he, ⟨ys, rfl, hj⟩ | ⟨pre, ⟨k, hk, rfl⟩, hj⟩⟩
  ·exact ⟨he, .inl ⟨_, Sv.upto_all zs, hj⟩⟩
  ·exact ⟨he, .inr ⟨_, by rw [Sv.upto_take zs hk]; exact List.take_prefix _ _, hj⟩⟩

theorem Sv.infoI : (Tryz.prog.info? 3).map (fun i => (i.zero, i.size, i.bytes)) = some (some (.int .i64 0), 1, 8) := by kernel_rfl
set_option maxRecDepth 100000 in
set_option maxHeartbeats 2000000 in
/-- slices.AppendSeq(nil, slices.Values(zs)): a slice of the call's own that holds zs. -/
theorem Sv.appendSeq_in (F : Fence) (n : Nat) (h3 : F.fn 99) (h5 : F.fn 83) (hro : F.round = none) (hn : 3 ≤ n) (Bv : Nat) (sv : Value) (zs : List Int) (hlen : zs.length ≤ maxLen) (hreach : zs.length * 8 ≤ 140737488351232) (w : World) (hBv : Bv < w.heap.size) (hcv : w.cell? ⟨Bv, 0, none⟩ = some sv) (hI : Sv.Ints w.heap.size w sv zs) :
  CallsIn F n Tryz.prog 99 #[.slice none 0 0, .func (.func 83) #[] #[.pointer (some ⟨Bv, 0, none⟩)]] w fun e W' => ∃ v, e = .returned v ∧ W'.ownsRow w.heap.size 3 1 v zs.length (zs.map (Value.int .i64)) ∧ Below w.heap.size w W' := by
 have h1 : 1 ≤ n := by omega
 obtain ⟨i0, hi, hz0, hz1, hz2⟩ := info_parts Sv.infoI
 refine callsIn_of_wp_marks Tryz.func99 rfl h3 ?_ hro
 simp only [Tryz.ntmps99, List.size_toArray, List.length_cons, List.length_nil, Nat.reduceAdd, Nat.reduceSub, Array.replicate_succ, Array.replicate_zero, List.push_toArray, List.append_toArray, List.nil_append, List.cons_append]
 gi_wp2
 have bO := Boxed.new w 22 (.slice none 0 0)
 have hB0 : Below w.heap.size w (w.alloc (.cells #[.slice none 0 0] 22)) := (Below.refl _ w).alloc (Nat.le_refl _) _
 refine wpIn_rangeFunc_ownG hro h1 (gf := 83) (lb := #[.pointer (some ⟨Bv, 0, none⟩)]) rfl h5 (enters_of Tryz.func83 bfqv_ rfl)
  (Sv.values_stops F (n - 1) h5 hro bh19_ Bv w.heap.size sv zs hreach _ (by simp; omega) bxka_ ((hB0.cell (p := ⟨Bv, 0, none⟩) hBv).trans hcv) (hI.below hB0)) belowK_t (belowK_b bxka_) (Below.refl _ _) (fun _ => rfl)
  (fun pre W => (∃ v, Boxed W w.heap.size 22 v ∧ W.ownsRow w.heap.size 3 1 v pre.length (pre.map (Value.int .i64)) ∧ (v = .slice none 0 0 ↔ pre = [])) ∧ Below w.heap.size w W)
  (fun _ _ _ => False)
  (OwnFrom.and (Own.from (holdsRow_own w.heap.size w.heap.size 22 3 1 (fun pre : List Int => pre.length) (fun pre => pre.map (Value.int .i64)) (fun pre v => v = .slice none 0 0 ↔ pre = [])) _) (ownFrom_below (Nat.le_refl _) bxka_))
  (fun _ _ _ _ _ hs _ _ => hs)
  ⟨⟨_, bO, World.ownsRow_nil _ _ _ _, bxka_⟩, hB0⟩
  (fun x => { tmps := #[.slice none 0 0, .func (.func 83) #[] #[.pointer (some ⟨Bv, 0, none⟩)], .pointer (some ⟨w.heap.size, 0, none⟩), undef, .slice none 0 0, .int .i64 x, .func (.func 83) #[] #[.pointer (some ⟨Bv, 0, none⟩)], .int .i64 x, undef, undef, undef, undef, undef], defers := [] }) ?assign ?body ?done ?stop
 case assign =>
  intro l x W K hK
  gi_wp2
  exact hK
 case body =>
  rintro l pre x W ⟨⟨v, hv, hrow, hnil⟩, hB⟩ hlt
  have hc := hv.cell
  gi_wp2_with (gi_at_builtin; refine wpListIn_append_own _ rfl _ _ 22 rfl w.heap.size 3 i0 (.int .i64 0) 1 8 Tryz.underlying22 hi hz0 hz1 hz2 rfl bi3y_ _ _ _ rfl (hrow.alloc _) ⟨W.heap.size, 0, none⟩ 1 1 [.int .i64 x] rfl rfl (cell_one_new _ _ _) (by simp [Value.oneCell']) bh19_ bh19_ (by have := hB.size; simp; omega) ?_; intro v' w1 hown' hgrow _; obtain ⟨g', cap', rfl⟩ := ownsRow_succ hown'; obtain ⟨hv1, hv2, hr2, hk2, hb2⟩ := hv.appended bi3y_ hrow hB.size (Nat.le_refl _) hown' hgrow; have hc1 := hv1.cell; have hf1 := hv1.frozen)
  exact ⟨hk2.from _, hb2, ⟨_, hv2, by simpa using hr2, bxka_⟩, hB.trans hb2⟩
 case done =>
  rintro D ys W hD rfl ⟨⟨v, hv, hrow, hnil⟩, hB⟩ hK
  have hc := hv.cell
  gi_wp2
  refine ⟨bxka_, .inl ⟨_, _, rfl, run_takeDeferred hK, ?_⟩⟩
  exact ⟨_, results_tmp rfl _ _ _, v, rfl, ownsRow_putObj hrow _ hK rfl, hB.trans (belowK_b (w := w) (Nat.le_refl _) W D _ _ (by simp at hD; omega) hK rfl rfl)⟩
 case stop =>
  rintro D c pre W _ _ h _
  exact h.elim
set_option maxHeartbeats 1000000 in
theorem Sv.collect_in (F : Fence) (n : Nat) (h0 : F.fn 81) (h3 : F.fn 99) (h5 : F.fn 83) (hro : F.round = none) (hn : 4 ≤ n) (Bv : Nat) (sv : Value) (zs : List Int) (hlen : zs.length ≤ maxLen) (hreach : zs.length * 8 ≤ 140737488351232) (w : World) (hBv : Bv < w.heap.size) (hcv : w.cell? ⟨Bv, 0, none⟩ = some sv) (hI : Sv.Ints w.heap.size w sv zs) :
  CallsIn F n Tryz.prog 81 #[.func (.func 83) #[] #[.pointer (some ⟨Bv, 0, none⟩)]] w fun e W' => ∃ v, e = .returned v ∧ W'.ownsRow w.heap.size 3 1 v zs.length (zs.map (Value.int .i64)) ∧ Below w.heap.size w W' := by
 have h1 : 1 ≤ n := by omega
 refine callsIn_of_wp Tryz.func81 rfl h0 ?_ hro
 simp only [Tryz.ntmps81, List.size_toArray, List.length_cons, List.length_nil, Nat.reduceAdd, Nat.reduceSub, Array.replicate_succ, Array.replicate_zero, List.push_toArray, List.append_toArray, List.nil_append, List.cons_append]
 gi_wp2_with (gi_at_call 99; refine (Sv.appendSeq_in F (n - 1) h3 h5 hro bh19_ Bv sv zs hlen hreach _ hBv hcv hI).mono ?_; rintro e w' ⟨v, rfl, hrow, hb⟩)
 go_ret
 exact ⟨v, rfl, hrow, hb⟩
def lays189_ren : Go.Shelf.Ren where
 f := fun x => match x with
  | 189 => 82
  | 125 => 101
  | 257 => 100
  | 128 => 116
  | 129 => 117
  | 294 => 107
  | 295 => 108
  | 296 => 109
  | 297 => 110
  | 298 => 111
  | 299 => 112
  | 216 => 113
  | 300 => 114
  | 301 => 115
  | 328 => 120
  | 329 => 121
  | 330 => 122
  | 331 => 123
  | 332 => 124
  | 215 => 125
  | 343 => 128
  | n => n
 t := fun x => match x with
  | 28 => 22
  | 3 => 3
  | 46 => 115
  | 0 => 0
  | 51 => 82
  | 53 => 73
  | 4 => 4
  | 183 => 126
  | 182 => 125
  | 131 => 45
  | 5 => 5
  | 9 => 9
  | 218 => 134
  | 222 => 138
  | 228 => 140
  | 229 => 141
  | n => n
 g := fun x => x
theorem lays189 : Lays.n189 Tryz.prog lays189_ren where
 mixed := by kernel_rfl
 f125 := Tryz.func101.trans bfqv_
 f128 := Tryz.func116.trans bfqv_
 f129 := Tryz.func117.trans bfqv_
 f189 := Tryz.func82.trans bfqv_
 f215 := Tryz.func125.trans bfqv_
 f216 := Tryz.func113.trans bfqv_
 f257 := Tryz.func100.trans bfqv_
 f294 := Tryz.func107.trans bfqv_
 f295 := Tryz.func108.trans bfqv_
 f296 := Tryz.func109.trans bfqv_
 f297 := Tryz.func110.trans bfqv_
 f298 := Tryz.func111.trans bfqv_
 f299 := Tryz.func112.trans bfqv_
 f300 := Tryz.func114.trans bfqv_
 f301 := Tryz.func115.trans bfqv_
 f328 := Tryz.func120.trans bfqv_
 f329 := Tryz.func121.trans bfqv_
 f330 := Tryz.func122.trans bfqv_
 f331 := Tryz.func123.trans bfqv_
 f332 := Tryz.func124.trans bfqv_
 f343 := Tryz.func128.trans bfqv_
 t0 := Tryz.underlying0
 a0 := Tryz.isAgg0
 z0 := Tryz.sizeOf0
 v0 := Tryz.zeroValue0
 t3 := Tryz.underlying3
 a3 := Tryz.isAgg3
 z3 := Tryz.sizeOf3
 v3 := Tryz.zeroValue3
 t4 := Tryz.underlying4
 a4 := Tryz.isAgg4
 z4 := Tryz.sizeOf4
 v4 := Tryz.zeroValue4
 t5 := Tryz.underlying5
 a5 := Tryz.isAgg5
 z5 := Tryz.sizeOf5
 v5 := Tryz.zeroValue5
 t9 := Tryz.underlying9
 a9 := Tryz.isAgg9
 z9 := Tryz.sizeOf9
 v9 := Tryz.zeroValue9
 t28 := Tryz.underlying22
 a28 := Tryz.isAgg22
 z28 := Tryz.sizeOf22
 v28 := Tryz.zeroValue22
 t46 := Tryz.underlying115
 a46 := Tryz.isAgg115
 z46 := Tryz.sizeOf115
 v46 := Tryz.zeroValue115
 t51 := Tryz.underlying82
 a51 := Tryz.isAgg82
 z51 := Tryz.sizeOf82
 v51 := Tryz.zeroValue82
 t53 := Tryz.underlying73
 a53 := Tryz.isAgg73
 z53 := Tryz.sizeOf73
 v53 := Tryz.zeroValue73
 t131 := Tryz.underlying45
 a131 := Tryz.isAgg45
 z131 := Tryz.sizeOf45
 v131 := Tryz.zeroValue45
 t182 := Tryz.underlying125
 a182 := Tryz.isAgg125
 z182 := Tryz.sizeOf125
 v182 := Tryz.zeroValue125
 t183 := Tryz.underlying126
 a183 := Tryz.isAgg126
 z183 := Tryz.sizeOf126
 v183 := Tryz.zeroValue126
 t218 := Tryz.underlying134
 a218 := Tryz.isAgg134
 z218 := Tryz.sizeOf134
 v218 := Tryz.zeroValue134
 t222 := Tryz.underlying138
 a222 := Tryz.isAgg138
 z222 := Tryz.sizeOf138
 v222 := Tryz.zeroValue138
 t228 := Tryz.underlying140
 a228 := Tryz.isAgg140
 z228 := Tryz.sizeOf140
 v228 := Tryz.zeroValue140
 t229 := Tryz.underlying141
 a229 := Tryz.isAgg141
 z229 := Tryz.sizeOf141
 v229 := Tryz.zeroValue141
end
theorem Sv.rd_at (l : List Int) (j : Nat) : rd l (j : Int) = l[j]?.getD 0 := by unfold rd; simp [List.getD]
section
open Go.Shelf Go.Sort
theorem Sv.reps (w : World) (base : Nat) (ok : Nat → Prop) : ∀ zs : List Int, Reps ((Kd.int .i64).M w base ok) 1 zs (zs.map (Value.int .i64))
 | [] => Reps.none _ _
 | z :: zs => Reps.one (show (Kd.int .i64).M w base ok z [.int .i64 z] from rfl) (Sv.reps w base ok zs)
theorem slices_Values_int.calls (A : Option Addr) (n c : Nat) (w : World) :
  Calls Tryz.prog 61 #[.slice A n c] w fun e w' => ∃ g : Nat, e = .returned (.func (.func 83) #[] #[.pointer (some ⟨g, 0, none⟩)]) ∧ w'.cell? ⟨g, 0, none⟩ = some (.slice A n c) ∧ Below w.heap.size w w' := by
 refine (callsIn_wide.1 (Sv.values_in Fence.wide 2 trivial rfl A n c w)).mono ?_
 rintro e w' ⟨rfl, rfl⟩
 exact ⟨w.heap.size, rfl, (Boxed.new w 22 (.slice A n c)).cell, (Below.refl _ w).alloc (Nat.le_refl _) _⟩
def slices_Sorted_int.f (l0 : List Int) : Option (List Int) := if l0.length ≤ 1048576 then some (l0.mergeSort fun x y => decide (x ≤ y)) else none
set_option maxHeartbeats 1000000 in
set_option maxRecDepth 100000 in
theorem slices_Sorted_int.calls (g : Nat) (A0 : Option Addr) (c0 : Nat) (l0 r : List Int) (w : World) (hg : w.cell? ⟨g, 0, none⟩ = some (.slice A0 l0.length c0)) (hr0 : Kd.C (Kd.int .i64) w A0 l0.length l0) (hc0 : l0.length ≤ c0) (h : slices_Sorted_int.f l0 = some r) :
  Calls Tryz.prog 60 #[.func (.func 83) #[] #[.pointer (some ⟨g, 0, none⟩)]] w fun e w' => ∃ v0_ : Value, e = .returned (v0_) ∧ Kd.R (Kd.int .i64) 3 w' w.heap.size (fun _ => True) v0_ r ∧ Below w.heap.size w w' := by
 unfold slices_Sorted_int.f at h
 split at h
 ·rename_i hl
  obtain rfl := si_ h
  clear h
  have hgl : g < w.heap.size := World.block_lt_of_cell? w _ hg
  have hI : Sv.Ints w.heap.size w (.slice A0 l0.length c0) l0 := by
   by_cases e : l0.length = 0
   ·exact .inl ⟨List.eq_nil_of_length_eq_zero e, A0, c0, by rw [e]⟩
   ·obtain ⟨ad, rfl, hx⟩ := Kd.at_int hr0 0 bh19_ bh19_
    refine .inr ⟨ad, c0, rfl, ?_, fun j hj => ?_⟩
    ·have := World.block_lt_of_cell? w _ hx
     rwa [Sv.addb] at this
    ·obtain ⟨ad', e', hx'⟩ := Kd.at_int hr0 (j : Int) bh19_ bh19_
     obtain rfl := si_ e'
     rw [Int.toNat_natCast] at hx'
     rw [hx', Sv.rd_at]
  have cC := callsIn_wide.1 (Sv.collect_in Fence.wide 10 trivial trivial trivial rfl bh19_ g _ l0 (by show l0.length ≤ 9223372036854775807; omega) bh19_ w hgl hg hI)
  go_enter Tryz.func60, Tryz.ntmps60
  go_wp2_with (go_at_call 81; refine cC.mono ?_; rintro e w1 ⟨v, rfl, hrow, hb⟩)
  rcases hrow.2 with ⟨rfl, hz⟩ | ⟨gb, cap, cur, rfl, hbase, hgb, r1, r2, r3, r4⟩
  ·obtain rfl := List.eq_nil_of_length_eq_zero hz
   have cS := Any.slices_Sort_int_none (ρ := lays189_ren) lays189 none 0 w1
   go_wp2_with (go_at_call 82; refine cS.mono ?_; rintro e w' ⟨rfl, rfl⟩)
   go_ret
   exact ⟨.slice none 0 0, rfl, by simpa using Kd.R_nil _ _ _ _ _, hb⟩
  have hH : Holds (Value.int .i64) w1 gb 0 l0.toArray := holds_of_blockI hgb (by simpa using r4)
  have hgl1 : gb < w1.heap.size := (Array.getElem?_eq_some_iff.1 hgb).1
  have cS := Any.slices_Sort_int (ρ := lays189_ren) lays189 gb 0 cap l0 w1 hH hgl1 bh19_
  go_wp2_with (go_at_call 82; refine cS.mono ?_; rintro e w' ⟨rfl, nn, os, rfl⟩)
  go_ret
  exact ⟨_, rfl, ⟨fun _ _ => trivial, _, by rw [List.length_mergeSort]; exact ownsRow_sortedI (ss := l0) bxka_ hbase hgb r1 r2 r3, Sv.reps _ _ _ _⟩, hb.grown (grownBy_sortedI _) hb.size (fun j hj => by cases hj; exact hbase)⟩
 cases h
end

def impl_IsHouse.f (k : Nat) (a0_0 : Int) (a0_1 : Bool) (l0_2 : List Int) (l0_3 : List Int) (a0_4 : Int) : Option (Bool) := (impl_IsRow.f k a0_0 a0_1 l0_2).bind fun t173 => (if t173 = true then ((slices_Sorted_int.f l0_3).bind fun t174 => ((slices_Equal_int_int.f k t174 l0_2).bind fun t177 => (if t177 = true then ((impl_within.f a0_4 0 1000).bind fun t178 => (some t178)) else (some false)))) else (some false))
theorem impl_IsHouse.mono : ∀ a0 a1 a2 a3 a4 k, LeO (impl_IsHouse.f k a0 a1 a2 a3 a4) (impl_IsHouse.f (k + 1) a0 a1 a2 a3 a4) := by
 intro a0 a1 a2 a3 a4 k
 unfold impl_IsHouse.f
 repeat' with_reducible first | exact impl_IsRow.mono .. | exact slices_Equal_int_int.mono .. | exact LeO.refl .. | exact LeO.none .. | refine LeO.ite ?_ ?_ | refine LeO.bind ?_ (fun _ => ?_)
def impl_IsHouse.T1 : Bool × List (List Nat × List Nat) := (true, [([], []), ([0], [0]), ([1], [1]), ([2, 2], [2]), ([3], [3]), ([4, 3], [3, 4]), ([5, 3, 3], [3, 5]), ([6, 6, 3], [3, 6]), ([3], [3]), ([8, 3], [3, 8]), ([9, 3], [3, 9]), ([7, 10, 7, 3], [3, 7, 10]), ([3, 11], [3, 11]), ([12, 11], [12]), ([13], [13]), ([14, 13], [13, 14]), ([15, 13, 13], [13, 15]), ([13, 16], [13, 16]), ([17, 16, 0, 1, 2, 3, 4, 5, 6, 7, 8, 9, 10, 11, 12, 13, 14, 15, 16, 17], [17])])
def impl_IsHouse.B1 : List Nat := [0, 1, 3, 7, 15, 31, 63, 127, 15, 271, 783, 2047, 4095, 8191, 16383, 32767, 65535, 131071, 262143]
theorem impl_IsHouse.tab1 : rtab .any (opsOf Tryz.f26 1) = impl_IsHouse.T1 := by kernel_rfl
theorem impl_IsHouse.bits1 : waitsOk impl_IsHouse.T1.2 impl_IsHouse.B1 = true := by kernel_rfl
theorem impl_IsHouse.calls (k : Nat) (a0_0 : Int) (a0_1 : Bool) (A0_2 : Option Addr) (c0_2 : Nat) (l0_2 : List Int) (A0_3 : Option Addr) (c0_3 : Nat) (l0_3 : List Int) (a0_4 : Int) (r : Bool) (w : World) (hr0_2 : Kd.C (Kd.int .i64) w A0_2 l0_2.length l0_2) (hc0_2 : l0_2.length ≤ c0_2) (hr0_3 : Kd.C (Kd.int .i64) w A0_3 l0_3.length l0_3) (hc0_3 : l0_3.length ≤ c0_3) (h : impl_IsHouse.f k a0_0 a0_1 l0_2 l0_3 a0_4 = some r) :
  Calls Tryz.prog 26 #[.agg #[.int .i64 a0_0, .bool a0_1, .slice A0_2 l0_2.length c0_2, .slice A0_3 l0_3.length c0_3, .int .i64 a0_4]] w fun e w' => e = .returned (.bool r) ∧ Below w.heap.size w w' := by
 have hu31 := Tryz.underlying32
 have hu29 := Tryz.underlying30
 have HR0_2 := A0_ hr0_2
 have HC0_2 := A0_ hc0_2
 clear hr0_2 hc0_2
 have HR0_3 := A0_ hr0_3
 have HC0_3 := A0_ hc0_3
 clear hr0_3 hc0_3
 have HB := A0_ (Below.refl w.heap.size w)
 have H : ((impl_IsRow.f k a0_0 a0_1 l0_2).bind fun t1 => (if t1 = true then ((slices_Sorted_int.f l0_3).bind fun t2 => ((slices_Equal_int_int.f k t2 l0_2).bind fun t3 => (if t3 = true then ((impl_within.f a0_4 0 1000).bind fun t4 => (some t4)) else (some false)))) else (some false))) = some r := h
 clear h
 obtain ⟨t1, A2, H⟩ := o1_ H
 by_cases c1 : t1 = true
 ·subst c1
  rw [if_pos rfl] at H
  obtain ⟨t2, A4, H⟩ := o1_ H
  obtain ⟨t3, A6, H⟩ := o1_ H
  by_cases c2 : t3 = true
  case neg =>
   obtain rfl := bf_.mpr c2
   rw [if_neg ft_] at H
   obtain rfl := si_ H
   go_enter Tryz.func26, Tryz.ntmps26
   try go_wp2_with (first | ((with_reducible refine gd_ (N := 1) rfl ?_); refine bx_ 1 #[.int .i64 a0_0, .bool a0_1, .slice A0_2 l0_2.length c0_2, .slice A0_3 l0_3.length c0_3, .int .i64 a0_4] 32 ?_; intro gb1 hg w1 BK1 hb; have GW1 := ge_ hg brt4_; have GE1 := GW1; replace HB := hb_ hb brt4_; clear hb hg))
   replace BK1 := A0_ (kd_ BK1.out)
   replace HB := A0_ (bd_ HB.out)
   refine s5_ 19 [] BK1 impl_IsHouse.tab1 impl_IsHouse.bits1 (fun hHeld HT_ HW_ => ?_)
   generalize w1.drew = w2 at BK1 HB hHeld ⊢
   refine pu_ 0 3 ?_
   refine tk_ 1 4 hHeld ?_
   refine on_ 2 (some 5) (fun K hK => ?_)
   refine gs_ Tryz.func58 #[.agg #[.int .i64 a0_0, .bool a0_1, .slice A0_2 l0_2.length c0_2]] ?_
   with_reducible refine (impl_IsRow.calls k a0_0 a0_1 _ _ l0_2 true _ ?side1 ?side2 A2.out).mono ?_
   (case side1 => exact b6n8_)
   (case side2 => exact HC0_2.out)
   rintro e w3 ⟨rfl, hb⟩
   refine ⟨_, rfl, ?_⟩
   replace BK1 := k1_ BK1 hb
   replace HB := hb_ hb be6g_
   (try clear hb)
   refine hK.out _ _ (c5_ BK1) (fun hHeld => ?_)
   clear hK K
   refine nm_ 5 ?_
   refine pu_ 3 6 ?_
   refine pu_ 4 7 ?_
   refine pu_ 8 11 ?_
   refine pu_ 9 12 ?_
   refine tk_ 5 8 hHeld ?_
   refine tk_ 10 13 hHeld ?_
   refine on_ 6 (some 9) (fun K hK => ?_)
   refine gs_ Tryz.func61 #[.slice A0_3 l0_3.length c0_3] ?_
   with_reducible refine (slices_Values_int.calls A0_3 l0_3.length c0_3 _).mono ?_
   rintro e wv_ ⟨gv_, rfl, hcv, hb⟩
   refine ⟨_, rfl, ?_⟩
   have HGV := A0_ hcv
   clear hcv
   replace BK1 := k1_ BK1 hb
   replace HB := hb_ hb be6g_
   (try clear hb)
   refine hK.out _ _ (c5_ BK1) (fun hHeld => ?_)
   clear hK K
   refine nm_ 9 ?_
   refine on_ 7 (some 10) (fun K hK => ?_)
   refine gs_ Tryz.func60 #[.func (.func 83) #[] #[.pointer (some ⟨gv_, 0, none⟩)]] ?_
   with_reducible refine (slices_Sorted_int.calls gv_ _ _ l0_3 t2 _ HGV.out ?side1 ?side2 A4.out).mono ?_
   (case side1 => exact bkan_)
   (case side2 => exact HC0_3.out)
   rintro e w4 ⟨v1, rfl, ho0, hb⟩
   refine ⟨_, rfl, ?_⟩
   have HO1 := A0_ (Kd.R_lower ho0 (bz_ be6g_))
   replace BK1 := k1_ BK1 hb
   replace HB := hb_ hb be6g_
   (try clear hb); (try clear ho0)
   obtain ⟨Ao1, co1, eo1⟩ := Kd.R_slice HO1.out
   (first | subst eo1 | (injection eo1 with f1_ f2_ f3_; have f4_ := f1_.symm; have f5_ := f3_.symm; clear f1_ f2_ f3_; subst f4_; subst f5_))
   refine hK.out _ _ (c5_ BK1) (fun hHeld => ?_)
   clear hK K
   refine nm_ 10 ?_
   refine on_ 11 (some 14) (fun K hK => ?_)
   refine gs_ Tryz.func59 #[.slice Ao1 t2.length co1, .slice A0_2 l0_2.length c0_2] ?_
   with_reducible refine (slices_Equal_int_int.calls k _ _ t2 _ _ l0_2 false _ ?side1 ?side2 ?side3 ?side4 A6.out).mono ?_
   (case side1 => exact bayy_)
   (case side2 => exact (rr_ HO1.out).2.1)
   (case side3 => exact b6n8_)
   (case side4 => exact HC0_2.out)
   rintro e w' ⟨rfl, ⟨nd, rfl⟩⟩
   refine ⟨_, rfl, ?_⟩
   refine hK.out _ _ (c5_ BK1) (fun hHeld => ?_)
   clear hK K
   refine nm_ 14 ?_
   refine pu_ 12 15 ?_
   refine pu_ 13 16 ?_
   refine pv_ 14 17 ?_
   refine pv_ 15 18 ?_
   refine pv_ 16 19 ?_
   refine pu_ 17 20 ?_
   refine pu_ 18 2 ?_
   refine dn_ ?_
   try go_wp2
   go_ret
   exact ⟨bnwh_, be6g_⟩
  subst c2
  rw [if_pos rfl] at H
  obtain ⟨t4, A8, H⟩ := o1_ H
  replace H : (some t4) = some r := H
  obtain rfl := si_ H
  go_enter Tryz.func26, Tryz.ntmps26
  try go_wp2_with (first | ((with_reducible refine gd_ (N := 1) rfl ?_); refine bx_ 1 #[.int .i64 a0_0, .bool a0_1, .slice A0_2 l0_2.length c0_2, .slice A0_3 l0_3.length c0_3, .int .i64 a0_4] 32 ?_; intro gb1 hg w1 BK1 hb; have GW1 := ge_ hg brt4_; have GE1 := GW1; replace HB := hb_ hb brt4_; clear hb hg))
  replace BK1 := A0_ (kd_ BK1.out)
  replace HB := A0_ (bd_ HB.out)
  refine s5_ 19 [] BK1 impl_IsHouse.tab1 impl_IsHouse.bits1 (fun hHeld HT_ HW_ => ?_)
  generalize w1.drew = w2 at BK1 HB hHeld ⊢
  refine pu_ 0 3 ?_
  refine tk_ 1 4 hHeld ?_
  refine on_ 2 (some 5) (fun K hK => ?_)
  refine gs_ Tryz.func58 #[.agg #[.int .i64 a0_0, .bool a0_1, .slice A0_2 l0_2.length c0_2]] ?_
  with_reducible refine (impl_IsRow.calls k a0_0 a0_1 _ _ l0_2 true _ ?side1 ?side2 A2.out).mono ?_
  (case side1 => exact b6n8_)
  (case side2 => exact HC0_2.out)
  rintro e w3 ⟨rfl, hb⟩
  refine ⟨_, rfl, ?_⟩
  replace BK1 := k1_ BK1 hb
  replace HB := hb_ hb be6g_
  (try clear hb)
  refine hK.out _ _ (c5_ BK1) (fun hHeld => ?_)
  clear hK K
  refine nm_ 5 ?_
  refine pu_ 3 6 ?_
  refine pu_ 4 7 ?_
  refine pu_ 8 11 ?_
  refine pu_ 9 12 ?_
  refine tk_ 5 8 hHeld ?_
  refine tk_ 10 13 hHeld ?_
  refine on_ 6 (some 9) (fun K hK => ?_)
  refine gs_ Tryz.func61 #[.slice A0_3 l0_3.length c0_3] ?_
  with_reducible refine (slices_Values_int.calls A0_3 l0_3.length c0_3 _).mono ?_
  rintro e wv_ ⟨gv_, rfl, hcv, hb⟩
  refine ⟨_, rfl, ?_⟩
  have HGV := A0_ hcv
  clear hcv
  replace BK1 := k1_ BK1 hb
  replace HB := hb_ hb be6g_
  (try clear hb)
  refine hK.out _ _ (c5_ BK1) (fun hHeld => ?_)
  clear hK K
  refine nm_ 9 ?_
  refine on_ 7 (some 10) (fun K hK => ?_)
  refine gs_ Tryz.func60 #[.func (.func 83) #[] #[.pointer (some ⟨gv_, 0, none⟩)]] ?_
  with_reducible refine (slices_Sorted_int.calls gv_ _ _ l0_3 t2 _ HGV.out ?side1 ?side2 A4.out).mono ?_
  (case side1 => exact bkan_)
  (case side2 => exact HC0_3.out)
  rintro e w4 ⟨v1, rfl, ho0, hb⟩
  refine ⟨_, rfl, ?_⟩
  have HO1 := A0_ (Kd.R_lower ho0 (bz_ be6g_))
  replace BK1 := k1_ BK1 hb
  replace HB := hb_ hb be6g_
  (try clear hb); (try clear ho0)
  obtain ⟨Ao1, co1, eo1⟩ := Kd.R_slice HO1.out
  (first | subst eo1 | (injection eo1 with f1_ f2_ f3_; have f4_ := f1_.symm; have f5_ := f3_.symm; clear f1_ f2_ f3_; subst f4_; subst f5_))
  refine hK.out _ _ (c5_ BK1) (fun hHeld => ?_)
  clear hK K
  refine nm_ 10 ?_
  refine on_ 11 (some 14) (fun K hK => ?_)
  refine gs_ Tryz.func59 #[.slice Ao1 t2.length co1, .slice A0_2 l0_2.length c0_2] ?_
  with_reducible refine (slices_Equal_int_int.calls k _ _ t2 _ _ l0_2 true _ ?side1 ?side2 ?side3 ?side4 A6.out).mono ?_
  (case side1 => exact bayy_)
  (case side2 => exact (rr_ HO1.out).2.1)
  (case side3 => exact b6n8_)
  (case side4 => exact HC0_2.out)
  rintro e w' ⟨rfl, ⟨nd, rfl⟩⟩
  refine ⟨_, rfl, ?_⟩
  refine hK.out _ _ (c5_ BK1) (fun hHeld => ?_)
  clear hK K
  refine nm_ 14 ?_
  refine pu_ 12 15 ?_
  refine pu_ 13 16 ?_
  refine pu_ 14 17 ?_
  refine tk_ 15 18 hHeld ?_
  refine on_ 16 (some 19) (fun K hK => ?_)
  refine gs_ Tryz.func62 #[.int .i64 a0_4, .int .i64 0, .int .i64 1000] ?_
  with_reducible refine (impl_within.calls a0_4 0 1000 t4 _ A8.out).mono ?_
  rintro e w' ⟨rfl, ⟨nd, rfl⟩⟩
  refine ⟨_, rfl, ?_⟩
  refine hK.out _ _ (c5_ BK1) (fun hHeld => ?_)
  clear hK K
  refine nm_ 19 ?_
  refine pu_ 17 20 ?_
  refine pu_ 18 2 ?_
  refine dn_ ?_
  try go_wp2
  go_ret
  exact ⟨bnwh_, be6g_⟩
 ·obtain rfl := bf_.mpr c1
  rw [if_neg ft_] at H
  obtain rfl := si_ H
  go_enter Tryz.func26, Tryz.ntmps26
  try go_wp2_with (first | ((with_reducible refine gd_ (N := 1) rfl ?_); refine bx_ 1 #[.int .i64 a0_0, .bool a0_1, .slice A0_2 l0_2.length c0_2, .slice A0_3 l0_3.length c0_3, .int .i64 a0_4] 32 ?_; intro gb1 hg w1 BK1 hb; have GW1 := ge_ hg brt4_; have GE1 := GW1; replace HB := hb_ hb brt4_; clear hb hg))
  replace BK1 := A0_ (kd_ BK1.out)
  replace HB := A0_ (bd_ HB.out)
  refine s5_ 19 [] BK1 impl_IsHouse.tab1 impl_IsHouse.bits1 (fun hHeld HT_ HW_ => ?_)
  generalize w1.drew = w2 at BK1 HB hHeld ⊢
  refine pu_ 0 3 ?_
  refine tk_ 1 4 hHeld ?_
  refine on_ 2 (some 5) (fun K hK => ?_)
  refine gs_ Tryz.func58 #[.agg #[.int .i64 a0_0, .bool a0_1, .slice A0_2 l0_2.length c0_2]] ?_
  with_reducible refine (impl_IsRow.calls k a0_0 a0_1 _ _ l0_2 false _ ?side1 ?side2 A2.out).mono ?_
  (case side1 => exact b6n8_)
  (case side2 => exact HC0_2.out)
  rintro e w3 ⟨rfl, hb⟩
  refine ⟨_, rfl, ?_⟩
  replace BK1 := k1_ BK1 hb
  replace HB := hb_ hb be6g_
  (try clear hb)
  refine hK.out _ _ (c5_ BK1) (fun hHeld => ?_)
  clear hK K
  refine nm_ 5 ?_
  refine pu_ 3 6 ?_
  refine pv_ 4 7 ?_
  refine pv_ 5 8 ?_
  refine pv_ 6 9 ?_
  refine pv_ 7 10 ?_
  refine pv_ 8 11 ?_
  refine pv_ 9 12 ?_
  refine pv_ 10 13 ?_
  refine pv_ 11 14 ?_
  refine pu_ 12 15 ?_
  refine pu_ 13 16 ?_
  refine pv_ 14 17 ?_
  refine pv_ 15 18 ?_
  refine pv_ 16 19 ?_
  refine pu_ 17 20 ?_
  refine pu_ 18 2 ?_
  refine dn_ ?_
  try go_wp2
  go_ret
  exact ⟨bnwh_, be6g_⟩
 /-- The table of the library's stands in its variable: what the row's list gives. -/
def TabOK (w : World) : Prop := ∀ j, j < Lib.deBruijn32tab.length → w.cell? ⟨0, j, none⟩ = some (.int .u8 (Lib.deBruijn32tab.getD j 0))
theorem TabOK.below {w w' : World} (h : TabOK w) (hb : Below w.heap.size w w') : TabOK w' := fun j hj => (hb.cell (World.block_lt_of_cell? w _ (h j hj))).trans (h j hj)
theorem TabOK.drew {w : World} (h : TabOK w) : TabOK w.drew := h
theorem TabOK.drewN {w : World} (h : TabOK w) (n : Nat) : TabOK (w.drewN n) := fun j hj => h j hj
theorem tz_bits_and_u32_nat (a b : Nat) (ha : a < 4294967296) (hb : b < 4294967296) : Go.bits .and .u32 (a : Int) (b : Int) = ((a &&& b : Nat) : Int) := by
 have hx : a &&& b < 2 ^ 32 := Nat.and_lt_two_pow _ bh19_
 have h1 : (BitVec.ofInt 32 (a : Int)).toNat = a := by
  rw [BitVec.ofInt_natCast, BitVec.toNat_ofNat]; exact Nat.mod_eq_of_lt bh19_
 have h2 : (BitVec.ofInt 32 (b : Int)).toNat = b := by
  rw [BitVec.ofInt_natCast, BitVec.toNat_ofNat]; exact Nat.mod_eq_of_lt bh19_
 show IntKind.u32.wrap ((BitVec.ofInt 32 (a : Int) &&& BitVec.ofInt 32 (b : Int)).toNat : Int) = _
 rw [BitVec.toNat_and, h1, h2, IntKind.wrap_u32]
 omega
theorem tz_key (x a : Nat) (hx : x < 4294967296) (hx0 : x ≠ 0) (hlow : x &&& (4294967296 - x) = a) :
  Go.bits BinOp.and IntKind.u32 (x : Int) (-(x : Int) % 4294967296) * 125613361 % 4294967296 / 134217728 = ((a * 125613361 % 4294967296 / 134217728 : Nat) : Int) := by
 have e1 : -(x : Int) % 4294967296 = ((4294967296 - x : Nat) : Int) := by omega
 rw [e1, tz_bits_and_u32_nat x _ hx bh19_, hlow]
 omega
def bits_TrailingZeros32.f (a0 : Int) : Option (Int) := if 0 ≤ a0 ∧ a0 < 4294967296 then some (Lib.ctz 32 a0.toNat : Int) else none
set_option maxHeartbeats 1000000 in
theorem bits_TrailingZeros32.core (x k idx : Nat) (w : World) (hx0 : ((x : Int) == 0) = false)
  (key : Go.bits BinOp.and IntKind.u32 (x : Int) (-(x : Int) % 4294967296) * 125613361 % 4294967296 / 134217728 = (idx : Int))
  (hi : idx < 32) (hk : k < 32) (hcell : w.cell? ⟨0, idx, none⟩ = some (.int .u8 k)) :
  Calls Tryz.prog 94 #[.int .u32 x] w fun e w' => e = .returned (.int .i64 k) ∧ Drawn0 w w' := by
 go_enter Tryz.func94, Tryz.ntmps94
 go_wp2_with (simp only [key])
 go_ret
 exact ⟨rfl, boaj_⟩
theorem bits_TrailingZeros32.zero (w : World) :
  Calls Tryz.prog 94 #[.int .u32 0] w fun e w' => e = .returned (.int .i64 32) ∧ Drawn0 w w' := by
 go_enter Tryz.func94, Tryz.ntmps94
 go_wp2
 go_ret
 exact ⟨rfl, boaj_⟩
set_option maxHeartbeats 400000 in
set_option maxRecDepth 100000 in
theorem bits_TrailingZeros32.calls (a0 : Int) (r : Int) (w : World) (hG : TabOK w) (h : bits_TrailingZeros32.f a0 = some r) :
  Calls Tryz.prog 94 #[.int .u32 a0] w fun e w' => e = .returned (.int .i64 r) ∧ Drawn0 w w' := by
 unfold bits_TrailingZeros32.f at h
 split at h
 ·rename_i hh
  obtain ⟨h0, h1⟩ := hh
  obtain rfl := si_ h
  obtain ⟨x, rfl⟩ : ∃ x : Nat, a0 = x := ⟨a0.toNat, bh19_⟩
  rw [Int.toNat_natCast]
  by_cases hx1 : x = 0
  ·subst hx1
   exact bits_TrailingZeros32.zero w
  obtain ⟨hlow, hk⟩ := Lib.lowest_bit 32 x hx1 bh19_
  obtain ⟨hi, htab⟩ := Lib.deBruijn32_at _ hk
  have hcell := hG _ hi
  rw [htab] at hcell
  exact bits_TrailingZeros32.core x _ _ w (by simp; omega) (tz_key x _ bh19_ hx1 hlow) hi hk hcell
 cases h


def impl_set_list.l0 : Nat → Int → List Int → Option (List Int)
 | 0, _, _ => none
 | k + 1, x0, x3 => if x0 = 0 then (some x3) else ((bits_TrailingZeros32.f x0).bind fun t418 => (if x3.length < 17592186044416 then (impl_set_list.l0 k (Go.bits .and .u32 x0 ((x0 - 1) % 4294967296)) (x3 ++ [t418])) else (none)))
def impl_set_list.f (k : Nat) (a0 : Int) : Option (List Int) := impl_set_list.l0 k a0 (([] : List Int))
theorem impl_set_list.mono_l : ∀ k, (∀ y0 y1, LeO (impl_set_list.l0 k y0 y1) (impl_set_list.l0 (k + 1) y0 y1))
 | 0 => fun _ _ r h => by simp [impl_set_list.l0] at h
 | k + 1 => by
  have ih0 := impl_set_list.mono_l k
  ·intro y0 y1
   unfold impl_set_list.l0
   repeat' with_reducible first | exact ih0 .. | exact LeO.refl .. | exact LeO.none .. | refine LeO.ite ?_ ?_ | refine LeO.bind ?_ (fun _ => ?_)
theorem impl_set_list.mono : ∀ a0 k, LeO (impl_set_list.f k a0) (impl_set_list.f (k + 1) a0) := by
 intro a0 k
 have ih0 := impl_set_list.mono_l k
 unfold impl_set_list.f
 repeat' with_reducible first | exact ih0 .. | exact LeO.refl .. | exact LeO.none .. | refine LeO.ite ?_ ?_ | refine LeO.bind ?_ (fun _ => ?_)
theorem impl_set_list.calls (k : Nat) (a0 : Int) (r : List Int) (w : World) (hG : TabOK w) (h : impl_set_list.f k a0 = some r) :
  Calls Tryz.prog 71 #[.int .u32 a0] w fun e w' => ∃ v0_ : Value, e = .returned (v0_) ∧ Kd.R (Kd.int .i64) 3 w' w.heap.size (fun _ => True) v0_ r ∧ Below w.heap.size w w' := by
 have HG0 := A0_ hG
 clear hG
 have HB := A0_ (Below.refl w.heap.size w)
 have H : (impl_set_list.l0 k a0 (([] : List Int))) = some r := h
 clear h
 obtain ⟨y1, hy1⟩ : ∃ y_ : List Int, y_ = (([] : List Int)) := ⟨_, rfl⟩
 replace H : (impl_set_list.l0 k a0 y1) = some r := bgiq_
 have Ny1 := A0_ hy1
 clear hy1
 have H' := A0_ H
 clear H
 go_enter Tryz.func71, Tryz.ntmps71
 go_wp2_with (first | ((with_reducible refine gd_ (N := 4) rfl ?_); refine Kd.R_lit (Kd.int .i64) _ 3 ?hg (N := 4) ?hd (xs := ([] : List Int)) (inner := []) (ok := fun _ => True) (okp := fun _ => True) ?hr ?hp (fun _ hk => hk) trivial (Below.refl _ _) (Nat.le_refl _) bxka_ ?_; (case hd => rfl); (case hg => rfl); (case hr => go_simp; first | done | rfl); (case hp => exact (Reps.none _ _)); intro v1 w1 ho3 hb hg_ hnew_; clear hg_ hnew_; (first | rw [← Ny1.out] at ho3 | (simp only [Int.reduceToNat] at ho3; rw [← Ny1.out] at ho3)); have HO1 := A0_ (Kd.R_lower ho3 (bz_ brt4_)); replace HB := hb_ hb brt4_; clear hb ho3))
 go_loopg [0, 3] k (fun kq v0 v2 w' => ∃ (x0_1 : Int) (x3_1 : List Int), v0 = .int .u32 x0_1 ∧ Aside0 (impl_set_list.l0 kq x0_1 x3_1 = some r) ∧ Aside0 (kq ≤ k) ∧ Aside0 (Kd.R (Kd.int .i64) 3 w' w.heap.size (fun _ => True) v2 x3_1) ∧ Aside0 (Below w.heap.size w w'))
 case atStart => exact ⟨(a0), (y1), b2ew_, H', ⟨Nat.le_refl _⟩, ⟨bsm5_⟩, ⟨brt4_⟩⟩
 clear H'
 obtain ⟨x0_1, x3_1, rfl, HA, HK1, HO_1, HB⟩ := hrel
 cases gk with | zero => exact absurd HA.out (by simp [impl_set_list.l0]) | succ k1 => ?_
 have H := HA.out
 clear HA
 simp only [impl_set_list.l0] at H
 by_cases c1 : x0_1 = 0
 ·rw [if_pos c1] at H
  obtain ⟨c1b0, c1b1⟩ := et_ c1
  clear c1
  obtain rfl := si_ H
  go_wp2
  go_ret
  exact ⟨_, bnwh_, bwik_, brt4_⟩
 rw [if_neg c1] at H
 obtain ⟨c1b0, c1b1⟩ := ef_ c1
 obtain ⟨t1, A2, H⟩ := o1_ H
 by_cases c2 : x3_1.length < 17592186044416
 case neg =>
  rw [if_neg c2] at H
  exact absurd H bxka_
 rw [if_pos c2] at H
 have LMc1 := A0_ c2
 clear c2
 obtain ⟨y2, hy2⟩ : ∃ y_ : List Int, y_ = (x3_1 ++ [t1]) := ⟨_, rfl⟩
 replace H : (impl_set_list.l0 k1 (Go.bits .and .u32 x0_1 ((x0_1 - 1) % 4294967296)) y2) = some r := bscs_
 have Ny2 := A0_ hy2
 clear hy2
 have H' := A0_ H
 clear H
 go_wp2_with (first | ((with_reducible refine gc_ (f := 94) rfl ?_); refine gl_ 13 Tryz.func94 #[.int .u32 x0_1] ?_; (with_reducible refine (bits_TrailingZeros32.calls x0_1 t1 _ (by first | exact TabOK.below HG0.out brt4_ | (repeat (first | exact HG0.out | apply TabOK.drew | apply TabOK.drewN)) | exact TabOK.drawn HG0.out b6nv_) A2.out).mono ?_); rintro e w' ⟨rfl, ⟨nd, rfl⟩⟩; refine ⟨_, rfl, ?_⟩) | ((with_reducible refine gate_builtin (b := .append) (xs := #[.tmp 11, .tmp 14]) rfl ?_); at_builtin; refine Kd.R_append (Kd.int .i64) (w0 := w) w.heap.size rfl (.tmp 11) (.tmp 14) 22 3 (.int .i64 0) 8 rfl Tryz.underlying22 info3 rfl bi3y_ bh19_ u3 x3_1 t1 [.int .i64 t1] (fun _ => True) (fun _ => False) rfl rfl ?aP (fun _ hk => hk.elim) ?aF ?aO ?aB ?aS ?aL ?_; (case aP => exact rfl); (case aB => exact brt4_); (case aF => exact (fun _ _ => trivial)); (case aO => exact bwik_); (case aS => exact (bz_ brt4_)); (case aL => have := LMc1.out; omega); intro v3 w2 ho hb hg hat; rw [← Ny2.out] at ho; have n0_ := A0_ (hb); have n1_ := A0_ (ho); clear HB HO_1; have HB := n0_; have HO2 := n1_; clear n0_ n1_ ho hb hg hat))
 go_roundg k1
 case measure => have := HK1.out; omega
 exact ⟨(Go.bits .and .u32 x0_1 ((x0_1 - 1) % 4294967296)), (y2), b2ew_, H', ⟨bxjq_⟩, ⟨b9so_⟩, ⟨brt4_⟩⟩

def impl_bench_row.f (k : Nat) (a0_0 : Int) (a0_1 : Bool) (a1 : Int) : Option (Int × Bool × List Int) := (impl_set_list.f k a1).bind fun t424 => (some (a0_0, a0_1, t424))
theorem impl_bench_row.mono : ∀ a0 a1 a2 k, LeO (impl_bench_row.f k a0 a1 a2) (impl_bench_row.f (k + 1) a0 a1 a2) := by
 intro a0 a1 a2 k
 unfold impl_bench_row.f
 repeat' with_reducible first | exact impl_set_list.mono .. | exact LeO.refl .. | exact LeO.none .. | refine LeO.ite ?_ ?_ | refine LeO.bind ?_ (fun _ => ?_)
def impl_bench_row.T1 : Bool × List (List Nat × List Nat) := (true, [([], []), ([0], [0]), ([], []), ([2], [2]), ([], []), ([4], [4]), ([1, 3, 5], [1, 3, 5]), ([6, 5, 0, 1, 2, 3, 4, 5, 6], [6])])
def impl_bench_row.B1 : List Nat := [0, 1, 0, 4, 0, 16, 63, 127]
theorem impl_bench_row.tab1 : rtab .any (opsOf Tryz.f49 1) = impl_bench_row.T1 := by kernel_rfl
theorem impl_bench_row.bits1 : waitsOk impl_bench_row.T1.2 impl_bench_row.B1 = true := by kernel_rfl
theorem impl_bench_row.calls (k : Nat) (a0_0 : Int) (a0_1 : Bool) (a1 : Int) (r1 : Int) (r2 : Bool) (r3 : List Int) (w : World) (hG : TabOK w) (h : impl_bench_row.f k a0_0 a0_1 a1 = some (r1, r2, r3)) :
  Calls Tryz.prog 49 #[.agg #[.int .i64 a0_0, .bool a0_1], .int .u32 a1] w fun e w' => ∃ v2_ : Value, e = .returned (.agg #[.int .i64 r1, .bool r2, v2_]) ∧ Kd.R (Kd.int .i64) 3 w' w.heap.size (fun _ => True) v2_ r3 ∧ Below w.heap.size w w' := by
 have HG0 := A0_ hG
 clear hG
 have hu79 := Tryz.underlying79
 have hu30 := Tryz.underlying30
 have HB := A0_ (Below.refl w.heap.size w)
 have H : ((impl_set_list.f k a1).bind fun t1 => (some (a0_0, a0_1, t1))) = some (r1, r2, r3) := h
 clear h
 obtain ⟨t1, A2, H⟩ := o1_ H
 replace H : (some (a0_0, a0_1, t1)) = some (r1, r2, r3) := H
 simp only [sj_, pj_] at H
 obtain ⟨rfl, rfl, rfl⟩ := H
 go_enter Tryz.func49, Tryz.ntmps49
 try go_wp2_with (first | ((with_reducible refine gd_ (N := 2) rfl ?_); refine bx_ 2 #[.int .i64 a0_0, .bool a0_1] 79 ?_; intro gb1 hg w1 BK1 hb; have GW1 := ge_ hg brt4_; have GE1 := GW1; replace HB := hb_ hb brt4_; clear hb hg) | ((with_reducible refine gd_ (N := 4) rfl ?_); refine bx_ 4 #[.int .i64 0, .bool false, .slice none 0 0] 30 ?_; intro gb2 hg w2 BK2 hb; have GW2 := ge_ hg be6g_; have GE2 := GW2; replace HB := hb_ hb be6g_; have NB1_2 := nl_ hg BK1; have NB2_1 := ng_ hg BK1; replace BK1 := k1_ BK1 hb; clear hb hg))
 replace BK1 := A0_ (kd_ BK1.out)
 replace BK2 := A0_ (kd_ BK2.out)
 replace HB := A0_ (bd_ HB.out)
 refine s2_ 8 [] BK1 impl_bench_row.tab1 impl_bench_row.bits1 (fun hHeld HT_ HW_ => ?_)
 generalize w2.drew = w3 at BK1 BK2 HB hHeld ⊢
 refine pu_ 0 5 ?_
 refine pu_ 2 7 ?_
 refine pu_ 4 9 ?_
 refine tk_ 1 6 hHeld ?_
 refine tk_ 3 8 hHeld ?_
 refine on_ 5 (some 10) (fun K hK => ?_)
 refine gs_ Tryz.func71 #[.int .u32 a1] ?_
 with_reducible refine (impl_set_list.calls k a1 t1 _ (by first | exact TabOK.below HG0.out bfnq_ | (repeat (first | exact HG0.out | apply TabOK.drew | apply TabOK.drewN)) | exact TabOK.drawn HG0.out b6nv_) A2.out).mono ?_
 rintro e w4 ⟨v1, rfl, ho0, hb⟩
 refine ⟨_, rfl, ?_⟩
 have HO1 := A0_ (Kd.R_lower ho0 (bz_ bfnq_))
 replace BK1 := k1_ BK1 hb
 replace BK2 := k1_ BK2 hb
 replace HB := hb_ hb bfnq_
 (try clear hb); (try clear ho0)
 obtain ⟨Ao1, co1, eo1⟩ := Kd.R_slice HO1.out
 (first | subst eo1 | (injection eo1 with f1_ f2_ f3_; have f4_ := f1_.symm; have f5_ := f3_.symm; clear f1_ f2_ f3_; subst f4_; subst f5_))
 refine hK.out _ _ (c2_ BK1) (fun hHeld => ?_)
 clear hK K
 refine nm_ 10 ?_
 refine pu_ 6 11 ?_
 refine on_ 7 none (fun K hK => ?_)
 have hs9 : w4.cell? ⟨gb2, 0, none⟩ = some (.int .i64 0) := (kc_ BK2.out 0).trans rfl
 have hfs9 := kf_ BK2.out 0
 have hns1_0 := NB1_2.out
 have hms1_0 := NB2_1.out
 have hs10 : w4.cell? ⟨gb2, 1, none⟩ = some (.bool false) := (kc_ BK2.out 1).trans rfl
 have hfs10 := kf_ BK2.out 1
 have hns2_0 := NB1_2.out
 have hms2_0 := NB2_1.out
 have hs11 : w4.cell? ⟨gb2, 2, none⟩ = some (.slice none 0 0) := (kc_ BK2.out 2).trans rfl
 have hfs11 := kf_ BK2.out 2
 have hns3_0 := NB1_2.out
 have hms3_0 := NB2_1.out
 refine skip_ (w1 := ?_) (by rfl) rfl ?_ ?_
 rotate_left
 ·go_simp
  rfl
 refine hK.out _ _ ⟨((cell_far (p := ⟨gb2, _, none⟩) NB1_2.out _).trans (((cell_far (p := ⟨gb2, _, none⟩) NB1_2.out _).trans (((cell_far (p := ⟨gb2, _, none⟩) NB1_2.out _).trans (hHeld.1)))))), ((cell_far (p := ⟨gb2, _, none⟩) NB1_2.out _).trans (((cell_far (p := ⟨gb2, _, none⟩) NB1_2.out _).trans (((cell_far (p := ⟨gb2, _, none⟩) NB1_2.out _).trans (hHeld.2))))))⟩ (fun hHeld => ?_)
 clear hK K
 refine dn_ ?_
 try go_wp2
 refine bodyPost_ret (results_cell_row rfl _ _ gb2 30 #[.int .i64 a0_0, .bool a0_1, .slice Ao1 t1.length co1] (0, 0) _ rfl (u1_ BK2) Tryz.underlying30 rfl bfqv_) rfl ?_
 exact ⟨_, bnwh_, by (with_reducible repeat (first | apply ra_ | apply rn_ | apply rd_)); exact Kd.R_mono (rf_ (rf_ (rf_ (Kd.R_types HO1.out BK2.out bi3y_) k2_0 _) k2_0 _) k2_0 _) (fun _ hk => trivial), bfnq_⟩

def impl_bench_gap.f (a0_0 : Int) (a0_1 : Bool) (a1 : Int) (a2 : Int) : Option (Int) := if a0_1 = true then (some (mn (mx (wrap64 (a1 - a2)) (wrap64 (a2 - a1))) (wrap64 (a0_0 - (mx (wrap64 (a1 - a2)) (wrap64 (a2 - a1))))))) else (some (mx (wrap64 (a1 - a2)) (wrap64 (a2 - a1))))
theorem impl_bench_gap.calls (a0_0 : Int) (a0_1 : Bool) (a1 : Int) (a2 : Int) (r : Int) (w : World) (h : impl_bench_gap.f a0_0 a0_1 a1 a2 = some r) :
  Calls Tryz.prog 126 #[.agg #[.int .i64 a0_0, .bool a0_1], .int .i64 a1, .int .i64 a2] w fun e w' => e = .returned (.int .i64 r) ∧ Below w.heap.size w w' := by
 have hu79 := Tryz.underlying79
 have HB := A0_ (Below.refl w.heap.size w)
 have H : (if a0_1 = true then (some (mn (mx (wrap64 (a1 - a2)) (wrap64 (a2 - a1))) (wrap64 (a0_0 - (mx (wrap64 (a1 - a2)) (wrap64 (a2 - a1))))))) else (some (mx (wrap64 (a1 - a2)) (wrap64 (a2 - a1))))) = some r := h
 clear h
 obtain ⟨ji1, hji1⟩ : ∃ j_ : Int, (mx (wrap64 (a1 - a2)) (wrap64 (a2 - a1))) = j_ := ⟨_, rfl⟩
 replace H : (if a0_1 = true then (some (mn (ji1) (wrap64 (a0_0 - (ji1))))) else (some ji1)) = some r := bmns_
 have hji1_ : (if (wrap64 (a1 - a2)) < (wrap64 (a2 - a1)) then (wrap64 (a2 - a1)) else (wrap64 (a1 - a2))) = ji1 := hji1
 by_cases c1 : a0_1 = true
 case neg =>
  obtain rfl := bf_.mpr c1
  rw [if_neg ft_] at H
  obtain rfl := si_ H
  go_enter Tryz.func126, Tryz.ntmps126
  go_wp2_with (first | ((with_reducible refine gd_ (N := 3) rfl ?_); refine bx_ 3 #[.int .i64 a0_0, .bool false] 79 ?_; intro gb1 hg w1 BK1 hb; have GW1 := ge_ hg brt4_; have GE1 := GW1; replace HB := hb_ hb brt4_; clear hb hg; have hcz1 := c2_ BK1))
  go_ret
  exact ⟨bfw0_, be6g_⟩
 subst c1
 rw [if_pos rfl] at H
 obtain ⟨ji2, hji2⟩ : ∃ j_ : Int, (mn (ji1) (wrap64 (a0_0 - (ji1)))) = j_ := ⟨_, rfl⟩
 replace H : (some ji2) = some r := by first | (rw [hji2] at H; exact H) | (simp only [hji2] at H ⊢; exact H)
 have hji2_ : (if (wrap64 (a0_0 - (ji1))) < (ji1) then (wrap64 (a0_0 - (ji1))) else (ji1)) = ji2 := hji2
 obtain rfl := si_ H
 go_enter Tryz.func126, Tryz.ntmps126
 go_wp2_with (first | ((with_reducible refine gd_ (N := 3) rfl ?_); refine bx_ 3 #[.int .i64 a0_0, .bool true] 79 ?_; intro gb1 hg w1 BK1 hb; have GW1 := ge_ hg brt4_; have GE1 := GW1; replace HB := hb_ hb brt4_; clear hb hg; have hcz1 := c2_ BK1))
 go_ret
 exact ⟨by first | rfl | (simp [errW_none, errW_some] <;> rfl) | (simp only [← hji1, ← hji2]; first | rfl | (simp [errW_none, errW_some] <;> rfl)) | (simp [*, errW_none, errW_some] <;> rfl), be6g_⟩

def impl_bench_nearest.l0 : Nat → Int → Int → Int → List Int → Int → Int → Int → Bool → Option (Int × Int × Bool)
 | 0, _, _, _, _, _, _, _, _ => none
 | k + 1, x1, x9, x10, x15, x16, x17, x429000, x429001 => if x17 < x16 then (if 0 ≤ x17 then (if x17 < (x15.length : Int) then ((impl_bench_gap.f x429000 x429001 x1 (rd x15 x17)).bind fun t433 => (if x10 < 0 then (impl_bench_nearest.l0 k x1 (rd x15 x17) t433 x15 x16 (wrap64 (x17 + 1)) x429000 x429001) else (if t433 < x10 then (impl_bench_nearest.l0 k x1 (rd x15 x17) t433 x15 x16 (wrap64 (x17 + 1)) x429000 x429001) else (impl_bench_nearest.l0 k x1 x9 x10 x15 x16 (wrap64 (x17 + 1)) x429000 x429001)))) else (none)) else (none)) else (some (x9, mx 0 x10, decide (x10 ≥ 0)))
def impl_bench_nearest.f (k : Nat) (a0_0 : Int) (a0_1 : Bool) (a1 : Int) (a2 : Int) : Option (Int × Int × Bool) := (impl_set_list.f k a2).bind fun t429 => (impl_bench_nearest.l0 k a1 0 (-1) t429 (t429.length : Int) 0 a0_0 a0_1)
theorem impl_bench_nearest.mono_l : ∀ k, (∀ y0 y1 y2 y3 y4 y5 y6 y7, LeO (impl_bench_nearest.l0 k y0 y1 y2 y3 y4 y5 y6 y7) (impl_bench_nearest.l0 (k + 1) y0 y1 y2 y3 y4 y5 y6 y7))
 | 0 => fun _ _ _ _ _ _ _ _ r h => by simp [impl_bench_nearest.l0] at h
 | k + 1 => by
  have ih0 := impl_bench_nearest.mono_l k
  ·intro y0 y1 y2 y3 y4 y5 y6 y7
   unfold impl_bench_nearest.l0
   repeat' with_reducible first | exact ih0 .. | exact impl_set_list.mono .. | exact LeO.refl .. | exact LeO.none .. | refine LeO.ite ?_ ?_ | refine LeO.bind ?_ (fun _ => ?_)
theorem impl_bench_nearest.mono : ∀ a0 a1 a2 a3 k, LeO (impl_bench_nearest.f k a0 a1 a2 a3) (impl_bench_nearest.f (k + 1) a0 a1 a2 a3) := by
 intro a0 a1 a2 a3 k
 have ih0 := impl_bench_nearest.mono_l k
 unfold impl_bench_nearest.f
 repeat' with_reducible first | exact ih0 .. | exact impl_set_list.mono .. | exact LeO.refl .. | exact LeO.none .. | refine LeO.ite ?_ ?_ | refine LeO.bind ?_ (fun _ => ?_)
theorem impl_bench_nearest.calls (k : Nat) (a0_0 : Int) (a0_1 : Bool) (a1 : Int) (a2 : Int) (r1 : Int) (r2 : Int) (r3 : Bool) (w : World) (hG : TabOK w) (h : impl_bench_nearest.f k a0_0 a0_1 a1 a2 = some (r1, r2, r3)) :
  Calls Tryz.prog 118 #[.agg #[.int .i64 a0_0, .bool a0_1], .int .i64 a1, .int .u32 a2] w fun e w' => e = .returned (.tuple #[.int .i64 r1, .int .i64 r2, .bool r3]) ∧ Below w.heap.size w w' := by
 have HG0 := A0_ hG
 clear hG
 have hu79 := Tryz.underlying79
 have HB := A0_ (Below.refl w.heap.size w)
 have H : ((impl_set_list.f k a2).bind fun t1 => (impl_bench_nearest.l0 k a1 0 (-1) t1 (t1.length : Int) 0 a0_0 a0_1)) = some (r1, r2, r3) := h
 clear h
 obtain ⟨t1, A2, H⟩ := o1_ H
 have H' := A0_ H
 clear H
 go_enter Tryz.func118, Tryz.ntmps118
 go_wp2_with (first | ((with_reducible refine gd_ (N := 3) rfl ?_); refine bx_ 3 #[.int .i64 a0_0, .bool a0_1] 79 ?_; intro gb1 hg w1 BK1 hb; have GW1 := ge_ hg brt4_; have GE1 := GW1; replace HB := hb_ hb brt4_; clear hb hg) | ((with_reducible refine gc_ (f := 71) rfl ?_); refine gl_ 15 Tryz.func71 #[.int .u32 a2] ?_; (with_reducible refine (impl_set_list.calls k a2 t1 _ bko1_ A2.out).mono ?_); rintro e w2 ⟨v1, rfl, ho0, hb⟩; refine ⟨_, rfl, ?_⟩; have HO1 := A0_ (Kd.R_lower ho0 (bz_ be6g_)); replace BK1 := k1_ BK1 hb; replace HB := hb_ hb be6g_; (try clear hb); (try clear ho0); obtain ⟨Ao1, co1, eo1⟩ := Kd.R_slice HO1.out; subst eo1))
 go_loopg [9, 10, 17] k (fun kq v2 v3 v4 w' => ∃ (x9_1 : Int) (x10_1 : Int) (x17_1 : Int), v2 = .int .i64 x9_1 ∧ v3 = .int .i64 x10_1 ∧ v4 = .int .i64 x17_1 ∧ Aside0 (impl_bench_nearest.l0 kq a1 x9_1 x10_1 t1 (t1.length : Int) x17_1 a0_0 a0_1 = some (r1, r2, r3)) ∧ Aside0 (kq ≤ k) ∧ Aside0 (Kd.R (Kd.int .i64) 3 w' w.heap.size (fun _ => True) (.slice Ao1 t1.length co1) t1) ∧ Aside0 (w'.heap[gb1]? = some (.cells #[.int .i64 a0_0, .bool a0_1] 79 (0, 0))) ∧ Aside0 (Below w.heap.size w w'))
 case atStart => exact ⟨(0), ((-1)), (0), b2ew_, b2ew_, b2ew_, H', ⟨Nat.le_refl _⟩, ⟨bsm5_⟩, ⟨u1_ BK1⟩, ⟨be6g_⟩⟩
 clear H'
 obtain ⟨x9_1, x10_1, x17_1, rfl, rfl, rfl, HA, HK1, HO_1, BK1, HB⟩ := hrel
 cases gk with | zero => exact absurd HA.out (by simp [impl_bench_nearest.l0]) | succ k1 => ?_
 have H := HA.out
 clear HA
 simp only [impl_bench_nearest.l0] at H
 by_cases c1 : x17_1 < (t1.length : Int)
 case neg =>
  rw [if_neg c1] at H
  have c1b0 : decide (x17_1 < (t1.length : Int)) = false := decide_eq_false c1
  clear c1
  obtain ⟨ji1, hji1⟩ : ∃ j_ : Int, (mx 0 x10_1) = j_ := ⟨_, rfl⟩
  replace H : (some (x9_1, ji1, decide (x10_1 ≥ 0))) = some (r1, r2, r3) := bmns_
  have hji1_ : (if 0 < x10_1 then x10_1 else 0) = ji1 := hji1
  simp only [sj_, pj_] at H
  obtain ⟨rfl, rfl, rfl⟩ := H
  go_wp2
  go_ret3
  exact ⟨bfw0_, be6g_⟩
 rw [if_pos c1] at H
 have c1b0 : decide (x17_1 < (t1.length : Int)) = true := dt_ c1
 clear c1
 by_cases c2 : 0 ≤ x17_1
 case neg =>
  rw [if_neg c2] at H
  exact absurd H bxka_
 rw [if_pos c2] at H
 have c2b0 : decide (0 ≤ x17_1) = true := dt_ c2
 clear c2
 by_cases c3 : x17_1 < (t1.length : Int)
 case neg =>
  rw [if_neg c3] at H
  exact absurd H bxka_
 rw [if_pos c3] at H
 have c3b0 : decide (x17_1 < (t1.length : Int)) = true := dt_ c3
 clear c3
 obtain ⟨t2, A4, H⟩ := o1_ H
 by_cases c4 : x10_1 < 0
 ·rw [if_pos c4] at H
  have c4b0 : decide (x10_1 < 0) = true := dt_ c4
  clear c4
  have H' := A0_ H
  clear H
  have p1 : 0 ≤ (x17_1 : Int) := od_ bpil_
  have q1 : x17_1 < (t1.length : Int) := od_ bpil_
  obtain ⟨ad1, e1, hx1_0⟩ := Kd.at_int (rr_ HO_1.out).2.2 x17_1 p1 q1
  cases e1
  replace p1 := eq_true p1
  replace q1 := eq_true q1
  have hcz1 := c2_ BK1
  go_wp2_with (first | ((with_reducible refine gc_ (f := 126) rfl ?_); refine gl_ 24 Tryz.func126 #[.agg #[.int .i64 a0_0, .bool a0_1], .int .i64 a1, .int .i64 (rd t1 x17_1)] ?_; (with_reducible refine (impl_bench_gap.calls a0_0 a0_1 a1 (rd t1 x17_1) t2 _ A4.out).mono ?_); rintro e w3 ⟨rfl, hb⟩; refine ⟨_, rfl, ?_⟩; replace HO_1 := A0_ (Kd.R_below bwik_ hb); replace BK1 := k1_ BK1 hb; replace HB := hb_ hb be6g_; (try clear hb)))
  go_roundg k1
  case measure => have := HK1.out; omega
  exact ⟨(rd t1 x17_1), (t2), (wrap64 (x17_1 + 1)), b2ew_, b2ew_, b2ew_, H', ⟨bxjq_⟩, ⟨bwik_⟩, ⟨u1_ BK1⟩, ⟨be6g_⟩⟩
 rw [if_neg c4] at H
 have c4b0 : decide (x10_1 < 0) = false := decide_eq_false c4
 clear c4
 by_cases c5 : t2 < x10_1
 ·rw [if_pos c5] at H
  have c5b0 : decide (t2 < x10_1) = true := dt_ c5
  clear c5
  have H' := A0_ H
  clear H
  have p1 : 0 ≤ (x17_1 : Int) := od_ bpil_
  have q1 : x17_1 < (t1.length : Int) := od_ bpil_
  obtain ⟨ad1, e1, hx1_0⟩ := Kd.at_int (rr_ HO_1.out).2.2 x17_1 p1 q1
  cases e1
  replace p1 := eq_true p1
  replace q1 := eq_true q1
  have hcz1 := c2_ BK1
  go_wp2_with (first | ((with_reducible refine gc_ (f := 126) rfl ?_); refine gl_ 24 Tryz.func126 #[.agg #[.int .i64 a0_0, .bool a0_1], .int .i64 a1, .int .i64 (rd t1 x17_1)] ?_; (with_reducible refine (impl_bench_gap.calls a0_0 a0_1 a1 (rd t1 x17_1) t2 _ A4.out).mono ?_); rintro e w3 ⟨rfl, hb⟩; refine ⟨_, rfl, ?_⟩; replace HO_1 := A0_ (Kd.R_below bwik_ hb); replace BK1 := k1_ BK1 hb; replace HB := hb_ hb be6g_; (try clear hb)))
  go_roundg k1
  case measure => have := HK1.out; omega
  exact ⟨(rd t1 x17_1), (t2), (wrap64 (x17_1 + 1)), b2ew_, b2ew_, b2ew_, H', ⟨bxjq_⟩, ⟨bwik_⟩, ⟨u1_ BK1⟩, ⟨be6g_⟩⟩
 rw [if_neg c5] at H
 have c5b0 : decide (t2 < x10_1) = false := decide_eq_false c5
 clear c5
 have H' := A0_ H
 clear H
 have p1 : 0 ≤ (x17_1 : Int) := od_ bpil_
 have q1 : x17_1 < (t1.length : Int) := od_ bpil_
 obtain ⟨ad1, e1, hx1_0⟩ := Kd.at_int (rr_ HO_1.out).2.2 x17_1 p1 q1
 cases e1
 replace p1 := eq_true p1
 replace q1 := eq_true q1
 have hcz1 := c2_ BK1
 go_wp2_with (first | ((with_reducible refine gc_ (f := 126) rfl ?_); refine gl_ 24 Tryz.func126 #[.agg #[.int .i64 a0_0, .bool a0_1], .int .i64 a1, .int .i64 (rd t1 x17_1)] ?_; (with_reducible refine (impl_bench_gap.calls a0_0 a0_1 a1 (rd t1 x17_1) t2 _ A4.out).mono ?_); rintro e w3 ⟨rfl, hb⟩; refine ⟨_, rfl, ?_⟩; replace HO_1 := A0_ (Kd.R_below bwik_ hb); replace BK1 := k1_ BK1 hb; replace HB := hb_ hb be6g_; (try clear hb)))
 go_roundg k1
 case measure => have := HK1.out; omega
 exact ⟨(x9_1), (x10_1), (wrap64 (x17_1 + 1)), b2ew_, b2ew_, b2ew_, H', ⟨bxjq_⟩, ⟨bwik_⟩, ⟨u1_ BK1⟩, ⟨be6g_⟩⟩

def impl_bench_farness.l0 : Nat → Int → List Int → Int → Int → Int → Bool → Option (List Int)
 | 0, _, _, _, _, _, _ => none
 | k + 1, x1, x5, x12, x13, x435000, x435001 => if x13 < x12 then ((impl_bench_nearest.f k x435000 x435001 x13 x1).bind fun bt438 => (if bt438.2.2 = true then (if x5.length < 17592186044416 then (impl_bench_farness.l0 k x1 (x5 ++ [bt438.2.1]) x12 (wrap64 (x13 + 1)) x435000 x435001) else (none)) else (if x5.length < 17592186044416 then (impl_bench_farness.l0 k x1 (x5 ++ [x435000]) x12 (wrap64 (x13 + 1)) x435000 x435001) else (none)))) else (some x5)
def impl_bench_farness.f (k : Nat) (a0_0 : Int) (a0_1 : Bool) (a1 : Int) : Option (List Int) := impl_bench_farness.l0 k a1 (([] : List Int)) a0_0 0 a0_0 a0_1
theorem impl_bench_farness.mono_l : ∀ k, (∀ y0 y1 y2 y3 y4 y5, LeO (impl_bench_farness.l0 k y0 y1 y2 y3 y4 y5) (impl_bench_farness.l0 (k + 1) y0 y1 y2 y3 y4 y5))
 | 0 => fun _ _ _ _ _ _ r h => by simp [impl_bench_farness.l0] at h
 | k + 1 => by
  have ih0 := impl_bench_farness.mono_l k
  ·intro y0 y1 y2 y3 y4 y5
   unfold impl_bench_farness.l0
   repeat' with_reducible first | exact ih0 .. | exact impl_bench_nearest.mono .. | exact LeO.refl .. | exact LeO.none .. | refine LeO.ite ?_ ?_ | refine LeO.bind ?_ (fun _ => ?_)
theorem impl_bench_farness.mono : ∀ a0 a1 a2 k, LeO (impl_bench_farness.f k a0 a1 a2) (impl_bench_farness.f (k + 1) a0 a1 a2) := by
 intro a0 a1 a2 k
 have ih0 := impl_bench_farness.mono_l k
 unfold impl_bench_farness.f
 repeat' with_reducible first | exact ih0 .. | exact impl_bench_nearest.mono .. | exact LeO.refl .. | exact LeO.none .. | refine LeO.ite ?_ ?_ | refine LeO.bind ?_ (fun _ => ?_)
theorem impl_bench_farness.calls (k : Nat) (a0_0 : Int) (a0_1 : Bool) (a1 : Int) (r : List Int) (w : World) (hG : TabOK w) (h : impl_bench_farness.f k a0_0 a0_1 a1 = some r) :
  Calls Tryz.prog 102 #[.agg #[.int .i64 a0_0, .bool a0_1], .int .u32 a1] w fun e w' => ∃ v0_ : Value, e = .returned (v0_) ∧ Kd.R (Kd.int .i64) 3 w' w.heap.size (fun _ => True) v0_ r ∧ Below w.heap.size w w' := by
 have HG0 := A0_ hG
 clear hG
 have hu79 := Tryz.underlying79
 have HB := A0_ (Below.refl w.heap.size w)
 have H : (impl_bench_farness.l0 k a1 (([] : List Int)) a0_0 0 a0_0 a0_1) = some r := h
 clear h
 obtain ⟨y1, hy1⟩ : ∃ y_ : List Int, y_ = (([] : List Int)) := ⟨_, rfl⟩
 replace H : (impl_bench_farness.l0 k a1 y1 a0_0 0 a0_0 a0_1) = some r := bgiq_
 have Ny1 := A0_ hy1
 clear hy1
 have H' := A0_ H
 clear H
 go_enter Tryz.func102, Tryz.ntmps102
 go_wp2_with (first | ((with_reducible refine gd_ (N := 2) rfl ?_); refine bx_ 2 #[.int .i64 a0_0, .bool a0_1] 79 ?_; intro gb1 hg w1 BK1 hb; have GW1 := ge_ hg brt4_; have GE1 := GW1; replace HB := hb_ hb brt4_; clear hb hg) | ((with_reducible refine gd_ (N := 10) rfl ?_); refine Kd.R_lit (Kd.int .i64) _ 3 ?hg (N := 10) ?hd (xs := ([] : List Int)) (inner := []) (ok := fun _ => True) (okp := fun _ => True) ?hr ?hp (fun _ hk => hk) trivial (Below.refl _ _) (Nat.le_refl _) bxka_ ?_; (case hd => rfl); (case hg => rfl); (case hr => go_simp; first | done | rfl); (case hp => exact (Reps.none _ _)); intro v1 w2 ho5 hb hg_ hnew_; clear hg_ hnew_; (first | rw [← Ny1.out] at ho5 | (simp only [Int.reduceToNat] at ho5; rw [← Ny1.out] at ho5)); have HO1 := A0_ (Kd.R_lower ho5 (bz_ be6g_)); replace BK1 := k1_ BK1 hb; replace HB := hb_ hb be6g_; clear hb ho5; have hcz1 := c2_ BK1))
 go_loopg [5, 13] k (fun kq v2 v3 w' => ∃ (x5_1 : List Int) (x13_1 : Int), v3 = .int .i64 x13_1 ∧ Aside0 (impl_bench_farness.l0 kq a1 x5_1 a0_0 x13_1 a0_0 a0_1 = some r) ∧ Aside0 (kq ≤ k) ∧ Aside0 (Kd.R (Kd.int .i64) 3 w' w.heap.size (fun _ => True) v2 x5_1) ∧ Aside0 (w'.heap[gb1]? = some (.cells #[.int .i64 a0_0, .bool a0_1] 79 (0, 0))) ∧ Aside0 (Below w.heap.size w w'))
 case atStart => exact ⟨(y1), (0), b2ew_, H', ⟨Nat.le_refl _⟩, ⟨bsm5_⟩, ⟨u1_ BK1⟩, ⟨be6g_⟩⟩
 clear H'
 (try clear hcz1)
 obtain ⟨x5_1, x13_1, rfl, HA, HK1, HO_1, BK1, HB⟩ := hrel
 cases gk with | zero => exact absurd HA.out (by simp [impl_bench_farness.l0]) | succ k1 => ?_
 have H := HA.out
 clear HA
 simp only [impl_bench_farness.l0] at H
 by_cases c1 : x13_1 < a0_0
 case neg =>
  rw [if_neg c1] at H
  have c1b0 : decide (x13_1 < a0_0) = false := decide_eq_false c1
  clear c1
  obtain rfl := si_ H
  go_wp2
  go_ret
  exact ⟨_, bnwh_, bwik_, be6g_⟩
 rw [if_pos c1] at H
 have c1b0 : decide (x13_1 < a0_0) = true := dt_ c1
 clear c1
 obtain ⟨⟨t1, t2, t3⟩, A2, H⟩ := o1_ H
 by_cases c2 : t3 = true
 ·subst c2
  rw [if_pos rfl] at H
  by_cases c3 : x5_1.length < 17592186044416
  case neg =>
   rw [if_neg c3] at H
   exact absurd H bxka_
  rw [if_pos c3] at H
  have LMc1 := A0_ c3
  clear c3
  obtain ⟨y2, hy2⟩ : ∃ y_ : List Int, y_ = (x5_1 ++ [t2]) := ⟨_, rfl⟩
  replace H : (impl_bench_farness.l0 k1 a1 y2 a0_0 (wrap64 (x13_1 + 1)) a0_0 a0_1) = some r := bscs_
  have Ny2 := A0_ hy2
  clear hy2
  have H' := A0_ H
  clear H
  have hcz2 := c2_ BK1
  go_wp2_with (first | ((with_reducible refine gc_ (f := 118) rfl ?_); refine gl_ 20 Tryz.func118 #[.agg #[.int .i64 a0_0, .bool a0_1], .int .i64 x13_1, .int .u32 a1] ?_; (with_reducible refine (impl_bench_nearest.calls k1 a0_0 a0_1 x13_1 a1 t1 t2 true _ bko1_ A2.out).mono ?_); rintro e w3 ⟨rfl, hb⟩; refine ⟨_, rfl, ?_⟩; replace HO_1 := A0_ (Kd.R_below bwik_ hb); replace BK1 := k1_ BK1 hb; replace HB := hb_ hb be6g_; (try clear hb)) | ((with_reducible refine gate_builtin (b := .append) (xs := #[.tmp 28, .tmp 30]) rfl ?_); at_builtin; refine Kd.R_append (Kd.int .i64) (w0 := w) w.heap.size rfl (.tmp 28) (.tmp 30) 22 3 (.int .i64 0) 8 rfl Tryz.underlying22 info3 rfl bi3y_ bh19_ u5 x5_1 t2 [.int .i64 t2] (fun _ => True) (fun _ => False) rfl rfl ?aP (fun _ hk => hk.elim) ?aF ?aO ?aB ?aS ?aL ?_; (case aP => exact rfl); (case aB => exact be6g_); (case aF => exact (fun _ _ => trivial)); (case aO => exact bwik_); (case aS => exact (bz_ be6g_)); (case aL => have := LMc1.out; omega); intro v4 w4 ho hb hg hat; rw [← Ny2.out] at ho; have n0_ := A0_ (blk_grown (g := gb1) (o := .cells #[.int .i64 a0_0, .bool a0_1] 79 (0, 0)) (u1_ BK1) hg (Kd.R_ne HO_1.out BK1.out bi3y_)); have n1_ := A0_ (hb); have n2_ := A0_ (ho); clear BK1 HB HO_1; have BK1 := n0_; have HB := n1_; have HO2 := n2_; clear n0_ n1_ n2_ ho hb hg hat))
  go_roundg k1
  case measure => have := HK1.out; omega
  exact ⟨(y2), (wrap64 (x13_1 + 1)), b2ew_, H', ⟨bxjq_⟩, ⟨b9so_⟩, ⟨u1_ BK1⟩, ⟨be6g_⟩⟩
 obtain rfl := bf_.mpr c2
 rw [if_neg ft_] at H
 by_cases c3 : x5_1.length < 17592186044416
 case neg =>
  rw [if_neg c3] at H
  exact absurd H bxka_
 rw [if_pos c3] at H
 have LMc1 := A0_ c3
 clear c3
 obtain ⟨y2, hy2⟩ : ∃ y_ : List Int, y_ = (x5_1 ++ [a0_0]) := ⟨_, rfl⟩
 replace H : (impl_bench_farness.l0 k1 a1 y2 a0_0 (wrap64 (x13_1 + 1)) a0_0 a0_1) = some r := bscs_
 have Ny2 := A0_ hy2
 clear hy2
 have H' := A0_ H
 clear H
 have hcz2 := c2_ BK1
 go_wp2_with (first | ((with_reducible refine gc_ (f := 118) rfl ?_); refine gl_ 20 Tryz.func118 #[.agg #[.int .i64 a0_0, .bool a0_1], .int .i64 x13_1, .int .u32 a1] ?_; (with_reducible refine (impl_bench_nearest.calls k1 a0_0 a0_1 x13_1 a1 t1 t2 false _ bko1_ A2.out).mono ?_); rintro e w3 ⟨rfl, hb⟩; refine ⟨_, rfl, ?_⟩; replace HO_1 := A0_ (Kd.R_below bwik_ hb); replace BK1 := k1_ BK1 hb; replace HB := hb_ hb be6g_; (try clear hb); have hcz3 := c2_ BK1) | ((with_reducible refine gate_builtin (b := .append) (xs := #[.tmp 28, .tmp 30]) rfl ?_); at_builtin; refine Kd.R_append (Kd.int .i64) (w0 := w) w.heap.size rfl (.tmp 28) (.tmp 30) 22 3 (.int .i64 0) 8 rfl Tryz.underlying22 info3 rfl bi3y_ bh19_ u5 x5_1 a0_0 [.int .i64 a0_0] (fun _ => True) (fun _ => False) rfl rfl ?aP (fun _ hk => hk.elim) ?aF ?aO ?aB ?aS ?aL ?_; (case aP => exact rfl); (case aB => exact be6g_); (case aF => exact (fun _ _ => trivial)); (case aO => exact bwik_); (case aS => exact (bz_ be6g_)); (case aL => have := LMc1.out; omega); intro v4 w4 ho hb hg hat; rw [← Ny2.out] at ho; have n0_ := A0_ (blk_grown (g := gb1) (o := .cells #[.int .i64 a0_0, .bool a0_1] 79 (0, 0)) (u1_ BK1) hg (Kd.R_ne HO_1.out BK1.out bi3y_)); have n1_ := A0_ (hb); have n2_ := A0_ (ho); clear BK1 HB HO_1; have BK1 := n0_; have HB := n1_; have HO2 := n2_; clear n0_ n1_ n2_ ho hb hg hat))
 go_roundg k1
 case measure => have := HK1.out; omega
 exact ⟨(y2), (wrap64 (x13_1 + 1)), b2ew_, H', ⟨bxjq_⟩, ⟨b9so_⟩, ⟨u1_ BK1⟩, ⟨be6g_⟩⟩

mutual
def impl_bench_polite.l0 : Nat → Int → Int → List Int → Int → Int → Option (Int × Int)
 | 0, _, _, _, _, _ => none
 | k + 1, x6, x7, x12, x13, x14 => if x14 < x13 then (if 0 ≤ x14 then (if x14 < (x12.length : Int) then (if (rd x12 x14) = 0 then (impl_bench_polite.j1 k x6 x7 x14 (rd x12 x14) x12 x13 x14 true) else (impl_bench_polite.j1 k x6 x7 x14 (rd x12 x14) x12 x13 x14 (decide ((rd x12 x14) < x7)))) else (none)) else (none)) else (some (x6, x7))
def impl_bench_polite.j1 : Nat → Int → Int → Int → Int → List Int → Int → Int → Bool → Option (Int × Int)
 | 0, _, _, _, _, _, _, _, _ => none
 | k + 1, x6, x7, x8, x9, x12, x13, x14, x25 => if x25 = true then (impl_bench_polite.l0 k x6 x7 x12 x13 (wrap64 (x14 + 1))) else (if x9 > x7 then (if 0 ≤ x8 then (impl_bench_polite.l0 k (Go.bits .or .u32 0 (shl .u32 1 x8)) x9 x12 x13 (wrap64 (x14 + 1))) else (none)) else (if 0 ≤ x8 then (impl_bench_polite.l0 k (Go.bits .or .u32 x6 (shl .u32 1 x8)) x7 x12 x13 (wrap64 (x14 + 1))) else (none)))
end
def impl_bench_polite.f (k : Nat) (a0_0 : Int) (a0_1 : Bool) (a1 : Int) : Option (Int × Int) := (impl_bench_farness.f k a0_0 a0_1 a1).bind fun t448 => (impl_bench_polite.l0 k 0 0 t448 (t448.length : Int) 0)
theorem impl_bench_polite.mono_l : ∀ k, (∀ y0 y1 y2 y3 y4, LeO (impl_bench_polite.l0 k y0 y1 y2 y3 y4) (impl_bench_polite.l0 (k + 1) y0 y1 y2 y3 y4)) ∧ (∀ y0 y1 y2 y3 y4 y5 y6 y7, LeO (impl_bench_polite.j1 k y0 y1 y2 y3 y4 y5 y6 y7) (impl_bench_polite.j1 (k + 1) y0 y1 y2 y3 y4 y5 y6 y7))
 | 0 => ⟨fun _ _ _ _ _ r h => by simp [impl_bench_polite.l0] at h, fun _ _ _ _ _ _ _ _ r h => by simp [impl_bench_polite.j1] at h⟩
 | k + 1 => by
  obtain ⟨ih0, ih1⟩ := impl_bench_polite.mono_l k
  refine ⟨?_, ?_⟩
  ·intro y0 y1 y2 y3 y4
   unfold impl_bench_polite.l0
   repeat' with_reducible first | exact ih0 .. | exact ih1 .. | exact impl_bench_farness.mono .. | exact LeO.refl .. | exact LeO.none .. | refine LeO.ite ?_ ?_ | refine LeO.bind ?_ (fun _ => ?_)
  ·intro y0 y1 y2 y3 y4 y5 y6 y7
   unfold impl_bench_polite.j1
   repeat' with_reducible first | exact ih0 .. | exact ih1 .. | exact impl_bench_farness.mono .. | exact LeO.refl .. | exact LeO.none .. | refine LeO.ite ?_ ?_ | refine LeO.bind ?_ (fun _ => ?_)
theorem impl_bench_polite.mono : ∀ a0 a1 a2 k, LeO (impl_bench_polite.f k a0 a1 a2) (impl_bench_polite.f (k + 1) a0 a1 a2) := by
 intro a0 a1 a2 k
 obtain ⟨ih0, ih1⟩ := impl_bench_polite.mono_l k
 unfold impl_bench_polite.f
 repeat' with_reducible first | exact ih0 .. | exact ih1 .. | exact impl_bench_farness.mono .. | exact LeO.refl .. | exact LeO.none .. | refine LeO.ite ?_ ?_ | refine LeO.bind ?_ (fun _ => ?_)
theorem impl_bench_polite.calls (k : Nat) (a0_0 : Int) (a0_1 : Bool) (a1 : Int) (r1 : Int) (r2 : Int) (w : World) (hG : TabOK w) (h : impl_bench_polite.f k a0_0 a0_1 a1 = some (r1, r2)) :
  Calls Tryz.prog 84 #[.agg #[.int .i64 a0_0, .bool a0_1], .int .u32 a1] w fun e w' => e = .returned (.tuple #[.int .u32 r1, .int .i64 r2]) ∧ Below w.heap.size w w' := by
 have HG0 := A0_ hG
 clear hG
 have hu79 := Tryz.underlying79
 have HB := A0_ (Below.refl w.heap.size w)
 have H : ((impl_bench_farness.f k a0_0 a0_1 a1).bind fun t1 => (impl_bench_polite.l0 k 0 0 t1 (t1.length : Int) 0)) = some (r1, r2) := h
 clear h
 obtain ⟨t1, A2, H⟩ := o1_ H
 have H' := A0_ H
 clear H
 go_enter Tryz.func84, Tryz.ntmps84
 go_wp2_with (first | ((with_reducible refine gd_ (N := 2) rfl ?_); refine bx_ 2 #[.int .i64 a0_0, .bool a0_1] 79 ?_; intro gb1 hg w1 BK1 hb; have GW1 := ge_ hg brt4_; have GE1 := GW1; replace HB := hb_ hb brt4_; clear hb hg; have hcz1 := c2_ BK1) | ((with_reducible refine gc_ (f := 102) rfl ?_); refine gl_ 12 Tryz.func102 #[.agg #[.int .i64 a0_0, .bool a0_1], .int .u32 a1] ?_; (with_reducible refine (impl_bench_farness.calls k a0_0 a0_1 a1 t1 _ bko1_ A2.out).mono ?_); rintro e w2 ⟨v1, rfl, ho0, hb⟩; refine ⟨_, rfl, ?_⟩; have HO1 := A0_ (Kd.R_lower ho0 (bz_ be6g_)); replace BK1 := k1_ BK1 hb; replace HB := hb_ hb be6g_; (try clear hb); (try clear ho0); obtain ⟨Ao1, co1, eo1⟩ := Kd.R_slice HO1.out; subst eo1))
 go_loopg [6, 7, 14] k (fun kq v2 v3 v4 w' => ∃ (x6_1 : Int) (x7_1 : Int) (x14_1 : Int), v2 = .int .u32 x6_1 ∧ v3 = .int .i64 x7_1 ∧ v4 = .int .i64 x14_1 ∧ Aside0 (impl_bench_polite.l0 kq x6_1 x7_1 t1 (t1.length : Int) x14_1 = some (r1, r2)) ∧ Aside0 (kq ≤ k) ∧ Aside0 (Kd.R (Kd.int .i64) 3 w' w.heap.size (fun _ => True) (.slice Ao1 t1.length co1) t1) ∧ Aside0 (w'.heap[gb1]? = some (.cells #[.int .i64 a0_0, .bool a0_1] 79 (0, 0))) ∧ Aside0 (Below w.heap.size w w'))
 case atStart => exact ⟨(0), (0), (0), b2ew_, b2ew_, b2ew_, H', ⟨Nat.le_refl _⟩, ⟨bsm5_⟩, ⟨u1_ BK1⟩, ⟨be6g_⟩⟩
 clear H'
 (try clear hcz1)
 obtain ⟨x6_1, x7_1, x14_1, rfl, rfl, rfl, HA, HK1, HO_1, BK1, HB⟩ := hrel
 cases gk with | zero => exact absurd HA.out (by simp [impl_bench_polite.l0]) | succ k1 => ?_
 have H := HA.out
 clear HA
 simp only [impl_bench_polite.l0] at H
 by_cases c1 : x14_1 < (t1.length : Int)
 case neg =>
  rw [if_neg c1] at H
  have c1b0 : decide (x14_1 < (t1.length : Int)) = false := decide_eq_false c1
  clear c1
  simp only [sj_, pj_] at H
  obtain ⟨rfl, rfl⟩ := H
  go_wp2
  go_ret2
  exact ⟨bnwh_, be6g_⟩
 rw [if_pos c1] at H
 have c1b0 : decide (x14_1 < (t1.length : Int)) = true := dt_ c1
 clear c1
 by_cases c2 : 0 ≤ x14_1
 case neg =>
  rw [if_neg c2] at H
  exact absurd H bxka_
 rw [if_pos c2] at H
 have c2b0 : decide (0 ≤ x14_1) = true := dt_ c2
 clear c2
 by_cases c3 : x14_1 < (t1.length : Int)
 case neg =>
  rw [if_neg c3] at H
  exact absurd H bxka_
 rw [if_pos c3] at H
 have c3b0 : decide (x14_1 < (t1.length : Int)) = true := dt_ c3
 clear c3
 have HC11 := A0_ H
 clear H
 have p1 : 0 ≤ (x14_1 : Int) := od_ bpil_
 have q1 : x14_1 < (t1.length : Int) := od_ bpil_
 obtain ⟨ad1, e1, hx1_0⟩ := Kd.at_int (rr_ HO_1.out).2.2 x14_1 p1 q1
 cases e1
 replace p1 := eq_true p1
 replace q1 := eq_true q1
 go_upto_region 5 with (fail)
 go_cut [25] (fun v5 wc => ∃ (kq : Nat) (x25_10 : Bool), v5 = .bool x25_10 ∧ Aside0 (impl_bench_polite.j1 kq x6_1 x7_1 x14_1 (rd t1 x14_1) t1 (t1.length : Int) x14_1 x25_10 = some (r1, r2)) ∧ Aside0 (kq ≤ k1) ∧ Aside0 (Kd.R (Kd.int .i64) 3 wc w.heap.size (fun _ => True) (.slice (some ad1) t1.length co1) t1) ∧ Aside0 (wc.heap[gb1]? = some (.cells #[.int .i64 a0_0, .bool a0_1] 79 (0, 0))) ∧ Aside0 (Below w.heap.size w wc))
 case first =>
  have H := HC11.out
  clear HC11
  by_cases c4 : (rd t1 x14_1) = 0
  ·rw [if_pos c4] at H
   obtain ⟨c4b0, c4b1⟩ := et_ c4
   clear c4
   (first | rw [c4b0] | (simp only [i64_w, i32_w]; rw [c4b0]) | skip)
   have H' := A0_ H
   clear H
   go_wp2
   go_meet
   exact ⟨_, (true), b2ew_, H', ⟨by have := HK1.out; first | omega | exact Nat.le_refl _⟩, ⟨bwik_⟩, ⟨u1_ BK1⟩, ⟨be6g_⟩⟩
  rw [if_neg c4] at H
  obtain ⟨c4b0, c4b1⟩ := ef_ c4
  (first | rw [c4b0] | (simp only [i64_w, i32_w]; rw [c4b0]) | skip)
  have H' := A0_ H
  clear H
  go_wp2
  go_meet
  exact ⟨_, (decide ((rd t1 x14_1) < x7_1)), b2ew_, H', ⟨by have := HK1.out; first | omega | exact Nat.le_refl _⟩, ⟨bwik_⟩, ⟨u1_ BK1⟩, ⟨be6g_⟩⟩
 clear HC11
 try clear c1
 try clear c1b0
 try clear c2
 try clear c2b0
 try clear c3
 try clear c3b0
 (try clear hcz1)
 try clear hx1_0
 try clear p1
 try clear q1
 obtain ⟨kq, x25_10, rfl, HA, HJ1, HO_1, BK1, HB⟩ := hcut
 cases kq with | zero => exact absurd HA.out (by simp [impl_bench_polite.j1]) | succ kj1 => ?_
 have H := HA.out
 clear HA
 simp only [impl_bench_polite.j1] at H
 by_cases c4 : x25_10 = true
 ·subst c4
  rw [if_pos rfl] at H
  have H' := A0_ H
  clear H
  go_wp2
  go_roundg kj1
  case measure => have := HK1.out; have := HJ1.out; omega
  exact ⟨(x6_1), (x7_1), (wrap64 (x14_1 + 1)), b2ew_, b2ew_, b2ew_, H', ⟨by have := HK1.out; have := HJ1.out; omega⟩, ⟨bwik_⟩, ⟨u1_ BK1⟩, ⟨be6g_⟩⟩
 obtain rfl := bf_.mpr c4
 rw [if_neg ft_] at H
 by_cases c5 : (rd t1 x14_1) > x7_1
 ·rw [if_pos c5] at H
  have c5b0 : decide (x7_1 < (rd t1 x14_1)) = true := dt_ c5
  clear c5
  by_cases c6 : 0 ≤ x14_1
  case neg =>
   rw [if_neg c6] at H
   exact absurd H bxka_
  rw [if_pos c6] at H
  have c6b0 := eq_true c6
  have c6b1 : decide (0 ≤ x14_1) = true := dt_ c6
  clear c6
  obtain ⟨ji1, hji1⟩ : ∃ j_ : Int, (shl .u32 1 x14_1) = j_ := ⟨_, rfl⟩
  replace H : (impl_bench_polite.l0 kj1 (Go.bits .or .u32 0 (ji1)) (rd t1 x14_1) t1 (t1.length : Int) (wrap64 (x14_1 + 1))) = some (r1, r2) := bmns_
  have hji1_ : (IntKind.u32.wrap (1 * 2 ^ min x14_1.toNat 32)) = ji1 := hji1
  have hji16z : x14_1 ≤ 32 → (IntKind.u32.wrap (1 * 2 ^ x14_1.toNat)) = ji1 := shl_small hji1
  have hji16u : (IntKind.u32.wrap (2 ^ min x14_1.toNat 32)) = ji1 := by have h_ := hji1_; rw [Int.one_mul] at h_; exact h_
  have hji16v : x14_1 ≤ 32 → (IntKind.u32.wrap (2 ^ x14_1.toNat)) = ji1 := fun hle_ => by have h_ := hji16z hle_; rw [Int.one_mul] at h_; exact h_
  have H' := A0_ H
  clear H
  go_wp2
  go_roundg kj1
  case measure => have := HK1.out; have := HJ1.out; omega
  exact ⟨(Go.bits .or .u32 0 (ji1)), ((rd t1 x14_1)), (wrap64 (x14_1 + 1)), b1tc_, b2ew_, b2ew_, H', ⟨by have := HK1.out; have := HJ1.out; omega⟩, ⟨bwik_⟩, ⟨u1_ BK1⟩, ⟨be6g_⟩⟩
 rw [if_neg c5] at H
 have c5b0 : decide (x7_1 < (rd t1 x14_1)) = false := decide_eq_false c5
 clear c5
 by_cases c6 : 0 ≤ x14_1
 case neg =>
  rw [if_neg c6] at H
  exact absurd H bxka_
 rw [if_pos c6] at H
 have c6b0 := eq_true c6
 have c6b1 : decide (0 ≤ x14_1) = true := dt_ c6
 clear c6
 obtain ⟨ji1, hji1⟩ : ∃ j_ : Int, (shl .u32 1 x14_1) = j_ := ⟨_, rfl⟩
 replace H : (impl_bench_polite.l0 kj1 (Go.bits .or .u32 x6_1 (ji1)) x7_1 t1 (t1.length : Int) (wrap64 (x14_1 + 1))) = some (r1, r2) := bmns_
 have hji1_ : (IntKind.u32.wrap (1 * 2 ^ min x14_1.toNat 32)) = ji1 := hji1
 have hji18z : x14_1 ≤ 32 → (IntKind.u32.wrap (1 * 2 ^ x14_1.toNat)) = ji1 := shl_small hji1
 have hji18u : (IntKind.u32.wrap (2 ^ min x14_1.toNat 32)) = ji1 := by have h_ := hji1_; rw [Int.one_mul] at h_; exact h_
 have hji18v : x14_1 ≤ 32 → (IntKind.u32.wrap (2 ^ x14_1.toNat)) = ji1 := fun hle_ => by have h_ := hji18z hle_; rw [Int.one_mul] at h_; exact h_
 have H' := A0_ H
 clear H
 go_wp2
 go_roundg kj1
 case measure => have := HK1.out; have := HJ1.out; omega
 exact ⟨(Go.bits .or .u32 x6_1 (ji1)), (x7_1), (wrap64 (x14_1 + 1)), b1tc_, b2ew_, b2ew_, H', ⟨by have := HK1.out; have := HJ1.out; omega⟩, ⟨bwik_⟩, ⟨u1_ BK1⟩, ⟨be6g_⟩⟩

def impl_setOf.l0 : Nat → Int → List Int → Int → Int → Option (Int)
 | 0, _, _, _, _ => none
 | k + 1, x3, x6, x7, x8 => if x8 < x7 then (if 0 ≤ x8 then (if x8 < (x6.length : Int) then (if 0 ≤ (rd x6 x8) then (impl_setOf.l0 k (Go.bits .or .u32 x3 (shl .u32 1 (rd x6 x8))) x6 x7 (wrap64 (x8 + 1))) else (none)) else (none)) else (none)) else (some x3)
def impl_setOf.f (k : Nat) (l0 : List Int) : Option (Int) := impl_setOf.l0 k 0 l0 (l0.length : Int) 0
theorem impl_setOf.mono_l : ∀ k, (∀ y0 y1 y2 y3, LeO (impl_setOf.l0 k y0 y1 y2 y3) (impl_setOf.l0 (k + 1) y0 y1 y2 y3))
 | 0 => fun _ _ _ _ r h => by simp [impl_setOf.l0] at h
 | k + 1 => by
  have ih0 := impl_setOf.mono_l k
  ·intro y0 y1 y2 y3
   unfold impl_setOf.l0
   repeat' with_reducible first | exact ih0 .. | exact LeO.refl .. | exact LeO.none .. | refine LeO.ite ?_ ?_ | refine LeO.bind ?_ (fun _ => ?_)
theorem impl_setOf.mono : ∀ a0 k, LeO (impl_setOf.f k a0) (impl_setOf.f (k + 1) a0) := by
 intro a0 k
 have ih0 := impl_setOf.mono_l k
 unfold impl_setOf.f
 repeat' with_reducible first | exact ih0 .. | exact LeO.refl .. | exact LeO.none .. | refine LeO.ite ?_ ?_ | refine LeO.bind ?_ (fun _ => ?_)
theorem impl_setOf.calls (k : Nat) (A0 : Option Addr) (c0 : Nat) (l0 : List Int) (r : Int) (w : World) (hr0 : Kd.C (Kd.int .i64) w A0 l0.length l0) (hc0 : l0.length ≤ c0) (h : impl_setOf.f k l0 = some r) :
  Calls Tryz.prog 54 #[.slice A0 l0.length c0] w fun e w' => e = .returned (.int .u32 r) ∧ Drawn0 w w' := by
 have HR0 := A0_ hr0
 have HC0 := A0_ hc0
 clear hr0 hc0
 have H : (impl_setOf.l0 k 0 l0 (l0.length : Int) 0) = some r := h
 clear h
 have H' := A0_ H
 clear H
 go_enter Tryz.func54, Tryz.ntmps54
 go_wp2
 go_loopg [3, 8] k (fun kq v1 v2 w' => ∃ (x3_1 : Int) (x8_1 : Int), v1 = .int .u32 x3_1 ∧ v2 = .int .i64 x8_1 ∧ Aside0 (impl_setOf.l0 kq x3_1 l0 (l0.length : Int) x8_1 = some r) ∧ Aside0 (kq ≤ k) ∧ Drawn0 w w')
 case atStart => exact ⟨(0), (0), b2ew_, b2ew_, H', ⟨Nat.le_refl _⟩, boaj_⟩
 clear H'
 obtain ⟨x3_1, x8_1, rfl, rfl, HA, HK1, ⟨m1, rfl⟩⟩ := hrel
 cases gk with | zero => exact absurd HA.out (by simp [impl_setOf.l0]) | succ k1 => ?_
 have H := HA.out
 clear HA
 simp only [impl_setOf.l0] at H
 by_cases c1 : x8_1 < (l0.length : Int)
 case neg =>
  rw [if_neg c1] at H
  have c1b0 : decide (x8_1 < (l0.length : Int)) = false := decide_eq_false c1
  clear c1
  obtain rfl := si_ H
  go_wp2
  go_ret
  exact ⟨b04z_, boaj_⟩
 rw [if_pos c1] at H
 have c1b0 : decide (x8_1 < (l0.length : Int)) = true := dt_ c1
 clear c1
 by_cases c2 : 0 ≤ x8_1
 case neg =>
  rw [if_neg c2] at H
  exact absurd H bxka_
 rw [if_pos c2] at H
 have c2b0 : decide (0 ≤ x8_1) = true := dt_ c2
 clear c2
 by_cases c3 : x8_1 < (l0.length : Int)
 case neg =>
  rw [if_neg c3] at H
  exact absurd H bxka_
 rw [if_pos c3] at H
 have c3b0 : decide (x8_1 < (l0.length : Int)) = true := dt_ c3
 clear c3
 by_cases c4 : 0 ≤ (rd l0 x8_1)
 case neg =>
  rw [if_neg c4] at H
  exact absurd H bxka_
 rw [if_pos c4] at H
 have c4b0 := eq_true c4
 have c4b1 : decide (0 ≤ (rd l0 x8_1)) = true := dt_ c4
 clear c4
 obtain ⟨ji1, hji1⟩ : ∃ j_ : Int, (shl .u32 1 (rd l0 x8_1)) = j_ := ⟨_, rfl⟩
 replace H : (impl_setOf.l0 k1 (Go.bits .or .u32 x3_1 (ji1)) l0 (l0.length : Int) (wrap64 (x8_1 + 1))) = some r := bmns_
 have hji1_ : (IntKind.u32.wrap (1 * 2 ^ min (rd l0 x8_1).toNat 32)) = ji1 := hji1
 have hji6z : (rd l0 x8_1) ≤ 32 → (IntKind.u32.wrap (1 * 2 ^ (rd l0 x8_1).toNat)) = ji1 := shl_small hji1
 have hji6u : (IntKind.u32.wrap (2 ^ min (rd l0 x8_1).toNat 32)) = ji1 := by have h_ := hji1_; rw [Int.one_mul] at h_; exact h_
 have hji6v : (rd l0 x8_1) ≤ 32 → (IntKind.u32.wrap (2 ^ (rd l0 x8_1).toNat)) = ji1 := fun hle_ => by have h_ := hji6z hle_; rw [Int.one_mul] at h_; exact h_
 have H' := A0_ H
 clear H
 have p1 : 0 ≤ (x8_1 : Int) := od_ bpil_
 have q1 : x8_1 < (l0.length : Int) := od_ bpil_
 obtain ⟨ad1, e1, hx1_0⟩ := Kd.at_int HR0.out x8_1 p1 q1
 cases e1
 replace p1 := eq_true p1
 replace q1 := eq_true q1
 go_wp2
 go_roundg k1
 case measure => have := HK1.out; omega
 exact ⟨(Go.bits .or .u32 x3_1 (ji1)), (wrap64 (x8_1 + 1)), b1tc_, b2ew_, H', ⟨bxjq_⟩, boaj_⟩

def impl_Row_taken.f (k : Nat) (a0_0 : Int) (a0_1 : Bool) (l0_2 : List Int) : Option (Int) := (impl_setOf.f k l0_2).bind fun t454 => (some t454)
theorem impl_Row_taken.mono : ∀ a0 a1 a2 k, LeO (impl_Row_taken.f k a0 a1 a2) (impl_Row_taken.f (k + 1) a0 a1 a2) := by
 intro a0 a1 a2 k
 unfold impl_Row_taken.f
 repeat' with_reducible first | exact impl_setOf.mono .. | exact LeO.refl .. | exact LeO.none .. | refine LeO.ite ?_ ?_ | refine LeO.bind ?_ (fun _ => ?_)
theorem impl_Row_taken.calls (k : Nat) (a0_0 : Int) (a0_1 : Bool) (A0_2 : Option Addr) (c0_2 : Nat) (l0_2 : List Int) (r : Int) (w : World) (hr0_2 : Kd.C (Kd.int .i64) w A0_2 l0_2.length l0_2) (hc0_2 : l0_2.length ≤ c0_2) (h : impl_Row_taken.f k a0_0 a0_1 l0_2 = some r) :
  Calls Tryz.prog 85 #[.agg #[.int .i64 a0_0, .bool a0_1, .slice A0_2 l0_2.length c0_2]] w fun e w' => e = .returned (.int .u32 r) ∧ Below w.heap.size w w' := by
 have hu30 := Tryz.underlying30
 have HR0_2 := A0_ hr0_2
 have HC0_2 := A0_ hc0_2
 clear hr0_2 hc0_2
 have HB := A0_ (Below.refl w.heap.size w)
 have H : ((impl_setOf.f k l0_2).bind fun t1 => (some t1)) = some r := h
 clear h
 obtain ⟨t1, A2, H⟩ := o1_ H
 replace H : (some t1) = some r := H
 obtain rfl := si_ H
 go_enter Tryz.func85, Tryz.ntmps85
 go_wp2_with (first | ((with_reducible refine gd_ (N := 1) rfl ?_); refine bx_ 1 #[.int .i64 a0_0, .bool a0_1, .slice A0_2 l0_2.length c0_2] 30 ?_; intro gb1 hg w1 BK1 hb; have GW1 := ge_ hg brt4_; have GE1 := GW1; replace HB := hb_ hb brt4_; clear hb hg; have hcz1 := c3_ BK1) | ((with_reducible refine gc_ (f := 54) rfl ?_); refine gl_ 5 Tryz.func54 #[.slice A0_2 l0_2.length c0_2] ?_; (with_reducible refine (impl_setOf.calls k _ _ l0_2 t1 _ ?side1 ?side2 A2.out).mono ?_); (case side1 => exact b6n8_); (case side2 => exact HC0_2.out); rintro e w' ⟨rfl, ⟨nd, rfl⟩⟩; refine ⟨_, rfl, ?_⟩))
 go_ret
 exact ⟨bnwh_, be6g_⟩

def impl_PoliteSeats.f (k : Nat) (a0_0 : Int) (a0_1 : Bool) (l0_2 : List Int) : Option (List Int × Bool) := (impl_IsRow.f k a0_0 a0_1 l0_2).bind fun t456 => (if t456 = true then ((impl_Row_bench.f a0_0 a0_1 l0_2).bind fun bt457 => ((impl_Row_taken.f k a0_0 a0_1 l0_2).bind fun t459 => ((impl_bench_polite.f k bt457.1 bt457.2 t459).bind fun bt460 => ((impl_set_list.f k bt460.1).bind fun t462 => (some (t462, true)))))) else (some (([] : List Int), false)))
theorem impl_PoliteSeats.mono : ∀ a0 a1 a2 k, LeO (impl_PoliteSeats.f k a0 a1 a2) (impl_PoliteSeats.f (k + 1) a0 a1 a2) := by
 intro a0 a1 a2 k
 unfold impl_PoliteSeats.f
 repeat' with_reducible first | exact impl_IsRow.mono .. | exact impl_Row_taken.mono .. | exact impl_bench_polite.mono .. | exact impl_set_list.mono .. | exact LeO.refl .. | exact LeO.none .. | refine LeO.ite ?_ ?_ | refine LeO.bind ?_ (fun _ => ?_)
def impl_PoliteSeats.T3 : Bool × List (List Nat × List Nat) := (true, [([], []), ([0], [0]), ([], []), ([2, 1], [2]), ([1, 3, 3], [1, 3]), ([4], [4]), ([5], [5]), ([5], [5]), ([6, 4, 0, 1, 2, 3, 4, 5, 6], [6]), ([7, 8, 0, 1, 2, 3, 4, 5, 6, 7, 8], [7])])
def impl_PoliteSeats.B3 : List Nat := [0, 1, 0, 7, 15, 31, 63, 63, 127, 511]
theorem impl_PoliteSeats.tab3 : rtab .any (opsOf Tryz.f63 3) = impl_PoliteSeats.T3 := by kernel_rfl
theorem impl_PoliteSeats.bits3 : waitsOk impl_PoliteSeats.T3.2 impl_PoliteSeats.B3 = true := by kernel_rfl
theorem impl_PoliteSeats.calls (k : Nat) (a0_0 : Int) (a0_1 : Bool) (A0_2 : Option Addr) (c0_2 : Nat) (l0_2 : List Int) (r1 : List Int) (r2 : Bool) (w : World) (hr0_2 : Kd.C (Kd.int .i64) w A0_2 l0_2.length l0_2) (hc0_2 : l0_2.length ≤ c0_2) (hG : TabOK w) (h : impl_PoliteSeats.f k a0_0 a0_1 l0_2 = some (r1, r2)) :
  Calls Tryz.prog 63 #[.agg #[.int .i64 a0_0, .bool a0_1, .slice A0_2 l0_2.length c0_2]] w fun e w' => ∃ v0_ : Value, e = .returned (.tuple #[v0_, .bool r2]) ∧ Kd.R (Kd.int .i64) 3 w' w.heap.size (fun _ => True) v0_ r1 ∧ Below w.heap.size w w' := by
 have HG0 := A0_ hG
 clear hG
 have hu30 := Tryz.underlying30
 have HR0_2 := A0_ hr0_2
 have HC0_2 := A0_ hc0_2
 clear hr0_2 hc0_2
 have HB := A0_ (Below.refl w.heap.size w)
 have H : ((impl_IsRow.f k a0_0 a0_1 l0_2).bind fun t1 => (if t1 = true then ((impl_Row_bench.f a0_0 a0_1 l0_2).bind fun bt1 => ((impl_Row_taken.f k a0_0 a0_1 l0_2).bind fun t2 => ((impl_bench_polite.f k bt1.1 bt1.2 t2).bind fun bt2 => ((impl_set_list.f k bt2.1).bind fun t3 => (some (t3, true)))))) else (some (([] : List Int), false)))) = some (r1, r2) := h
 clear h
 obtain ⟨t1, A2, H⟩ := o1_ H
 by_cases c1 : t1 = true
 case neg =>
  obtain rfl := bf_.mpr c1
  rw [if_neg ft_] at H
  simp only [sj_, pj_] at H
  obtain ⟨rfl, rfl⟩ := H
  go_enter Tryz.func63, Tryz.ntmps63
  go_wp2_with (first | ((with_reducible refine gd_ (N := 1) rfl ?_); refine bx_ 1 #[.int .i64 a0_0, .bool a0_1, .slice A0_2 l0_2.length c0_2] 30 ?_; intro gb1 hg w1 BK1 hb; have GW1 := ge_ hg brt4_; have GE1 := GW1; replace HB := hb_ hb brt4_; clear hb hg; have hcz1 := c3_ BK1) | ((with_reducible refine gc_ (f := 58) rfl ?_); refine gl_ 7 Tryz.func58 #[.agg #[.int .i64 a0_0, .bool a0_1, .slice A0_2 l0_2.length c0_2]] ?_; (with_reducible refine (impl_IsRow.calls k a0_0 a0_1 _ _ l0_2 false _ ?side1 ?side2 A2.out).mono ?_); (case side1 => exact b6n8_); (case side2 => exact HC0_2.out); rintro e w2 ⟨rfl, hb⟩; refine ⟨_, rfl, ?_⟩; replace BK1 := k1_ BK1 hb; replace HB := hb_ hb be6g_; (try clear hb)))
  go_ret2
  exact ⟨_, bnwh_, bwfe_, be6g_⟩
 subst c1
 rw [if_pos rfl] at H
 obtain ⟨⟨t4, t5⟩, A4, H⟩ := o1_ H
 obtain ⟨t2, A6, H⟩ := o1_ H
 obtain ⟨⟨t6, t7⟩, A8, H⟩ := o1_ H
 obtain ⟨t3, A10, H⟩ := o1_ H
 replace H : (some (t3, true)) = some (r1, r2) := H
 simp only [sj_, pj_] at H
 obtain ⟨rfl, rfl⟩ := H
 go_enter Tryz.func63, Tryz.ntmps63
 try go_wp2_with (first | ((with_reducible refine gd_ (N := 1) rfl ?_); refine bx_ 1 #[.int .i64 a0_0, .bool a0_1, .slice A0_2 l0_2.length c0_2] 30 ?_; intro gb1 hg w1 BK1 hb; have GW1 := ge_ hg brt4_; have GE1 := GW1; replace HB := hb_ hb brt4_; clear hb hg; have hcz1 := c3_ BK1) | ((with_reducible refine gc_ (f := 58) rfl ?_); refine gl_ 7 Tryz.func58 #[.agg #[.int .i64 a0_0, .bool a0_1, .slice A0_2 l0_2.length c0_2]] ?_; (with_reducible refine (impl_IsRow.calls k a0_0 a0_1 _ _ l0_2 true _ ?side1 ?side2 A2.out).mono ?_); (case side1 => exact b6n8_); (case side2 => exact HC0_2.out); rintro e w2 ⟨rfl, hb⟩; refine ⟨_, rfl, ?_⟩; replace BK1 := k1_ BK1 hb; replace HB := hb_ hb be6g_; (try clear hb)))
 replace BK1 := A0_ (kd_ BK1.out)
 replace HB := A0_ (bd_ HB.out)
 refine s3_ 10 [] BK1 impl_PoliteSeats.tab3 impl_PoliteSeats.bits3 (fun hHeld HT_ HW_ => ?_)
 generalize w2.drew = w3 at BK1 HB hHeld ⊢
 refine tk_ 0 10 hHeld ?_
 refine tk_ 2 12 hHeld ?_
 refine on_ 1 (some 11) (fun K hK => ?_)
 refine gs_ Tryz.func53 #[.agg #[.int .i64 a0_0, .bool a0_1, .slice A0_2 l0_2.length c0_2]] ?_
 with_reducible refine (impl_Row_bench.calls a0_0 a0_1 _ _ l0_2 t4 t5 _ ?side1 ?side2 A4.out).mono ?_
 (case side1 => exact b6n8_)
 (case side2 => exact HC0_2.out)
 rintro e w4 ⟨rfl, hb⟩
 refine ⟨_, rfl, ?_⟩
 replace BK1 := k1_ BK1 hb
 replace HB := hb_ hb be6g_
 (try clear hb)
 refine hK.out _ _ (c3_ BK1) (fun hHeld => ?_)
 clear hK K
 refine nm_ 11 ?_
 refine on_ 3 (some 13) (fun K hK => ?_)
 refine gs_ Tryz.func85 #[.agg #[.int .i64 a0_0, .bool a0_1, .slice A0_2 l0_2.length c0_2]] ?_
 with_reducible refine (impl_Row_taken.calls k a0_0 a0_1 _ _ l0_2 t2 _ ?side1 ?side2 A6.out).mono ?_
 (case side1 => exact b6n8_)
 (case side2 => exact HC0_2.out)
 rintro e w5 ⟨rfl, hb⟩
 refine ⟨_, rfl, ?_⟩
 replace BK1 := k1_ BK1 hb
 replace HB := hb_ hb be6g_
 (try clear hb)
 refine hK.out _ _ (c3_ BK1) (fun hHeld => ?_)
 clear hK K
 refine nm_ 13 ?_
 refine on_ 4 (some 14) (fun K hK => ?_)
 refine gs_ Tryz.func84 #[.agg #[.int .i64 t4, .bool t5], .int .u32 t2] ?_
 with_reducible refine (impl_bench_polite.calls k t4 t5 t2 t6 t7 _ bko1_ A8.out).mono ?_
 rintro e w6 ⟨rfl, hb⟩
 refine ⟨_, rfl, ?_⟩
 replace BK1 := k1_ BK1 hb
 replace HB := hb_ hb be6g_
 (try clear hb)
 refine hK.out _ _ (c3_ BK1) (fun hHeld => ?_)
 clear hK K
 refine nm_ 14 ?_
 refine pu_ 5 9 ?_
 refine pu_ 6 15 ?_
 refine pu_ 7 16 ?_
 refine pu_ 8 4 ?_
 refine pu_ 9 5 ?_
 refine dn_ ?_
 try go_wp2_with (first | ((with_reducible refine gc_ (f := 71) rfl ?_); refine gl_ 18 Tryz.func71 #[.int .u32 t6] ?_; (with_reducible refine (impl_set_list.calls k t6 t3 _ bko1_ A10.out).mono ?_); rintro e w7 ⟨v1, rfl, ho0, hb⟩; refine ⟨_, rfl, ?_⟩; have HO1 := A0_ (Kd.R_lower ho0 (bz_ be6g_)); replace BK1 := k1_ BK1 hb; replace HB := hb_ hb be6g_; (try clear hb); (try clear ho0)))
 go_ret2
 exact ⟨_, bnwh_, bsm5_, be6g_⟩

def impl_NextPolite.f (k : Nat) (a0_0 : Int) (a0_1 : Bool) (l0_2 : List Int) : Option (Int × Bool) := (impl_PoliteSeats.f k a0_0 a0_1 l0_2).bind fun bt466 => (if bt466.2 = true then (if (bt466.1.length : Int) = 0 then (some (0, false)) else (if 0 < (bt466.1.length : Int) then (some (rd bt466.1 0, true)) else (none))) else (some (0, false)))
theorem impl_NextPolite.mono : ∀ a0 a1 a2 k, LeO (impl_NextPolite.f k a0 a1 a2) (impl_NextPolite.f (k + 1) a0 a1 a2) := by
 intro a0 a1 a2 k
 unfold impl_NextPolite.f
 repeat' with_reducible first | exact impl_PoliteSeats.mono .. | exact LeO.refl .. | exact LeO.none .. | refine LeO.ite ?_ ?_ | refine LeO.bind ?_ (fun _ => ?_)
theorem impl_NextPolite.calls (k : Nat) (a0_0 : Int) (a0_1 : Bool) (A0_2 : Option Addr) (c0_2 : Nat) (l0_2 : List Int) (r1 : Int) (r2 : Bool) (w : World) (hr0_2 : Kd.C (Kd.int .i64) w A0_2 l0_2.length l0_2) (hc0_2 : l0_2.length ≤ c0_2) (hG : TabOK w) (h : impl_NextPolite.f k a0_0 a0_1 l0_2 = some (r1, r2)) :
  Calls Tryz.prog 28 #[.agg #[.int .i64 a0_0, .bool a0_1, .slice A0_2 l0_2.length c0_2]] w fun e w' => e = .returned (.tuple #[.int .i64 r1, .bool r2]) ∧ Below w.heap.size w w' := by
 have HG0 := A0_ hG
 clear hG
 have hu30 := Tryz.underlying30
 have HR0_2 := A0_ hr0_2
 have HC0_2 := A0_ hc0_2
 clear hr0_2 hc0_2
 have HB := A0_ (Below.refl w.heap.size w)
 have H : ((impl_PoliteSeats.f k a0_0 a0_1 l0_2).bind fun bt1 => (if bt1.2 = true then (if (bt1.1.length : Int) = 0 then (some (0, false)) else (if 0 < (bt1.1.length : Int) then (some (rd bt1.1 0, true)) else (none))) else (some (0, false)))) = some (r1, r2) := h
 clear h
 obtain ⟨⟨t1, t2⟩, A2, H⟩ := o1_ H
 by_cases c1 : t2 = true
 case neg =>
  obtain rfl := bf_.mpr c1
  rw [if_neg ft_] at H
  simp only [sj_, pj_] at H
  obtain ⟨rfl, rfl⟩ := H
  go_enter Tryz.func28, Tryz.ntmps28
  go_wp2_with (first | ((with_reducible refine gd_ (N := 1) rfl ?_); (try (refine gate_guard (by rfl) ?_; dsimp only)); refine bx_ 1 #[.int .i64 a0_0, .bool a0_1, .slice A0_2 l0_2.length c0_2] 30 ?_; intro gb1 hg w1 BK1 hb; have GW1 := ge_ hg brt4_; have GE1 := GW1; replace HB := hb_ hb brt4_; clear hb hg; have hcz1 := c3_ BK1) | ((with_reducible refine gc_ (f := 63) rfl ?_); refine gl_ 8 Tryz.func63 #[.agg #[.int .i64 a0_0, .bool a0_1, .slice A0_2 l0_2.length c0_2]] ?_; (with_reducible refine (impl_PoliteSeats.calls k a0_0 a0_1 _ _ l0_2 t1 false _ ?side1 ?side2 bko1_ A2.out).mono ?_); (case side1 => exact b6n8_); (case side2 => exact HC0_2.out); rintro e w2 ⟨v1, rfl, ho0, hb⟩; refine ⟨_, rfl, ?_⟩; have HO1 := A0_ (Kd.R_lower ho0 (bz_ be6g_)); replace BK1 := k1_ BK1 hb; replace HB := hb_ hb be6g_; (try clear hb); (try clear ho0)))
  go_ret2
  exact ⟨bnwh_, be6g_⟩
 subst c1
 rw [if_pos rfl] at H
 by_cases c2 : (t1.length : Int) = 0
 ·rw [if_pos c2] at H
  obtain ⟨c2b0, c2b1⟩ := et_ c2
  clear c2
  simp only [sj_, pj_] at H
  obtain ⟨rfl, rfl⟩ := H
  go_enter Tryz.func28, Tryz.ntmps28
  go_wp2_with (first | ((with_reducible refine gd_ (N := 1) rfl ?_); (try (refine gate_guard (by rfl) ?_; dsimp only)); refine bx_ 1 #[.int .i64 a0_0, .bool a0_1, .slice A0_2 l0_2.length c0_2] 30 ?_; intro gb1 hg w1 BK1 hb; have GW1 := ge_ hg brt4_; have GE1 := GW1; replace HB := hb_ hb brt4_; clear hb hg; have hcz1 := c3_ BK1) | ((with_reducible refine gc_ (f := 63) rfl ?_); refine gl_ 8 Tryz.func63 #[.agg #[.int .i64 a0_0, .bool a0_1, .slice A0_2 l0_2.length c0_2]] ?_; (with_reducible refine (impl_PoliteSeats.calls k a0_0 a0_1 _ _ l0_2 t1 true _ ?side1 ?side2 bko1_ A2.out).mono ?_); (case side1 => exact b6n8_); (case side2 => exact HC0_2.out); rintro e w2 ⟨v1, rfl, ho0, hb⟩; refine ⟨_, rfl, ?_⟩; have HO1 := A0_ (Kd.R_lower ho0 (bz_ be6g_)); replace BK1 := k1_ BK1 hb; replace HB := hb_ hb be6g_; (try clear hb); (try clear ho0); obtain ⟨Ao1, co1, eo1⟩ := Kd.R_slice HO1.out; subst eo1))
  go_ret2
  exact ⟨bnwh_, be6g_⟩
 rw [if_neg c2] at H
 obtain ⟨c2b0, c2b1⟩ := ef_ c2
 have c2b2 : ¬ (t1 = []) := fun h_ => c2 (by rw [h_]; rfl)
 by_cases c3 : 0 < (t1.length : Int)
 case neg =>
  rw [if_neg c3] at H
  exact absurd H bxka_
 rw [if_pos c3] at H
 have c3b0 : decide (0 < (t1.length : Int)) = true := dt_ c3
 have c3b1 : decide (0 < t1.length) = true := dt_ bh19_
 clear c3
 simp only [sj_, pj_] at H
 obtain ⟨rfl, rfl⟩ := H
 go_enter Tryz.func28, Tryz.ntmps28
 go_wp2_with (first | ((with_reducible refine gd_ (N := 1) rfl ?_); (try (refine gate_guard (by rfl) ?_; dsimp only)); refine bx_ 1 #[.int .i64 a0_0, .bool a0_1, .slice A0_2 l0_2.length c0_2] 30 ?_; intro gb1 hg w1 BK1 hb; have GW1 := ge_ hg brt4_; have GE1 := GW1; replace HB := hb_ hb brt4_; clear hb hg; have hcz1 := c3_ BK1) | ((with_reducible refine gc_ (f := 63) rfl ?_); refine gl_ 8 Tryz.func63 #[.agg #[.int .i64 a0_0, .bool a0_1, .slice A0_2 l0_2.length c0_2]] ?_; (with_reducible refine (impl_PoliteSeats.calls k a0_0 a0_1 _ _ l0_2 t1 true _ ?side1 ?side2 bko1_ A2.out).mono ?_); (case side1 => exact b6n8_); (case side2 => exact HC0_2.out); rintro e w2 ⟨v1, rfl, ho0, hb⟩; refine ⟨_, rfl, ?_⟩; have HO1 := A0_ (Kd.R_lower ho0 (bz_ be6g_)); replace BK1 := k1_ BK1 hb; replace HB := hb_ hb be6g_; (try clear hb); (try clear ho0); obtain ⟨Ao1, co1, eo1⟩ := Kd.R_slice HO1.out; subst eo1; have p1 : 0 ≤ (0 : Int) := bh19_; have q1 : 0 < (t1.length : Int) := od_ bpil_; obtain ⟨ad1, e1, hx1_0⟩ := Kd.at_int (rr_ HO1.out).2.2 0 p1 q1; cases e1; have qi470 : (0 < t1.length) = True := eq_true bh19_; (try rw [show ((0 : Int)).toNat = 0 from rfl] at hx1_0); (try rw [Addr.add_zero'] at hx1_0); replace p1 := eq_true p1; replace q1 := eq_true q1))
 go_ret2
 exact ⟨bnwh_, be6g_⟩

def slices_Clone_int_int.f (l0 : List Int) : Option (List Int) := if l0.length < 17592186044416 then some l0 else none
set_option maxHeartbeats 400000 in
set_option maxRecDepth 100000 in
theorem slices_Clone_int_int.calls (A0 : Option Addr) (c0 : Nat) (l0 : List Int) (r : List Int) (w : World) (hr0 : Kd.C (Kd.int .i64) w A0 l0.length l0) (hc0 : l0.length ≤ c0) (h : slices_Clone_int_int.f l0 = some r) :
  Calls Tryz.prog 74 #[.slice A0 l0.length c0] w fun e w' => ∃ v0_ : Value, e = .returned (v0_) ∧ Kd.R (Kd.int .i64) 3 w' w.heap.size (fun _ => True) v0_ r ∧ Below w.heap.size w w' := by
 unfold slices_Clone_int_int.f at h
 split at h
 case isFalse => cases h
 case isTrue hlt =>
 obtain rfl := si_ h
 clear h
 have HR0 := A0_ hr0
 have HC0 := A0_ hc0
 have LM := A0_ hlt
 clear hlt
 have HB := A0_ (Below.refl w.heap.size w)
 cases A0 with
 | none =>
  have hnil : l0 = [] := by
   rcases Nat.eq_zero_or_pos l0.length with e | e
   ·exact List.eq_nil_of_length_eq_zero e
   ·obtain ⟨ad, e1, _⟩ := Kd.at_int hr0 0 bh19_ bh19_
    cases e1
  clear hr0 hc0
  subst hnil
  have q1 := fun (w : World) (n c n' c' : Nat) => Lib.run_eql_slice_nil w 22 3 none n c n' c' Tryz.underlying22
  go_enter Tryz.func74, Tryz.ntmps74
  go_wp2
  go_ret
  exact ⟨_, rfl, Kd.R_nil _ _ _ _ _, Below.refl _ _⟩
 | some ad =>
  clear hr0 hc0
  have q1 := fun (w : World) (n c n' c' : Nat) => Lib.run_eql_slice_nil w 22 3 (some ad) n c n' c' Tryz.underlying22
  go_enter Tryz.func74, Tryz.ntmps74
  go_wp2_with (first | ((with_reducible refine gd_ (N := 5) rfl ?_); refine Kd.R_lit (Kd.int .i64) _ 3 ?hg (N := 5) ?hd (xs := ([] : List Int)) (inner := []) (ok := fun _ => True) (okp := fun _ => True) ?hr ?hp (fun _ hk => hk) trivial (Below.refl _ _) (Nat.le_refl _) bxka_ ?_; (case hd => rfl); (case hg => rfl); (case hr => go_simp; first | done | rfl); (case hp => exact (Reps.none _ _)); intro v1 w1 ho4 hb hg_ hnew_; clear hg_ hnew_; have HO1 := A0_ (Kd.R_lower ho4 (bz_ HB.out)); replace HB := A0_ (bt_ HB.out hb); clear hb ho4) | ((with_reducible refine gate_builtin (b := .append) (xs := #[.tmp 5, .tmp 6]) rfl ?_); at_builtin; refine Kd.R_append_rows (Kd.int .i64) (w0 := w) w.heap.size rfl (.tmp 5) (.tmp 6) 22 3 (.int .i64 0) 8 rfl Tryz.underlying22 info3 rfl bi3y_ bh19_ v1 [] l0 _ _ _ (fun _ => True) (fun _ => False) rfl rfl ?aO ?aR (fun _ _ h => h) (fun _ h => h.elim) ?aF ?aB ?aS ?aL ?_; (case aR => exact bg0z_); (case aB => exact brt4_); (case aF => exact (fun _ _ => trivial)); (case aO => exact bsm5_); (case aS => exact (bz_ brt4_)); (case aL => have := LM.out; simp only [List.length_nil]; omega); intro v2 w2 ho hb hg hat; rw [List.nil_append] at ho; have n0_ := A0_ (hb); have n1_ := A0_ (ho); clear HB HO1; have HB := n0_; have HO2 := n1_; clear n0_ n1_ ho hb hg hat))
  go_ret
  exact ⟨_, rfl, HO2.out, HB.out⟩


def slices_Index_int_int.l0 : Nat → List Int → Int → Int → Int → Option (Int)
 | 0, _, _, _, _ => none
 | k + 1, x0, x1, x7, x8 => if x8 < x7 then (if 0 ≤ x8 then (if x8 < (x0.length : Int) then (if x1 = (rd x0 x8) then (some x8) else (slices_Index_int_int.l0 k x0 x1 x7 (wrap64 (x8 + 1)))) else (none)) else (none)) else (some (-1))
def slices_Index_int_int.f (k : Nat) (l0 : List Int) (a1 : Int) : Option (Int) := slices_Index_int_int.l0 k l0 a1 (l0.length : Int) 0
theorem slices_Index_int_int.mono_l : ∀ k, (∀ y0 y1 y2 y3, LeO (slices_Index_int_int.l0 k y0 y1 y2 y3) (slices_Index_int_int.l0 (k + 1) y0 y1 y2 y3))
 | 0 => fun _ _ _ _ r h => by simp [slices_Index_int_int.l0] at h
 | k + 1 => by
  have ih0 := slices_Index_int_int.mono_l k
  ·intro y0 y1 y2 y3
   unfold slices_Index_int_int.l0
   repeat' with_reducible first | exact ih0 .. | exact LeO.refl .. | exact LeO.none .. | refine LeO.ite ?_ ?_ | refine LeO.bind ?_ (fun _ => ?_)
theorem slices_Index_int_int.mono : ∀ a0 a1 k, LeO (slices_Index_int_int.f k a0 a1) (slices_Index_int_int.f (k + 1) a0 a1) := by
 intro a0 a1 k
 have ih0 := slices_Index_int_int.mono_l k
 unfold slices_Index_int_int.f
 repeat' with_reducible first | exact ih0 .. | exact LeO.refl .. | exact LeO.none .. | refine LeO.ite ?_ ?_ | refine LeO.bind ?_ (fun _ => ?_)
theorem slices_Index_int_int.calls (k : Nat) (A0 : Option Addr) (c0 : Nat) (l0 : List Int) (a1 : Int) (r : Int) (w : World) (hr0 : Kd.C (Kd.int .i64) w A0 l0.length l0) (hc0 : l0.length ≤ c0) (h : slices_Index_int_int.f k l0 a1 = some r) :
  Calls Tryz.prog 78 #[.slice A0 l0.length c0, .int .i64 a1] w fun e w' => e = .returned (.int .i64 r) ∧ Drawn0 w w' := by
 have HR0 := A0_ hr0
 have HC0 := A0_ hc0
 clear hr0 hc0
 have H : (slices_Index_int_int.l0 k l0 a1 (l0.length : Int) 0) = some r := h
 clear h
 have H' := A0_ H
 clear H
 go_enter Tryz.func78, Tryz.ntmps78
 go_wp2
 go_loopg [8] k (fun kq v1 w' => ∃ (x8_1 : Int), v1 = .int .i64 x8_1 ∧ Aside0 (slices_Index_int_int.l0 kq l0 a1 (l0.length : Int) x8_1 = some r) ∧ Aside0 (kq ≤ k) ∧ Drawn0 w w')
 case atStart => exact ⟨(0), b2ew_, H', ⟨Nat.le_refl _⟩, boaj_⟩
 clear H'
 obtain ⟨x8_1, rfl, HA, HK1, ⟨m1, rfl⟩⟩ := hrel
 cases gk with | zero => exact absurd HA.out (by simp [slices_Index_int_int.l0]) | succ k1 => ?_
 have H := HA.out
 clear HA
 simp only [slices_Index_int_int.l0] at H
 by_cases c1 : x8_1 < (l0.length : Int)
 case neg =>
  rw [if_neg c1] at H
  have c1b0 : decide (x8_1 < (l0.length : Int)) = false := decide_eq_false c1
  clear c1
  obtain rfl := si_ H
  go_wp2
  go_ret
  exact ⟨b04z_, boaj_⟩
 rw [if_pos c1] at H
 have c1b0 : decide (x8_1 < (l0.length : Int)) = true := dt_ c1
 clear c1
 by_cases c2 : 0 ≤ x8_1
 case neg =>
  rw [if_neg c2] at H
  exact absurd H bxka_
 rw [if_pos c2] at H
 have c2b0 : decide (0 ≤ x8_1) = true := dt_ c2
 clear c2
 by_cases c3 : x8_1 < (l0.length : Int)
 case neg =>
  rw [if_neg c3] at H
  exact absurd H bxka_
 rw [if_pos c3] at H
 have c3b0 : decide (x8_1 < (l0.length : Int)) = true := dt_ c3
 clear c3
 by_cases c4 : a1 = (rd l0 x8_1)
 ·rw [if_pos c4] at H
  obtain ⟨c4b0, c4b1⟩ := et_ c4
  clear c4
  obtain rfl := si_ H
  have p1 : 0 ≤ (x8_1 : Int) := od_ bpil_
  have q1 : x8_1 < (l0.length : Int) := od_ bpil_
  obtain ⟨ad1, e1, hx1_0⟩ := Kd.at_int HR0.out x8_1 p1 q1
  cases e1
  replace p1 := eq_true p1
  replace q1 := eq_true q1
  go_wp2
  go_ret
  exact ⟨b04z_, boaj_⟩
 rw [if_neg c4] at H
 obtain ⟨c4b0, c4b1⟩ := ef_ c4
 have H' := A0_ H
 clear H
 have p1 : 0 ≤ (x8_1 : Int) := od_ bpil_
 have q1 : x8_1 < (l0.length : Int) := od_ bpil_
 obtain ⟨ad1, e1, hx1_0⟩ := Kd.at_int HR0.out x8_1 p1 q1
 cases e1
 replace p1 := eq_true p1
 replace q1 := eq_true q1
 go_wp2
 go_roundg k1
 case measure => have := HK1.out; omega
 exact ⟨(wrap64 (x8_1 + 1)), b2ew_, H', ⟨bxjq_⟩, boaj_⟩

def slices_Contains_int_int.f (k : Nat) (l0 : List Int) (a1 : Int) : Option (Bool) := (slices_Index_int_int.f k l0 a1).bind fun t472 => (some (decide (t472 ≥ 0)))
theorem slices_Contains_int_int.mono : ∀ a0 a1 k, LeO (slices_Contains_int_int.f k a0 a1) (slices_Contains_int_int.f (k + 1) a0 a1) := by
 intro a0 a1 k
 unfold slices_Contains_int_int.f
 repeat' with_reducible first | exact slices_Index_int_int.mono .. | exact LeO.refl .. | exact LeO.none .. | refine LeO.ite ?_ ?_ | refine LeO.bind ?_ (fun _ => ?_)
theorem slices_Contains_int_int.calls (k : Nat) (A0 : Option Addr) (c0 : Nat) (l0 : List Int) (a1 : Int) (r : Bool) (w : World) (hr0 : Kd.C (Kd.int .i64) w A0 l0.length l0) (hc0 : l0.length ≤ c0) (h : slices_Contains_int_int.f k l0 a1 = some r) :
  Calls Tryz.prog 77 #[.slice A0 l0.length c0, .int .i64 a1] w fun e w' => e = .returned (.bool r) ∧ Drawn0 w w' := by
 have HR0 := A0_ hr0
 have HC0 := A0_ hc0
 clear hr0 hc0
 have H : ((slices_Index_int_int.f k l0 a1).bind fun t1 => (some (decide (t1 ≥ 0)))) = some r := h
 clear h
 obtain ⟨t1, A2, H⟩ := o1_ H
 replace H : (some (decide (t1 ≥ 0))) = some r := H
 obtain rfl := si_ H
 go_enter Tryz.func77, Tryz.ntmps77
 go_wp2_with (first | ((with_reducible refine gc_ (f := 78) rfl ?_); refine gl_ 7 Tryz.func78 #[.slice A0 l0.length c0, .int .i64 a1] ?_; (with_reducible refine (slices_Index_int_int.calls k _ _ l0 a1 t1 _ ?side1 ?side2 A2.out).mono ?_); (case side1 => exact (by repeat (first | exact HR0.out | (with_reducible refine ca_ ?_ _) | (with_reducible refine cn_ ?_ _) | (with_reducible refine cd_ ?_)))); (case side2 => exact HC0.out); rintro e w' ⟨rfl, ⟨nd, rfl⟩⟩; refine ⟨_, rfl, ?_⟩))
 go_ret
 exact ⟨b04z_, boaj_⟩

def lays23_ren : Go.Shelf.Ren where
 f := fun x => match x with
  | 23 => 79
  | n => n
 t := fun x => match x with
  | 22 => 22
  | 3 => 3
  | 4 => 4
  | 0 => 0
  | n => n
 g := fun x => x
theorem lays23 : Lays2.n23 Tryz.prog lays23_ren where
 mixed := by kernel_rfl
 f23 := Tryz.func79.trans bfqv_
 t0 := Tryz.underlying0
 a0 := Tryz.isAgg0
 z0 := Tryz.sizeOf0
 v0 := Tryz.zeroValue0
 t3 := Tryz.underlying3
 a3 := Tryz.isAgg3
 z3 := Tryz.sizeOf3
 v3 := Tryz.zeroValue3
 t4 := Tryz.underlying4
 a4 := Tryz.isAgg4
 z4 := Tryz.sizeOf4
 v4 := Tryz.zeroValue4
 t22 := Tryz.underlying22
 a22 := Tryz.isAgg22
 z22 := Tryz.sizeOf22
 v22 := Tryz.zeroValue22
 i3 := by kernel_rfl
def slices_Delete_int_int.f (l0 : List Int) (a1 a2 : Int) : Option (List Int) := if 0 ≤ a1 ∧ a1 < a2 ∧ a2 ≤ (l0.length : Int) then some (l0.take a1.toNat ++ l0.drop a2.toNat) else none
theorem slices_Delete_int_int.reps1 (M : Int → List Value → Prop) (hM : ∀ x, M x [.int .i64 x]) (l : List Int) : Reps M 1 l (l.map (Value.int .i64)) := by
 refine ⟨bxka_, fun j p hp => ?_⟩
 have hj : j < l.length := (List.getElem?_eq_some_iff.1 hp).1
 have : ((l.map (Value.int .i64)).drop (j * 1)).take 1 = [.int .i64 p] := by
  rw [Nat.mul_one, List.drop_eq_getElem_cons (by simpa using hj)]
  simp [(List.getElem?_eq_some_iff.1 hp).2]
 rw [this]
 exact hM p
theorem slices_Delete_int_int.reps2 (M : Int → List Value → Prop) (hM : ∀ x c, M x c → c = [.int .i64 x]) (l : List Int) (cs : List Value) (h : Reps M 1 l cs) : cs = l.map (Value.int .i64) := by
 refine List.ext_getElem? fun j => ?_
 have hl : cs.length = l.length := by rw [h.1, Nat.mul_one]
 by_cases hj : j < l.length
 ·have := hM _ _ (h.2 j _ (List.getElem?_eq_getElem hj))
  rw [Nat.mul_one, List.drop_eq_getElem_cons bh19_] at this
  simp only [List.take_succ_cons, List.take_zero, List.cons.injEq, and_true] at this
  rw [List.getElem?_eq_getElem bh19_, this]
  simp [hj]
 ·rw [List.getElem?_eq_none bh19_, List.getElem?_eq_none (by simp; omega)]
/-- A row of the call's own, cut in place. -/
theorem slices_Delete_int_int.own (Ao : Option Addr) (co : Nat) (l : List Int) (i j : Int) (r : List Int) (w : World) (base : Nat) (ok : Nat → Prop) (HO : Kd.R (Kd.int .i64) 3 w base ok (.slice Ao l.length co) l) (h : slices_Delete_int_int.f l i j = some r) :
  Calls Tryz.prog 79 #[.slice Ao l.length co, .int .i64 i, .int .i64 j] w fun e w' => e = .returned (.slice Ao r.length co) ∧ Kd.R (Kd.int .i64) 3 w' base ok (.slice Ao r.length co) r ∧ w.grownBy w' (Value.ownBlock (.slice Ao l.length co)) := by
 unfold slices_Delete_int_int.f at h
 split at h
 case isFalse => cases h
 case isTrue hij =>
 obtain ⟨i, rfl⟩ : ∃ n : Nat, i = n := ⟨i.toNat, bh19_⟩
 obtain ⟨j, rfl⟩ : ∃ n : Nat, j = n := ⟨j.toNat, bh19_⟩
 obtain ⟨_, h1, h2⟩ := hij
 have h1 : i < j := by omega
 have h2 : j ≤ l.length := by omega
 simp only [Int.toNat_natCast] at h
 obtain rfl := si_ h
 clear h
 obtain ⟨hok, inner, ⟨hl, hv⟩, hr⟩ := HO
 rcases hv with ⟨_, hz⟩ | ⟨g, cap, cur, hv, hg, hb, hn, hm, hs, ht⟩
 ·omega
 cases hv
 have hin := slices_Delete_int_int.reps2 _ (fun x c hc => hc) l inner hr
 subst hin
 have ht' : cur.toList.take l.length = l.map (Value.int .i64) := by rw [← ht]; exact congrArg (fun n => cur.toList.take n) (Nat.mul_one _).symm
 have hs' : cur.size = co := by rw [hs]; exact Nat.mul_one co
 have hH := holds_of_blockI hb ht'
 refine (Any.slices_Delete_int (ρ := lays23_ren) lays23 g 0 co i j l w hH hn hm (Nat.le_of_lt h1) h2).mono ?_
 rintro e w' ⟨rfl, q, rfl⟩
 have hlen : (l.take i ++ l.drop j).length = l.length - (j - i) := by simp; omega
 have htot : (l.take i ++ l.drop j ++ List.replicate (j - i) (0 : Int)).length = l.length := by simp; omega
 refine ⟨by rw [hlen], ⟨fun k hk => hok k hk, (l.take i ++ l.drop j).map (Value.int .i64), ⟨by rw [List.length_map]; exact (Nat.mul_one _).symm, .inr ⟨g, co, _, rfl, hg, heap_sortedI (os := #[]) (n := q) (l.take i ++ l.drop j ++ List.replicate (j - i) (0 : Int)).toArray hb, ?_, hm, ?_, ?_⟩⟩, slices_Delete_int_int.reps1 ((Kd.int .i64).M _ base _) (fun x => rfl) _⟩, grownBy_sortedI (os := #[]) _⟩
 ·rw [hlen]; omega
 ·show _ = co * 1
  simp [Sort.putCells, hs']
 ·have h3 := take_putCellsI cur (l.take i ++ l.drop j ++ List.replicate (j - i) (0 : Int)) (by rw [htot]; omega)
  rw [htot] at h3
  have h4 := congrArg (List.take (l.take i ++ l.drop j).length) h3
  rw [List.take_take, Nat.min_eq_left (by rw [hlen]; omega)] at h4
  show List.take (_ * 1) _ = _
  rw [Nat.mul_one]
  refine h4.trans ?_
  rw [List.map_append (l₁ := l.take i ++ l.drop j)]
  exact List.take_left' (by rw [List.length_map])

theorem impl_House_guests.append {P : Program} {ops : Array Oper} {o : Oper} {a : Act} {K : Act → World → Prop} {Q : Exit → Act → World → Prop} {w0 W : World} (base : Nat) (hw : Region.wanted o (yielded ops a.tmps) = true) (s x : Operand) (t e : TypeId)
  (ho : o.op = .call { callee := .builtin .append, args := #[s, x], argTypes := #[t, t] })
  (ht : P.underlying t = some (.slice e)) (hinfo : (P.info? e).map (fun i => (i.zero, i.size, i.bytes)) = some (some (.int .i64 0), 1, 8))
  (Ao : Option Addr) (co : Nat) (xs : List Int) (p : Int) (ok : Nat → Prop) (hs : a.eval s = .slice Ao xs.length co) (hx : a.eval x = .slice (some ⟨W.heap.size, 0, none⟩) 1 1) (hfresh : ∀ k, W.heap.size ≤ k → ok k)
  (HO : Kd.R (Kd.int .i64) e W base ok (.slice Ao xs.length co) xs) (HB : Below base w0 W) (hbase : base ≤ W.heap.size) (hl : (xs.length + 1) * 8 ≤ 140737488355328)
  (h : ∀ v1 w1, Kd.R (Kd.int .i64) e w1 base ok v1 (xs ++ [p]) → Below base w0 w1 → W.grownBy w1 (Value.ownBlock (.slice Ao xs.length co)) → Kd.C (Kd.int .i64) w1 Ao xs.length xs → K (a.put o.dst v1) w1) :
  if Region.wanted o (yielded ops a.tmps) = true then Oper.wp P o a (W.alloc (.cells #[.int .i64 p] e)) K Q else K (a.put o.dst undef) (W.alloc (.cells #[.int .i64 p] e)) := by
 obtain ⟨h0, inner, hown, hr⟩ := HO
 have hin := slices_Delete_int_int.reps2 _ (fun x c hc => hc) xs inner hr
 subst hin
 have hown' : W.ownsRow base e 1 (.slice Ao xs.length co) xs.length (xs.map (Value.int .i64)) := hown
 obtain ⟨i0, hi, hzz⟩ := Option.map_eq_some_iff.1 hinfo
 simp only [pj_] at hzz
 obtain ⟨hz0, hz1, hz2⟩ := hzz
 have hlen : xs.length + 1 ≤ 140737488355328 := by omega
 have hnews : ∀ j u, [Value.int .i64 p][j]? = some u → (W.alloc (.cells #[.int .i64 p] e)).cell? ((⟨W.heap.size, 0, none⟩ : Addr).add j) = some u := cell_one_new W (.int .i64 p) e
 have h1 : ∀ u ∈ [Value.int .i64 p], u.oneCell' = true := by
  intro u hu
  rw [List.mem_singleton.1 hu]
  rfl
 rw [if_pos hw]
 obtain ⟨v1, w1, hrun, hown1, hg, _, hat⟩ := run_append_own_at (P := P) (W.alloc (.cells #[.int .i64 p] e)) base t o.type e i0 (.int .i64 0) 1 8 ht hi hz0 hz1 hz2 rfl bi3y_ _ xs.length _ (hown'.alloc _) ⟨W.heap.size, 0, none⟩ 1 1 [.int .i64 p] rfl hnews h1 (by simp only [maxLen]; omega) hl (by simp; omega)
 have hC : Kd.C (Kd.int .i64) w1 Ao xs.length xs := by
  refine ⟨rfl, bh19_, fun hpos => ?_⟩
  rcases hown'.2 with ⟨_, hz⟩ | ⟨g, cap, cur, hv, hbg, hgb, hnc, hcm, hcs, htake⟩
  ·omega
  cases hv
  refine ⟨⟨g, 0, none⟩, rfl, fun j y hj => ⟨[.int .i64 y], rfl, rfl, fun i u hu => ?_⟩⟩
  have hi0 : i = 0 := by
   rcases i with _ | i
   ·rfl
   ·simp at hu
  subst hi0
  simp only [List.getElem?_cons_zero, sj_] at hu
  subst hu
  have hjl : j < xs.length := (List.getElem?_eq_some_iff.1 hj).1
  have hjm : (xs.map (Value.int .i64))[j]? = some (.int .i64 y) := by rw [List.getElem?_map, hj]; rfl
  show w1.cell? ((⟨g, 0, none⟩ : Addr).add (j * 1 + 0)) = _
  rw [Nat.mul_one, Nat.add_zero]
  rcases hat with hat | hat
  ·exact hown1.cells (g := g) (by rw [hat]; rfl) j _ (by rw [List.getElem?_append_left (by simpa using hjl)]; exact hjm)
  ·have hgl : g < W.heap.size := (Array.getElem?_eq_some_iff.1 hgb).1
   have hgA : (W.alloc (.cells #[.int .i64 p] e)).heap[g]? = some (.cells cur e (0, 0)) := (by first | exact heap_alloc_old W _ hgl | exact heap_alloc_old W _ g hgl : (W.alloc (.cells #[.int .i64 p] e)).heap[g]? = W.heap[g]?).trans hgb
   by_cases hroom : xs.length + 1 ≤ co
   ·have hr' := run_append_room (P := P) (W.alloc (.cells #[.int .i64 p] e)) t o.type e i0 ht hi g xs.length co cur hgA ⟨W.heap.size, 0, none⟩ 1 1 [.int .i64 p] (by rw [hz1]; rfl) hnews h1 hroom (by rw [hz1, hcs]; simp only [List.length_singleton]; omega)
    have := hrun.symm.trans hr'
    injection this with hv1 _
    rw [hv1] at hat
    simp [Value.ownBlock] at hat
    omega
   ·have hr' := run_append_grow (P := P) (W.alloc (.cells #[.int .i64 p] e)) t o.type e i0 (.int .i64 0) ht hi hz0 ⟨g, 0, none⟩ xs.length co (xs.map (Value.int .i64)) (by rw [hz1]; simp) ((hown'.alloc _).cells (g := g) rfl) ⟨W.heap.size, 0, none⟩ 1 1 [.int .i64 p] (by rw [hz1]; rfl) hnews bh19_ bh19_ (growslice_fits bh19_ (by rw [hz2]; exact hl))
    have := hrun.symm.trans hr'
    injection this with _ hw1
    subst hw1
    have hc0 := (hown'.alloc (.cells #[.int .i64 p] e)).cells (g := g) rfl j _ hjm
    have e_ : ((⟨g, 0, none⟩ : Addr).add j).block = g := by unfold Addr.add; split <;> rfl
    refine (World.cell?_of_block (w := W.alloc (.cells #[.int .i64 p] e)) ?_).trans hc0
    rw [e_]
    have hlt_ : g < (W.alloc (.cells #[.int .i64 p] e)).drew.heap.size := by show g < (W.alloc (.cells #[.int .i64 p] e)).heap.size; simp; omega
    first | exact heap_alloc_old (W.alloc (.cells #[.int .i64 p] e)).drew _ hlt_ | exact heap_alloc_old (W.alloc (.cells #[.int .i64 p] e)).drew _ g hlt_
 unfold Oper.wp execOp
 simp only [ho, resolve, invoke, builtin, Sem.run_bind, Sem.run_pure, Result.andThen_ok, ma_, mc_, mn_, hs, hx, hrun]
 refine h v1 w1 ?_ ((HB.alloc hbase _).grown hg (by simp; omega) (own_base hown)) (World.grownBy.trans (World.grownBy_alloc W _ _) hg) hC
 refine ⟨fun k hk => ?_, (xs ++ [p]).map (Value.int .i64), ?_, slices_Delete_int_int.reps1 ((Kd.int .i64).M _ base _) (fun x => rfl) _⟩
 ·rcases hat with e1 | e1
  ·exact h0 k (by rw [← e1]; exact hk)
  ·rw [e1] at hk
   injection hk with hk
   subst hk
   exact hfresh _ bxka_
 ·show w1.ownsRow base e 1 v1 (xs ++ [p]).length ((xs ++ [p]).map (Value.int .i64))
  simpa using hown1
def impl_houseFree.f (k : Nat) (a0_0 : Int) (a0_1 : Bool) (l0_2 : List Int) (l0_3 : List Int) (a1 : Int) : Option (Bool) := (impl_Row_bench.f a0_0 a0_1 l0_2).bind fun bt436 => ((impl_bench_has.f k bt436.1 bt436.2 (([a1] : List Int))).bind fun t441 => (if t441 = true then ((slices_Contains_int_int.f k l0_3 a1).bind fun t442 => (some (!t442))) else (some false)))
theorem impl_houseFree.mono : ∀ a0 a1 a2 a3 a4 k, LeO (impl_houseFree.f k a0 a1 a2 a3 a4) (impl_houseFree.f (k + 1) a0 a1 a2 a3 a4) := by
 intro a0 a1 a2 a3 a4 k
 unfold impl_houseFree.f
 repeat' with_reducible first | exact impl_bench_has.mono .. | exact slices_Contains_int_int.mono .. | exact LeO.refl .. | exact LeO.none .. | refine LeO.ite ?_ ?_ | refine LeO.bind ?_ (fun _ => ?_)
theorem impl_houseFree.calls (k : Nat) (a0_0 : Int) (a0_1 : Bool) (A0_2 : Option Addr) (c0_2 : Nat) (l0_2 : List Int) (V3 V4 : Value) (A0_3 : Option Addr) (c0_3 : Nat) (l0_3 : List Int) (a1 : Int) (r : Bool) (g1 g3 : Nat) (w : World) (hr0_2 : Kd.C (Kd.int .i64) w A0_2 l0_2.length l0_2) (hc0_2 : l0_2.length ≤ c0_2) (hr0_3 : Kd.C (Kd.int .i64) w A0_3 l0_3.length l0_3) (hc0_3 : l0_3.length ≤ c0_3) (hB1 : w.heap[g1]? = some (.cells #[.int .i64 a0_0, .bool a0_1, .slice A0_2 l0_2.length c0_2, V3, V4] 32 (0, 0))) (hB3 : w.heap[g3]? = some (.cells #[.slice A0_3 l0_3.length c0_3] 22 (0, 0))) (h : impl_houseFree.f k a0_0 a0_1 l0_2 l0_3 a1 = some r) :
  Calls Tryz.prog 75 #[.int .i64 a1, .pointer (some ⟨g1, 0, none⟩), .pointer (some ⟨g3, 0, none⟩)] w fun e w' => e = .returned (.bool r) ∧ Below w.heap.size w w' := by
 have BK1 := A0_ hB1
 have BK2 := A0_ hB3
 clear hB1 hB3
 have hu_26_ := Tryz.underlying32
 have hu_24_ := Tryz.underlying30
 have HR0_2 := A0_ hr0_2
 have HC0_2 := A0_ hc0_2
 clear hr0_2 hc0_2
 have HR0_3 := A0_ hr0_3
 have HC0_3 := A0_ hc0_3
 clear hr0_3 hc0_3
 have HB := A0_ (Below.refl w.heap.size w)
 have H : ((impl_Row_bench.f a0_0 a0_1 l0_2).bind fun bt1 => ((impl_bench_has.f k bt1.1 bt1.2 (([a1] : List Int))).bind fun t1 => (if t1 = true then ((slices_Contains_int_int.f k l0_3 a1).bind fun t2 => (some (!t2))) else (some false)))) = some r := h
 clear h
 obtain ⟨⟨t3, t4⟩, A2, H⟩ := o1_ H
 obtain ⟨y1, hy1⟩ : ∃ y_ : List Int, y_ = (([a1] : List Int)) := ⟨_, rfl⟩
 replace H : ((impl_bench_has.f k t3 t4 y1).bind fun t1 => (if t1 = true then ((slices_Contains_int_int.f k l0_3 a1).bind fun t2 => (some (!t2))) else (some false))) = some r := bgiq_
 have Ny1 := A0_ hy1
 clear hy1
 obtain ⟨t1, A4, H⟩ := o1_ H
 by_cases c1 : t1 = true
 case neg =>
  obtain rfl := bf_.mpr c1
  rw [if_neg ft_] at H
  obtain rfl := si_ H
  have hc0_0 : w.cell? ⟨g1, 0, none⟩ = some (.int .i64 a0_0) := (kc_ BK1.out 0).trans rfl
  have hc0_1 : w.cell? ⟨g1, 1, none⟩ = some (.bool a0_1) := (kc_ BK1.out 1).trans rfl
  have hc0_2 : w.cell? ⟨g1, 2, none⟩ = some (.slice A0_2 l0_2.length c0_2) := (kc_ BK1.out 2).trans rfl
  go_enter Tryz.func75, Tryz.ntmps75
  go_wp2_with (first | ((with_reducible refine gc_ (f := 53) rfl ?_); refine gl_ 7 Tryz.func53 #[.agg #[.int .i64 a0_0, .bool a0_1, .slice A0_2 l0_2.length c0_2]] ?_; (with_reducible refine (impl_Row_bench.calls a0_0 a0_1 _ _ l0_2 t3 t4 _ ?side1 ?side2 A2.out).mono ?_); (case side1 => exact b6n8_); (case side2 => exact HC0_2.out); rintro e w1 ⟨rfl, hb⟩; refine ⟨_, rfl, ?_⟩; have BK3' := A0_ (kb_ (g := g3) (o := .cells #[.slice A0_3 l0_3.length c0_3] 22 (0, 0)) (u1_ BK2) hb); clear BK2; have BK2 := BK3'; clear BK3'; replace BK1 := A0_ (kb_ (g := g1) (o := .cells #[.int .i64 a0_0, .bool a0_1, .slice A0_2 l0_2.length c0_2, V3, V4] 32 (0, 0)) (u1_ BK1) hb); replace HB := hb_ hb brt4_; (try clear hb)) | ((with_reducible refine gd_ (N := 9) rfl ?_); refine Kd.R_lit (Kd.int .i64) _ 3 ?hg (N := 9) ?hd (xs := ([a1] : List Int)) (inner := [.int .i64 a1]) (ok := fun _ => True) (okp := fun _ => True) ?hr ?hp (fun _ hk => hk) trivial (Below.refl _ _) (Nat.le_refl _) bxka_ ?_; (case hd => rfl); (case hg => rfl); (case hr => go_simp; first | done | rfl); (case hp => exact (Reps.one (show Kd.M (Kd.int .i64) _ _ _ a1 [.int .i64 a1] from rfl) (Reps.none _ _))); intro v1 w2 ho19 hb hg_ hnew_; clear hg_ hnew_; have BK3' := A0_ (kb_ (g := g3) (o := .cells #[.slice A0_3 l0_3.length c0_3] 22 (0, 0)) (u1_ BK2) hb); clear BK2; have BK2 := BK3'; clear BK3'; (first | rw [← Ny1.out] at ho19 | (simp only [Int.reduceToNat] at ho19; rw [← Ny1.out] at ho19)); have HO1 := A0_ (Kd.R_lower ho19 (bz_ brt4_)); replace BK1 := A0_ (kb_ (g := g1) (o := .cells #[.int .i64 a0_0, .bool a0_1, .slice A0_2 l0_2.length c0_2, V3, V4] 32 (0, 0)) (u1_ BK1) hb); replace HB := hb_ hb brt4_; clear hb ho19; obtain ⟨Ao1, co1, eo1⟩ := Kd.R_slice HO1.out; subst eo1) | ((with_reducible refine gc_ (f := 76) rfl ?_); refine gl_ 10 Tryz.func76 #[.agg #[.int .i64 t3, .bool t4], .slice Ao1 y1.length co1] ?_; (with_reducible refine (impl_bench_has.calls k t3 t4 _ _ y1 false _ ?side1 ?side2 A4.out).mono ?_); (case side1 => exact bayy_); (case side2 => exact (rr_ HO1.out).2.1); rintro e w3 ⟨rfl, hb⟩; refine ⟨_, rfl, ?_⟩; have BK3' := A0_ (kb_ (g := g3) (o := .cells #[.slice A0_3 l0_3.length c0_3] 22 (0, 0)) (u1_ BK2) hb); clear BK2; have BK2 := BK3'; clear BK3'; replace HO1 := A0_ (Kd.R_below bsm5_ hb); replace BK1 := A0_ (kb_ (g := g1) (o := .cells #[.int .i64 a0_0, .bool a0_1, .slice A0_2 l0_2.length c0_2, V3, V4] 32 (0, 0)) (u1_ BK1) hb); replace HB := hb_ hb brt4_; (try clear hb)))
  go_ret
  exact ⟨bnwh_, brt4_⟩
 subst c1
 rw [if_pos rfl] at H
 obtain ⟨t2, A6, H⟩ := o1_ H
 replace H : (some (!t2)) = some r := H
 obtain rfl := si_ H
 have hc0_0 : w.cell? ⟨g1, 0, none⟩ = some (.int .i64 a0_0) := (kc_ BK1.out 0).trans rfl
 have hc0_1 : w.cell? ⟨g1, 1, none⟩ = some (.bool a0_1) := (kc_ BK1.out 1).trans rfl
 have hc0_2 : w.cell? ⟨g1, 2, none⟩ = some (.slice A0_2 l0_2.length c0_2) := (kc_ BK1.out 2).trans rfl
 go_enter Tryz.func75, Tryz.ntmps75
 go_wp2_with (first | ((with_reducible refine gc_ (f := 53) rfl ?_); refine gl_ 7 Tryz.func53 #[.agg #[.int .i64 a0_0, .bool a0_1, .slice A0_2 l0_2.length c0_2]] ?_; (with_reducible refine (impl_Row_bench.calls a0_0 a0_1 _ _ l0_2 t3 t4 _ ?side1 ?side2 A2.out).mono ?_); (case side1 => exact b6n8_); (case side2 => exact HC0_2.out); rintro e w1 ⟨rfl, hb⟩; refine ⟨_, rfl, ?_⟩; have BK3' := A0_ (kb_ (g := g3) (o := .cells #[.slice A0_3 l0_3.length c0_3] 22 (0, 0)) (u1_ BK2) hb); clear BK2; have BK2 := BK3'; clear BK3'; replace BK1 := A0_ (kb_ (g := g1) (o := .cells #[.int .i64 a0_0, .bool a0_1, .slice A0_2 l0_2.length c0_2, V3, V4] 32 (0, 0)) (u1_ BK1) hb); replace HB := hb_ hb brt4_; (try clear hb)) | ((with_reducible refine gd_ (N := 9) rfl ?_); refine Kd.R_lit (Kd.int .i64) _ 3 ?hg (N := 9) ?hd (xs := ([a1] : List Int)) (inner := [.int .i64 a1]) (ok := fun _ => True) (okp := fun _ => True) ?hr ?hp (fun _ hk => hk) trivial (Below.refl _ _) (Nat.le_refl _) bxka_ ?_; (case hd => rfl); (case hg => rfl); (case hr => go_simp; first | done | rfl); (case hp => exact (Reps.one (show Kd.M (Kd.int .i64) _ _ _ a1 [.int .i64 a1] from rfl) (Reps.none _ _))); intro v1 w2 ho11 hb hg_ hnew_; clear hg_ hnew_; have BK3' := A0_ (kb_ (g := g3) (o := .cells #[.slice A0_3 l0_3.length c0_3] 22 (0, 0)) (u1_ BK2) hb); clear BK2; have BK2 := BK3'; clear BK3'; (first | rw [← Ny1.out] at ho11 | (simp only [Int.reduceToNat] at ho11; rw [← Ny1.out] at ho11)); have HO1 := A0_ (Kd.R_lower ho11 (bz_ brt4_)); replace BK1 := A0_ (kb_ (g := g1) (o := .cells #[.int .i64 a0_0, .bool a0_1, .slice A0_2 l0_2.length c0_2, V3, V4] 32 (0, 0)) (u1_ BK1) hb); replace HB := hb_ hb brt4_; clear hb ho11; obtain ⟨Ao1, co1, eo1⟩ := Kd.R_slice HO1.out; subst eo1) | ((with_reducible refine gc_ (f := 76) rfl ?_); refine gl_ 10 Tryz.func76 #[.agg #[.int .i64 t3, .bool t4], .slice Ao1 y1.length co1] ?_; (with_reducible refine (impl_bench_has.calls k t3 t4 _ _ y1 true _ ?side1 ?side2 A4.out).mono ?_); (case side1 => exact bayy_); (case side2 => exact (rr_ HO1.out).2.1); rintro e w3 ⟨rfl, hb⟩; refine ⟨_, rfl, ?_⟩; have BK3' := A0_ (kb_ (g := g3) (o := .cells #[.slice A0_3 l0_3.length c0_3] 22 (0, 0)) (u1_ BK2) hb); clear BK2; have BK2 := BK3'; clear BK3'; replace HO1 := A0_ (Kd.R_below bsm5_ hb); replace BK1 := A0_ (kb_ (g := g1) (o := .cells #[.int .i64 a0_0, .bool a0_1, .slice A0_2 l0_2.length c0_2, V3, V4] 32 (0, 0)) (u1_ BK1) hb); replace HB := hb_ hb brt4_; (try clear hb); have hd14 : w3.cell? ⟨g3, 0, none⟩ = some (.slice A0_3 l0_3.length c0_3) := (kc_ BK2.out 0).trans rfl; have hcz1_0 : w3.cell? ⟨g1, 0, none⟩ = some (.int .i64 a0_0) := (kc_ BK1.out 0).trans rfl; have hcz1_1 : w3.cell? ⟨g1, 1, none⟩ = some (.bool a0_1) := (kc_ BK1.out 1).trans rfl; have hcz1_2 : w3.cell? ⟨g1, 2, none⟩ = some (.slice A0_2 l0_2.length c0_2) := (kc_ BK1.out 2).trans rfl; have hfz1 := fz5_ BK1) | (go_at_call 77; (with_reducible refine (slices_Contains_int_int.calls k _ _ l0_3 a1 t2 _ ?side1 ?side2 A6.out).mono ?_); (case side1 => exact bkan_); (case side2 => exact HC0_3.out); rintro e w' ⟨rfl, ⟨nd, rfl⟩⟩))
 go_ret
 exact ⟨bnwh_, brt4_⟩

def impl_House_guests.f (k : Nat) (a0_0 : Int) (a0_1 : Bool) (l0_2 : List Int) (l0_3 : List Int) (a0_4 : Int) (a1_0 : Int) (a1_1 : Int) (a1_2 : Int) : Option (List Int × Bool) := (slices_Clone_int_int.f l0_3).bind fun t488 => ((slices_Index_int_int.f k t488 a1_1).bind fun t492 => (if a1_0 = 1 then ((impl_NextPolite.f k a0_0 a0_1 l0_2).bind fun bt493 => (if t488.length < 17592186044416 then ((some (t488 ++ [bt493.1] : List Int)).bind fun y495 => (if bt493.2 = true then (if a1_1 = 0 then (some (y495, (a1_2 == 0))) else (some (y495, false))) else (some (y495, false)))) else (none))) else (if a1_0 = 2 then (if t488.length < 17592186044416 then ((some (t488 ++ [a1_1] : List Int)).bind fun y498 => ((impl_houseFree.f k a0_0 a0_1 l0_2 t488 a1_1).bind fun t501 => (if t501 = true then (some (y498, (a1_2 == 0))) else (some (y498, false))))) else (none)) else (if a1_0 = 3 then (if t492 < 0 then (some (([] : List Int), false)) else ((slices_Delete_int_int.f t488 t492 (wrap64 (t492 + 1))).bind fun t502 => (some (t502, (a1_2 == 0))))) else (if a1_0 = 4 then (if t492 < 0 then (some (([] : List Int), false)) else ((impl_houseFree.f k a0_0 a0_1 l0_2 t488 a1_2).bind fun t505 => (if t505 = true then (if 0 ≤ t492 then (if t492 < (t488.length : Int) then (some ((t488.set (t492 : Int).toNat a1_2), true)) else (none)) else (none)) else (some (([] : List Int), false))))) else (if a1_0 = 5 then ((some (([] : List Int) : List Int)).bind fun y507 => (if a1_1 = 0 then (some (y507, (a1_2 == 0))) else (some (y507, false)))) else (some (([] : List Int), false))))))))
theorem impl_House_guests.mono : ∀ a0 a1 a2 a3 a4 a5 a6 a7 k, LeO (impl_House_guests.f k a0 a1 a2 a3 a4 a5 a6 a7) (impl_House_guests.f (k + 1) a0 a1 a2 a3 a4 a5 a6 a7) := by
 intro a0 a1 a2 a3 a4 a5 a6 a7 k
 unfold impl_House_guests.f
 repeat' with_reducible first | exact impl_NextPolite.mono .. | exact impl_houseFree.mono .. | exact slices_Index_int_int.mono .. | exact LeO.refl .. | exact LeO.none .. | refine LeO.ite ?_ ?_ | refine LeO.bind ?_ (fun _ => ?_)
def impl_House_guests.T7 : Bool × List (List Nat × List Nat) := (true, [([], []), ([], []), ([1], [1]), ([0, 2], [0, 2]), ([], []), ([4, 3], [4]), ([5], [5]), ([6, 5], [5, 6]), ([7, 5], [5, 7]), ([5, 8], [5, 8]), ([9, 5], [9]), ([10], [10]), ([11, 10], [10, 11]), ([12, 10], [10, 12]), ([10, 13], [10, 13]), ([3, 10, 0, 1, 2, 3], [3]), ([14, 15, 0, 1, 2, 3, 4, 5, 6, 7, 8, 9, 10, 11, 12, 13, 14, 15], [14])])
def impl_House_guests.B7 : List Nat := [0, 0, 2, 7, 0, 31, 63, 127, 255, 511, 1023, 2047, 4095, 8191, 16383, 2047, 65535]
theorem impl_House_guests.tab7 : rtab .any (opsOf Tryz.f52 7) = impl_House_guests.T7 := by kernel_rfl
theorem impl_House_guests.bits7 : waitsOk impl_House_guests.T7.2 impl_House_guests.B7 = true := by kernel_rfl
def impl_House_guests.T9 : Bool × List (List Nat × List Nat) := (true, [([], []), ([], []), ([1], [1]), ([2], [2]), ([0, 3], [0, 3]), ([], []), ([], []), ([6], [6]), ([5, 7, 4], [5, 7]), ([8, 8], [8]), ([9], [9]), ([10, 9], [9, 10]), ([11, 9], [9, 11]), ([9, 12], [9, 12]), ([4, 9, 0, 1, 2, 3, 4], [4]), ([13, 14, 0, 1, 2, 3, 4, 5, 6, 7, 8, 9, 10, 11, 12, 13, 14], [13])])
def impl_House_guests.B9 : List Nat := [0, 0, 2, 6, 15, 0, 0, 64, 255, 511, 1023, 2047, 4095, 8191, 1023, 32767]
theorem impl_House_guests.tab9 : rtab .any (opsOf Tryz.f52 9) = impl_House_guests.T9 := by kernel_rfl
theorem impl_House_guests.bits9 : waitsOk impl_House_guests.T9.2 impl_House_guests.B9 = true := by kernel_rfl
def impl_House_guests.T13 : Bool × List (List Nat × List Nat) := (true, [([], []), ([], []), ([], []), ([2], [2]), ([0, 1, 3], [0, 1, 3]), ([], []), ([5], [5]), ([6], [6]), ([4, 4, 0, 1, 2, 3, 4], [4]), ([7, 8, 0, 1, 2, 3, 4, 5, 6, 7, 8], [7])])
def impl_House_guests.B13 : List Nat := [0, 0, 0, 4, 15, 0, 32, 96, 31, 511]
theorem impl_House_guests.tab13 : rtab .any (opsOf Tryz.f52 13) = impl_House_guests.T13 := by kernel_rfl
theorem impl_House_guests.bits13 : waitsOk impl_House_guests.T13.2 impl_House_guests.B13 = true := by kernel_rfl
def impl_House_guests.T20 : Bool × List (List Nat × List Nat) := (true, [([], []), ([], []), ([1], [1]), ([2], [2]), ([3], [3]), ([4], [4]), ([5, 4], [4, 5]), ([6, 4], [4, 6]), ([4, 7], [4, 7]), ([0, 4, 0], [0]), ([8, 9, 0, 1, 2, 3, 4, 5, 6, 7, 8, 9], [8])])
def impl_House_guests.B20 : List Nat := [0, 0, 2, 6, 14, 30, 62, 126, 254, 31, 1023]
theorem impl_House_guests.tab20 : rtab .any (opsOf Tryz.f52 20) = impl_House_guests.T20 := by kernel_rfl
theorem impl_House_guests.bits20 : waitsOk impl_House_guests.T20.2 impl_House_guests.B20 = true := by kernel_rfl
theorem impl_House_guests.calls (k : Nat) (a0_0 : Int) (a0_1 : Bool) (A0_2 : Option Addr) (c0_2 : Nat) (l0_2 : List Int) (A0_3 : Option Addr) (c0_3 : Nat) (l0_3 : List Int) (a0_4 : Int) (a1_0 : Int) (a1_1 : Int) (a1_2 : Int) (r1 : List Int) (r2 : Bool) (w : World) (hr0_2 : Kd.C (Kd.int .i64) w A0_2 l0_2.length l0_2) (hc0_2 : l0_2.length ≤ c0_2) (hr0_3 : Kd.C (Kd.int .i64) w A0_3 l0_3.length l0_3) (hc0_3 : l0_3.length ≤ c0_3) (hG : TabOK w) (h : impl_House_guests.f k a0_0 a0_1 l0_2 l0_3 a0_4 a1_0 a1_1 a1_2 = some (r1, r2)) :
  Calls Tryz.prog 52 #[.agg #[.int .i64 a0_0, .bool a0_1, .slice A0_2 l0_2.length c0_2, .slice A0_3 l0_3.length c0_3, .int .i64 a0_4], .agg #[.int .i64 a1_0, .int .i64 a1_1, .int .i64 a1_2]] w fun e w' => ∃ v0_ : Value, e = .returned (.tuple #[v0_, .bool r2]) ∧ Kd.R (Kd.int .i64) 3 w' w.heap.size (fun _ => True) v0_ r1 ∧ Below w.heap.size w w' := by
 have HG0 := A0_ hG
 clear hG
 have hu_26_ := Tryz.underlying32
 have hu_45_ := Tryz.underlying50
 have hu_24_ := Tryz.underlying30
 have HR0_2 := A0_ hr0_2
 have HC0_2 := A0_ hc0_2
 clear hr0_2 hc0_2
 have HR0_3 := A0_ hr0_3
 have HC0_3 := A0_ hc0_3
 clear hr0_3 hc0_3
 have HB := A0_ (Below.refl w.heap.size w)
 have H : ((slices_Clone_int_int.f l0_3).bind fun t1 => ((slices_Index_int_int.f k t1 a1_1).bind fun t2 => (if a1_0 = 1 then ((impl_NextPolite.f k a0_0 a0_1 l0_2).bind fun bt1 => (if t1.length < 17592186044416 then ((some (t1 ++ [bt1.1] : List Int)).bind fun y1 => (if bt1.2 = true then (if a1_1 = 0 then (some (y1, (a1_2 == 0))) else (some (y1, false))) else (some (y1, false)))) else (none))) else (if a1_0 = 2 then (if t1.length < 17592186044416 then ((some (t1 ++ [a1_1] : List Int)).bind fun y2 => ((impl_houseFree.f k a0_0 a0_1 l0_2 t1 a1_1).bind fun t3 => (if t3 = true then (some (y2, (a1_2 == 0))) else (some (y2, false))))) else (none)) else (if a1_0 = 3 then (if t2 < 0 then (some (([] : List Int), false)) else ((slices_Delete_int_int.f t1 t2 (wrap64 (t2 + 1))).bind fun t4 => (some (t4, (a1_2 == 0))))) else (if a1_0 = 4 then (if t2 < 0 then (some (([] : List Int), false)) else ((impl_houseFree.f k a0_0 a0_1 l0_2 t1 a1_2).bind fun t5 => (if t5 = true then (if 0 ≤ t2 then (if t2 < (t1.length : Int) then (some ((t1.set (t2 : Int).toNat a1_2), true)) else (none)) else (none)) else (some (([] : List Int), false))))) else (if a1_0 = 5 then ((some (([] : List Int) : List Int)).bind fun y3 => (if a1_1 = 0 then (some (y3, (a1_2 == 0))) else (some (y3, false)))) else (some (([] : List Int), false))))))))) = some (r1, r2) := h
 clear h
 obtain ⟨t1, A2, H⟩ := o1_ H
 obtain ⟨t2, A4, H⟩ := o1_ H
 by_cases c1 : a1_0 = 1
 ·rw [if_pos c1] at H
  obtain ⟨c1b0, c1b1⟩ := et_ c1
  clear c1
  obtain ⟨⟨t6, t7⟩, A6, H⟩ := o1_ H
  by_cases c2 : t1.length < 17592186044416
  case neg =>
   rw [if_neg c2] at H
   exact absurd H bxka_
  rw [if_pos c2] at H
  have LMc1 := A0_ c2
  clear c2
  obtain ⟨y1, hy1⟩ : ∃ y_ : List Int, y_ = (t1 ++ [t6]) := ⟨_, rfl⟩
  replace H : (if t7 = true then (if a1_1 = 0 then (some (y1, (a1_2 == 0))) else (some (y1, false))) else (some (y1, false))) = some (r1, r2) := bgiq_
  have Ny1 := A0_ hy1
  clear hy1
  by_cases c3 : t7 = true
  case neg =>
   obtain rfl := bf_.mpr c3
   rw [if_neg ft_] at H
   simp only [sj_, pj_] at H
   obtain ⟨rfl, rfl⟩ := H
   go_enter Tryz.func52, Tryz.ntmps52
   try go_wp2_with (first | ((with_reducible refine gd_ (N := 2) rfl ?_); refine bx_ 2 #[.int .i64 a0_0, .bool a0_1, .slice A0_2 l0_2.length c0_2, .slice A0_3 l0_3.length c0_3, .int .i64 a0_4] 32 ?_; intro gb1 hg w1 BK1 hb; have GW1 := ge_ hg brt4_; have GE1 := GW1; replace HB := hb_ hb brt4_; clear hb hg) | ((with_reducible refine gd_ (N := 3) rfl ?_); refine bx_ 3 #[.int .i64 a1_0, .int .i64 a1_1, .int .i64 a1_2] 50 ?_; intro gb2 hg w2 BK2 hb; have GW2 := ge_ hg be6g_; have GE2 := GW2; replace HB := hb_ hb be6g_; have NB1_2 := nl_ hg BK1; have NB2_1 := ng_ hg BK1; replace BK1 := k1_ BK1 hb; clear hb hg; have hnb1 := NB1_2.out; have hnc1 := NB2_1.out; have hcz1 := z5_ BK1) | ((with_reducible refine gc_ (f := 74) rfl ?_); refine gl_ 13 Tryz.func74 #[.slice A0_3 l0_3.length c0_3] ?_; (with_reducible refine (slices_Clone_int_int.calls _ _ l0_3 t1 _ ?side1 ?side2 A2.out).mono ?_); (case side1 => exact bkan_); (case side2 => exact HC0_3.out); rintro e w3 ⟨v1, rfl, ho0, hb⟩; refine ⟨_, rfl, ?_⟩; have HO1 := A0_ (Kd.R_lower ho0 (bz_ bfnq_)); replace BK1 := k1_ BK1 hb; replace BK2 := k1_ BK2 hb; replace HB := hb_ hb bfnq_; (try clear hb); (try clear ho0)) | ((with_reducible refine gd_ (N := 6) rfl ?_); refine bx_ 6 #[.slice none 0 0] 22 ?_; intro gb3 hg w4 BK3 hb; replace HO1 := A0_ (Kd.R_below bsm5_ hb); have GW3 := ge_ hg bfnq_; have GE3 := GW3; replace HB := hb_ hb bfnq_; have NB1_3 := nl_ hg BK1; have NB3_1 := ng_ hg BK1; replace BK1 := k1_ BK1 hb; have NB2_3 := nl_ hg BK2; have NB3_2 := ng_ hg BK2; replace BK2 := k1_ BK2 hb; clear hb hg; obtain ⟨Ao1, co1, eo1⟩ := Kd.R_slice HO1.out; subst eo1; have HCAP := A0_ ((rr_ HO1.out).2.1); have hnb2 := NB3_1.out; have hnc2 := NB1_3.out; have hnb3 := NB3_2.out; have hnc3 := NB2_3.out; have hcz2 := z1_ BK3; have hcz3 := z3_ BK2) | ((with_reducible refine gc_ (f := 78) rfl ?_); refine gl_ 18 Tryz.func78 #[.slice Ao1 t1.length co1, .int .i64 a1_1] ?_; (with_reducible refine (slices_Index_int_int.calls k _ _ t1 a1_1 t2 _ ?side1 ?side2 A4.out).mono ?_); (case side1 => refine (rr_ (e := 3) (base := w.heap.size) (ok := fun k_ => True) (n := t1.length) (c := co1) ?_).2.2; exact bn35_); (case side2 => exact (rr_ HO1.out).2.1); rintro e w' ⟨rfl, ⟨nd, rfl⟩⟩; refine ⟨_, rfl, ?_⟩; have hcz4 := z5_ BK1) | ((with_reducible refine gc_ (f := 28) rfl ?_); refine gl_ 26 Tryz.func28 #[.agg #[.int .i64 a0_0, .bool a0_1, .slice A0_2 l0_2.length c0_2]] ?_; (with_reducible refine (impl_NextPolite.calls k a0_0 a0_1 _ _ l0_2 t6 false _ ?side1 ?side2 bpiy_ A6.out).mono ?_); (case side1 => exact cb_ HR0_2.out b850_); (case side2 => exact HC0_2.out); rintro e w5 ⟨rfl, hb⟩; refine ⟨_, rfl, ?_⟩; replace HO1 := A0_ (Kd.R_below bn35_ hb); replace BK1 := k1_ BK1 hb; replace BK2 := k1_ BK2 hb; replace BK3 := k2_ (.cells #[.slice Ao1 t1.length co1] 22 (0, 0)) BK3 hb; replace HB := hb_ hb b850_; (try clear hb)))
   replace HO1 := A0_ (rd_ HO1.out)
   replace BK1 := A0_ (kd_ BK1.out)
   replace BK2 := A0_ (kd_ BK2.out)
   replace BK3 := A0_ (kd_ BK3.out)
   replace HB := A0_ (bd_ HB.out)
   refine start_ (n := 17) (S := fun w' => w'.cell? ⟨gb3, 0, none⟩ = some (.slice Ao1 t1.length co1)) (ds := []) #[false, false, false, false, false, false, false, false, false, false, false, false, false, false, false, false, false] bfqv_ rfl rfl ((kc_ BK3.out 0).trans rfl) (fun hHeld => ?_); refine with_tabW impl_House_guests.tab7 impl_House_guests.bits7 (fun HT_ HW_ => ?_)
   generalize w5.drew = w6 at HO1 BK1 BK2 BK3 HB hHeld ⊢
   refine pu_ 1 30 ?_
   refine pu_ 4 33 ?_
   refine tk_ 0 29 hHeld ?_
   refine on_ 2 (some 31) (fun K hK => ?_)
   refine value_ (w1 := ?_) (v := ?_) (by rfl) rfl ?_ ?_
   rotate_left 2
   ·go_simp
    constructor
    ·rfl
    rfl
   refine hK.out _ _ ((kc_ (ka_ BK3.out _) 0).trans rfl) (fun hHeld => ?_)
   clear hK K
   refine nm_ 31 ?_
   refine on_ 3 (some 32) (fun K hK => ?_)
   refine Kd.R_append_step (Kd.int .i64) (w0 := w) w.heap.size (by rfl) (.tmp 29) (.tmp 31) 22 3 (.int .i64 0) 8 rfl Tryz.underlying22 info3 rfl bi3y_ bh19_ (.slice Ao1 t1.length co1) t1 t6 [.int .i64 t6] (fun _ => True) (fun _ => False) rfl rfl ?aP (fun _ hk => hk.elim) ?aF ?aO ?aB ?aS ?aL ?_
   (case aP => exact rfl)
   (case aB => exact b850_)
   (case aF => exact (fun _ _ => trivial))
   (case aO => exact bsm5_)
   (case aS => exact (bz_ b850_))
   (case aL => have := LMc1.out; omega)
   intro v2 w7 ho hb hg hat
   rw [← Ny1.out] at ho
   have n0_ := A0_ (blk_grown (g := gb1) (o := .cells #[.int .i64 a0_0, .bool a0_1, .slice A0_2 l0_2.length c0_2, .slice A0_3 l0_3.length c0_3, .int .i64 a0_4] 32 (0, 0)) (u1_ BK1) hg (Kd.R_ne HO1.out BK1.out bi3y_))
   have n1_ := A0_ (blk_grown (g := gb2) (o := .cells #[.int .i64 a1_0, .int .i64 a1_1, .int .i64 a1_2] 50 (0, 0)) (u1_ BK2) hg (Kd.R_ne HO1.out BK2.out bi3y_))
   have n2_ := A0_ (blk_grown (g := gb3) (o := .cells #[.slice Ao1 t1.length co1] 22 (0, 0)) (u1_ BK3) hg (Kd.R_ne HO1.out BK3.out bi3y_))
   have n3_ := A0_ (hb)
   have n4_ := A0_ (ho)
   clear BK1
   clear BK2
   clear BK3
   clear HB
   clear HO1
   have BK1 := n0_
   have BK2 := n1_
   have BK3 := n2_
   have HB := n3_
   have HO2 := n4_
   clear n0_ n1_ n2_ n3_ n4_
   clear ho hb hg hat
   refine hK.out _ _ ((kc_ BK3.out 0).trans rfl) (fun hHeld => ?_)
   clear hK K
   refine nm_ 32 ?_
   refine pu_ 5 34 ?_
   refine pv_ 6 35 ?_
   refine pv_ 7 36 ?_
   refine pv_ 8 37 ?_
   refine pu_ 9 38 ?_
   refine pu_ 10 39 ?_
   refine pv_ 11 40 ?_
   refine pv_ 12 41 ?_
   refine pv_ 13 42 ?_
   refine pu_ 14 43 ?_
   refine pu_ 15 4 ?_
   refine pu_ 16 5 ?_
   refine dn_ ?_
   try go_wp2
   go_ret2
   exact ⟨_, bnwh_, b9so_, b850_⟩
  subst c3
  rw [if_pos rfl] at H
  by_cases c4 : a1_1 = 0
  case neg =>
   rw [if_neg c4] at H
   obtain ⟨c4b0, c4b1⟩ := ef_ c4
   simp only [sj_, pj_] at H
   obtain ⟨rfl, rfl⟩ := H
   go_enter Tryz.func52, Tryz.ntmps52
   try go_wp2_with (first | ((with_reducible refine gd_ (N := 2) rfl ?_); refine bx_ 2 #[.int .i64 a0_0, .bool a0_1, .slice A0_2 l0_2.length c0_2, .slice A0_3 l0_3.length c0_3, .int .i64 a0_4] 32 ?_; intro gb1 hg w1 BK1 hb; have GW1 := ge_ hg brt4_; have GE1 := GW1; replace HB := hb_ hb brt4_; clear hb hg) | ((with_reducible refine gd_ (N := 3) rfl ?_); refine bx_ 3 #[.int .i64 a1_0, .int .i64 a1_1, .int .i64 a1_2] 50 ?_; intro gb2 hg w2 BK2 hb; have GW2 := ge_ hg be6g_; have GE2 := GW2; replace HB := hb_ hb be6g_; have NB1_2 := nl_ hg BK1; have NB2_1 := ng_ hg BK1; replace BK1 := k1_ BK1 hb; clear hb hg; have hnb1 := NB1_2.out; have hnc1 := NB2_1.out; have hcz1 := z5_ BK1) | ((with_reducible refine gc_ (f := 74) rfl ?_); refine gl_ 13 Tryz.func74 #[.slice A0_3 l0_3.length c0_3] ?_; (with_reducible refine (slices_Clone_int_int.calls _ _ l0_3 t1 _ ?side1 ?side2 A2.out).mono ?_); (case side1 => exact bkan_); (case side2 => exact HC0_3.out); rintro e w3 ⟨v1, rfl, ho0, hb⟩; refine ⟨_, rfl, ?_⟩; have HO1 := A0_ (Kd.R_lower ho0 (bz_ bfnq_)); replace BK1 := k1_ BK1 hb; replace BK2 := k1_ BK2 hb; replace HB := hb_ hb bfnq_; (try clear hb); (try clear ho0)) | ((with_reducible refine gd_ (N := 6) rfl ?_); refine bx_ 6 #[.slice none 0 0] 22 ?_; intro gb3 hg w4 BK3 hb; replace HO1 := A0_ (Kd.R_below bsm5_ hb); have GW3 := ge_ hg bfnq_; have GE3 := GW3; replace HB := hb_ hb bfnq_; have NB1_3 := nl_ hg BK1; have NB3_1 := ng_ hg BK1; replace BK1 := k1_ BK1 hb; have NB2_3 := nl_ hg BK2; have NB3_2 := ng_ hg BK2; replace BK2 := k1_ BK2 hb; clear hb hg; obtain ⟨Ao1, co1, eo1⟩ := Kd.R_slice HO1.out; subst eo1; have HCAP := A0_ ((rr_ HO1.out).2.1); have hnb2 := NB3_1.out; have hnc2 := NB1_3.out; have hnb3 := NB3_2.out; have hnc3 := NB2_3.out; have hcz2 := z1_ BK3; have hcz3 := z3_ BK2) | ((with_reducible refine gc_ (f := 78) rfl ?_); refine gl_ 18 Tryz.func78 #[.slice Ao1 t1.length co1, .int .i64 a1_1] ?_; (with_reducible refine (slices_Index_int_int.calls k _ _ t1 a1_1 t2 _ ?side1 ?side2 A4.out).mono ?_); (case side1 => refine (rr_ (e := 3) (base := w.heap.size) (ok := fun k_ => True) (n := t1.length) (c := co1) ?_).2.2; exact bn35_); (case side2 => exact (rr_ HO1.out).2.1); rintro e w' ⟨rfl, ⟨nd, rfl⟩⟩; refine ⟨_, rfl, ?_⟩; have hcz4 := z5_ BK1) | ((with_reducible refine gc_ (f := 28) rfl ?_); refine gl_ 26 Tryz.func28 #[.agg #[.int .i64 a0_0, .bool a0_1, .slice A0_2 l0_2.length c0_2]] ?_; (with_reducible refine (impl_NextPolite.calls k a0_0 a0_1 _ _ l0_2 t6 true _ ?side1 ?side2 bpiy_ A6.out).mono ?_); (case side1 => exact cb_ HR0_2.out b850_); (case side2 => exact HC0_2.out); rintro e w5 ⟨rfl, hb⟩; refine ⟨_, rfl, ?_⟩; replace HO1 := A0_ (Kd.R_below bn35_ hb); replace BK1 := k1_ BK1 hb; replace BK2 := k1_ BK2 hb; replace BK3 := k2_ (.cells #[.slice Ao1 t1.length co1] 22 (0, 0)) BK3 hb; replace HB := hb_ hb b850_; (try clear hb)))
   replace HO1 := A0_ (rd_ HO1.out)
   replace BK1 := A0_ (kd_ BK1.out)
   replace BK2 := A0_ (kd_ BK2.out)
   replace BK3 := A0_ (kd_ BK3.out)
   replace HB := A0_ (bd_ HB.out)
   refine start_ (n := 17) (S := fun w' => w'.cell? ⟨gb3, 0, none⟩ = some (.slice Ao1 t1.length co1) ∧ w'.cell? ⟨gb2, 0, none⟩ = some (.int .i64 a1_0) ∧ w'.cell? ⟨gb2, 1, none⟩ = some (.int .i64 a1_1) ∧ w'.cell? ⟨gb2, 2, none⟩ = some (.int .i64 a1_2)) (ds := []) #[false, false, false, false, false, false, false, false, false, false, false, false, false, false, false, false, false] bfqv_ rfl rfl ⟨(kc_ BK3.out 0).trans rfl, (kc_ BK2.out 0).trans rfl, (kc_ BK2.out 1).trans rfl, (kc_ BK2.out 2).trans rfl⟩ (fun hHeld => ?_); refine with_tabW impl_House_guests.tab7 impl_House_guests.bits7 (fun HT_ HW_ => ?_)
   generalize w5.drew = w6 at HO1 BK1 BK2 BK3 HB hHeld ⊢
   refine pu_ 1 30 ?_
   refine pu_ 4 33 ?_
   refine tk_ 0 29 hHeld ?_
   refine on_ 2 (some 31) (fun K hK => ?_)
   refine value_ (w1 := ?_) (v := ?_) (by rfl) rfl ?_ ?_
   rotate_left 2
   ·go_simp
    constructor
    ·rfl
    rfl
   refine hK.out _ _ ⟨(kc_ (ka_ BK3.out _) 0).trans rfl, (kc_ (ka_ BK2.out _) 0).trans rfl, (kc_ (ka_ BK2.out _) 1).trans rfl, (kc_ (ka_ BK2.out _) 2).trans rfl⟩ (fun hHeld => ?_)
   clear hK K
   refine nm_ 31 ?_
   refine on_ 3 (some 32) (fun K hK => ?_)
   refine Kd.R_append_step (Kd.int .i64) (w0 := w) w.heap.size (by rfl) (.tmp 29) (.tmp 31) 22 3 (.int .i64 0) 8 rfl Tryz.underlying22 info3 rfl bi3y_ bh19_ (.slice Ao1 t1.length co1) t1 t6 [.int .i64 t6] (fun _ => True) (fun _ => False) rfl rfl ?aP (fun _ hk => hk.elim) ?aF ?aO ?aB ?aS ?aL ?_
   (case aP => exact rfl)
   (case aB => exact b850_)
   (case aF => exact (fun _ _ => trivial))
   (case aO => exact bsm5_)
   (case aS => exact (bz_ b850_))
   (case aL => have := LMc1.out; omega)
   intro v2 w7 ho hb hg hat
   rw [← Ny1.out] at ho
   have n0_ := A0_ (blk_grown (g := gb1) (o := .cells #[.int .i64 a0_0, .bool a0_1, .slice A0_2 l0_2.length c0_2, .slice A0_3 l0_3.length c0_3, .int .i64 a0_4] 32 (0, 0)) (u1_ BK1) hg (Kd.R_ne HO1.out BK1.out bi3y_))
   have n1_ := A0_ (blk_grown (g := gb2) (o := .cells #[.int .i64 a1_0, .int .i64 a1_1, .int .i64 a1_2] 50 (0, 0)) (u1_ BK2) hg (Kd.R_ne HO1.out BK2.out bi3y_))
   have n2_ := A0_ (blk_grown (g := gb3) (o := .cells #[.slice Ao1 t1.length co1] 22 (0, 0)) (u1_ BK3) hg (Kd.R_ne HO1.out BK3.out bi3y_))
   have n3_ := A0_ (hb)
   have n4_ := A0_ (ho)
   clear BK1
   clear BK2
   clear BK3
   clear HB
   clear HO1
   have BK1 := n0_
   have BK2 := n1_
   have BK3 := n2_
   have HB := n3_
   have HO2 := n4_
   clear n0_ n1_ n2_ n3_ n4_
   clear ho hb hg hat
   refine hK.out _ _ ⟨(kc_ BK3.out 0).trans rfl, (kc_ BK2.out 0).trans rfl, (kc_ BK2.out 1).trans rfl, (kc_ BK2.out 2).trans rfl⟩ (fun hHeld => ?_)
   clear hK K
   refine nm_ 32 ?_
   refine pu_ 5 34 ?_
   refine pu_ 6 35 ?_
   refine tk_ 7 36 hHeld ?_
   refine pu_ 8 37 ?_
   refine pu_ 9 38 ?_
   refine pu_ 10 39 ?_
   refine pv_ 11 40 ?_
   refine pv_ 12 41 ?_
   refine pv_ 13 42 ?_
   refine pu_ 14 43 ?_
   refine pu_ 15 4 ?_
   refine pu_ 16 5 ?_
   refine dn_ ?_
   try go_wp2
   go_ret2
   exact ⟨_, bnwh_, b9so_, b850_⟩
  rw [if_pos c4] at H
  obtain ⟨c4b0, c4b1⟩ := et_ c4
  clear c4
  simp only [sj_, pj_] at H
  obtain ⟨rfl, rfl⟩ := H
  go_enter Tryz.func52, Tryz.ntmps52
  try go_wp2_with (first | ((with_reducible refine gd_ (N := 2) rfl ?_); refine bx_ 2 #[.int .i64 a0_0, .bool a0_1, .slice A0_2 l0_2.length c0_2, .slice A0_3 l0_3.length c0_3, .int .i64 a0_4] 32 ?_; intro gb1 hg w1 BK1 hb; have GW1 := ge_ hg brt4_; have GE1 := GW1; replace HB := hb_ hb brt4_; clear hb hg) | ((with_reducible refine gd_ (N := 3) rfl ?_); refine bx_ 3 #[.int .i64 a1_0, .int .i64 a1_1, .int .i64 a1_2] 50 ?_; intro gb2 hg w2 BK2 hb; have GW2 := ge_ hg be6g_; have GE2 := GW2; replace HB := hb_ hb be6g_; have NB1_2 := nl_ hg BK1; have NB2_1 := ng_ hg BK1; replace BK1 := k1_ BK1 hb; clear hb hg; have hnb1 := NB1_2.out; have hnc1 := NB2_1.out; have hcz1 := z5_ BK1) | ((with_reducible refine gc_ (f := 74) rfl ?_); refine gl_ 13 Tryz.func74 #[.slice A0_3 l0_3.length c0_3] ?_; (with_reducible refine (slices_Clone_int_int.calls _ _ l0_3 t1 _ ?side1 ?side2 A2.out).mono ?_); (case side1 => exact bkan_); (case side2 => exact HC0_3.out); rintro e w3 ⟨v1, rfl, ho0, hb⟩; refine ⟨_, rfl, ?_⟩; have HO1 := A0_ (Kd.R_lower ho0 (bz_ bfnq_)); replace BK1 := k1_ BK1 hb; replace BK2 := k1_ BK2 hb; replace HB := hb_ hb bfnq_; (try clear hb); (try clear ho0)) | ((with_reducible refine gd_ (N := 6) rfl ?_); refine bx_ 6 #[.slice none 0 0] 22 ?_; intro gb3 hg w4 BK3 hb; replace HO1 := A0_ (Kd.R_below bsm5_ hb); have GW3 := ge_ hg bfnq_; have GE3 := GW3; replace HB := hb_ hb bfnq_; have NB1_3 := nl_ hg BK1; have NB3_1 := ng_ hg BK1; replace BK1 := k1_ BK1 hb; have NB2_3 := nl_ hg BK2; have NB3_2 := ng_ hg BK2; replace BK2 := k1_ BK2 hb; clear hb hg; obtain ⟨Ao1, co1, eo1⟩ := Kd.R_slice HO1.out; subst eo1; have HCAP := A0_ ((rr_ HO1.out).2.1); have hnb2 := NB3_1.out; have hnc2 := NB1_3.out; have hnb3 := NB3_2.out; have hnc3 := NB2_3.out; have hcz2 := z1_ BK3; have hcz3 := z3_ BK2) | ((with_reducible refine gc_ (f := 78) rfl ?_); refine gl_ 18 Tryz.func78 #[.slice Ao1 t1.length co1, .int .i64 a1_1] ?_; (with_reducible refine (slices_Index_int_int.calls k _ _ t1 a1_1 t2 _ ?side1 ?side2 A4.out).mono ?_); (case side1 => refine (rr_ (e := 3) (base := w.heap.size) (ok := fun k_ => True) (n := t1.length) (c := co1) ?_).2.2; exact bn35_); (case side2 => exact (rr_ HO1.out).2.1); rintro e w' ⟨rfl, ⟨nd, rfl⟩⟩; refine ⟨_, rfl, ?_⟩; have hcz4 := z5_ BK1) | ((with_reducible refine gc_ (f := 28) rfl ?_); refine gl_ 26 Tryz.func28 #[.agg #[.int .i64 a0_0, .bool a0_1, .slice A0_2 l0_2.length c0_2]] ?_; (with_reducible refine (impl_NextPolite.calls k a0_0 a0_1 _ _ l0_2 t6 true _ ?side1 ?side2 bpiy_ A6.out).mono ?_); (case side1 => exact cb_ HR0_2.out b850_); (case side2 => exact HC0_2.out); rintro e w5 ⟨rfl, hb⟩; refine ⟨_, rfl, ?_⟩; replace HO1 := A0_ (Kd.R_below bn35_ hb); replace BK1 := k1_ BK1 hb; replace BK2 := k1_ BK2 hb; replace BK3 := k2_ (.cells #[.slice Ao1 t1.length co1] 22 (0, 0)) BK3 hb; replace HB := hb_ hb b850_; (try clear hb)))
  replace HO1 := A0_ (rd_ HO1.out)
  replace BK1 := A0_ (kd_ BK1.out)
  replace BK2 := A0_ (kd_ BK2.out)
  replace BK3 := A0_ (kd_ BK3.out)
  replace HB := A0_ (bd_ HB.out)
  refine start_ (n := 17) (S := fun w' => w'.cell? ⟨gb3, 0, none⟩ = some (.slice Ao1 t1.length co1) ∧ w'.cell? ⟨gb2, 0, none⟩ = some (.int .i64 a1_0) ∧ w'.cell? ⟨gb2, 1, none⟩ = some (.int .i64 a1_1) ∧ w'.cell? ⟨gb2, 2, none⟩ = some (.int .i64 a1_2)) (ds := []) #[false, false, false, false, false, false, false, false, false, false, false, false, false, false, false, false, false] bfqv_ rfl rfl ⟨(kc_ BK3.out 0).trans rfl, (kc_ BK2.out 0).trans rfl, (kc_ BK2.out 1).trans rfl, (kc_ BK2.out 2).trans rfl⟩ (fun hHeld => ?_); refine with_tabW impl_House_guests.tab7 impl_House_guests.bits7 (fun HT_ HW_ => ?_)
  generalize w5.drew = w6 at HO1 BK1 BK2 BK3 HB hHeld ⊢
  refine pu_ 1 30 ?_
  refine pu_ 4 33 ?_
  refine tk_ 0 29 hHeld ?_
  refine on_ 2 (some 31) (fun K hK => ?_)
  refine value_ (w1 := ?_) (v := ?_) (by rfl) rfl ?_ ?_
  rotate_left 2
  ·go_simp
   constructor
   ·rfl
   rfl
  refine hK.out _ _ ⟨(kc_ (ka_ BK3.out _) 0).trans rfl, (kc_ (ka_ BK2.out _) 0).trans rfl, (kc_ (ka_ BK2.out _) 1).trans rfl, (kc_ (ka_ BK2.out _) 2).trans rfl⟩ (fun hHeld => ?_)
  clear hK K
  refine nm_ 31 ?_
  refine on_ 3 (some 32) (fun K hK => ?_)
  refine Kd.R_append_step (Kd.int .i64) (w0 := w) w.heap.size (by rfl) (.tmp 29) (.tmp 31) 22 3 (.int .i64 0) 8 rfl Tryz.underlying22 info3 rfl bi3y_ bh19_ (.slice Ao1 t1.length co1) t1 t6 [.int .i64 t6] (fun _ => True) (fun _ => False) rfl rfl ?aP (fun _ hk => hk.elim) ?aF ?aO ?aB ?aS ?aL ?_
  (case aP => exact rfl)
  (case aB => exact b850_)
  (case aF => exact (fun _ _ => trivial))
  (case aO => exact bsm5_)
  (case aS => exact (bz_ b850_))
  (case aL => have := LMc1.out; omega)
  intro v2 w7 ho hb hg hat
  rw [← Ny1.out] at ho
  have n0_ := A0_ (blk_grown (g := gb1) (o := .cells #[.int .i64 a0_0, .bool a0_1, .slice A0_2 l0_2.length c0_2, .slice A0_3 l0_3.length c0_3, .int .i64 a0_4] 32 (0, 0)) (u1_ BK1) hg (Kd.R_ne HO1.out BK1.out bi3y_))
  have n1_ := A0_ (blk_grown (g := gb2) (o := .cells #[.int .i64 a1_0, .int .i64 a1_1, .int .i64 a1_2] 50 (0, 0)) (u1_ BK2) hg (Kd.R_ne HO1.out BK2.out bi3y_))
  have n2_ := A0_ (blk_grown (g := gb3) (o := .cells #[.slice Ao1 t1.length co1] 22 (0, 0)) (u1_ BK3) hg (Kd.R_ne HO1.out BK3.out bi3y_))
  have n3_ := A0_ (hb)
  have n4_ := A0_ (ho)
  clear BK1
  clear BK2
  clear BK3
  clear HB
  clear HO1
  have BK1 := n0_
  have BK2 := n1_
  have BK3 := n2_
  have HB := n3_
  have HO2 := n4_
  clear n0_ n1_ n2_ n3_ n4_
  clear ho hb hg hat
  refine hK.out _ _ ⟨(kc_ BK3.out 0).trans rfl, (kc_ BK2.out 0).trans rfl, (kc_ BK2.out 1).trans rfl, (kc_ BK2.out 2).trans rfl⟩ (fun hHeld => ?_)
  clear hK K
  refine nm_ 32 ?_
  refine pu_ 5 34 ?_
  refine pu_ 6 35 ?_
  refine tk_ 7 36 hHeld ?_
  refine pu_ 8 37 ?_
  refine pu_ 9 38 ?_
  refine pu_ 10 39 ?_
  refine pu_ 11 40 ?_
  refine pu_ 15 4 ?_
  refine tk_ 12 41 hHeld ?_
  refine pu_ 13 42 ?_
  refine pu_ 14 43 ?_
  refine pu_ 16 5 ?_
  refine dn_ ?_
  try go_wp2
  go_ret2
  exact ⟨_, bnwh_, b9so_, b850_⟩
 rw [if_neg c1] at H
 obtain ⟨c1b0, c1b1⟩ := ef_ c1
 by_cases c2 : a1_0 = 2
 ·rw [if_pos c2] at H
  obtain ⟨c2b0, c2b1⟩ := et_ c2
  clear c2
  by_cases c3 : t1.length < 17592186044416
  case neg =>
   rw [if_neg c3] at H
   exact absurd H bxka_
  rw [if_pos c3] at H
  have LMc1 := A0_ c3
  clear c3
  obtain ⟨y2, hy1⟩ : ∃ y_ : List Int, y_ = (t1 ++ [a1_1]) := ⟨_, rfl⟩
  replace H : ((impl_houseFree.f k a0_0 a0_1 l0_2 t1 a1_1).bind fun t3 => (if t3 = true then (some (y2, (a1_2 == 0))) else (some (y2, false)))) = some (r1, r2) := bgiq_
  have Ny1 := A0_ hy1
  clear hy1
  obtain ⟨t3, A6, H⟩ := o1_ H
  by_cases c4 : t3 = true
  ·subst c4
   rw [if_pos rfl] at H
   simp only [sj_, pj_] at H
   obtain ⟨rfl, rfl⟩ := H
   go_enter Tryz.func52, Tryz.ntmps52
   try go_wp2_with (first | ((with_reducible refine gd_ (N := 2) rfl ?_); refine bx_ 2 #[.int .i64 a0_0, .bool a0_1, .slice A0_2 l0_2.length c0_2, .slice A0_3 l0_3.length c0_3, .int .i64 a0_4] 32 ?_; intro gb1 hg w1 BK1 hb; have GW1 := ge_ hg brt4_; have GE1 := GW1; replace HB := hb_ hb brt4_; clear hb hg) | ((with_reducible refine gd_ (N := 3) rfl ?_); refine bx_ 3 #[.int .i64 a1_0, .int .i64 a1_1, .int .i64 a1_2] 50 ?_; intro gb2 hg w2 BK2 hb; have GW2 := ge_ hg be6g_; have GE2 := GW2; replace HB := hb_ hb be6g_; have NB1_2 := nl_ hg BK1; have NB2_1 := ng_ hg BK1; replace BK1 := k1_ BK1 hb; clear hb hg; have hnb1 := NB1_2.out; have hnc1 := NB2_1.out; have hcz1 := z5_ BK1) | ((with_reducible refine gc_ (f := 74) rfl ?_); refine gl_ 13 Tryz.func74 #[.slice A0_3 l0_3.length c0_3] ?_; (with_reducible refine (slices_Clone_int_int.calls _ _ l0_3 t1 _ ?side1 ?side2 A2.out).mono ?_); (case side1 => exact bkan_); (case side2 => exact HC0_3.out); rintro e w3 ⟨v1, rfl, ho0, hb⟩; refine ⟨_, rfl, ?_⟩; have HO1 := A0_ (Kd.R_lower ho0 (bz_ bfnq_)); replace BK1 := k1_ BK1 hb; replace BK2 := k1_ BK2 hb; replace HB := hb_ hb bfnq_; (try clear hb); (try clear ho0)) | ((with_reducible refine gd_ (N := 6) rfl ?_); refine bx_ 6 #[.slice none 0 0] 22 ?_; intro gb3 hg w4 BK3 hb; replace HO1 := A0_ (Kd.R_below bsm5_ hb); have GW3 := ge_ hg bfnq_; have GE3 := GW3; replace HB := hb_ hb bfnq_; have NB1_3 := nl_ hg BK1; have NB3_1 := ng_ hg BK1; replace BK1 := k1_ BK1 hb; have NB2_3 := nl_ hg BK2; have NB3_2 := ng_ hg BK2; replace BK2 := k1_ BK2 hb; clear hb hg; obtain ⟨Ao1, co1, eo1⟩ := Kd.R_slice HO1.out; subst eo1; have HCAP := A0_ ((rr_ HO1.out).2.1); have hnb2 := NB3_1.out; have hnc2 := NB1_3.out; have hnb3 := NB3_2.out; have hnc3 := NB2_3.out; have hcz2 := z1_ BK3; have hcz3 := z3_ BK2) | ((with_reducible refine gc_ (f := 78) rfl ?_); refine gl_ 18 Tryz.func78 #[.slice Ao1 t1.length co1, .int .i64 a1_1] ?_; (with_reducible refine (slices_Index_int_int.calls k _ _ t1 a1_1 t2 _ ?side1 ?side2 A4.out).mono ?_); (case side1 => refine (rr_ (e := 3) (base := w.heap.size) (ok := fun k_ => True) (n := t1.length) (c := co1) ?_).2.2; exact bn35_); (case side2 => exact (rr_ HO1.out).2.1); rintro e w' ⟨rfl, ⟨nd, rfl⟩⟩; refine ⟨_, rfl, ?_⟩))
   have n0_ : Aside0 (Kd.R (Kd.int .i64) 3 (w4.setCell ⟨gb3, 0, none⟩ (.slice Ao1 t1.length co1)) w.heap.size (fun _ => True) (.slice Ao1 t1.length co1) t1) := ⟨bg7k_⟩
   have n1_ : Aside0 ((w4.setCell ⟨gb3, 0, none⟩ (.slice Ao1 t1.length co1)).heap[gb1]? = some (.cells #[.int .i64 a0_0, .bool a0_1, .slice A0_2 l0_2.length c0_2, .slice A0_3 l0_3.length c0_3, .int .i64 a0_4] 32 (0, 0))) := ⟨u1_ BK1⟩
   have n2_ : Aside0 ((w4.setCell ⟨gb3, 0, none⟩ (.slice Ao1 t1.length co1)).heap[gb2]? = some (.cells #[.int .i64 a1_0, .int .i64 a1_1, .int .i64 a1_2] 50 (0, 0))) := ⟨u1_ BK2⟩
   have n3_ : Aside0 ((w4.setCell ⟨gb3, 0, none⟩ (.slice Ao1 t1.length co1)).heap[gb3]? = some (.cells #[.slice Ao1 t1.length co1] 22 (0, 0))) := ⟨u1_ BK3⟩
   have n4_ : Aside0 (Below w.heap.size w (w4.setCell ⟨gb3, 0, none⟩ (.slice Ao1 t1.length co1))) := ⟨b850_⟩
   (try clear HO1)
   (try clear BK1)
   (try clear BK2)
   (try clear BK3)
   (try clear HB)
   generalize (w4.setCell ⟨gb3, 0, none⟩ (.slice Ao1 t1.length co1)) = w5 at n0_ n1_ n2_ n3_ n4_ ⊢
   have HO1 := n0_
   have BK1 := n1_
   have BK2 := n2_
   have BK3 := n3_
   have HB := n4_
   clear n0_ n1_ n2_ n3_ n4_
   (try (rw [drewN_self w5]; generalize hq_ : World.drewN w5 _ = w5; have n0_ : Aside0 (Kd.R (Kd.int .i64) 3 w5 w.heap.size (fun _ => True) (.slice Ao1 t1.length co1) t1) := ⟨bv95_⟩; have n1_ : Aside0 (w5.heap[gb1]? = some (.cells #[.int .i64 a0_0, .bool a0_1, .slice A0_2 l0_2.length c0_2, .slice A0_3 l0_3.length c0_3, .int .i64 a0_4] 32 (0, 0))) := ⟨b53m_⟩; have n2_ : Aside0 (w5.heap[gb2]? = some (.cells #[.int .i64 a1_0, .int .i64 a1_1, .int .i64 a1_2] 50 (0, 0))) := ⟨by rw [← hq_]; exact (u1_ BK2)⟩; have n3_ : Aside0 (w5.heap[gb3]? = some (.cells #[.slice Ao1 t1.length co1] 22 (0, 0))) := ⟨by rw [← hq_]; exact (u1_ BK3)⟩; have n4_ : Aside0 (Below w.heap.size w w5) := ⟨bcpu_⟩; clear HO1 BK1 BK2 BK3 HB hq_; have HO1 := n0_; have BK1 := n1_; have BK2 := n2_; have BK3 := n3_; have HB := n4_; clear n0_ n1_ n2_ n3_ n4_))
   replace HO1 := A0_ (rd_ HO1.out)
   replace BK1 := A0_ (kd_ BK1.out)
   replace BK2 := A0_ (kd_ BK2.out)
   replace BK3 := A0_ (kd_ BK3.out)
   replace HB := A0_ (bd_ HB.out)
   refine start_ (n := 16) (S := fun w' => w'.cell? ⟨gb3, 0, none⟩ = some (.slice Ao1 t1.length co1) ∧ w'.cell? ⟨gb2, 0, none⟩ = some (.int .i64 a1_0) ∧ w'.cell? ⟨gb2, 1, none⟩ = some (.int .i64 a1_1) ∧ w'.cell? ⟨gb2, 2, none⟩ = some (.int .i64 a1_2)) (ds := []) #[false, false, false, false, false, false, false, false, false, false, false, false, false, false, false, false] bfqv_ rfl rfl ⟨(kc_ BK3.out 0).trans rfl, (kc_ BK2.out 0).trans rfl, (kc_ BK2.out 1).trans rfl, (kc_ BK2.out 2).trans rfl⟩ (fun hHeld => ?_); refine with_tabW impl_House_guests.tab9 impl_House_guests.bits9 (fun HT_ HW_ => ?_)
   generalize w5.drew = w6 at HO1 BK1 BK2 BK3 HB hHeld ⊢
   refine pu_ 1 47 ?_
   refine pu_ 5 51 ?_
   refine pu_ 6 52 ?_
   refine tk_ 0 46 hHeld ?_
   refine tk_ 2 48 hHeld ?_
   refine tk_ 7 53 hHeld ?_
   refine on_ 3 (some 49) (fun K hK => ?_)
   refine value_ (w1 := ?_) (v := ?_) (by rfl) rfl ?_ ?_
   rotate_left 2
   ·go_simp
    constructor
    ·rfl
    rfl
   refine hK.out _ _ ⟨(kc_ (ka_ BK3.out _) 0).trans rfl, (kc_ (ka_ BK2.out _) 0).trans rfl, (kc_ (ka_ BK2.out _) 1).trans rfl, (kc_ (ka_ BK2.out _) 2).trans rfl⟩ (fun hHeld => ?_)
   clear hK K
   refine nm_ 49 ?_
   refine on_ 4 (some 50) (fun K hK => ?_)
   refine impl_House_guests.append (w0 := w) w.heap.size (by rfl) (.tmp 46) (.tmp 49) 22 3 rfl Tryz.underlying22 info3 Ao1 co1 t1 a1_1 (fun _ => True) rfl rfl ?aF ?aO ?aB ?aS ?aL ?_
   (case aB => exact b850_)
   (case aF => exact (fun _ _ => trivial))
   (case aO => exact bsm5_)
   (case aS => exact (bz_ b850_))
   (case aL => have := LMc1.out; omega)
   intro v2 w7 ho hb hg hkc_
   have HKC := A0_ hkc_
   rw [← Ny1.out] at ho
   have n0_ := A0_ (blk_grown (g := gb1) (o := .cells #[.int .i64 a0_0, .bool a0_1, .slice A0_2 l0_2.length c0_2, .slice A0_3 l0_3.length c0_3, .int .i64 a0_4] 32 (0, 0)) (u1_ BK1) hg (Kd.R_ne HO1.out BK1.out bi3y_))
   have n1_ := A0_ (blk_grown (g := gb2) (o := .cells #[.int .i64 a1_0, .int .i64 a1_1, .int .i64 a1_2] 50 (0, 0)) (u1_ BK2) hg (Kd.R_ne HO1.out BK2.out bi3y_))
   have n2_ := A0_ (blk_grown (g := gb3) (o := .cells #[.slice Ao1 t1.length co1] 22 (0, 0)) (u1_ BK3) hg (Kd.R_ne HO1.out BK3.out bi3y_))
   have n3_ := A0_ (hb)
   have n4_ := A0_ (ho)
   clear BK1
   clear BK2
   clear BK3
   clear HB
   clear HO1
   have BK1 := n0_
   have BK2 := n1_
   have BK3 := n2_
   have HB := n3_
   have HO2 := n4_
   clear n0_ n1_ n2_ n3_ n4_
   clear ho hb hg hkc_
   refine hK.out _ _ ⟨(kc_ BK3.out 0).trans rfl, (kc_ BK2.out 0).trans rfl, (kc_ BK2.out 1).trans rfl, (kc_ BK2.out 2).trans rfl⟩ (fun hHeld => ?_)
   clear hK K
   refine nm_ 50 ?_
   refine on_ 8 (some 54) (fun K hK => ?_)
   refine call_ 75 #[.int .i64 a1_1, .pointer (some ⟨gb1, 0, none⟩), .pointer (some ⟨gb3, 0, none⟩)] (by rfl) rfl ?_ ?_
   ·have he := fun W_ : World => enters_ (P := Tryz.prog) Tryz.func75 bfqv_ rfl #[.int .i64 a1_1, .pointer (some ⟨gb1, 0, none⟩), .pointer (some ⟨gb3, 0, none⟩)] W_
    unfold execOp
    simp [resolve, Deferred.ofValue, invoke, Act.eval, he]
   with_reducible refine (impl_houseFree.calls k a0_0 a0_1 A0_2 c0_2 l0_2 (.slice A0_3 l0_3.length c0_3) (.int .i64 a0_4) Ao1 co1 t1 a1_1 true gb1 gb3 _ ?side1 ?side2 ?side3 ?side4 ?side5 ?side6 A6.out).mono ?_
   (case side1 => exact b6n8_)
   (case side2 => exact HC0_2.out)
   (case side3 => exact buit_)
   (case side4 => exact HCAP.out)
   (case side5 => exact (u1_ BK1))
   (case side6 => exact (u1_ BK3))
   rintro e w8 ⟨rfl, hb⟩
   refine ⟨_, rfl, ?_⟩
   replace HO2 := A0_ (Kd.R_below b9so_ hb)
   replace BK1 := k1_ BK1 hb
   replace BK2 := k1_ BK2 hb
   replace BK3 := k1_ BK3 hb
   replace HB := hb_ hb b850_
   (try clear hb)
   refine hK.out _ _ ⟨(kc_ BK3.out 0).trans rfl, (kc_ BK2.out 0).trans rfl, (kc_ BK2.out 1).trans rfl, (kc_ BK2.out 2).trans rfl⟩ (fun hHeld => ?_)
   clear hK K
   refine nm_ 54 ?_
   refine pu_ 9 55 ?_
   refine pu_ 10 56 ?_
   refine pu_ 14 4 ?_
   refine tk_ 11 57 hHeld ?_
   refine pu_ 12 58 ?_
   refine pu_ 13 59 ?_
   refine pu_ 15 5 ?_
   refine dn_ ?_
   try go_wp2
   go_ret2
   exact ⟨_, bnwh_, b9so_, b850_⟩
  obtain rfl := bf_.mpr c4
  rw [if_neg ft_] at H
  simp only [sj_, pj_] at H
  obtain ⟨rfl, rfl⟩ := H
  go_enter Tryz.func52, Tryz.ntmps52
  try go_wp2_with (first | ((with_reducible refine gd_ (N := 2) rfl ?_); refine bx_ 2 #[.int .i64 a0_0, .bool a0_1, .slice A0_2 l0_2.length c0_2, .slice A0_3 l0_3.length c0_3, .int .i64 a0_4] 32 ?_; intro gb1 hg w1 BK1 hb; have GW1 := ge_ hg brt4_; have GE1 := GW1; replace HB := hb_ hb brt4_; clear hb hg) | ((with_reducible refine gd_ (N := 3) rfl ?_); refine bx_ 3 #[.int .i64 a1_0, .int .i64 a1_1, .int .i64 a1_2] 50 ?_; intro gb2 hg w2 BK2 hb; have GW2 := ge_ hg be6g_; have GE2 := GW2; replace HB := hb_ hb be6g_; have NB1_2 := nl_ hg BK1; have NB2_1 := ng_ hg BK1; replace BK1 := k1_ BK1 hb; clear hb hg; have hnb1 := NB1_2.out; have hnc1 := NB2_1.out; have hcz1 := z5_ BK1) | ((with_reducible refine gc_ (f := 74) rfl ?_); refine gl_ 13 Tryz.func74 #[.slice A0_3 l0_3.length c0_3] ?_; (with_reducible refine (slices_Clone_int_int.calls _ _ l0_3 t1 _ ?side1 ?side2 A2.out).mono ?_); (case side1 => exact bkan_); (case side2 => exact HC0_3.out); rintro e w3 ⟨v1, rfl, ho0, hb⟩; refine ⟨_, rfl, ?_⟩; have HO1 := A0_ (Kd.R_lower ho0 (bz_ bfnq_)); replace BK1 := k1_ BK1 hb; replace BK2 := k1_ BK2 hb; replace HB := hb_ hb bfnq_; (try clear hb); (try clear ho0)) | ((with_reducible refine gd_ (N := 6) rfl ?_); refine bx_ 6 #[.slice none 0 0] 22 ?_; intro gb3 hg w4 BK3 hb; replace HO1 := A0_ (Kd.R_below bsm5_ hb); have GW3 := ge_ hg bfnq_; have GE3 := GW3; replace HB := hb_ hb bfnq_; have NB1_3 := nl_ hg BK1; have NB3_1 := ng_ hg BK1; replace BK1 := k1_ BK1 hb; have NB2_3 := nl_ hg BK2; have NB3_2 := ng_ hg BK2; replace BK2 := k1_ BK2 hb; clear hb hg; obtain ⟨Ao1, co1, eo1⟩ := Kd.R_slice HO1.out; subst eo1; have HCAP := A0_ ((rr_ HO1.out).2.1); have hnb2 := NB3_1.out; have hnc2 := NB1_3.out; have hnb3 := NB3_2.out; have hnc3 := NB2_3.out; have hcz2 := z1_ BK3; have hcz3 := z3_ BK2) | ((with_reducible refine gc_ (f := 78) rfl ?_); refine gl_ 18 Tryz.func78 #[.slice Ao1 t1.length co1, .int .i64 a1_1] ?_; (with_reducible refine (slices_Index_int_int.calls k _ _ t1 a1_1 t2 _ ?side1 ?side2 A4.out).mono ?_); (case side1 => refine (rr_ (e := 3) (base := w.heap.size) (ok := fun k_ => True) (n := t1.length) (c := co1) ?_).2.2; exact bn35_); (case side2 => exact (rr_ HO1.out).2.1); rintro e w' ⟨rfl, ⟨nd, rfl⟩⟩; refine ⟨_, rfl, ?_⟩))
  have n0_ : Aside0 (Kd.R (Kd.int .i64) 3 (w4.setCell ⟨gb3, 0, none⟩ (.slice Ao1 t1.length co1)) w.heap.size (fun _ => True) (.slice Ao1 t1.length co1) t1) := ⟨bg7k_⟩
  have n1_ : Aside0 ((w4.setCell ⟨gb3, 0, none⟩ (.slice Ao1 t1.length co1)).heap[gb1]? = some (.cells #[.int .i64 a0_0, .bool a0_1, .slice A0_2 l0_2.length c0_2, .slice A0_3 l0_3.length c0_3, .int .i64 a0_4] 32 (0, 0))) := ⟨u1_ BK1⟩
  have n2_ : Aside0 ((w4.setCell ⟨gb3, 0, none⟩ (.slice Ao1 t1.length co1)).heap[gb2]? = some (.cells #[.int .i64 a1_0, .int .i64 a1_1, .int .i64 a1_2] 50 (0, 0))) := ⟨u1_ BK2⟩
  have n3_ : Aside0 ((w4.setCell ⟨gb3, 0, none⟩ (.slice Ao1 t1.length co1)).heap[gb3]? = some (.cells #[.slice Ao1 t1.length co1] 22 (0, 0))) := ⟨u1_ BK3⟩
  have n4_ : Aside0 (Below w.heap.size w (w4.setCell ⟨gb3, 0, none⟩ (.slice Ao1 t1.length co1))) := ⟨b850_⟩
  (try clear HO1)
  (try clear BK1)
  (try clear BK2)
  (try clear BK3)
  (try clear HB)
  generalize (w4.setCell ⟨gb3, 0, none⟩ (.slice Ao1 t1.length co1)) = w5 at n0_ n1_ n2_ n3_ n4_ ⊢
  have HO1 := n0_
  have BK1 := n1_
  have BK2 := n2_
  have BK3 := n3_
  have HB := n4_
  clear n0_ n1_ n2_ n3_ n4_
  (try (rw [drewN_self w5]; generalize hq_ : World.drewN w5 _ = w5; have n0_ : Aside0 (Kd.R (Kd.int .i64) 3 w5 w.heap.size (fun _ => True) (.slice Ao1 t1.length co1) t1) := ⟨bv95_⟩; have n1_ : Aside0 (w5.heap[gb1]? = some (.cells #[.int .i64 a0_0, .bool a0_1, .slice A0_2 l0_2.length c0_2, .slice A0_3 l0_3.length c0_3, .int .i64 a0_4] 32 (0, 0))) := ⟨b53m_⟩; have n2_ : Aside0 (w5.heap[gb2]? = some (.cells #[.int .i64 a1_0, .int .i64 a1_1, .int .i64 a1_2] 50 (0, 0))) := ⟨by rw [← hq_]; exact (u1_ BK2)⟩; have n3_ : Aside0 (w5.heap[gb3]? = some (.cells #[.slice Ao1 t1.length co1] 22 (0, 0))) := ⟨by rw [← hq_]; exact (u1_ BK3)⟩; have n4_ : Aside0 (Below w.heap.size w w5) := ⟨bcpu_⟩; clear HO1 BK1 BK2 BK3 HB hq_; have HO1 := n0_; have BK1 := n1_; have BK2 := n2_; have BK3 := n3_; have HB := n4_; clear n0_ n1_ n2_ n3_ n4_))
  replace HO1 := A0_ (rd_ HO1.out)
  replace BK1 := A0_ (kd_ BK1.out)
  replace BK2 := A0_ (kd_ BK2.out)
  replace BK3 := A0_ (kd_ BK3.out)
  replace HB := A0_ (bd_ HB.out)
  refine start_ (n := 16) (S := fun w' => w'.cell? ⟨gb3, 0, none⟩ = some (.slice Ao1 t1.length co1) ∧ w'.cell? ⟨gb2, 0, none⟩ = some (.int .i64 a1_0) ∧ w'.cell? ⟨gb2, 1, none⟩ = some (.int .i64 a1_1) ∧ w'.cell? ⟨gb2, 2, none⟩ = some (.int .i64 a1_2)) (ds := []) #[false, false, false, false, false, false, false, false, false, false, false, false, false, false, false, false] bfqv_ rfl rfl ⟨(kc_ BK3.out 0).trans rfl, (kc_ BK2.out 0).trans rfl, (kc_ BK2.out 1).trans rfl, (kc_ BK2.out 2).trans rfl⟩ (fun hHeld => ?_); refine with_tabW impl_House_guests.tab9 impl_House_guests.bits9 (fun HT_ HW_ => ?_)
  generalize w5.drew = w6 at HO1 BK1 BK2 BK3 HB hHeld ⊢
  refine pu_ 1 47 ?_
  refine pu_ 5 51 ?_
  refine pu_ 6 52 ?_
  refine tk_ 0 46 hHeld ?_
  refine tk_ 2 48 hHeld ?_
  refine tk_ 7 53 hHeld ?_
  refine on_ 3 (some 49) (fun K hK => ?_)
  refine value_ (w1 := ?_) (v := ?_) (by rfl) rfl ?_ ?_
  rotate_left 2
  ·go_simp
   constructor
   ·rfl
   rfl
  refine hK.out _ _ ⟨(kc_ (ka_ BK3.out _) 0).trans rfl, (kc_ (ka_ BK2.out _) 0).trans rfl, (kc_ (ka_ BK2.out _) 1).trans rfl, (kc_ (ka_ BK2.out _) 2).trans rfl⟩ (fun hHeld => ?_)
  clear hK K
  refine nm_ 49 ?_
  refine on_ 4 (some 50) (fun K hK => ?_)
  refine impl_House_guests.append (w0 := w) w.heap.size (by rfl) (.tmp 46) (.tmp 49) 22 3 rfl Tryz.underlying22 info3 Ao1 co1 t1 a1_1 (fun _ => True) rfl rfl ?aF ?aO ?aB ?aS ?aL ?_
  (case aB => exact b850_)
  (case aF => exact (fun _ _ => trivial))
  (case aO => exact bsm5_)
  (case aS => exact (bz_ b850_))
  (case aL => have := LMc1.out; omega)
  intro v2 w7 ho hb hg hkc_
  have HKC := A0_ hkc_
  rw [← Ny1.out] at ho
  have n0_ := A0_ (blk_grown (g := gb1) (o := .cells #[.int .i64 a0_0, .bool a0_1, .slice A0_2 l0_2.length c0_2, .slice A0_3 l0_3.length c0_3, .int .i64 a0_4] 32 (0, 0)) (u1_ BK1) hg (Kd.R_ne HO1.out BK1.out bi3y_))
  have n1_ := A0_ (blk_grown (g := gb2) (o := .cells #[.int .i64 a1_0, .int .i64 a1_1, .int .i64 a1_2] 50 (0, 0)) (u1_ BK2) hg (Kd.R_ne HO1.out BK2.out bi3y_))
  have n2_ := A0_ (blk_grown (g := gb3) (o := .cells #[.slice Ao1 t1.length co1] 22 (0, 0)) (u1_ BK3) hg (Kd.R_ne HO1.out BK3.out bi3y_))
  have n3_ := A0_ (hb)
  have n4_ := A0_ (ho)
  clear BK1
  clear BK2
  clear BK3
  clear HB
  clear HO1
  have BK1 := n0_
  have BK2 := n1_
  have BK3 := n2_
  have HB := n3_
  have HO2 := n4_
  clear n0_ n1_ n2_ n3_ n4_
  clear ho hb hg hkc_
  refine hK.out _ _ ⟨(kc_ BK3.out 0).trans rfl, (kc_ BK2.out 0).trans rfl, (kc_ BK2.out 1).trans rfl, (kc_ BK2.out 2).trans rfl⟩ (fun hHeld => ?_)
  clear hK K
  refine nm_ 50 ?_
  refine on_ 8 (some 54) (fun K hK => ?_)
  refine call_ 75 #[.int .i64 a1_1, .pointer (some ⟨gb1, 0, none⟩), .pointer (some ⟨gb3, 0, none⟩)] (by rfl) rfl ?_ ?_
  ·have he := fun W_ : World => enters_ (P := Tryz.prog) Tryz.func75 bfqv_ rfl #[.int .i64 a1_1, .pointer (some ⟨gb1, 0, none⟩), .pointer (some ⟨gb3, 0, none⟩)] W_
   unfold execOp
   simp [resolve, Deferred.ofValue, invoke, Act.eval, he]
  with_reducible refine (impl_houseFree.calls k a0_0 a0_1 A0_2 c0_2 l0_2 (.slice A0_3 l0_3.length c0_3) (.int .i64 a0_4) Ao1 co1 t1 a1_1 false gb1 gb3 _ ?side1 ?side2 ?side3 ?side4 ?side5 ?side6 A6.out).mono ?_
  (case side1 => exact b6n8_)
  (case side2 => exact HC0_2.out)
  (case side3 => exact buit_)
  (case side4 => exact HCAP.out)
  (case side5 => exact (u1_ BK1))
  (case side6 => exact (u1_ BK3))
  rintro e w8 ⟨rfl, hb⟩
  refine ⟨_, rfl, ?_⟩
  replace HO2 := A0_ (Kd.R_below b9so_ hb)
  replace BK1 := k1_ BK1 hb
  replace BK2 := k1_ BK2 hb
  replace BK3 := k1_ BK3 hb
  replace HB := hb_ hb b850_
  (try clear hb)
  refine hK.out _ _ ⟨(kc_ BK3.out 0).trans rfl, (kc_ BK2.out 0).trans rfl, (kc_ BK2.out 1).trans rfl, (kc_ BK2.out 2).trans rfl⟩ (fun hHeld => ?_)
  clear hK K
  refine nm_ 54 ?_
  refine pu_ 9 55 ?_
  refine pv_ 10 56 ?_
  refine pv_ 11 57 ?_
  refine pv_ 12 58 ?_
  refine pu_ 13 59 ?_
  refine pu_ 14 4 ?_
  refine pu_ 15 5 ?_
  refine dn_ ?_
  try go_wp2
  go_ret2
  exact ⟨_, bnwh_, b9so_, b850_⟩
 rw [if_neg c2] at H
 obtain ⟨c2b0, c2b1⟩ := ef_ c2
 by_cases c3 : a1_0 = 3
 ·rw [if_pos c3] at H
  obtain ⟨c3b0, c3b1⟩ := et_ c3
  clear c3
  by_cases c4 : t2 < 0
  ·rw [if_pos c4] at H
   have c4b0 : decide (t2 < 0) = true := dt_ c4
   clear c4
   simp only [sj_, pj_] at H
   obtain ⟨rfl, rfl⟩ := H
   go_enter Tryz.func52, Tryz.ntmps52
   go_wp2_with (first | ((with_reducible refine gd_ (N := 2) rfl ?_); refine bx_ 2 #[.int .i64 a0_0, .bool a0_1, .slice A0_2 l0_2.length c0_2, .slice A0_3 l0_3.length c0_3, .int .i64 a0_4] 32 ?_; intro gb1 hg w1 BK1 hb; have GW1 := ge_ hg brt4_; have GE1 := GW1; replace HB := hb_ hb brt4_; clear hb hg) | ((with_reducible refine gd_ (N := 3) rfl ?_); refine bx_ 3 #[.int .i64 a1_0, .int .i64 a1_1, .int .i64 a1_2] 50 ?_; intro gb2 hg w2 BK2 hb; have GW2 := ge_ hg be6g_; have GE2 := GW2; replace HB := hb_ hb be6g_; have NB1_2 := nl_ hg BK1; have NB2_1 := ng_ hg BK1; replace BK1 := k1_ BK1 hb; clear hb hg; have hnb1 := NB1_2.out; have hnc1 := NB2_1.out; have hcz1 := z5_ BK1) | ((with_reducible refine gc_ (f := 74) rfl ?_); refine gl_ 13 Tryz.func74 #[.slice A0_3 l0_3.length c0_3] ?_; (with_reducible refine (slices_Clone_int_int.calls _ _ l0_3 t1 _ ?side1 ?side2 A2.out).mono ?_); (case side1 => exact bkan_); (case side2 => exact HC0_3.out); rintro e w3 ⟨v1, rfl, ho0, hb⟩; refine ⟨_, rfl, ?_⟩; have HO1 := A0_ (Kd.R_lower ho0 (bz_ bfnq_)); replace BK1 := k1_ BK1 hb; replace BK2 := k1_ BK2 hb; replace HB := hb_ hb bfnq_; (try clear hb); (try clear ho0)) | ((with_reducible refine gd_ (N := 6) rfl ?_); refine bx_ 6 #[.slice none 0 0] 22 ?_; intro gb3 hg w4 BK3 hb; replace HO1 := A0_ (Kd.R_below bsm5_ hb); have GW3 := ge_ hg bfnq_; have GE3 := GW3; replace HB := hb_ hb bfnq_; have NB1_3 := nl_ hg BK1; have NB3_1 := ng_ hg BK1; replace BK1 := k1_ BK1 hb; have NB2_3 := nl_ hg BK2; have NB3_2 := ng_ hg BK2; replace BK2 := k1_ BK2 hb; clear hb hg; obtain ⟨Ao1, co1, eo1⟩ := Kd.R_slice HO1.out; subst eo1; have HCAP := A0_ ((rr_ HO1.out).2.1); have hnb2 := NB3_1.out; have hnc2 := NB1_3.out; have hnb3 := NB3_2.out; have hnc3 := NB2_3.out; have hcz2 := z1_ BK3; have hcz3 := z3_ BK2) | ((with_reducible refine gc_ (f := 78) rfl ?_); refine gl_ 18 Tryz.func78 #[.slice Ao1 t1.length co1, .int .i64 a1_1] ?_; (with_reducible refine (slices_Index_int_int.calls k _ _ t1 a1_1 t2 _ ?side1 ?side2 A4.out).mono ?_); (case side1 => refine (rr_ (e := 3) (base := w.heap.size) (ok := fun k_ => True) (n := t1.length) (c := co1) ?_).2.2; exact bn35_); (case side2 => exact (rr_ HO1.out).2.1); rintro e w' ⟨rfl, ⟨nd, rfl⟩⟩; refine ⟨_, rfl, ?_⟩))
   go_ret2
   exact ⟨_, bnwh_, bwfe_, b850_⟩
  rw [if_neg c4] at H
  have c4b0 : decide (t2 < 0) = false := decide_eq_false c4
  clear c4
  obtain ⟨t4, A6, H⟩ := o1_ H
  replace H : (some (t4, (a1_2 == 0))) = some (r1, r2) := H
  simp only [sj_, pj_] at H
  obtain ⟨rfl, rfl⟩ := H
  go_enter Tryz.func52, Tryz.ntmps52
  try go_wp2_with (first | ((with_reducible refine gd_ (N := 2) rfl ?_); refine bx_ 2 #[.int .i64 a0_0, .bool a0_1, .slice A0_2 l0_2.length c0_2, .slice A0_3 l0_3.length c0_3, .int .i64 a0_4] 32 ?_; intro gb1 hg w1 BK1 hb; have GW1 := ge_ hg brt4_; have GE1 := GW1; replace HB := hb_ hb brt4_; clear hb hg) | ((with_reducible refine gd_ (N := 3) rfl ?_); refine bx_ 3 #[.int .i64 a1_0, .int .i64 a1_1, .int .i64 a1_2] 50 ?_; intro gb2 hg w2 BK2 hb; have GW2 := ge_ hg be6g_; have GE2 := GW2; replace HB := hb_ hb be6g_; have NB1_2 := nl_ hg BK1; have NB2_1 := ng_ hg BK1; replace BK1 := k1_ BK1 hb; clear hb hg; have hnb1 := NB1_2.out; have hnc1 := NB2_1.out; have hcz1 := z5_ BK1) | ((with_reducible refine gc_ (f := 74) rfl ?_); refine gl_ 13 Tryz.func74 #[.slice A0_3 l0_3.length c0_3] ?_; (with_reducible refine (slices_Clone_int_int.calls _ _ l0_3 t1 _ ?side1 ?side2 A2.out).mono ?_); (case side1 => exact bkan_); (case side2 => exact HC0_3.out); rintro e w3 ⟨v1, rfl, ho0, hb⟩; refine ⟨_, rfl, ?_⟩; have HO1 := A0_ (Kd.R_lower ho0 (bz_ bfnq_)); replace BK1 := k1_ BK1 hb; replace BK2 := k1_ BK2 hb; replace HB := hb_ hb bfnq_; (try clear hb); (try clear ho0)) | ((with_reducible refine gd_ (N := 6) rfl ?_); refine bx_ 6 #[.slice none 0 0] 22 ?_; intro gb3 hg w4 BK3 hb; replace HO1 := A0_ (Kd.R_below bsm5_ hb); have GW3 := ge_ hg bfnq_; have GE3 := GW3; replace HB := hb_ hb bfnq_; have NB1_3 := nl_ hg BK1; have NB3_1 := ng_ hg BK1; replace BK1 := k1_ BK1 hb; have NB2_3 := nl_ hg BK2; have NB3_2 := ng_ hg BK2; replace BK2 := k1_ BK2 hb; clear hb hg; obtain ⟨Ao1, co1, eo1⟩ := Kd.R_slice HO1.out; subst eo1; have HCAP := A0_ ((rr_ HO1.out).2.1); have hnb2 := NB3_1.out; have hnc2 := NB1_3.out; have hnb3 := NB3_2.out; have hnc3 := NB2_3.out; have hcz2 := z1_ BK3; have hcz3 := z3_ BK2) | ((with_reducible refine gc_ (f := 78) rfl ?_); refine gl_ 18 Tryz.func78 #[.slice Ao1 t1.length co1, .int .i64 a1_1] ?_; (with_reducible refine (slices_Index_int_int.calls k _ _ t1 a1_1 t2 _ ?side1 ?side2 A4.out).mono ?_); (case side1 => refine (rr_ (e := 3) (base := w.heap.size) (ok := fun k_ => True) (n := t1.length) (c := co1) ?_).2.2; exact bn35_); (case side2 => exact (rr_ HO1.out).2.1); rintro e w' ⟨rfl, ⟨nd, rfl⟩⟩; refine ⟨_, rfl, ?_⟩))
  have n0_ : Aside0 (Kd.R (Kd.int .i64) 3 (w4.setCell ⟨gb3, 0, none⟩ (.slice Ao1 t1.length co1)) w.heap.size (fun _ => True) (.slice Ao1 t1.length co1) t1) := ⟨bg7k_⟩
  have n1_ : Aside0 ((w4.setCell ⟨gb3, 0, none⟩ (.slice Ao1 t1.length co1)).heap[gb1]? = some (.cells #[.int .i64 a0_0, .bool a0_1, .slice A0_2 l0_2.length c0_2, .slice A0_3 l0_3.length c0_3, .int .i64 a0_4] 32 (0, 0))) := ⟨u1_ BK1⟩
  have n2_ : Aside0 ((w4.setCell ⟨gb3, 0, none⟩ (.slice Ao1 t1.length co1)).heap[gb2]? = some (.cells #[.int .i64 a1_0, .int .i64 a1_1, .int .i64 a1_2] 50 (0, 0))) := ⟨u1_ BK2⟩
  have n3_ : Aside0 ((w4.setCell ⟨gb3, 0, none⟩ (.slice Ao1 t1.length co1)).heap[gb3]? = some (.cells #[.slice Ao1 t1.length co1] 22 (0, 0))) := ⟨u1_ BK3⟩
  have n4_ : Aside0 (Below w.heap.size w (w4.setCell ⟨gb3, 0, none⟩ (.slice Ao1 t1.length co1))) := ⟨b850_⟩
  (try clear HO1)
  (try clear BK1)
  (try clear BK2)
  (try clear BK3)
  (try clear HB)
  generalize (w4.setCell ⟨gb3, 0, none⟩ (.slice Ao1 t1.length co1)) = w5 at n0_ n1_ n2_ n3_ n4_ ⊢
  have HO1 := n0_
  have BK1 := n1_
  have BK2 := n2_
  have BK3 := n3_
  have HB := n4_
  clear n0_ n1_ n2_ n3_ n4_
  (try (rw [drewN_self w5]; generalize hq_ : World.drewN w5 _ = w5; have n0_ : Aside0 (Kd.R (Kd.int .i64) 3 w5 w.heap.size (fun _ => True) (.slice Ao1 t1.length co1) t1) := ⟨bv95_⟩; have n1_ : Aside0 (w5.heap[gb1]? = some (.cells #[.int .i64 a0_0, .bool a0_1, .slice A0_2 l0_2.length c0_2, .slice A0_3 l0_3.length c0_3, .int .i64 a0_4] 32 (0, 0))) := ⟨b53m_⟩; have n2_ : Aside0 (w5.heap[gb2]? = some (.cells #[.int .i64 a1_0, .int .i64 a1_1, .int .i64 a1_2] 50 (0, 0))) := ⟨by rw [← hq_]; exact (u1_ BK2)⟩; have n3_ : Aside0 (w5.heap[gb3]? = some (.cells #[.slice Ao1 t1.length co1] 22 (0, 0))) := ⟨by rw [← hq_]; exact (u1_ BK3)⟩; have n4_ : Aside0 (Below w.heap.size w w5) := ⟨bcpu_⟩; clear HO1 BK1 BK2 BK3 HB hq_; have HO1 := n0_; have BK1 := n1_; have BK2 := n2_; have BK3 := n3_; have HB := n4_; clear n0_ n1_ n2_ n3_ n4_))
  replace HO1 := A0_ (rd_ HO1.out)
  replace BK1 := A0_ (kd_ BK1.out)
  replace BK2 := A0_ (kd_ BK2.out)
  replace BK3 := A0_ (kd_ BK3.out)
  replace HB := A0_ (bd_ HB.out)
  refine start_ (n := 10) (S := fun w' => w'.cell? ⟨gb3, 0, none⟩ = some (.slice Ao1 t1.length co1) ∧ w'.cell? ⟨gb2, 0, none⟩ = some (.int .i64 a1_0) ∧ w'.cell? ⟨gb2, 1, none⟩ = some (.int .i64 a1_1) ∧ w'.cell? ⟨gb2, 2, none⟩ = some (.int .i64 a1_2)) (ds := []) #[false, false, false, false, false, false, false, false, false, false] bfqv_ rfl rfl ⟨(kc_ BK3.out 0).trans rfl, (kc_ BK2.out 0).trans rfl, (kc_ BK2.out 1).trans rfl, (kc_ BK2.out 2).trans rfl⟩ (fun hHeld => ?_); refine with_tabW impl_House_guests.tab13 impl_House_guests.bits13 (fun HT_ HW_ => ?_)
  generalize w5.drew = w6 at HO1 BK1 BK2 BK3 HB hHeld ⊢
  refine pu_ 1 65 ?_
  refine pu_ 2 66 ?_
  refine pu_ 3 67 ?_
  refine pu_ 5 69 ?_
  refine tk_ 0 64 hHeld ?_
  refine tk_ 6 70 hHeld ?_
  refine pu_ 7 71 ?_
  refine on_ 4 (some 68) (fun K hK => ?_)
  refine gs_ Tryz.func79 #[.slice Ao1 t1.length co1, .int .i64 t2, .int .i64 (wrap64 (t2 + 1))] ?_
  with_reducible refine (slices_Delete_int_int.own Ao1 co1 t1 t2 (wrap64 (t2 + 1)) t4 _ w.heap.size (fun _ => True) bsm5_ A6.out).mono ?_
  rintro e w7 ⟨rfl, ho0, hg⟩
  refine ⟨_, rfl, ?_⟩
  have HO2 := A0_ ho0
  replace BK1 := A0_ (blk_grown (g := gb1) (o := .cells #[.int .i64 a0_0, .bool a0_1, .slice A0_2 l0_2.length c0_2, .slice A0_3 l0_3.length c0_3, .int .i64 a0_4] 32 (0, 0)) (u1_ BK1) hg (Kd.R_ne HO1.out BK1.out bi3y_))
  replace BK2 := A0_ (blk_grown (g := gb2) (o := .cells #[.int .i64 a1_0, .int .i64 a1_1, .int .i64 a1_2] 50 (0, 0)) (u1_ BK2) hg (Kd.R_ne HO1.out BK2.out bi3y_))
  replace BK3 := A0_ (blk_grown (g := gb3) (o := .cells #[.slice Ao1 t1.length co1] 22 (0, 0)) (u1_ BK3) hg (Kd.R_ne HO1.out BK3.out bi3y_))
  replace HB := A0_ (Below.grown HB.out hg (bz_ HB.out) (by obtain ⟨_, inner_, ho_, _⟩ := HO1.out; exact own_base ho_))
  replace HO1 := A0_ ho0
  (try clear hg)
  (try clear hb2)
  (try clear hk)
  (try clear hi)
  (try clear ho0)
  refine hK.out _ _ ⟨(kc_ BK3.out 0).trans rfl, (kc_ BK2.out 0).trans rfl, (kc_ BK2.out 1).trans rfl, (kc_ BK2.out 2).trans rfl⟩ (fun hHeld => ?_)
  clear hK K
  refine nm_ 68 ?_
  refine pu_ 8 4 ?_
  refine pu_ 9 5 ?_
  refine dn_ ?_
  try go_wp2
  go_ret2
  exact ⟨_, bnwh_, buel_, b850_⟩
 rw [if_neg c3] at H
 obtain ⟨c3b0, c3b1⟩ := ef_ c3
 by_cases c4 : a1_0 = 4
 ·rw [if_pos c4] at H
  obtain ⟨c4b0, c4b1⟩ := et_ c4
  clear c4
  by_cases c5 : t2 < 0
  ·rw [if_pos c5] at H
   have c5b0 : decide (t2 < 0) = true := dt_ c5
   clear c5
   simp only [sj_, pj_] at H
   obtain ⟨rfl, rfl⟩ := H
   go_enter Tryz.func52, Tryz.ntmps52
   go_wp2_with (first | ((with_reducible refine gd_ (N := 2) rfl ?_); refine bx_ 2 #[.int .i64 a0_0, .bool a0_1, .slice A0_2 l0_2.length c0_2, .slice A0_3 l0_3.length c0_3, .int .i64 a0_4] 32 ?_; intro gb1 hg w1 BK1 hb; have GW1 := ge_ hg brt4_; have GE1 := GW1; replace HB := hb_ hb brt4_; clear hb hg) | ((with_reducible refine gd_ (N := 3) rfl ?_); refine bx_ 3 #[.int .i64 a1_0, .int .i64 a1_1, .int .i64 a1_2] 50 ?_; intro gb2 hg w2 BK2 hb; have GW2 := ge_ hg be6g_; have GE2 := GW2; replace HB := hb_ hb be6g_; have NB1_2 := nl_ hg BK1; have NB2_1 := ng_ hg BK1; replace BK1 := k1_ BK1 hb; clear hb hg; have hnb1 := NB1_2.out; have hnc1 := NB2_1.out; have hcz1 := z5_ BK1) | ((with_reducible refine gc_ (f := 74) rfl ?_); refine gl_ 13 Tryz.func74 #[.slice A0_3 l0_3.length c0_3] ?_; (with_reducible refine (slices_Clone_int_int.calls _ _ l0_3 t1 _ ?side1 ?side2 A2.out).mono ?_); (case side1 => exact bkan_); (case side2 => exact HC0_3.out); rintro e w3 ⟨v1, rfl, ho0, hb⟩; refine ⟨_, rfl, ?_⟩; have HO1 := A0_ (Kd.R_lower ho0 (bz_ bfnq_)); replace BK1 := k1_ BK1 hb; replace BK2 := k1_ BK2 hb; replace HB := hb_ hb bfnq_; (try clear hb); (try clear ho0)) | ((with_reducible refine gd_ (N := 6) rfl ?_); refine bx_ 6 #[.slice none 0 0] 22 ?_; intro gb3 hg w4 BK3 hb; replace HO1 := A0_ (Kd.R_below bsm5_ hb); have GW3 := ge_ hg bfnq_; have GE3 := GW3; replace HB := hb_ hb bfnq_; have NB1_3 := nl_ hg BK1; have NB3_1 := ng_ hg BK1; replace BK1 := k1_ BK1 hb; have NB2_3 := nl_ hg BK2; have NB3_2 := ng_ hg BK2; replace BK2 := k1_ BK2 hb; clear hb hg; obtain ⟨Ao1, co1, eo1⟩ := Kd.R_slice HO1.out; subst eo1; have HCAP := A0_ ((rr_ HO1.out).2.1); have hnb2 := NB3_1.out; have hnc2 := NB1_3.out; have hnb3 := NB3_2.out; have hnc3 := NB2_3.out; have hcz2 := z1_ BK3; have hcz3 := z3_ BK2) | ((with_reducible refine gc_ (f := 78) rfl ?_); refine gl_ 18 Tryz.func78 #[.slice Ao1 t1.length co1, .int .i64 a1_1] ?_; (with_reducible refine (slices_Index_int_int.calls k _ _ t1 a1_1 t2 _ ?side1 ?side2 A4.out).mono ?_); (case side1 => refine (rr_ (e := 3) (base := w.heap.size) (ok := fun k_ => True) (n := t1.length) (c := co1) ?_).2.2; exact bn35_); (case side2 => exact (rr_ HO1.out).2.1); rintro e w' ⟨rfl, ⟨nd, rfl⟩⟩; refine ⟨_, rfl, ?_⟩))
   go_ret2
   exact ⟨_, bnwh_, bwfe_, b850_⟩
  rw [if_neg c5] at H
  have c5b0 : decide (t2 < 0) = false := decide_eq_false c5
  clear c5
  obtain ⟨t5, A6, H⟩ := o1_ H
  by_cases c6 : t5 = true
  case neg =>
   obtain rfl := bf_.mpr c6
   rw [if_neg ft_] at H
   simp only [sj_, pj_] at H
   obtain ⟨rfl, rfl⟩ := H
   go_enter Tryz.func52, Tryz.ntmps52
   go_wp2_with (first | ((with_reducible refine gd_ (N := 2) rfl ?_); refine bx_ 2 #[.int .i64 a0_0, .bool a0_1, .slice A0_2 l0_2.length c0_2, .slice A0_3 l0_3.length c0_3, .int .i64 a0_4] 32 ?_; intro gb1 hg w1 BK1 hb; have GW1 := ge_ hg brt4_; have GE1 := GW1; replace HB := hb_ hb brt4_; clear hb hg) | ((with_reducible refine gd_ (N := 3) rfl ?_); refine bx_ 3 #[.int .i64 a1_0, .int .i64 a1_1, .int .i64 a1_2] 50 ?_; intro gb2 hg w2 BK2 hb; have GW2 := ge_ hg be6g_; have GE2 := GW2; replace HB := hb_ hb be6g_; have NB1_2 := nl_ hg BK1; have NB2_1 := ng_ hg BK1; replace BK1 := k1_ BK1 hb; clear hb hg; have hnb1 := NB1_2.out; have hnc1 := NB2_1.out; have hcz1 := z5_ BK1) | ((with_reducible refine gc_ (f := 74) rfl ?_); refine gl_ 13 Tryz.func74 #[.slice A0_3 l0_3.length c0_3] ?_; (with_reducible refine (slices_Clone_int_int.calls _ _ l0_3 t1 _ ?side1 ?side2 A2.out).mono ?_); (case side1 => exact bkan_); (case side2 => exact HC0_3.out); rintro e w3 ⟨v1, rfl, ho0, hb⟩; refine ⟨_, rfl, ?_⟩; have HO1 := A0_ (Kd.R_lower ho0 (bz_ bfnq_)); replace BK1 := k1_ BK1 hb; replace BK2 := k1_ BK2 hb; replace HB := hb_ hb bfnq_; (try clear hb); (try clear ho0)) | ((with_reducible refine gd_ (N := 6) rfl ?_); refine bx_ 6 #[.slice none 0 0] 22 ?_; intro gb3 hg w4 BK3 hb; replace HO1 := A0_ (Kd.R_below bsm5_ hb); have GW3 := ge_ hg bfnq_; have GE3 := GW3; replace HB := hb_ hb bfnq_; have NB1_3 := nl_ hg BK1; have NB3_1 := ng_ hg BK1; replace BK1 := k1_ BK1 hb; have NB2_3 := nl_ hg BK2; have NB3_2 := ng_ hg BK2; replace BK2 := k1_ BK2 hb; clear hb hg; obtain ⟨Ao1, co1, eo1⟩ := Kd.R_slice HO1.out; subst eo1; have HCAP := A0_ ((rr_ HO1.out).2.1); have hnb2 := NB3_1.out; have hnc2 := NB1_3.out; have hnb3 := NB3_2.out; have hnc3 := NB2_3.out; have hcz2 := z1_ BK3; have hcz3 := z3_ BK2) | ((with_reducible refine gc_ (f := 78) rfl ?_); refine gl_ 18 Tryz.func78 #[.slice Ao1 t1.length co1, .int .i64 a1_1] ?_; (with_reducible refine (slices_Index_int_int.calls k _ _ t1 a1_1 t2 _ ?side1 ?side2 A4.out).mono ?_); (case side1 => refine (rr_ (e := 3) (base := w.heap.size) (ok := fun k_ => True) (n := t1.length) (c := co1) ?_).2.2; exact bn35_); (case side2 => exact (rr_ HO1.out).2.1); rintro e w' ⟨rfl, ⟨nd, rfl⟩⟩; refine ⟨_, rfl, ?_⟩) | (go_at_call 75; (with_reducible refine (impl_houseFree.calls k a0_0 a0_1 A0_2 c0_2 l0_2 (.slice A0_3 l0_3.length c0_3) (.int .i64 a0_4) Ao1 co1 t1 a1_2 false gb1 gb3 _ ?side1 ?side2 ?side3 ?side4 ?side5 ?side6 A6.out).mono ?_); (case side1 => exact cb_ HR0_2.out b850_); (case side2 => exact HC0_2.out); (case side3 => refine (rr_ (e := 3) (base := w.heap.size) (ok := fun k_ => True) (n := t1.length) (c := co1) ?_).2.2; exact bn35_); (case side4 => exact HCAP.out); (case side5 => exact (u1_ BK1)); (case side6 => exact (u1_ BK3)); rintro e w5 ⟨rfl, hb⟩; replace HO1 := A0_ (Kd.R_below bn35_ hb); replace BK1 := k1_ BK1 hb; replace BK2 := k1_ BK2 hb; replace BK3 := k2_ (.cells #[.slice Ao1 t1.length co1] 22 (0, 0)) BK3 hb; replace HB := hb_ hb b850_; (try clear hb)))
   go_ret2
   exact ⟨_, bnwh_, bwfe_, b850_⟩
  subst c6
  rw [if_pos rfl] at H
  by_cases c7 : 0 ≤ t2
  case neg =>
   rw [if_neg c7] at H
   exact absurd H bxka_
  rw [if_pos c7] at H
  have c7b0 : decide (0 ≤ t2) = true := dt_ c7
  clear c7
  by_cases c8 : t2 < (t1.length : Int)
  case neg =>
   rw [if_neg c8] at H
   exact absurd H bxka_
  rw [if_pos c8] at H
  have c8b0 : decide (t2 < (t1.length : Int)) = true := dt_ c8
  clear c8
  obtain ⟨y4, hy1⟩ : ∃ y_ : List Int, y_ = (t1.set (t2 : Int).toNat a1_2) := ⟨_, rfl⟩
  replace H : (some (y4, true)) = some (r1, r2) := bgiq_
  have Ny1 := A0_ hy1
  clear hy1
  simp only [sj_, pj_] at H
  obtain ⟨rfl, rfl⟩ := H
  go_enter Tryz.func52, Tryz.ntmps52
  go_wp2_with (first | ((with_reducible refine gd_ (N := 2) rfl ?_); refine bx_ 2 #[.int .i64 a0_0, .bool a0_1, .slice A0_2 l0_2.length c0_2, .slice A0_3 l0_3.length c0_3, .int .i64 a0_4] 32 ?_; intro gb1 hg w1 BK1 hb; have GW1 := ge_ hg brt4_; have GE1 := GW1; replace HB := hb_ hb brt4_; clear hb hg) | ((with_reducible refine gd_ (N := 3) rfl ?_); refine bx_ 3 #[.int .i64 a1_0, .int .i64 a1_1, .int .i64 a1_2] 50 ?_; intro gb2 hg w2 BK2 hb; have GW2 := ge_ hg be6g_; have GE2 := GW2; replace HB := hb_ hb be6g_; have NB1_2 := nl_ hg BK1; have NB2_1 := ng_ hg BK1; replace BK1 := k1_ BK1 hb; clear hb hg; have hnb1 := NB1_2.out; have hnc1 := NB2_1.out; have hcz1 := z5_ BK1) | ((with_reducible refine gc_ (f := 74) rfl ?_); refine gl_ 13 Tryz.func74 #[.slice A0_3 l0_3.length c0_3] ?_; (with_reducible refine (slices_Clone_int_int.calls _ _ l0_3 t1 _ ?side1 ?side2 A2.out).mono ?_); (case side1 => exact bkan_); (case side2 => exact HC0_3.out); rintro e w3 ⟨v1, rfl, ho0, hb⟩; refine ⟨_, rfl, ?_⟩; have HO1 := A0_ (Kd.R_lower ho0 (bz_ bfnq_)); replace BK1 := k1_ BK1 hb; replace BK2 := k1_ BK2 hb; replace HB := hb_ hb bfnq_; (try clear hb); (try clear ho0)) | ((with_reducible refine gd_ (N := 6) rfl ?_); refine bx_ 6 #[.slice none 0 0] 22 ?_; intro gb3 hg w4 BK3 hb; replace HO1 := A0_ (Kd.R_below bsm5_ hb); have GW3 := ge_ hg bfnq_; have GE3 := GW3; replace HB := hb_ hb bfnq_; have NB1_3 := nl_ hg BK1; have NB3_1 := ng_ hg BK1; replace BK1 := k1_ BK1 hb; have NB2_3 := nl_ hg BK2; have NB3_2 := ng_ hg BK2; replace BK2 := k1_ BK2 hb; clear hb hg; obtain ⟨Ao1, co1, eo1⟩ := Kd.R_slice HO1.out; subst eo1; have HCAP := A0_ ((rr_ HO1.out).2.1); have hnb2 := NB3_1.out; have hnc2 := NB1_3.out; have hnb3 := NB3_2.out; have hnc3 := NB2_3.out; have hcz2 := z1_ BK3; have hcz3 := z3_ BK2) | ((with_reducible refine gc_ (f := 78) rfl ?_); refine gl_ 18 Tryz.func78 #[.slice Ao1 t1.length co1, .int .i64 a1_1] ?_; (with_reducible refine (slices_Index_int_int.calls k _ _ t1 a1_1 t2 _ ?side1 ?side2 A4.out).mono ?_); (case side1 => refine (rr_ (e := 3) (base := w.heap.size) (ok := fun k_ => True) (n := t1.length) (c := co1) ?_).2.2; exact bn35_); (case side2 => exact (rr_ HO1.out).2.1); rintro e w' ⟨rfl, ⟨nd, rfl⟩⟩; refine ⟨_, rfl, ?_⟩) | (go_at_call 75; (with_reducible refine (impl_houseFree.calls k a0_0 a0_1 A0_2 c0_2 l0_2 (.slice A0_3 l0_3.length c0_3) (.int .i64 a0_4) Ao1 co1 t1 a1_2 true gb1 gb3 _ ?side1 ?side2 ?side3 ?side4 ?side5 ?side6 A6.out).mono ?_); (case side1 => exact cb_ HR0_2.out b850_); (case side2 => exact HC0_2.out); (case side3 => refine (rr_ (e := 3) (base := w.heap.size) (ok := fun k_ => True) (n := t1.length) (c := co1) ?_).2.2; exact bn35_); (case side4 => exact HCAP.out); (case side5 => exact (u1_ BK1)); (case side6 => exact (u1_ BK3)); rintro e w5 ⟨rfl, hb⟩; replace HO1 := A0_ (Kd.R_below bn35_ hb); replace BK1 := k1_ BK1 hb; replace BK2 := k1_ BK2 hb; replace BK3 := k2_ (.cells #[.slice Ao1 t1.length co1] 22 (0, 0)) BK3 hb; replace HB := hb_ hb b850_; (try clear hb); have hcz4 := z1_ BK3; have hcz5 := z3_ BK2; have p1 : 0 ≤ (t2 : Int) := od_ bpil_; have q1 : (t2 : Int) < ((t1.length : Int) : Int) := od_ bpil_; obtain ⟨go134, co2, eo2, gb4, gl134, cl134, HG134⟩ := Kd.R_form HO1.out bh19_; (first | cases eo2 | (injection eo2 with ea_ en_ ec_; (first | subst ea_ | (injection ea_ with ea_; subst ea_)); subst ec_; clear en_)); have GB134 := A0_ gb4; have GG134 := A0_ HG134; clear gb4 gl134 HG134; obtain ⟨hx1_0, hf1_0⟩ := Kd.R_celln 0 HO1.out (t2 : Int) p1 q1; replace p1 := eq_true p1; replace q1 := eq_true q1; obtain ⟨hy2_, hz149_⟩ := Kd.R_celln 0 HO1.out (t2 : Int) (od_ bpil_) (od_ bpil_); have HP1 := Kd.R_putg HO1.out (t2 : Int) a1_2) | ((with_reducible refine gate_store (t := 3) (p := 87) rfl ?_); refine store_event (t := 3) (p := 87) (v := ?vo_w150) (w1 := (w5.setCell ⟨go134, (t2 : Int).toNat, none⟩ (.int .i64 a1_2))) ?hg ?ho ?hn ?hr ?_; (case ho => rfl); (case hg => rfl); (case hn => rfl); (case hr => go_simp; first | done | rfl); intro w6 hw; have hg : w5.grownBy w6 (some go134) := (by rw [hw]; exact HP1.2); have hp_ : Kd.R (Kd.int .i64) 3 w6 w.heap.size (fun _ => True) (.slice (some ⟨go134, 0, none⟩) t1.length co1) y4 := (by rw [hw, Ny1.out]; exact HP1.1); clear HP1; replace BK1 := A0_ (blk_grown (g := gb1) (o := .cells #[.int .i64 a0_0, .bool a0_1, .slice A0_2 l0_2.length c0_2, .slice A0_3 l0_3.length c0_3, .int .i64 a0_4] 32 (0, 0)) (u1_ BK1) hg (Kd.R_ne HO1.out BK1.out bi3y_)); replace BK2 := A0_ (blk_grown (g := gb2) (o := .cells #[.int .i64 a1_0, .int .i64 a1_1, .int .i64 a1_2] 50 (0, 0)) (u1_ BK2) hg (Kd.R_ne HO1.out BK2.out bi3y_)); replace BK3 := A0_ (blk_grown (g := gb3) (o := .cells #[.slice (some ⟨go134, 0, none⟩) t1.length co1] 22 (0, 0)) (u1_ BK3) hg (Kd.R_ne HO1.out BK3.out bi3y_)); replace HO1 := A0_ (hp_); replace HB := A0_ ((by rw [hw]; exact bs_ (HB.out) GB134.out : Below w.heap.size w w6)); clear hg hw hp_; have hcz6 := z1_ BK3))
  go_ret2
  exact ⟨_, bnwh_, bsm5_, b850_⟩
 rw [if_neg c4] at H
 obtain ⟨c4b0, c4b1⟩ := ef_ c4
 by_cases c5 : a1_0 = 5
 case neg =>
  rw [if_neg c5] at H
  obtain ⟨c5b0, c5b1⟩ := ef_ c5
  simp only [sj_, pj_] at H
  obtain ⟨rfl, rfl⟩ := H
  go_enter Tryz.func52, Tryz.ntmps52
  go_wp2_with (first | ((with_reducible refine gd_ (N := 2) rfl ?_); refine bx_ 2 #[.int .i64 a0_0, .bool a0_1, .slice A0_2 l0_2.length c0_2, .slice A0_3 l0_3.length c0_3, .int .i64 a0_4] 32 ?_; intro gb1 hg w1 BK1 hb; have GW1 := ge_ hg brt4_; have GE1 := GW1; replace HB := hb_ hb brt4_; clear hb hg) | ((with_reducible refine gd_ (N := 3) rfl ?_); refine bx_ 3 #[.int .i64 a1_0, .int .i64 a1_1, .int .i64 a1_2] 50 ?_; intro gb2 hg w2 BK2 hb; have GW2 := ge_ hg be6g_; have GE2 := GW2; replace HB := hb_ hb be6g_; have NB1_2 := nl_ hg BK1; have NB2_1 := ng_ hg BK1; replace BK1 := k1_ BK1 hb; clear hb hg; have hnb1 := NB1_2.out; have hnc1 := NB2_1.out; have hcz1 := z5_ BK1) | ((with_reducible refine gc_ (f := 74) rfl ?_); refine gl_ 13 Tryz.func74 #[.slice A0_3 l0_3.length c0_3] ?_; (with_reducible refine (slices_Clone_int_int.calls _ _ l0_3 t1 _ ?side1 ?side2 A2.out).mono ?_); (case side1 => exact bkan_); (case side2 => exact HC0_3.out); rintro e w3 ⟨v1, rfl, ho0, hb⟩; refine ⟨_, rfl, ?_⟩; have HO1 := A0_ (Kd.R_lower ho0 (bz_ bfnq_)); replace BK1 := k1_ BK1 hb; replace BK2 := k1_ BK2 hb; replace HB := hb_ hb bfnq_; (try clear hb); (try clear ho0)) | ((with_reducible refine gd_ (N := 6) rfl ?_); refine bx_ 6 #[.slice none 0 0] 22 ?_; intro gb3 hg w4 BK3 hb; replace HO1 := A0_ (Kd.R_below bsm5_ hb); have GW3 := ge_ hg bfnq_; have GE3 := GW3; replace HB := hb_ hb bfnq_; have NB1_3 := nl_ hg BK1; have NB3_1 := ng_ hg BK1; replace BK1 := k1_ BK1 hb; have NB2_3 := nl_ hg BK2; have NB3_2 := ng_ hg BK2; replace BK2 := k1_ BK2 hb; clear hb hg; obtain ⟨Ao1, co1, eo1⟩ := Kd.R_slice HO1.out; subst eo1; have HCAP := A0_ ((rr_ HO1.out).2.1); have hnb2 := NB3_1.out; have hnc2 := NB1_3.out; have hnb3 := NB3_2.out; have hnc3 := NB2_3.out; have hcz2 := z1_ BK3; have hcz3 := z3_ BK2) | ((with_reducible refine gc_ (f := 78) rfl ?_); refine gl_ 18 Tryz.func78 #[.slice Ao1 t1.length co1, .int .i64 a1_1] ?_; (with_reducible refine (slices_Index_int_int.calls k _ _ t1 a1_1 t2 _ ?side1 ?side2 A4.out).mono ?_); (case side1 => refine (rr_ (e := 3) (base := w.heap.size) (ok := fun k_ => True) (n := t1.length) (c := co1) ?_).2.2; exact bn35_); (case side2 => exact (rr_ HO1.out).2.1); rintro e w' ⟨rfl, ⟨nd, rfl⟩⟩; refine ⟨_, rfl, ?_⟩))
  go_ret2
  exact ⟨_, bnwh_, bwfe_, b850_⟩
 rw [if_pos c5] at H
 obtain ⟨c5b0, c5b1⟩ := et_ c5
 clear c5
 obtain ⟨y3, hy1⟩ : ∃ y_ : List Int, y_ = (([] : List Int)) := ⟨_, rfl⟩
 replace H : (if a1_1 = 0 then (some (y3, (a1_2 == 0))) else (some (y3, false))) = some (r1, r2) := bgiq_
 have Ny1 := A0_ hy1
 clear hy1
 by_cases c6 : a1_1 = 0
 case neg =>
  rw [if_neg c6] at H
  obtain ⟨c6b0, c6b1⟩ := ef_ c6
  simp only [sj_, pj_] at H
  obtain ⟨rfl, rfl⟩ := H
  go_enter Tryz.func52, Tryz.ntmps52
  try go_wp2_with (first | ((with_reducible refine gd_ (N := 2) rfl ?_); refine bx_ 2 #[.int .i64 a0_0, .bool a0_1, .slice A0_2 l0_2.length c0_2, .slice A0_3 l0_3.length c0_3, .int .i64 a0_4] 32 ?_; intro gb1 hg w1 BK1 hb; have GW1 := ge_ hg brt4_; have GE1 := GW1; replace HB := hb_ hb brt4_; clear hb hg) | ((with_reducible refine gd_ (N := 3) rfl ?_); refine bx_ 3 #[.int .i64 a1_0, .int .i64 a1_1, .int .i64 a1_2] 50 ?_; intro gb2 hg w2 BK2 hb; have GW2 := ge_ hg be6g_; have GE2 := GW2; replace HB := hb_ hb be6g_; have NB1_2 := nl_ hg BK1; have NB2_1 := ng_ hg BK1; replace BK1 := k1_ BK1 hb; clear hb hg; have hnb1 := NB1_2.out; have hnc1 := NB2_1.out; have hcz1 := z5_ BK1) | ((with_reducible refine gc_ (f := 74) rfl ?_); refine gl_ 13 Tryz.func74 #[.slice A0_3 l0_3.length c0_3] ?_; (with_reducible refine (slices_Clone_int_int.calls _ _ l0_3 t1 _ ?side1 ?side2 A2.out).mono ?_); (case side1 => exact bkan_); (case side2 => exact HC0_3.out); rintro e w3 ⟨v1, rfl, ho0, hb⟩; refine ⟨_, rfl, ?_⟩; have HO1 := A0_ (Kd.R_lower ho0 (bz_ bfnq_)); replace BK1 := k1_ BK1 hb; replace BK2 := k1_ BK2 hb; replace HB := hb_ hb bfnq_; (try clear hb); (try clear ho0)) | ((with_reducible refine gd_ (N := 6) rfl ?_); refine bx_ 6 #[.slice none 0 0] 22 ?_; intro gb3 hg w4 BK3 hb; replace HO1 := A0_ (Kd.R_below bsm5_ hb); have GW3 := ge_ hg bfnq_; have GE3 := GW3; replace HB := hb_ hb bfnq_; have NB1_3 := nl_ hg BK1; have NB3_1 := ng_ hg BK1; replace BK1 := k1_ BK1 hb; have NB2_3 := nl_ hg BK2; have NB3_2 := ng_ hg BK2; replace BK2 := k1_ BK2 hb; clear hb hg; obtain ⟨Ao1, co1, eo1⟩ := Kd.R_slice HO1.out; subst eo1; have HCAP := A0_ ((rr_ HO1.out).2.1); have hnb2 := NB3_1.out; have hnc2 := NB1_3.out; have hnb3 := NB3_2.out; have hnc3 := NB2_3.out; have hcz2 := z1_ BK3; have hcz3 := z3_ BK2) | ((with_reducible refine gc_ (f := 78) rfl ?_); refine gl_ 18 Tryz.func78 #[.slice Ao1 t1.length co1, .int .i64 a1_1] ?_; (with_reducible refine (slices_Index_int_int.calls k _ _ t1 a1_1 t2 _ ?side1 ?side2 A4.out).mono ?_); (case side1 => refine (rr_ (e := 3) (base := w.heap.size) (ok := fun k_ => True) (n := t1.length) (c := co1) ?_).2.2; exact bn35_); (case side2 => exact (rr_ HO1.out).2.1); rintro e w' ⟨rfl, ⟨nd, rfl⟩⟩; refine ⟨_, rfl, ?_⟩))
  have n0_ : Aside0 (Kd.R (Kd.int .i64) 3 (w4.setCell ⟨gb3, 0, none⟩ (.slice Ao1 t1.length co1)) w.heap.size (fun _ => True) (.slice Ao1 t1.length co1) t1) := ⟨bg7k_⟩
  have n1_ : Aside0 ((w4.setCell ⟨gb3, 0, none⟩ (.slice Ao1 t1.length co1)).heap[gb1]? = some (.cells #[.int .i64 a0_0, .bool a0_1, .slice A0_2 l0_2.length c0_2, .slice A0_3 l0_3.length c0_3, .int .i64 a0_4] 32 (0, 0))) := ⟨u1_ BK1⟩
  have n2_ : Aside0 ((w4.setCell ⟨gb3, 0, none⟩ (.slice Ao1 t1.length co1)).heap[gb2]? = some (.cells #[.int .i64 a1_0, .int .i64 a1_1, .int .i64 a1_2] 50 (0, 0))) := ⟨u1_ BK2⟩
  have n3_ : Aside0 ((w4.setCell ⟨gb3, 0, none⟩ (.slice Ao1 t1.length co1)).heap[gb3]? = some (.cells #[.slice Ao1 t1.length co1] 22 (0, 0))) := ⟨u1_ BK3⟩
  have n4_ : Aside0 (Below w.heap.size w (w4.setCell ⟨gb3, 0, none⟩ (.slice Ao1 t1.length co1))) := ⟨b850_⟩
  (try clear HO1)
  (try clear BK1)
  (try clear BK2)
  (try clear BK3)
  (try clear HB)
  generalize (w4.setCell ⟨gb3, 0, none⟩ (.slice Ao1 t1.length co1)) = w5 at n0_ n1_ n2_ n3_ n4_ ⊢
  have HO1 := n0_
  have BK1 := n1_
  have BK2 := n2_
  have BK3 := n3_
  have HB := n4_
  clear n0_ n1_ n2_ n3_ n4_
  (try (rw [drewN_self w5]; generalize hq_ : World.drewN w5 _ = w5; have n0_ : Aside0 (Kd.R (Kd.int .i64) 3 w5 w.heap.size (fun _ => True) (.slice Ao1 t1.length co1) t1) := ⟨bv95_⟩; have n1_ : Aside0 (w5.heap[gb1]? = some (.cells #[.int .i64 a0_0, .bool a0_1, .slice A0_2 l0_2.length c0_2, .slice A0_3 l0_3.length c0_3, .int .i64 a0_4] 32 (0, 0))) := ⟨b53m_⟩; have n2_ : Aside0 (w5.heap[gb2]? = some (.cells #[.int .i64 a1_0, .int .i64 a1_1, .int .i64 a1_2] 50 (0, 0))) := ⟨by rw [← hq_]; exact (u1_ BK2)⟩; have n3_ : Aside0 (w5.heap[gb3]? = some (.cells #[.slice Ao1 t1.length co1] 22 (0, 0))) := ⟨by rw [← hq_]; exact (u1_ BK3)⟩; have n4_ : Aside0 (Below w.heap.size w w5) := ⟨bcpu_⟩; clear HO1 BK1 BK2 BK3 HB hq_; have HO1 := n0_; have BK1 := n1_; have BK2 := n2_; have BK3 := n3_; have HB := n4_; clear n0_ n1_ n2_ n3_ n4_))
  replace HO1 := A0_ (rd_ HO1.out)
  replace BK1 := A0_ (kd_ BK1.out)
  replace BK2 := A0_ (kd_ BK2.out)
  replace BK3 := A0_ (kd_ BK3.out)
  replace HB := A0_ (bd_ HB.out)
  refine s3_ 11 [] BK2 impl_House_guests.tab20 impl_House_guests.bits20 (fun hHeld HT_ HW_ => ?_)
  generalize w5.drew = w6 at HO1 BK1 BK2 BK3 HB hHeld ⊢
  refine pu_ 1 92 ?_
  refine tk_ 2 93 hHeld ?_
  refine pu_ 3 94 ?_
  refine pu_ 4 95 ?_
  refine pv_ 5 96 ?_
  refine pv_ 6 97 ?_
  refine pv_ 7 98 ?_
  refine pu_ 8 99 ?_
  refine on_ 0 (some 91) (fun K hK => ?_)
  refine Kd.R_lit_step (Kd.int .i64) _ 3 ?hg (N := 91) ?hd (xs := ([] : List Int)) (inner := []) (ok := fun _ => True) (okp := fun _ => True) ?hr ?hp (fun _ hk => hk) trivial (Below.refl _ _) (Nat.le_refl _) bxka_ ?_; (case hd => rfl); (case hg => rfl); (case hr => go_simp; first | done | rfl); (case hp => exact (Reps.none _ _))
  intro v2 w7 ho195 hb hg_ hnew_
  clear hg_ hnew_
  (first | rw [← Ny1.out] at ho195 | (simp only [Int.reduceToNat] at ho195; rw [← Ny1.out] at ho195))
  have HO2 := A0_ (Kd.R_lower (Kd.R_new' ho195 (Kd.R_lt bsm5_)) (bz_ b850_))
  replace HO1 := A0_ (Kd.R_elder' bsm5_ (Kd.R_base ho195) hb)
  replace BK1 := k1_ BK1 hb
  replace BK2 := k1_ BK2 hb
  replace BK3 := k1_ BK3 hb
  replace HB := hb_ hb b850_
  clear hb ho195
  refine hK.out _ _ (c3_ BK2) (fun hHeld => ?_)
  clear hK K
  refine nm_ 91 ?_
  refine pu_ 9 4 ?_
  refine pu_ 10 5 ?_
  refine dn_ ?_
  try go_wp2
  go_ret2
  exact ⟨_, bnwh_, buel_, b850_⟩
 rw [if_pos c6] at H
 obtain ⟨c6b0, c6b1⟩ := et_ c6
 clear c6
 simp only [sj_, pj_] at H
 obtain ⟨rfl, rfl⟩ := H
 go_enter Tryz.func52, Tryz.ntmps52
 try go_wp2_with (first | ((with_reducible refine gd_ (N := 2) rfl ?_); refine bx_ 2 #[.int .i64 a0_0, .bool a0_1, .slice A0_2 l0_2.length c0_2, .slice A0_3 l0_3.length c0_3, .int .i64 a0_4] 32 ?_; intro gb1 hg w1 BK1 hb; have GW1 := ge_ hg brt4_; have GE1 := GW1; replace HB := hb_ hb brt4_; clear hb hg) | ((with_reducible refine gd_ (N := 3) rfl ?_); refine bx_ 3 #[.int .i64 a1_0, .int .i64 a1_1, .int .i64 a1_2] 50 ?_; intro gb2 hg w2 BK2 hb; have GW2 := ge_ hg be6g_; have GE2 := GW2; replace HB := hb_ hb be6g_; have NB1_2 := nl_ hg BK1; have NB2_1 := ng_ hg BK1; replace BK1 := k1_ BK1 hb; clear hb hg; have hnb1 := NB1_2.out; have hnc1 := NB2_1.out; have hcz1 := z5_ BK1) | ((with_reducible refine gc_ (f := 74) rfl ?_); refine gl_ 13 Tryz.func74 #[.slice A0_3 l0_3.length c0_3] ?_; (with_reducible refine (slices_Clone_int_int.calls _ _ l0_3 t1 _ ?side1 ?side2 A2.out).mono ?_); (case side1 => exact bkan_); (case side2 => exact HC0_3.out); rintro e w3 ⟨v1, rfl, ho0, hb⟩; refine ⟨_, rfl, ?_⟩; have HO1 := A0_ (Kd.R_lower ho0 (bz_ bfnq_)); replace BK1 := k1_ BK1 hb; replace BK2 := k1_ BK2 hb; replace HB := hb_ hb bfnq_; (try clear hb); (try clear ho0)) | ((with_reducible refine gd_ (N := 6) rfl ?_); refine bx_ 6 #[.slice none 0 0] 22 ?_; intro gb3 hg w4 BK3 hb; replace HO1 := A0_ (Kd.R_below bsm5_ hb); have GW3 := ge_ hg bfnq_; have GE3 := GW3; replace HB := hb_ hb bfnq_; have NB1_3 := nl_ hg BK1; have NB3_1 := ng_ hg BK1; replace BK1 := k1_ BK1 hb; have NB2_3 := nl_ hg BK2; have NB3_2 := ng_ hg BK2; replace BK2 := k1_ BK2 hb; clear hb hg; obtain ⟨Ao1, co1, eo1⟩ := Kd.R_slice HO1.out; subst eo1; have HCAP := A0_ ((rr_ HO1.out).2.1); have hnb2 := NB3_1.out; have hnc2 := NB1_3.out; have hnb3 := NB3_2.out; have hnc3 := NB2_3.out; have hcz2 := z1_ BK3; have hcz3 := z3_ BK2) | ((with_reducible refine gc_ (f := 78) rfl ?_); refine gl_ 18 Tryz.func78 #[.slice Ao1 t1.length co1, .int .i64 a1_1] ?_; (with_reducible refine (slices_Index_int_int.calls k _ _ t1 a1_1 t2 _ ?side1 ?side2 A4.out).mono ?_); (case side1 => refine (rr_ (e := 3) (base := w.heap.size) (ok := fun k_ => True) (n := t1.length) (c := co1) ?_).2.2; exact bn35_); (case side2 => exact (rr_ HO1.out).2.1); rintro e w' ⟨rfl, ⟨nd, rfl⟩⟩; refine ⟨_, rfl, ?_⟩))
 have n0_ : Aside0 (Kd.R (Kd.int .i64) 3 (w4.setCell ⟨gb3, 0, none⟩ (.slice Ao1 t1.length co1)) w.heap.size (fun _ => True) (.slice Ao1 t1.length co1) t1) := ⟨bg7k_⟩
 have n1_ : Aside0 ((w4.setCell ⟨gb3, 0, none⟩ (.slice Ao1 t1.length co1)).heap[gb1]? = some (.cells #[.int .i64 a0_0, .bool a0_1, .slice A0_2 l0_2.length c0_2, .slice A0_3 l0_3.length c0_3, .int .i64 a0_4] 32 (0, 0))) := ⟨u1_ BK1⟩
 have n2_ : Aside0 ((w4.setCell ⟨gb3, 0, none⟩ (.slice Ao1 t1.length co1)).heap[gb2]? = some (.cells #[.int .i64 a1_0, .int .i64 a1_1, .int .i64 a1_2] 50 (0, 0))) := ⟨u1_ BK2⟩
 have n3_ : Aside0 ((w4.setCell ⟨gb3, 0, none⟩ (.slice Ao1 t1.length co1)).heap[gb3]? = some (.cells #[.slice Ao1 t1.length co1] 22 (0, 0))) := ⟨u1_ BK3⟩
 have n4_ : Aside0 (Below w.heap.size w (w4.setCell ⟨gb3, 0, none⟩ (.slice Ao1 t1.length co1))) := ⟨b850_⟩
 (try clear HO1)
 (try clear BK1)
 (try clear BK2)
 (try clear BK3)
 (try clear HB)
 generalize (w4.setCell ⟨gb3, 0, none⟩ (.slice Ao1 t1.length co1)) = w5 at n0_ n1_ n2_ n3_ n4_ ⊢
 have HO1 := n0_
 have BK1 := n1_
 have BK2 := n2_
 have BK3 := n3_
 have HB := n4_
 clear n0_ n1_ n2_ n3_ n4_
 (try (rw [drewN_self w5]; generalize hq_ : World.drewN w5 _ = w5; have n0_ : Aside0 (Kd.R (Kd.int .i64) 3 w5 w.heap.size (fun _ => True) (.slice Ao1 t1.length co1) t1) := ⟨bv95_⟩; have n1_ : Aside0 (w5.heap[gb1]? = some (.cells #[.int .i64 a0_0, .bool a0_1, .slice A0_2 l0_2.length c0_2, .slice A0_3 l0_3.length c0_3, .int .i64 a0_4] 32 (0, 0))) := ⟨b53m_⟩; have n2_ : Aside0 (w5.heap[gb2]? = some (.cells #[.int .i64 a1_0, .int .i64 a1_1, .int .i64 a1_2] 50 (0, 0))) := ⟨by rw [← hq_]; exact (u1_ BK2)⟩; have n3_ : Aside0 (w5.heap[gb3]? = some (.cells #[.slice Ao1 t1.length co1] 22 (0, 0))) := ⟨by rw [← hq_]; exact (u1_ BK3)⟩; have n4_ : Aside0 (Below w.heap.size w w5) := ⟨bcpu_⟩; clear HO1 BK1 BK2 BK3 HB hq_; have HO1 := n0_; have BK1 := n1_; have BK2 := n2_; have BK3 := n3_; have HB := n4_; clear n0_ n1_ n2_ n3_ n4_))
 replace HO1 := A0_ (rd_ HO1.out)
 replace BK1 := A0_ (kd_ BK1.out)
 replace BK2 := A0_ (kd_ BK2.out)
 replace BK3 := A0_ (kd_ BK3.out)
 replace HB := A0_ (bd_ HB.out)
 refine s3_ 11 [] BK2 impl_House_guests.tab20 impl_House_guests.bits20 (fun hHeld HT_ HW_ => ?_)
 generalize w5.drew = w6 at HO1 BK1 BK2 BK3 HB hHeld ⊢
 refine pu_ 1 92 ?_
 refine tk_ 2 93 hHeld ?_
 refine pu_ 3 94 ?_
 refine pu_ 4 95 ?_
 refine pu_ 5 96 ?_
 refine tk_ 6 97 hHeld ?_
 refine pu_ 7 98 ?_
 refine pu_ 8 99 ?_
 refine on_ 0 (some 91) (fun K hK => ?_)
 refine Kd.R_lit_step (Kd.int .i64) _ 3 ?hg (N := 91) ?hd (xs := ([] : List Int)) (inner := []) (ok := fun _ => True) (okp := fun _ => True) ?hr ?hp (fun _ hk => hk) trivial (Below.refl _ _) (Nat.le_refl _) bxka_ ?_; (case hd => rfl); (case hg => rfl); (case hr => go_simp; first | done | rfl); (case hp => exact (Reps.none _ _))
 intro v2 w7 ho180 hb hg_ hnew_
 clear hg_ hnew_
 (first | rw [← Ny1.out] at ho180 | (simp only [Int.reduceToNat] at ho180; rw [← Ny1.out] at ho180))
 have HO2 := A0_ (Kd.R_lower (Kd.R_new' ho180 (Kd.R_lt bsm5_)) (bz_ b850_))
 replace HO1 := A0_ (Kd.R_elder' bsm5_ (Kd.R_base ho180) hb)
 replace BK1 := k1_ BK1 hb
 replace BK2 := k1_ BK2 hb
 replace BK3 := k1_ BK3 hb
 replace HB := hb_ hb b850_
 clear hb ho180
 refine hK.out _ _ (c3_ BK2) (fun hHeld => ?_)
 clear hK K
 refine nm_ 91 ?_
 refine pu_ 9 4 ?_
 refine pu_ 10 5 ?_
 refine dn_ ?_
 try go_wp2
 go_ret2
 exact ⟨_, bnwh_, buel_, b850_⟩

end Go.Proofs.YtbohmfnjgjijdaaGreatDoor.QFnExactDoWorks
-- packed
-- squeezed
