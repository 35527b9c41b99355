-- Written by px.py, a program of this session, over the kit's printer: some functions have a definition and a proof of this session's own.
import Derived.Lib.ConvBytes
import Derived.Lib.AtoiErrMem
import Derived.Lib.ItoaMem
import Derived.KernelRfl
import Derived.Test.YtphcagjmpaajmaaDoorQFnCrashesx0
import Derived.Test.YtphcagjmpaajmaaDoorQFnCrashesx3
import Derived.Test.YtphcagjmpaajmaaDoorQFnCrashesx5
import Derived.Test.YtphcagjmpaajmaaDoorQFnCrashesx7
namespace Go.Proofs.YtphcagjmpaajmaaDoor.QFnCrashes
open Go.RowKit Go.Proofs.YtphcagjmpaajmaaDoorW.PrintWords Go.Proofs.YtphcagjmpaajmaaDoorW.PrintLast Go.Proofs.YtphcagjmpaajmaaDoorW.PrintMore
attribute [local go_sem] max2_int min2_int max_two min_two max_three min_three max_four min_four   -- for this text's walks alone
set_option linter.unusedVariables false
set_option linter.unusedSimpArgs false

/-! ### spec_CrashLog: function 23 -/
/-- A text's bytes as numbers; a text whose last byte is told as 255 less it. -/
def bnums (s : ByteArray) : List Int := s.data.toList.map fun b => (b.toNat : Int)
def flipLast (s : ByteArray) : ByteArray := strOfNums ((bnums s).set (s.size - 1) (255 - (bnums s).getD (s.size - 1) 0))
theorem bnums_length (s : ByteArray) : (bnums s).length = s.size := by simp [bnums]
theorem strOf_bnums (s : ByteArray) : strOfNums (bnums s) = s := by
 apply ByteArray.ext
 apply Array.toList_inj.1
 unfold strOfNums bnums
 rw [List.map_map]
 have : ((fun n : Int => UInt8.ofNat n.toNat) ∘ fun b : UInt8 => (b.toNat : Int)) = id := by
  funext b
  simp
 rw [this, List.map_id]
theorem flip_size (s : ByteArray) : (flipLast s).size = s.size := by
 unfold flipLast strOfNums
 show (List.toArray _).size = _
 rw [List.size_toArray, List.length_map, List.length_set, bnums_length]
theorem bnums_range (s : ByteArray) (j : Nat) (h : j < s.size) : 0 ≤ (bnums s).getD j 0 ∧ (bnums s).getD j 0 ≤ 255 := by
 have hj : j < s.data.toList.length := by simpa using h
 have : (bnums s).getD j 0 = ((s.data.toList[j]'hj).toNat : Int) := by
  unfold bnums
  rw [List.getD_eq_getElem?_getD, List.getElem?_map, List.getElem?_eq_getElem hj]
  rfl
 rw [this]
 have := (s.data.toList[j]'hj).toNat_lt
 omega
/-- The bytes of a text lie in a block, from its start on, and nothing of them is frozen. -/
def Bytes (w : World) (g : Nat) (s : ByteArray) : Prop := ∃ cs e fr, w.heap[g]? = some (.cells cs e fr) ∧ s.size ≤ fr.1 ∧ s.size ≤ cs.size ∧ ∀ j, j < s.size → cs[j]? = some (.int .u8 ((bnums s).getD j 0))
theorem bytes_new (w : World) (e : TypeId) (s : ByteArray) : Bytes (Lib.bytesWorld w e s) w.heap.size s := by
 refine ⟨_, _, _, Lib.bytesWorld_at_new w e s, ?_, ?_, ?_⟩
 ·simp [Lib.bytesCells]
 ·simp [Lib.bytesCells]
 ·intro j hj
  unfold Lib.bytesCells bnums
  rw [Array.getElem?_append_left (by simpa using hj), List.getD_eq_getElem?_getD, List.getElem?_map, List.getElem?_eq_getElem (by simpa using hj), Array.getElem?_map, Array.getElem?_eq_getElem (by simpa using hj)]
  rfl
theorem Bytes.cell {w : World} {g : Nat} {s : ByteArray} (h : Bytes w g s) (j : Nat) (hj : j < s.size) : w.cell? ⟨g, j, none⟩ = some (.int .u8 ((bnums s).getD j 0)) := by
 obtain ⟨cs, e, fr, hh, _, _, hc⟩ := h
 rw [cell_of_row w g j cs e fr hh]
 exact hc j hj
theorem Bytes.free {w : World} {g : Nat} {s : ByteArray} (h : Bytes w g s) (j : Nat) (hj : j < s.size) : w.frozen? ⟨g, j, none⟩ = false := by
 obtain ⟨cs, e, fr, hh, h1, _, _⟩ := h
 simp [World.frozen?, hh]
 omega
theorem conv_facts (W : World) (e : TypeId) (s : ByteArray) : ∃ g cap w1, W.heap.size = g ∧ grownCap W s.size 0 e = cap ∧ Lib.bytesWorld W e s = w1 ∧ Bytes w1 g s ∧ Below W.heap.size W w1 := ⟨_, _, _, rfl, rfl, rfl, bytes_new W e s, Lib.bytesWorld_below W e s⟩
theorem bytes_back (w : World) (g cap : Nat) (s : ByteArray) (h : Bytes w g s) (hl : s.size ≤ 9223372036854775807) : (convert 53 9 (.slice (some ⟨g, 0, none⟩) s.size cap)).run Tryd.prog w = .ok (.string s) w := by
 have := string_of_reads (P := Tryd.prog) (w := w) (src := 53) (dst := 9) (A := some ⟨g, 0, none⟩) (n := s.size) (c := cap) (xs := bnums s) Tryd.underlying53 Tryd.underlying5 Tryd.underlying9 ⟨bnums_length s, hl, fun _ => ⟨_, rfl, fun j hj => by rw [Lib.add_plain, Nat.zero_add]; exact h.cell j hj⟩⟩
 rw [strOf_bnums] at this
 exact this
theorem flip_back (w : World) (g cap : Nat) (s : ByteArray) (h : Bytes w g s) (hl : s.size ≤ 9223372036854775807) (j : Nat) (hj : j + 1 = s.size) (x v : Int) (hx : x = (bnums s).getD j 0) (hv : v = 255 - x) : (convert 53 9 (.slice (some ⟨g, 0, none⟩) s.size cap)).run Tryd.prog (w.setCell ⟨g, j, none⟩ (.int .u8 v)) = .ok (.string (flipLast s)) (w.setCell ⟨g, j, none⟩ (.int .u8 v)) := by
 have hj' : s.size - 1 = j := by omega
 have he : flipLast s = strOfNums ((bnums s).set j v) := by unfold flipLast; rw [hj', hv, hx]
 rw [he]
 refine string_of_reads (P := Tryd.prog) (src := 53) (dst := 9) (A := some ⟨g, 0, none⟩) (n := s.size) (c := cap) (xs := (bnums s).set j v) Tryd.underlying53 Tryd.underlying5 Tryd.underlying9 ⟨by rw [List.length_set, bnums_length], hl, fun _ => ⟨_, rfl, fun i hi => ?_⟩⟩
 rw [Lib.add_plain, Nat.zero_add]
 obtain ⟨cs, e, fr, hh, h1, h2, hc⟩ := h
 have hs : (w.setCell ⟨g, j, none⟩ (.int .u8 v)).heap[g]? = some (.cells (cs.setIfInBounds j (.int .u8 v)) e fr) := by
  simp [World.setCell, Array.getElem?_modify, hh]
 rw [cell_of_row _ g i _ e fr hs, Array.getElem?_setIfInBounds, List.getD_eq_getElem?_getD, List.getElem?_set]
 by_cases c : j = i
 ·subst c
  rw [if_pos rfl, if_pos (by omega), if_pos rfl, if_pos (by rw [bnums_length]; omega)]
  rfl
 ·rw [if_neg c, if_neg c, hc i hi, List.getD_eq_getElem?_getD]
def spec_CrashLog.j0 : Nat → Int → Bool → Bool → ByteArray → ByteArray → Int → Option (ByteArray × Bool)
 | 0, _, _, _, _, _, _ => none
 | k + 1, x1, x2, x19, x164000, x164001, x164002 => if x19 = true then (some ((⟨#[]⟩ : ByteArray), false)) else (if 0 ≤ x1 then (if x1 ≤ (x164001.size : Int) then (if x2 = true then (if x1 > 0 then (if x164000.size + (flipLast (x164001.extract 0 (x1 : Int).toNat)).size ≤ 9223372036854775807 then (some (x164000 ++ flipLast (x164001.extract 0 (x1 : Int).toNat), true)) else (none)) else (if x164000.size + (x164001.extract 0 (x1 : Int).toNat).size ≤ 9223372036854775807 then (some (x164000 ++ (x164001.extract 0 (x1 : Int).toNat), true)) else (none))) else (if x164000.size + (x164001.extract 0 (x1 : Int).toNat).size ≤ 9223372036854775807 then (some (x164000 ++ (x164001.extract 0 (x1 : Int).toNat), true)) else (none))) else (none)) else (none))
def spec_CrashLog.f (k : Nat) (a0_0 : ByteArray) (a0_1 : ByteArray) (a0_2 : Int) (a1 : Int) (a2 : Bool) : Option (ByteArray × Bool) := (spec_l12Valid.f k a0_0 a0_1 a0_2).bind fun t164 => (if t164 = true then ((spec_l1In.f a1 0 (a0_1.size : Int)).bind fun t165 => (spec_CrashLog.j0 k a1 a2 (!t165) a0_0 a0_1 a0_2)) else (spec_CrashLog.j0 k a1 a2 true a0_0 a0_1 a0_2))
theorem spec_CrashLog.mono_l : ∀ k, (∀ y0 y1 y2 y3 y4 y5, LeO (spec_CrashLog.j0 k y0 y1 y2 y3 y4 y5) (spec_CrashLog.j0 (k + 1) y0 y1 y2 y3 y4 y5))
 | 0 => fun _ _ _ _ _ _ r h => by simp [spec_CrashLog.j0] at h
 | k + 1 => by
  have ih0 := spec_CrashLog.mono_l k
  ·intro y0 y1 y2 y3 y4 y5
   unfold spec_CrashLog.j0
   repeat' first
   | (with_reducible exact ih0 _ _ _ _ _ _)
   | (with_reducible exact spec_l12Valid.mono _ _ _ _)
   | (with_reducible exact LeO.refl _)
   | (with_reducible exact LeO.none _)
   | (with_reducible refine LeO.ite ?_ ?_)
   | (with_reducible refine LeO.bind ?_ (fun _ => ?_))
   | exact ih0 _ _ _ _ _ _
   | exact spec_l12Valid.mono _ _ _ _
   | exact LeO.none _
   | refine LeO.ite ?_ ?_
   | refine LeO.bind ?_ (fun _ => ?_)
theorem spec_CrashLog.mono : ∀ a0 a1 a2 a3 a4 k, LeO (spec_CrashLog.f k a0 a1 a2 a3 a4) (spec_CrashLog.f (k + 1) a0 a1 a2 a3 a4) := by
 intro a0 a1 a2 a3 a4 k
 have ih0 := spec_CrashLog.mono_l k
 unfold spec_CrashLog.f
 repeat' first
   | (with_reducible exact ih0 _ _ _ _ _ _)
   | (with_reducible exact spec_l12Valid.mono _ _ _ _)
   | (with_reducible exact LeO.refl _)
   | (with_reducible exact LeO.none _)
   | (with_reducible refine LeO.ite ?_ ?_)
   | (with_reducible refine LeO.bind ?_ (fun _ => ?_))
   | exact ih0 _ _ _ _ _ _
   | exact spec_l12Valid.mono _ _ _ _
   | exact LeO.none _
   | refine LeO.ite ?_ ?_
   | refine LeO.bind ?_ (fun _ => ?_)
set_option maxHeartbeats 8000000 in
set_option maxRecDepth 100000 in
theorem spec_CrashLog.calls (k : Nat) (a0_0 : ByteArray) (a0_1 : ByteArray) (a0_2 : Int) (a1 : Int) (a2 : Bool) (r1 : ByteArray) (r2 : Bool) (w : World) (h : spec_CrashLog.f k a0_0 a0_1 a0_2 a1 a2 = some (r1, r2)) :
  Calls Tryd.prog 23 #[.agg #[.string a0_0, .string a0_1, .int .i64 a0_2], .int .i64 a1, .bool a2] w fun e w' => e = .returned (.tuple #[.string r1, .bool r2]) ∧ Below w.heap.size w w' := by
 have hu31 := Tryd.underlying31
 have HB := Aside0.mk (Below.refl w.heap.size w)
 have H : ((spec_l12Valid.f k a0_0 a0_1 a0_2).bind fun t164 => (if t164 = true then ((spec_l1In.f a1 0 (a0_1.size : Int)).bind fun t165 => (spec_CrashLog.j0 k a1 a2 (!t165) a0_0 a0_1 a0_2)) else (spec_CrashLog.j0 k a1 a2 true a0_0 a0_1 a0_2))) = some (r1, r2) := h
 clear h
 have HC4 := Aside0.mk H
 clear H
 go_enter Tryd.func23, Tryd.ntmps23
 go_upto_region 1 with (first | ((with_reducible refine gate_dst (N := 3) rfl ?_); (try (refine gate_guard (by rfl) ?_; dsimp only)); refine box_event ?hg (N := 3) ?hd (cs := #[.string a0_0, .string a0_1, .int .i64 a0_2]) (t := 31) ?hr ?_; (case hd => rfl); (case hg => rfl); (case hr => first | (go_simp; done) | (go_simp; rfl)); intro gb163 hg w5 hbox hb; have n0_ := Aside0.mk (below_step (by repeat (first | (with_reducible first | exact HB.out | apply below_alloc | apply pw_below_drewN | apply below_drew1) | exact HB.out)) hb); have n1_ := Aside0.mk (hbox); have n2_ := Aside0.mk ((by rw [hg]; exact (below_size (by repeat (first | (with_reducible first | exact HB.out | apply below_alloc | apply pw_below_drewN | apply below_drew1) | exact HB.out))) : w.heap.size ≤ gb163)); have n3_ := Aside0.mk ((by rw [hg]; exact (below_size (by repeat (first | (with_reducible first | exact HB.out | apply below_alloc | apply pw_below_drewN | apply below_drew1) | exact HB.out))) : w.heap.size ≤ gb163)); clear HB; have HB := n0_; have BK163 := n1_; have GW163 := n2_; have GE163 := n3_; clear n0_ n1_ n2_ n3_ hb hbox hg))
 (try simp only [Act.put, List.setIfInBounds_toArray, List.set_cons_zero, List.set_cons_succ])
 go_cut [19] (fun v19 wc => ∃ (kq : Nat) (x19_3 : Bool), v19 = .bool x19_3 ∧ Aside0 (spec_CrashLog.j0 kq a1 a2 x19_3 a0_0 a0_1 a0_2 = some (r1, r2)) ∧ Aside0 (kq ≤ k) ∧ Aside0 (wc.heap[gb163]? = some (.cells #[.string a0_0, .string a0_1, .int .i64 a0_2] 31 (0, 0))) ∧ Aside0 (Below w.heap.size w wc))
 case first =>
  have H := HC4.out
  clear HC4
  replace H := Option.bind_eq_some_iff.mp H
  obtain ⟨t164, A60, H⟩ := H
  replace H : (if t164 = true then ((spec_l1In.f a1 0 (a0_1.size : Int)).bind fun t165 => (spec_CrashLog.j0 k a1 a2 (!t165) a0_0 a0_1 a0_2)) else (spec_CrashLog.j0 k a1 a2 true a0_0 a0_1 a0_2)) = some (r1, r2) := H
  have A6 := Aside0.mk A60
  clear A60
  by_cases c7 : t164 = true
  ·subst c7
   have H1 : ((spec_l1In.f a1 0 (a0_1.size : Int)).bind fun t165 => (spec_CrashLog.j0 k a1 a2 (!t165) a0_0 a0_1 a0_2)) = some (r1, r2) := by rw [if_pos rfl] at H; exact H
   clear H
   have H := H1
   clear H1
   replace H := Option.bind_eq_some_iff.mp H
   obtain ⟨t165, A80, H⟩ := H
   replace H : (spec_CrashLog.j0 k a1 a2 (!t165) a0_0 a0_1 a0_2) = some (r1, r2) := H
   have A8 := Aside0.mk A80
   clear A80
   have H' := Aside0.mk H
   clear H
   have hcz9_0 : w5.cell? ⟨gb163, 0, none⟩ = some (.string a0_0) := (blk_cell BK163.out 0).trans rfl
   have hcz9_1 : w5.cell? ⟨gb163, 1, none⟩ = some (.string a0_1) := (blk_cell BK163.out 1).trans rfl
   have hcz9_2 : w5.cell? ⟨gb163, 2, none⟩ = some (.int .i64 a0_2) := (blk_cell BK163.out 2).trans rfl
   have hfz9_0 := blk_frozen BK163.out 0
   have hfz9_1 := blk_frozen BK163.out 1
   have hfz9_2 := blk_frozen BK163.out 2
   go_wp2_with (first | ((with_reducible refine gate_callee (f := 53) rfl ?_); refine goesL_ (some 10) rfl rfl Tryd.func53 (by kernel_rfl) rfl #[.agg #[.string a0_0, .string a0_1, .int .i64 a0_2]] rfl (by (try simp only [List.map_toArray, List.map_cons, List.map_nil]); first | done | rfl | (simp only [List.length_drop, List.length_take]; rfl)) ?_; (with_reducible refine (spec_l12Valid.calls k a0_0 a0_1 a0_2 true _ A6.out).mono ?_); rintro e w10 ⟨rfl, hb⟩; refine ⟨_, rfl, ?_⟩; have n0_ := Aside0.mk (blk_below (g := gb163) (o := .cells #[.string a0_0, .string a0_1, .int .i64 a0_2] 31 (0, 0)) (by (with_reducible repeat (first | refine blk_drewN ?_ _ | refine blk_drew ?_ | refine blk_alloc ?_ _)); exact BK163.out) hb); have n1_ := Aside0.mk (below_step (by repeat (first | (with_reducible first | exact HB.out | apply below_alloc | apply pw_below_drewN | apply below_drew1 | refine below_set ?_ GE163.out) | exact HB.out)) hb); clear BK163 HB; have BK163 := n0_; have HB := n1_; clear n0_ n1_; (try clear hb); (try clear hb2); (try clear hk); (try clear hi); have hcz11_0 : w10.cell? ⟨gb163, 0, none⟩ = some (.string a0_0) := (blk_cell BK163.out 0).trans rfl; have hcz11_1 : w10.cell? ⟨gb163, 1, none⟩ = some (.string a0_1) := (blk_cell BK163.out 1).trans rfl; have hcz11_2 : w10.cell? ⟨gb163, 2, none⟩ = some (.int .i64 a0_2) := (blk_cell BK163.out 2).trans rfl; have hfz11_0 := blk_frozen BK163.out 0; have hfz11_1 := blk_frozen BK163.out 1; have hfz11_2 := blk_frozen BK163.out 2) | (go_at_call 45; (with_reducible refine (spec_l1In.calls a1 0 (a0_1.size : Int) t165 _ A8.out).mono ?_); rintro e w' ⟨rfl, ⟨nd, rfl⟩⟩))
   go_meet
   case rel => exact ⟨_, (!t165), (by first | rfl | (simp; done) | (simp [*]; done)), H', ⟨by first | omega | exact Nat.le_refl _⟩, ⟨by (with_reducible repeat (first | refine blk_drewN ?_ _ | refine blk_drew ?_ | refine blk_alloc ?_ _)); exact BK163.out⟩, ⟨by repeat (first | (with_reducible first | exact HB.out | apply below_alloc | apply pw_below_drewN | apply below_drew1 | refine below_set ?_ GE163.out) | exact HB.out)⟩⟩
  ·replace c7 := Bool.eq_false_iff.mpr c7
   subst c7
   have H1 : (spec_CrashLog.j0 k a1 a2 true a0_0 a0_1 a0_2) = some (r1, r2) := by rw [if_neg (show ¬ (false = true) by decide)] at H; exact H
   clear H
   have H := H1
   clear H1
   have H' := Aside0.mk H
   clear H
   have hcz12_0 : w5.cell? ⟨gb163, 0, none⟩ = some (.string a0_0) := (blk_cell BK163.out 0).trans rfl
   have hcz12_1 : w5.cell? ⟨gb163, 1, none⟩ = some (.string a0_1) := (blk_cell BK163.out 1).trans rfl
   have hcz12_2 : w5.cell? ⟨gb163, 2, none⟩ = some (.int .i64 a0_2) := (blk_cell BK163.out 2).trans rfl
   have hfz12_0 := blk_frozen BK163.out 0
   have hfz12_1 := blk_frozen BK163.out 1
   have hfz12_2 := blk_frozen BK163.out 2
   go_wp2_with (first | ((with_reducible refine gate_callee (f := 53) rfl ?_); refine goesL_ (some 10) rfl rfl Tryd.func53 (by kernel_rfl) rfl #[.agg #[.string a0_0, .string a0_1, .int .i64 a0_2]] rfl (by (try simp only [List.map_toArray, List.map_cons, List.map_nil]); first | done | rfl | (simp only [List.length_drop, List.length_take]; rfl)) ?_; (with_reducible refine (spec_l12Valid.calls k a0_0 a0_1 a0_2 false _ A6.out).mono ?_); rintro e w13 ⟨rfl, hb⟩; refine ⟨_, rfl, ?_⟩; have n0_ := Aside0.mk (blk_below (g := gb163) (o := .cells #[.string a0_0, .string a0_1, .int .i64 a0_2] 31 (0, 0)) (by (with_reducible repeat (first | refine blk_drewN ?_ _ | refine blk_drew ?_ | refine blk_alloc ?_ _)); exact BK163.out) hb); have n1_ := Aside0.mk (below_step (by repeat (first | (with_reducible first | exact HB.out | apply below_alloc | apply pw_below_drewN | apply below_drew1 | refine below_set ?_ GE163.out) | exact HB.out)) hb); clear BK163 HB; have BK163 := n0_; have HB := n1_; clear n0_ n1_; (try clear hb); (try clear hb2); (try clear hk); (try clear hi)))
   go_meet
   case rel => exact ⟨_, (true), (by first | rfl | (simp; done) | (simp [*]; done)), H', ⟨by first | omega | exact Nat.le_refl _⟩, ⟨by (with_reducible repeat (first | refine blk_drewN ?_ _ | refine blk_drew ?_ | refine blk_alloc ?_ _)); exact BK163.out⟩, ⟨by repeat (first | (with_reducible first | exact HB.out | apply below_alloc | apply pw_below_drewN | apply below_drew1 | refine below_set ?_ GE163.out) | exact HB.out)⟩⟩
 case rest =>
  clear HC4
  try clear c2
  try clear p2
  try clear c5
  try clear c7
  try clear hcz11_0
  try clear hcz11_1
  try clear hcz11_2
  try clear hcz12_0
  try clear hcz12_1
  try clear hcz12_2
  try clear hcz9_0
  try clear hcz9_1
  try clear hcz9_2
  try clear hfz11_0
  try clear hfz11_1
  try clear hfz11_2
  try clear hfz12_0
  try clear hfz12_1
  try clear hfz12_2
  try clear hfz9_0
  try clear hfz9_1
  try clear hfz9_2
  obtain ⟨kq, x19_3, rfl, HA, HJ3, BK163, HB⟩ := hcut
  cases kq with
  | zero => exact absurd HA.out (by simp [spec_CrashLog.j0])
  | succ kj3 =>
   have H := HA.out
   clear HA
   simp only [spec_CrashLog.j0] at H
   by_cases c14 : x19_3 = true
   ·subst c14
    have H1 : (some ((⟨#[]⟩ : ByteArray), false)) = some (r1, r2) := by rw [if_pos rfl] at H; exact H
    clear H
    have H := H1
    clear H1
    simp only [Option.some.injEq, Prod.mk.injEq] at H
    obtain ⟨rfl, rfl⟩ := H
    go_wp2
    go_ret2
    exact ⟨by first | rfl | (simp [errW_none, errW_some] <;> rfl) | (simp [*, errW_none, errW_some] <;> rfl), by repeat (first | (with_reducible first | exact HB.out | apply below_alloc | apply pw_below_drewN | apply below_drew1 | refine below_set ?_ GE163.out) | exact HB.out)⟩
   ·replace c14 := Bool.eq_false_iff.mpr c14
    subst c14
    have H1 : (if 0 ≤ a1 then (if a1 ≤ (a0_1.size : Int) then (if a2 = true then (if a1 > 0 then (if a0_0.size + (flipLast (a0_1.extract 0 (a1 : Int).toNat)).size ≤ 9223372036854775807 then (some (a0_0 ++ flipLast (a0_1.extract 0 (a1 : Int).toNat), true)) else (none)) else (if a0_0.size + (a0_1.extract 0 (a1 : Int).toNat).size ≤ 9223372036854775807 then (some (a0_0 ++ (a0_1.extract 0 (a1 : Int).toNat), true)) else (none))) else (if a0_0.size + (a0_1.extract 0 (a1 : Int).toNat).size ≤ 9223372036854775807 then (some (a0_0 ++ (a0_1.extract 0 (a1 : Int).toNat), true)) else (none))) else (none)) else (none)) = some (r1, r2) := by rw [if_neg (show ¬ (false = true) by decide)] at H; exact H
    clear H
    have H := H1
    clear H1
    obtain ⟨S_, hS_⟩ : ∃ x_ : ByteArray, a0_1.extract 0 (a1 : Int).toNat = x_ := ⟨_, rfl⟩
    rw [hS_] at H
    obtain ⟨F_, hF_⟩ : ∃ x_ : ByteArray, flipLast S_ = x_ := ⟨_, rfl⟩
    rw [hF_] at H
    by_cases c15 : 0 ≤ a1
    ·rw [if_pos c15] at H
     have c15b0 := eq_true c15
     have c15b1 : decide (0 ≤ a1) = true := decide_eq_true c15
     clear c15
     by_cases c16 : a1 ≤ (a0_1.size : Int)
     ·rw [if_pos c16] at H
      have c16b0 := eq_true c16
      have c16b1 : decide (a1 ≤ (a0_1.size : Int)) = true := decide_eq_true c16
      have hsz_ : (S_.size : Int) = a1 := by have z_ := of_decide_eq_true c15b1; rw [← hS_, ByteArray.size_extract]; omega
      clear c16
      by_cases c17 : a2 = true
      ·subst c17
       have H1 : (if a1 > 0 then (if a0_0.size + F_.size ≤ 9223372036854775807 then (some (a0_0 ++ F_, true)) else (none)) else (if a0_0.size + S_.size ≤ 9223372036854775807 then (some (a0_0 ++ S_, true)) else (none))) = some (r1, r2) := by rw [if_pos rfl] at H; exact H
       clear H
       have H := H1
       clear H1
       by_cases c18 : a1 > 0
       ·rw [if_pos c18] at H
        have c18b0 : decide (0 < a1) = true := decide_eq_true c18
        clear c18
        by_cases c19 : a0_0.size + F_.size ≤ 9223372036854775807
        ·rw [if_pos c19] at H
         have c19b0 := eq_true c19
         have c19b1 : decide (a0_0.size + F_.size ≤ 9223372036854775807) = true := decide_eq_true c19
         try have c19b2 : (9223372036854775807 < a0_0.size + F_.size) = False := eq_false (Nat.not_lt.2 c19)
         simp only [Option.some.injEq, Prod.mk.injEq] at H
         obtain ⟨rfl, rfl⟩ := H
         have hcz20_0 : wc.cell? ⟨gb163, 0, none⟩ = some (.string a0_0) := (blk_cell BK163.out 0).trans rfl
         have hcz20_1 : wc.cell? ⟨gb163, 1, none⟩ = some (.string a0_1) := (blk_cell BK163.out 1).trans rfl
         have hcz20_2 : wc.cell? ⟨gb163, 2, none⟩ = some (.int .i64 a0_2) := (blk_cell BK163.out 2).trans rfl
         have hfz20_0 := blk_frozen BK163.out 0
         have hfz20_1 := blk_frozen BK163.out 1
         have hfz20_2 := blk_frozen BK163.out 2
         have hcv_ : Aside0 (∀ W : World, (convert 9 53 (.string S_)).run Tryd.prog W = .ok (.slice (some ⟨W.heap.size, 0, none⟩) S_.size (grownCap W S_.size 0 5)) (Lib.bytesWorld W 5 S_)) := ⟨fun W => Lib.run_convert_string_bytes W 9 53 5 S_ Tryd.underlying9 Tryd.underlying53 Tryd.underlying5⟩
         have hp1_ : 0 < a1 := of_decide_eq_true c18b0
         obtain ⟨j_, hj_⟩ : ∃ j : Int, a1 - 1 = j := ⟨_, rfl⟩
         have hsl_ : S_.size ≤ 9223372036854775807 := by have z_ := flip_size S_; rw [hF_] at z_; omega
         have hw_ : wrap64 (a1 - 1) = j_ := by unfold wrap64; omega
         have hw2_ : IntKind.i64.wrap (a1 - 1) = j_ := (i64_w _).trans hw_
         have pp_ : (0 ≤ j_) = True := eq_true (by omega)
         have qq_ : (j_ < (S_.size : Int)) = True := eq_true (by omega)
         go_wp2
         rw [hcv_.out]
         obtain ⟨g, cap, w1, hab, hcp, hw1, hR, hb⟩ := conv_facts wc 5 S_
         rw [hw1, hcp, hab]
         have hgw_ : w.heap.size ≤ wc.heap.size := below_size HB.out
         have hlt_ : gb163 < wc.heap.size := blk_lt BK163.out
         have n0_ := Aside0.mk (below_step (by repeat (first | (with_reducible first | exact HB.out | apply below_alloc | apply pw_below_drewN | apply below_drew1) | exact HB.out)) hb)
         clear HB
         have HB := n0_
         have hc0_ : w1.cell? ⟨gb163, 0, none⟩ = some (.string a0_0) := (hb.cell hlt_).trans hcz20_0
         obtain ⟨x_, hxe_⟩ : ∃ x : Int, (bnums S_).getD j_.toNat 0 = x := ⟨_, rfl⟩
         have hxr_ := bnums_range S_ j_.toNat (by omega)
         rw [hxe_] at hxr_
         have hx_ := hR.cell j_.toNat (by omega)
         rw [hxe_] at hx_
         have hz_ := hR.free j_.toNat (by omega)
         obtain ⟨v_, hv_⟩ : ∃ v : Int, 255 - x_ = v := ⟨_, rfl⟩
         have hv3_ : (255 - x_) % 256 = v_ := by omega
         have hv2_ : IntKind.u8.wrap (255 - x_) = v_ := (IntKind.wrap_u8 _).trans hv3_
         have hk_ := flip_back w1 g cap S_ hR (by omega) j_.toNat (by omega) x_ v_ hxe_.symm hv_.symm
         rw [hF_] at hk_
         have hc1_ : (w1.setCell ⟨g, j_.toNat, none⟩ (.int .u8 v_)).cell? ⟨gb163, 0, none⟩ = some (.string a0_0) := (cell_far (p := ⟨g, j_.toNat, none⟩) (a := ⟨gb163, 0, none⟩) (Nat.ne_of_lt (by omega : gb163 < g)) _).trans hc0_
         have hgg_ : w.heap.size ≤ g := by omega
         clear hab hcp hw1
         go_wp2
         go_ret2
         exact ⟨by first | rfl | (simp [errW_none, errW_some] <;> rfl) | (simp [*, errW_none, errW_some] <;> rfl), by repeat (first | (with_reducible first | exact HB.out | apply below_alloc | apply pw_below_drewN | apply below_drew1 | refine below_set ?_ GE163.out | refine below_set ?_ hgg_) | exact HB.out)⟩
        ·rw [if_neg c19] at H
         exact absurd H (by simp)
       ·rw [if_neg c18] at H
        have c18b0 : decide (0 < a1) = false := decide_eq_false c18
        clear c18
        by_cases c21 : a0_0.size + S_.size ≤ 9223372036854775807
        ·rw [if_pos c21] at H
         have c21b0 := eq_true c21
         have c21b1 : decide (a0_0.size + S_.size ≤ 9223372036854775807) = true := decide_eq_true c21
         try have c21b2 : (9223372036854775807 < a0_0.size + S_.size) = False := eq_false (Nat.not_lt.2 c21)
         simp only [Option.some.injEq, Prod.mk.injEq] at H
         obtain ⟨rfl, rfl⟩ := H
         have hcz22_0 : wc.cell? ⟨gb163, 0, none⟩ = some (.string a0_0) := (blk_cell BK163.out 0).trans rfl
         have hcz22_1 : wc.cell? ⟨gb163, 1, none⟩ = some (.string a0_1) := (blk_cell BK163.out 1).trans rfl
         have hcz22_2 : wc.cell? ⟨gb163, 2, none⟩ = some (.int .i64 a0_2) := (blk_cell BK163.out 2).trans rfl
         have hfz22_0 := blk_frozen BK163.out 0
         have hfz22_1 := blk_frozen BK163.out 1
         have hfz22_2 := blk_frozen BK163.out 2
         have hcv_ : Aside0 (∀ W : World, (convert 9 53 (.string S_)).run Tryd.prog W = .ok (.slice (some ⟨W.heap.size, 0, none⟩) S_.size (grownCap W S_.size 0 5)) (Lib.bytesWorld W 5 S_)) := ⟨fun W => Lib.run_convert_string_bytes W 9 53 5 S_ Tryd.underlying9 Tryd.underlying53 Tryd.underlying5⟩
         go_wp2_with (first | (rw [hcv_.out]; obtain ⟨g, cap, w1, hab, hcp, hw1, hR, hb⟩ := conv_facts wc 5 S_; rw [hw1, hcp, hab]; have hgw_ : w.heap.size ≤ wc.heap.size := below_size HB.out; have hlt_ : gb163 < wc.heap.size := blk_lt BK163.out; have n0_ := Aside0.mk (below_step (by repeat (first | (with_reducible first | exact HB.out | apply below_alloc | apply pw_below_drewN | apply below_drew1) | exact HB.out)) hb); clear HB; have HB := n0_; have hc0_ : w1.cell? ⟨gb163, 0, none⟩ = some (.string a0_0) := (hb.cell hlt_).trans hcz22_0; have hk_ := bytes_back w1 g cap S_ hR (by omega); clear hab hcp hw1))
         go_ret2
         exact ⟨by first | rfl | (simp [errW_none, errW_some] <;> rfl) | (simp [*, errW_none, errW_some] <;> rfl), by repeat (first | (with_reducible first | exact HB.out | apply below_alloc | apply pw_below_drewN | apply below_drew1 | refine below_set ?_ GE163.out) | exact HB.out)⟩
        ·rw [if_neg c21] at H
         exact absurd H (by simp)
      ·replace c17 := Bool.eq_false_iff.mpr c17
       subst c17
       have H1 : (if a0_0.size + S_.size ≤ 9223372036854775807 then (some (a0_0 ++ S_, true)) else (none)) = some (r1, r2) := by rw [if_neg (show ¬ (false = true) by decide)] at H; exact H
       clear H
       have H := H1
       clear H1
       by_cases c23 : a0_0.size + S_.size ≤ 9223372036854775807
       ·rw [if_pos c23] at H
        have c23b0 := eq_true c23
        have c23b1 : decide (a0_0.size + S_.size ≤ 9223372036854775807) = true := decide_eq_true c23
        try have c23b2 : (9223372036854775807 < a0_0.size + S_.size) = False := eq_false (Nat.not_lt.2 c23)
        simp only [Option.some.injEq, Prod.mk.injEq] at H
        obtain ⟨rfl, rfl⟩ := H
        have hcz24_0 : wc.cell? ⟨gb163, 0, none⟩ = some (.string a0_0) := (blk_cell BK163.out 0).trans rfl
        have hcz24_1 : wc.cell? ⟨gb163, 1, none⟩ = some (.string a0_1) := (blk_cell BK163.out 1).trans rfl
        have hcz24_2 : wc.cell? ⟨gb163, 2, none⟩ = some (.int .i64 a0_2) := (blk_cell BK163.out 2).trans rfl
        have hfz24_0 := blk_frozen BK163.out 0
        have hfz24_1 := blk_frozen BK163.out 1
        have hfz24_2 := blk_frozen BK163.out 2
        have hcv_ : Aside0 (∀ W : World, (convert 9 53 (.string S_)).run Tryd.prog W = .ok (.slice (some ⟨W.heap.size, 0, none⟩) S_.size (grownCap W S_.size 0 5)) (Lib.bytesWorld W 5 S_)) := ⟨fun W => Lib.run_convert_string_bytes W 9 53 5 S_ Tryd.underlying9 Tryd.underlying53 Tryd.underlying5⟩
        go_wp2_with (first | (rw [hcv_.out]; obtain ⟨g, cap, w1, hab, hcp, hw1, hR, hb⟩ := conv_facts wc 5 S_; rw [hw1, hcp, hab]; have hgw_ : w.heap.size ≤ wc.heap.size := below_size HB.out; have hlt_ : gb163 < wc.heap.size := blk_lt BK163.out; have n0_ := Aside0.mk (below_step (by repeat (first | (with_reducible first | exact HB.out | apply below_alloc | apply pw_below_drewN | apply below_drew1) | exact HB.out)) hb); clear HB; have HB := n0_; have hc0_ : w1.cell? ⟨gb163, 0, none⟩ = some (.string a0_0) := (hb.cell hlt_).trans hcz24_0; have hk_ := bytes_back w1 g cap S_ hR (by omega); clear hab hcp hw1))
        go_ret2
        exact ⟨by first | rfl | (simp [errW_none, errW_some] <;> rfl) | (simp [*, errW_none, errW_some] <;> rfl), by repeat (first | (with_reducible first | exact HB.out | apply below_alloc | apply pw_below_drewN | apply below_drew1 | refine below_set ?_ GE163.out) | exact HB.out)⟩
       ·rw [if_neg c23] at H
        exact absurd H (by simp)
     ·rw [if_neg c16] at H
      exact absurd H (by simp)
    ·rw [if_neg c15] at H
     exact absurd H (by simp)



/-! ### impl_CrashLog: function 24 -/
theorem conv_step {P : Program} {ops : Array Oper} {o : Oper} {a : Act} {Q : Exit → Act → World → Prop} {Kc : Act → World → Prop} {W : World} (e : TypeId) (S : ByteArray) (hw : Region.wanted o (yielded ops a.tmps) = true) {N : Tmp} (_hd : o.dst = some N)
  (hrun : (execOp a.eval o).run P W = .ok (.value (.slice (some ⟨W.heap.size, 0, none⟩) S.size (grownCap W S.size 0 e))) (Lib.bytesWorld W e S))
  (h : ∀ g cap w1, g = W.heap.size → Bytes w1 g S → Below W.heap.size W w1 → Kc (a.put o.dst (.slice (some ⟨g, 0, none⟩) S.size cap)) w1) : if Region.wanted o (yielded ops a.tmps) = true then Oper.wp P o a W Kc Q else Kc (a.put o.dst undef) W :=
 event_step hw hrun (h _ _ _ rfl (bytes_new W e S) (Lib.bytesWorld_below W e S))
def impl_CrashLog.j0 : Nat → Int → Bool → Bool → ByteArray → ByteArray → Int → Option (ByteArray × Bool)
 | 0, _, _, _, _, _, _ => none
 | k + 1, x1, x2, x19, x229000, x229001, x229002 => if x19 = true then (some ((⟨#[]⟩ : ByteArray), false)) else (if 0 ≤ x1 then (if x1 ≤ (x229001.size : Int) then (if x229000.size + (x229001.extract 0 (x1 : Int).toNat).size ≤ 9223372036854775807 then (if x2 = true then (if x1 > 0 then (some (flipLast (x229000 ++ (x229001.extract 0 (x1 : Int).toNat)), true)) else (some ((x229000 ++ (x229001.extract 0 (x1 : Int).toNat)), true))) else (some ((x229000 ++ (x229001.extract 0 (x1 : Int).toNat)), true))) else (none)) else (none)) else (none))
def impl_CrashLog.f (k : Nat) (a0_0 : ByteArray) (a0_1 : ByteArray) (a0_2 : Int) (a1 : Int) (a2 : Bool) : Option (ByteArray × Bool) := (impl_IsValidLog.f k a0_0 a0_1 a0_2).bind fun t229 => (if t229 = true then ((impl_within.f a1 0 (a0_1.size : Int)).bind fun t230 => (impl_CrashLog.j0 k a1 a2 (!t230) a0_0 a0_1 a0_2)) else (impl_CrashLog.j0 k a1 a2 true a0_0 a0_1 a0_2))
theorem impl_CrashLog.mono_l : ∀ k, (∀ y0 y1 y2 y3 y4 y5, LeO (impl_CrashLog.j0 k y0 y1 y2 y3 y4 y5) (impl_CrashLog.j0 (k + 1) y0 y1 y2 y3 y4 y5))
 | 0 => fun _ _ _ _ _ _ r h => by simp [impl_CrashLog.j0] at h
 | k + 1 => by
  have ih0 := impl_CrashLog.mono_l k
  ·intro y0 y1 y2 y3 y4 y5
   unfold impl_CrashLog.j0
   repeat' first
   | (with_reducible exact ih0 _ _ _ _ _ _)
   | (with_reducible exact impl_IsValidLog.mono _ _ _ _)
   | (with_reducible exact LeO.refl _)
   | (with_reducible exact LeO.none _)
   | (with_reducible refine LeO.ite ?_ ?_)
   | (with_reducible refine LeO.bind ?_ (fun _ => ?_))
   | exact ih0 _ _ _ _ _ _
   | exact impl_IsValidLog.mono _ _ _ _
   | exact LeO.none _
   | refine LeO.ite ?_ ?_
   | refine LeO.bind ?_ (fun _ => ?_)
theorem impl_CrashLog.mono : ∀ a0 a1 a2 a3 a4 k, LeO (impl_CrashLog.f k a0 a1 a2 a3 a4) (impl_CrashLog.f (k + 1) a0 a1 a2 a3 a4) := by
 intro a0 a1 a2 a3 a4 k
 have ih0 := impl_CrashLog.mono_l k
 unfold impl_CrashLog.f
 repeat' first
   | (with_reducible exact ih0 _ _ _ _ _ _)
   | (with_reducible exact impl_IsValidLog.mono _ _ _ _)
   | (with_reducible exact LeO.refl _)
   | (with_reducible exact LeO.none _)
   | (with_reducible refine LeO.ite ?_ ?_)
   | (with_reducible refine LeO.bind ?_ (fun _ => ?_))
   | exact ih0 _ _ _ _ _ _
   | exact impl_IsValidLog.mono _ _ _ _
   | exact LeO.none _
   | refine LeO.ite ?_ ?_
   | refine LeO.bind ?_ (fun _ => ?_)
def impl_CrashLog.T3 : Bool × List (List Nat × List Nat) := (true, [([], []), ([0], [0]), ([], []), ([2], [2]), ([], []), ([3, 4], [3, 4]), ([1, 5], [1, 5]), ([6], [6]), ([7, 0, 1, 2, 3, 4, 5, 6, 7], [7])])
def impl_CrashLog.B3 : List Nat := [0, 1, 0, 4, 0, 28, 63, 127, 255]
theorem impl_CrashLog.tab3 : rtab .any (opsOf Tryd.f24 3) = impl_CrashLog.T3 := by kernel_rfl
theorem impl_CrashLog.bits3 : waitsOk impl_CrashLog.T3.2 impl_CrashLog.B3 = true := by kernel_rfl
set_option maxHeartbeats 8000000 in
set_option maxRecDepth 100000 in
theorem impl_CrashLog.calls (k : Nat) (a0_0 : ByteArray) (a0_1 : ByteArray) (a0_2 : Int) (a1 : Int) (a2 : Bool) (r1 : ByteArray) (r2 : Bool) (w : World) (hG : TabOK w) (h : impl_CrashLog.f k a0_0 a0_1 a0_2 a1 a2 = some (r1, r2)) :
  Calls Tryd.prog 24 #[.agg #[.string a0_0, .string a0_1, .int .i64 a0_2], .int .i64 a1, .bool a2] w fun e w' => e = .returned (.tuple #[.string r1, .bool r2]) ∧ Below w.heap.size w w' := by
 have HG0 := Aside0.mk hG
 clear hG
 have hu31 := Tryd.underlying31
 have HB := Aside0.mk (Below.refl w.heap.size w)
 have H : ((impl_IsValidLog.f k a0_0 a0_1 a0_2).bind fun t229 => (if t229 = true then ((impl_within.f a1 0 (a0_1.size : Int)).bind fun t230 => (impl_CrashLog.j0 k a1 a2 (!t230) a0_0 a0_1 a0_2)) else (impl_CrashLog.j0 k a1 a2 true a0_0 a0_1 a0_2))) = some (r1, r2) := h
 clear h
 have HC4 := Aside0.mk H
 clear H
 go_enter Tryd.func24, Tryd.ntmps24
 go_upto_region 1 with (first | ((with_reducible refine gate_dst (N := 3) rfl ?_); (try (refine gate_guard (by rfl) ?_; dsimp only)); refine box_event ?hg (N := 3) ?hd (cs := #[.string a0_0, .string a0_1, .int .i64 a0_2]) (t := 31) ?hr ?_; (case hd => rfl); (case hg => rfl); (case hr => first | (go_simp; done) | (go_simp; rfl)); intro gb228 hg w5 hbox hb; have n0_ := Aside0.mk (below_step (by repeat (first | (with_reducible first | exact HB.out | apply below_alloc | apply pw_below_drewN | apply below_drew1) | exact HB.out)) hb); have n1_ := Aside0.mk (hbox); have n2_ := Aside0.mk ((by rw [hg]; exact (below_size (by repeat (first | (with_reducible first | exact HB.out | apply below_alloc | apply pw_below_drewN | apply below_drew1) | exact HB.out))) : w.heap.size ≤ gb228)); have n3_ := Aside0.mk ((by rw [hg]; exact (below_size (by repeat (first | (with_reducible first | exact HB.out | apply below_alloc | apply pw_below_drewN | apply below_drew1) | exact HB.out))) : w.heap.size ≤ gb228)); clear HB; have HB := n0_; have BK228 := n1_; have GW228 := n2_; have GE228 := n3_; clear n0_ n1_ n2_ n3_ hb hbox hg))
 (try simp only [Act.put, List.setIfInBounds_toArray, List.set_cons_zero, List.set_cons_succ])
 go_cut [19] (fun v19 wc => ∃ (kq : Nat) (x19_3 : Bool), v19 = .bool x19_3 ∧ Aside0 (impl_CrashLog.j0 kq a1 a2 x19_3 a0_0 a0_1 a0_2 = some (r1, r2)) ∧ Aside0 (kq ≤ k) ∧ Aside0 (wc.heap[gb228]? = some (.cells #[.string a0_0, .string a0_1, .int .i64 a0_2] 31 (0, 0))) ∧ Aside0 (Below w.heap.size w wc))
 case first =>
  have H := HC4.out
  clear HC4
  replace H := Option.bind_eq_some_iff.mp H
  obtain ⟨t229, A60, H⟩ := H
  replace H : (if t229 = true then ((impl_within.f a1 0 (a0_1.size : Int)).bind fun t230 => (impl_CrashLog.j0 k a1 a2 (!t230) a0_0 a0_1 a0_2)) else (impl_CrashLog.j0 k a1 a2 true a0_0 a0_1 a0_2)) = some (r1, r2) := H
  have A6 := Aside0.mk A60
  clear A60
  by_cases c7 : t229 = true
  ·subst c7
   have H1 : ((impl_within.f a1 0 (a0_1.size : Int)).bind fun t230 => (impl_CrashLog.j0 k a1 a2 (!t230) a0_0 a0_1 a0_2)) = some (r1, r2) := by rw [if_pos rfl] at H; exact H
   clear H
   have H := H1
   clear H1
   replace H := Option.bind_eq_some_iff.mp H
   obtain ⟨t230, A80, H⟩ := H
   replace H : (impl_CrashLog.j0 k a1 a2 (!t230) a0_0 a0_1 a0_2) = some (r1, r2) := H
   have A8 := Aside0.mk A80
   clear A80
   have H' := Aside0.mk H
   clear H
   have hcz9_0 : w5.cell? ⟨gb228, 0, none⟩ = some (.string a0_0) := (blk_cell BK228.out 0).trans rfl
   have hcz9_1 : w5.cell? ⟨gb228, 1, none⟩ = some (.string a0_1) := (blk_cell BK228.out 1).trans rfl
   have hcz9_2 : w5.cell? ⟨gb228, 2, none⟩ = some (.int .i64 a0_2) := (blk_cell BK228.out 2).trans rfl
   have hfz9_0 := blk_frozen BK228.out 0
   have hfz9_1 := blk_frozen BK228.out 1
   have hfz9_2 := blk_frozen BK228.out 2
   go_wp2_with (first | ((with_reducible refine gate_callee (f := 22) rfl ?_); refine goesL_ (some 10) rfl rfl Tryd.func22 (by kernel_rfl) rfl #[.agg #[.string a0_0, .string a0_1, .int .i64 a0_2]] rfl (by (try simp only [List.map_toArray, List.map_cons, List.map_nil]); first | done | rfl | (simp only [List.length_drop, List.length_take]; rfl)) ?_; (with_reducible refine (impl_IsValidLog.calls k a0_0 a0_1 a0_2 true _ (by first | exact TabOK.below HG0.out (by repeat (first | (with_reducible first | exact HB.out | apply below_alloc | apply pw_below_drewN | apply below_drew1 | refine below_set ?_ GE228.out) | exact HB.out)) | (repeat (first | exact HG0.out | apply TabOK.drew | apply TabOK.drewN)) | exact TabOK.drawn HG0.out (by assumption)) A6.out).mono ?_); rintro e w10 ⟨rfl, hb⟩; refine ⟨_, rfl, ?_⟩; have n0_ := Aside0.mk (blk_below (g := gb228) (o := .cells #[.string a0_0, .string a0_1, .int .i64 a0_2] 31 (0, 0)) (by (with_reducible repeat (first | refine blk_drewN ?_ _ | refine blk_drew ?_ | refine blk_alloc ?_ _)); exact BK228.out) hb); have n1_ := Aside0.mk (below_step (by repeat (first | (with_reducible first | exact HB.out | apply below_alloc | apply pw_below_drewN | apply below_drew1 | refine below_set ?_ GE228.out) | exact HB.out)) hb); clear BK228 HB; have BK228 := n0_; have HB := n1_; clear n0_ n1_; (try clear hb); (try clear hb2); (try clear hk); (try clear hi); have hcz11_0 : w10.cell? ⟨gb228, 0, none⟩ = some (.string a0_0) := (blk_cell BK228.out 0).trans rfl; have hcz11_1 : w10.cell? ⟨gb228, 1, none⟩ = some (.string a0_1) := (blk_cell BK228.out 1).trans rfl; have hcz11_2 : w10.cell? ⟨gb228, 2, none⟩ = some (.int .i64 a0_2) := (blk_cell BK228.out 2).trans rfl; have hfz11_0 := blk_frozen BK228.out 0; have hfz11_1 := blk_frozen BK228.out 1; have hfz11_2 := blk_frozen BK228.out 2) | (go_at_call 48; (with_reducible refine (impl_within.calls a1 0 (a0_1.size : Int) t230 _ A8.out).mono ?_); rintro e w' ⟨rfl, ⟨nd, rfl⟩⟩))
   go_meet
   case rel => exact ⟨_, (!t230), (by first | rfl | (simp; done) | (simp [*]; done)), H', ⟨by first | omega | exact Nat.le_refl _⟩, ⟨by (with_reducible repeat (first | refine blk_drewN ?_ _ | refine blk_drew ?_ | refine blk_alloc ?_ _)); exact BK228.out⟩, ⟨by repeat (first | (with_reducible first | exact HB.out | apply below_alloc | apply pw_below_drewN | apply below_drew1 | refine below_set ?_ GE228.out) | exact HB.out)⟩⟩
  ·replace c7 := Bool.eq_false_iff.mpr c7
   subst c7
   have H1 : (impl_CrashLog.j0 k a1 a2 true a0_0 a0_1 a0_2) = some (r1, r2) := by rw [if_neg (show ¬ (false = true) by decide)] at H; exact H
   clear H
   have H := H1
   clear H1
   have H' := Aside0.mk H
   clear H
   have hcz12_0 : w5.cell? ⟨gb228, 0, none⟩ = some (.string a0_0) := (blk_cell BK228.out 0).trans rfl
   have hcz12_1 : w5.cell? ⟨gb228, 1, none⟩ = some (.string a0_1) := (blk_cell BK228.out 1).trans rfl
   have hcz12_2 : w5.cell? ⟨gb228, 2, none⟩ = some (.int .i64 a0_2) := (blk_cell BK228.out 2).trans rfl
   have hfz12_0 := blk_frozen BK228.out 0
   have hfz12_1 := blk_frozen BK228.out 1
   have hfz12_2 := blk_frozen BK228.out 2
   go_wp2_with (first | ((with_reducible refine gate_callee (f := 22) rfl ?_); refine goesL_ (some 10) rfl rfl Tryd.func22 (by kernel_rfl) rfl #[.agg #[.string a0_0, .string a0_1, .int .i64 a0_2]] rfl (by (try simp only [List.map_toArray, List.map_cons, List.map_nil]); first | done | rfl | (simp only [List.length_drop, List.length_take]; rfl)) ?_; (with_reducible refine (impl_IsValidLog.calls k a0_0 a0_1 a0_2 false _ (by first | exact TabOK.below HG0.out (by repeat (first | (with_reducible first | exact HB.out | apply below_alloc | apply pw_below_drewN | apply below_drew1 | refine below_set ?_ GE228.out) | exact HB.out)) | (repeat (first | exact HG0.out | apply TabOK.drew | apply TabOK.drewN)) | exact TabOK.drawn HG0.out (by assumption)) A6.out).mono ?_); rintro e w13 ⟨rfl, hb⟩; refine ⟨_, rfl, ?_⟩; have n0_ := Aside0.mk (blk_below (g := gb228) (o := .cells #[.string a0_0, .string a0_1, .int .i64 a0_2] 31 (0, 0)) (by (with_reducible repeat (first | refine blk_drewN ?_ _ | refine blk_drew ?_ | refine blk_alloc ?_ _)); exact BK228.out) hb); have n1_ := Aside0.mk (below_step (by repeat (first | (with_reducible first | exact HB.out | apply below_alloc | apply pw_below_drewN | apply below_drew1 | refine below_set ?_ GE228.out) | exact HB.out)) hb); clear BK228 HB; have BK228 := n0_; have HB := n1_; clear n0_ n1_; (try clear hb); (try clear hb2); (try clear hk); (try clear hi)))
   go_meet
   case rel => exact ⟨_, (true), (by first | rfl | (simp; done) | (simp [*]; done)), H', ⟨by first | omega | exact Nat.le_refl _⟩, ⟨by (with_reducible repeat (first | refine blk_drewN ?_ _ | refine blk_drew ?_ | refine blk_alloc ?_ _)); exact BK228.out⟩, ⟨by repeat (first | (with_reducible first | exact HB.out | apply below_alloc | apply pw_below_drewN | apply below_drew1 | refine below_set ?_ GE228.out) | exact HB.out)⟩⟩
 case rest =>
  clear HC4
  try clear c2
  try clear p2
  try clear c7
  try clear hcz11_0
  try clear hcz11_1
  try clear hcz11_2
  try clear hcz12_0
  try clear hcz12_1
  try clear hcz12_2
  try clear hcz9_0
  try clear hcz9_1
  try clear hcz9_2
  try clear hfz11_0
  try clear hfz11_1
  try clear hfz11_2
  try clear hfz12_0
  try clear hfz12_1
  try clear hfz12_2
  try clear hfz9_0
  try clear hfz9_1
  try clear hfz9_2
  obtain ⟨kq, x19_3, rfl, HA, HJ3, BK228, HB⟩ := hcut
  cases kq with
  | zero => exact absurd HA.out (by simp [impl_CrashLog.j0])
  | succ kj3 =>
   have H := HA.out
   clear HA
   simp only [impl_CrashLog.j0] at H
   by_cases c14 : x19_3 = true
   ·subst c14
    have H1 : (some ((⟨#[]⟩ : ByteArray), false)) = some (r1, r2) := by rw [if_pos rfl] at H; exact H
    clear H
    have H := H1
    clear H1
    simp only [Option.some.injEq, Prod.mk.injEq] at H
    obtain ⟨rfl, rfl⟩ := H
    go_wp2
    go_ret2
    exact ⟨by first | rfl | (simp [errW_none, errW_some] <;> rfl) | (simp [*, errW_none, errW_some] <;> rfl), by repeat (first | (with_reducible first | exact HB.out | apply below_alloc | apply pw_below_drewN | apply below_drew1 | refine below_set ?_ GE228.out) | exact HB.out)⟩
   ·replace c14 := Bool.eq_false_iff.mpr c14
    subst c14
    have H1 : (if 0 ≤ a1 then (if a1 ≤ (a0_1.size : Int) then (if a0_0.size + (a0_1.extract 0 (a1 : Int).toNat).size ≤ 9223372036854775807 then (if a2 = true then (if a1 > 0 then (some (flipLast (a0_0 ++ (a0_1.extract 0 (a1 : Int).toNat)), true)) else (some ((a0_0 ++ (a0_1.extract 0 (a1 : Int).toNat)), true))) else (some ((a0_0 ++ (a0_1.extract 0 (a1 : Int).toNat)), true))) else (none)) else (none)) else (none)) = some (r1, r2) := by rw [if_neg (show ¬ (false = true) by decide)] at H; exact H
    clear H
    have H := H1
    clear H1
    obtain ⟨S_, hS_⟩ : ∃ x_ : ByteArray, a0_1.extract 0 (a1 : Int).toNat = x_ := ⟨_, rfl⟩
    rw [hS_] at H
    obtain ⟨X_, hX_⟩ : ∃ x_ : ByteArray, a0_0 ++ S_ = x_ := ⟨_, rfl⟩
    rw [hX_] at H
    obtain ⟨F_, hF_⟩ : ∃ x_ : ByteArray, flipLast X_ = x_ := ⟨_, rfl⟩
    rw [hF_] at H
    by_cases c15 : 0 ≤ a1
    ·rw [if_pos c15] at H
     have c15b0 := eq_true c15
     have c15b1 : decide (0 ≤ a1) = true := decide_eq_true c15
     clear c15
     by_cases c16 : a1 ≤ (a0_1.size : Int)
     ·rw [if_pos c16] at H
      have c16b0 := eq_true c16
      have c16b1 : decide (a1 ≤ (a0_1.size : Int)) = true := decide_eq_true c16
      have hsz_ : (S_.size : Int) = a1 := by have z_ := of_decide_eq_true c15b1; rw [← hS_, ByteArray.size_extract]; omega
      clear c16
      by_cases c17 : a0_0.size + S_.size ≤ 9223372036854775807
      ·rw [if_pos c17] at H
       have c17b0 := eq_true c17
       have c17b1 : decide (a0_0.size + S_.size ≤ 9223372036854775807) = true := decide_eq_true c17
       try have c17b2 : (9223372036854775807 < a0_0.size + S_.size) = False := eq_false (Nat.not_lt.2 c17)
       have hXs_ : Aside0 (X_.size = a0_0.size + S_.size) := ⟨by rw [← hX_, ByteArray.size_append]⟩
       have hsl_ : X_.size ≤ 9223372036854775807 := by rw [hXs_.out]; exact c17
       by_cases c19 : a2 = true
       ·subst c19
        have H1 : (if a1 > 0 then (some (F_, true)) else (some (X_, true))) = some (r1, r2) := by rw [if_pos rfl] at H; exact H
        clear H
        have H := H1
        clear H1
        by_cases c20 : a1 > 0
        ·rw [if_pos c20] at H
         have c20b0 : decide (0 < a1) = true := decide_eq_true c20
         clear c20
         simp only [Option.some.injEq, Prod.mk.injEq] at H
         obtain ⟨rfl, rfl⟩ := H
         have hcv_ : Aside0 (∀ W : World, (convert 9 53 (.string X_)).run Tryd.prog W = .ok (.slice (some ⟨W.heap.size, 0, none⟩) X_.size (grownCap W X_.size 0 5)) (Lib.bytesWorld W 5 X_)) := ⟨fun W => Lib.run_convert_string_bytes W 9 53 5 X_ Tryd.underlying9 Tryd.underlying53 Tryd.underlying5⟩
         have hp1_ : 0 < a1 := of_decide_eq_true c20b0
         obtain ⟨j_, hj_⟩ : ∃ j : Int, (X_.size : Int) - 1 = j := ⟨_, rfl⟩
         have hjr_ : 0 ≤ j_ ∧ j_ + 1 = X_.size := by have z_ := hXs_.out; omega
         have hw_ : wrap64 ((X_.size : Int) - 1) = j_ := by unfold wrap64; omega
         have hw2_ : IntKind.i64.wrap ((X_.size : Int) - 1) = j_ := (i64_w _).trans hw_
         have pp_ : (0 ≤ j_) = True := eq_true (by omega)
         have qq_ : (j_ < (X_.size : Int)) = True := eq_true (by omega)
         try go_wp2
         have n0_ := Aside0.mk (blk_drew BK228.out)
         have n1_ := Aside0.mk (below_drew1 HB.out)
         clear BK228
         clear HB
         have BK228 := n0_
         have HB := n1_
         clear n0_ n1_
         refine start_ (n := 9) (S := fun w' => w'.cell? ⟨gb228, 0, none⟩ = some (.string a0_0) ∧ w'.cell? ⟨gb228, 1, none⟩ = some (.string a0_1) ∧ w'.cell? ⟨gb228, 2, none⟩ = some (.int .i64 a0_2)) (ds := []) #[false, false, false, false, false, false, false, false, false] (by kernel_rfl) rfl rfl ⟨(blk_cell BK228.out 0).trans rfl, (blk_cell BK228.out 1).trans rfl, (blk_cell BK228.out 2).trans rfl⟩ (fun hHeld => ?_); refine with_tabW impl_CrashLog.tab3 impl_CrashLog.bits3 (fun HT_ HW_ => ?_)
         generalize wc.drew = w21 at BK228 HB hHeld ⊢
         refine pure_ (i := 0) (N := some 20) (v := ?_) (a' := ?_) #[true, false, false, false, false, false, false, false, false] rfl rfl (any_of HT_.out (by kernel_rfl)) (fun _ _ _ h => h) (Or.inl ⟨by rfl, ?_⟩) ?_ ?_
         rotate_left
         ·intro w'
          go_simp
          with_reducible rfl
         rotate_left
         ·simp only [Act.put, List.setIfInBounds_toArray, List.set_cons_zero, List.set_cons_succ, i64_w, i32_w]
          rfl
         refine pure_ (i := 2) (N := some 22) (v := ?_) (a' := ?_) #[true, false, true, false, false, false, false, false, false] rfl rfl (any_of HT_.out (by kernel_rfl)) (fun _ _ _ h => h) (Or.inl ⟨by rfl, ?_⟩) ?_ ?_
         rotate_left
         ·intro w'
          go_simp
          with_reducible rfl
         rotate_left
         ·simp only [Act.put, List.setIfInBounds_toArray, List.set_cons_zero, List.set_cons_succ, i64_w, i32_w]
          rfl
         refine pure_ (i := 4) (N := some 24) (v := ?_) (a' := ?_) #[true, false, true, false, true, false, false, false, false] rfl rfl (any_of HT_.out (by kernel_rfl)) (fun _ _ _ h => h) (Or.inl ⟨by rfl, ?_⟩) ?_ ?_
         rotate_left
         ·intro w'
          go_simp
          with_reducible rfl
         rotate_left
         ·simp only [Act.put, List.setIfInBounds_toArray, List.set_cons_zero, List.set_cons_succ, i64_w, i32_w]
          rfl
         refine take_ (i := 1) (N := some 21) (v := ?_) (a' := ?_) #[true, true, true, false, true, false, false, false, false] rfl rfl (take_ofW HT_.out HW_.out (by kernel_rfl)) (fun _ _ _ h => h) (Or.inl ⟨by rfl, ?_⟩) hHeld ?_ ?_
         rotate_left
         ·rintro w' ⟨s0, s1, s2⟩
          go_simp
          with_reducible rfl
         rotate_left
         ·simp only [Act.put, List.setIfInBounds_toArray, List.set_cons_zero, List.set_cons_succ, i64_w, i32_w]
          rfl
         refine take_ (i := 3) (N := some 23) (v := ?_) (a' := ?_) #[true, true, true, true, true, false, false, false, false] rfl rfl (take_ofW HT_.out HW_.out (by kernel_rfl)) (fun _ _ _ h => h) (Or.inl ⟨by rfl, ?_⟩) hHeld ?_ ?_
         rotate_left
         ·rintro w' ⟨s0, s1, s2⟩
          go_simp
          with_reducible rfl
         rotate_left
         ·simp only [Act.put, List.setIfInBounds_toArray, List.set_cons_zero, List.set_cons_succ, i64_w, i32_w]
          rfl
         refine pure_ (i := 5) (N := some 25) (v := ?_) (a' := ?_) #[true, true, true, true, true, true, false, false, false] rfl rfl (any_of HT_.out (by kernel_rfl)) (fun _ _ _ h => h) (Or.inl ⟨by rfl, ?_⟩) ?_ ?_
         rotate_left
         ·intro w'
          go_simp
          with_reducible rfl
         rotate_left
         ·simp only [Act.put, List.setIfInBounds_toArray, List.set_cons_zero, List.set_cons_succ, i64_w, i32_w]
          rfl
         refine pure_ (i := 6) (N := some 26) (v := ?_) (a' := ?_) #[true, true, true, true, true, true, true, false, false] rfl rfl (any_of HT_.out (by kernel_rfl)) (fun _ _ _ h => h) (Or.inl ⟨by rfl, ?_⟩) ?_ ?_
         rotate_left
         ·intro w'
          go_simp
          with_reducible rfl
         rotate_left
         ·simp only [Act.put, List.setIfInBounds_toArray, List.set_cons_zero, List.set_cons_succ, i64_w, i32_w]
          rfl
         refine one_ (i := 7) (N := some 27) #[true, true, true, true, true, true, true, true, false] rfl rfl (one_of HT_.out (by kernel_rfl)) (by decide) (fun K hK => ?_)
         refine conv_step 5 X_ ?hg (N := 27) ?hd ?hr ?_; (case hd => rfl); (case hg => rfl); (case hr => (have hq_ := hcv_.out; first | (go_simp; done) | (go_simp; rfl)))
         intro g cap w22 hab hR hb
         have hgg_ : w.heap.size ≤ g := by rw [hab]; exact below_size HB.out
         clear hab
         have n0_ := Aside0.mk (blk_below (g := gb228) (o := .cells #[.string a0_0, .string a0_1, .int .i64 a0_2] 31 (0, 0)) (by (with_reducible repeat (first | refine blk_drewN ?_ _ | refine blk_drew ?_ | refine blk_alloc ?_ _)); exact BK228.out) hb)
         have n1_ := Aside0.mk (below_step (by repeat (first | (with_reducible first | exact HB.out | apply below_alloc | apply pw_below_drewN | apply below_drew1 | refine below_set ?_ GE228.out | refine below_set ?_ hgg_) | exact HB.out)) hb)
         clear BK228
         clear HB
         have BK228 := n0_
         have HB := n1_
         clear n0_ n1_
         (try clear hb)
         (try clear hb2)
         (try clear hk)
         (try clear hi)
         refine hK.out _ _ ⟨(blk_cell BK228.out 0).trans rfl, (blk_cell BK228.out 1).trans rfl, (blk_cell BK228.out 2).trans rfl⟩ (fun hHeld => ?_)
         clear hK K
         refine norm_ (a' := ?_) ?_ ?_
         rotate_left
         ·show Act.put _ (some 27) _ = _
          simp only [Act.put, List.setIfInBounds_toArray, List.set_cons_zero, List.set_cons_succ, i64_w, i32_w]
          rfl
         refine pure_ (i := 8) (N := some 8) (v := ?_) (a' := ?_) #[true, true, true, true, true, true, true, true, true] rfl rfl (any_of HT_.out (by kernel_rfl)) (fun _ _ _ h => h) (Or.inl ⟨by rfl, ?_⟩) ?_ ?_
         rotate_left
         ·intro w'
          go_simp
          with_reducible rfl
         rotate_left
         ·simp only [Act.put, List.setIfInBounds_toArray, List.set_cons_zero, List.set_cons_succ, i64_w, i32_w]
          rfl
         refine done_ (done_of HT_.out (by kernel_rfl)) ?_
         obtain ⟨x_, hxe_⟩ : ∃ x : Int, (bnums X_).getD j_.toNat 0 = x := ⟨_, rfl⟩
         have hxr_ := bnums_range X_ j_.toNat (by omega)
         rw [hxe_] at hxr_
         have hx_ := hR.cell j_.toNat (by omega)
         rw [hxe_] at hx_
         have hz_ := hR.free j_.toNat (by omega)
         obtain ⟨v_, hv_⟩ : ∃ v : Int, 255 - x_ = v := ⟨_, rfl⟩
         have hv3_ : (255 - x_) % 256 = v_ := by omega
         have hv2_ : IntKind.u8.wrap (255 - x_) = v_ := (IntKind.wrap_u8 _).trans hv3_
         have hk_ := flip_back w22 g cap X_ hR hsl_ j_.toNat (by omega) x_ v_ hxe_.symm hv_.symm
         rw [hF_] at hk_
         try go_wp2
         go_ret2
         exact ⟨by first | rfl | (simp [errW_none, errW_some] <;> rfl) | (simp [*, errW_none, errW_some] <;> rfl), by repeat (first | (with_reducible first | exact HB.out | apply below_alloc | apply pw_below_drewN | apply below_drew1 | refine below_set ?_ GE228.out | refine below_set ?_ hgg_) | exact HB.out)⟩
        ·rw [if_neg c20] at H
         have c20b0 : decide (0 < a1) = false := decide_eq_false c20
         clear c20
         simp only [Option.some.injEq, Prod.mk.injEq] at H
         obtain ⟨rfl, rfl⟩ := H
         have hcv_ : Aside0 (∀ W : World, (convert 9 53 (.string X_)).run Tryd.prog W = .ok (.slice (some ⟨W.heap.size, 0, none⟩) X_.size (grownCap W X_.size 0 5)) (Lib.bytesWorld W 5 X_)) := ⟨fun W => Lib.run_convert_string_bytes W 9 53 5 X_ Tryd.underlying9 Tryd.underlying53 Tryd.underlying5⟩
         try go_wp2
         have n0_ := Aside0.mk (blk_drew BK228.out)
         have n1_ := Aside0.mk (below_drew1 HB.out)
         clear BK228
         clear HB
         have BK228 := n0_
         have HB := n1_
         clear n0_ n1_
         refine start_ (n := 9) (S := fun w' => w'.cell? ⟨gb228, 0, none⟩ = some (.string a0_0) ∧ w'.cell? ⟨gb228, 1, none⟩ = some (.string a0_1) ∧ w'.cell? ⟨gb228, 2, none⟩ = some (.int .i64 a0_2)) (ds := []) #[false, false, false, false, false, false, false, false, false] (by kernel_rfl) rfl rfl ⟨(blk_cell BK228.out 0).trans rfl, (blk_cell BK228.out 1).trans rfl, (blk_cell BK228.out 2).trans rfl⟩ (fun hHeld => ?_); refine with_tabW impl_CrashLog.tab3 impl_CrashLog.bits3 (fun HT_ HW_ => ?_)
         generalize wc.drew = w23 at BK228 HB hHeld ⊢
         refine pure_ (i := 0) (N := some 20) (v := ?_) (a' := ?_) #[true, false, false, false, false, false, false, false, false] rfl rfl (any_of HT_.out (by kernel_rfl)) (fun _ _ _ h => h) (Or.inl ⟨by rfl, ?_⟩) ?_ ?_
         rotate_left
         ·intro w'
          go_simp
          with_reducible rfl
         rotate_left
         ·simp only [Act.put, List.setIfInBounds_toArray, List.set_cons_zero, List.set_cons_succ, i64_w, i32_w]
          rfl
         refine pure_ (i := 2) (N := some 22) (v := ?_) (a' := ?_) #[true, false, true, false, false, false, false, false, false] rfl rfl (any_of HT_.out (by kernel_rfl)) (fun _ _ _ h => h) (Or.inl ⟨by rfl, ?_⟩) ?_ ?_
         rotate_left
         ·intro w'
          go_simp
          with_reducible rfl
         rotate_left
         ·simp only [Act.put, List.setIfInBounds_toArray, List.set_cons_zero, List.set_cons_succ, i64_w, i32_w]
          rfl
         refine pure_ (i := 4) (N := some 24) (v := ?_) (a' := ?_) #[true, false, true, false, true, false, false, false, false] rfl rfl (any_of HT_.out (by kernel_rfl)) (fun _ _ _ h => h) (Or.inl ⟨by rfl, ?_⟩) ?_ ?_
         rotate_left
         ·intro w'
          go_simp
          with_reducible rfl
         rotate_left
         ·simp only [Act.put, List.setIfInBounds_toArray, List.set_cons_zero, List.set_cons_succ, i64_w, i32_w]
          rfl
         refine take_ (i := 1) (N := some 21) (v := ?_) (a' := ?_) #[true, true, true, false, true, false, false, false, false] rfl rfl (take_ofW HT_.out HW_.out (by kernel_rfl)) (fun _ _ _ h => h) (Or.inl ⟨by rfl, ?_⟩) hHeld ?_ ?_
         rotate_left
         ·rintro w' ⟨s0, s1, s2⟩
          go_simp
          with_reducible rfl
         rotate_left
         ·simp only [Act.put, List.setIfInBounds_toArray, List.set_cons_zero, List.set_cons_succ, i64_w, i32_w]
          rfl
         refine take_ (i := 3) (N := some 23) (v := ?_) (a' := ?_) #[true, true, true, true, true, false, false, false, false] rfl rfl (take_ofW HT_.out HW_.out (by kernel_rfl)) (fun _ _ _ h => h) (Or.inl ⟨by rfl, ?_⟩) hHeld ?_ ?_
         rotate_left
         ·rintro w' ⟨s0, s1, s2⟩
          go_simp
          with_reducible rfl
         rotate_left
         ·simp only [Act.put, List.setIfInBounds_toArray, List.set_cons_zero, List.set_cons_succ, i64_w, i32_w]
          rfl
         refine pure_ (i := 5) (N := some 25) (v := ?_) (a' := ?_) #[true, true, true, true, true, true, false, false, false] rfl rfl (any_of HT_.out (by kernel_rfl)) (fun _ _ _ h => h) (Or.inl ⟨by rfl, ?_⟩) ?_ ?_
         rotate_left
         ·intro w'
          go_simp
          with_reducible rfl
         rotate_left
         ·simp only [Act.put, List.setIfInBounds_toArray, List.set_cons_zero, List.set_cons_succ, i64_w, i32_w]
          rfl
         refine pure_ (i := 6) (N := some 26) (v := ?_) (a' := ?_) #[true, true, true, true, true, true, true, false, false] rfl rfl (any_of HT_.out (by kernel_rfl)) (fun _ _ _ h => h) (Or.inl ⟨by rfl, ?_⟩) ?_ ?_
         rotate_left
         ·intro w'
          go_simp
          with_reducible rfl
         rotate_left
         ·simp only [Act.put, List.setIfInBounds_toArray, List.set_cons_zero, List.set_cons_succ, i64_w, i32_w]
          rfl
         refine one_ (i := 7) (N := some 27) #[true, true, true, true, true, true, true, true, false] rfl rfl (one_of HT_.out (by kernel_rfl)) (by decide) (fun K hK => ?_)
         refine conv_step 5 X_ ?hg (N := 27) ?hd ?hr ?_; (case hd => rfl); (case hg => rfl); (case hr => (have hq_ := hcv_.out; first | (go_simp; done) | (go_simp; rfl)))
         intro g cap w24 hab hR hb
         have hgg_ : w.heap.size ≤ g := by rw [hab]; exact below_size HB.out
         clear hab
         have n0_ := Aside0.mk (blk_below (g := gb228) (o := .cells #[.string a0_0, .string a0_1, .int .i64 a0_2] 31 (0, 0)) (by (with_reducible repeat (first | refine blk_drewN ?_ _ | refine blk_drew ?_ | refine blk_alloc ?_ _)); exact BK228.out) hb)
         have n1_ := Aside0.mk (below_step (by repeat (first | (with_reducible first | exact HB.out | apply below_alloc | apply pw_below_drewN | apply below_drew1 | refine below_set ?_ GE228.out) | exact HB.out)) hb)
         clear BK228
         clear HB
         have BK228 := n0_
         have HB := n1_
         clear n0_ n1_
         (try clear hb)
         (try clear hb2)
         (try clear hk)
         (try clear hi)
         refine hK.out _ _ ⟨(blk_cell BK228.out 0).trans rfl, (blk_cell BK228.out 1).trans rfl, (blk_cell BK228.out 2).trans rfl⟩ (fun hHeld => ?_)
         clear hK K
         refine norm_ (a' := ?_) ?_ ?_
         rotate_left
         ·show Act.put _ (some 27) _ = _
          simp only [Act.put, List.setIfInBounds_toArray, List.set_cons_zero, List.set_cons_succ, i64_w, i32_w]
          rfl
         refine pure_ (i := 8) (N := some 8) (v := ?_) (a' := ?_) #[true, true, true, true, true, true, true, true, true] rfl rfl (any_of HT_.out (by kernel_rfl)) (fun _ _ _ h => h) (Or.inl ⟨by rfl, ?_⟩) ?_ ?_
         rotate_left
         ·intro w'
          go_simp
          with_reducible rfl
         rotate_left
         ·simp only [Act.put, List.setIfInBounds_toArray, List.set_cons_zero, List.set_cons_succ, i64_w, i32_w]
          rfl
         refine done_ (done_of HT_.out (by kernel_rfl)) ?_
         have hk_ := bytes_back w24 g cap X_ hR hsl_
         try go_wp2
         go_ret2
         exact ⟨by first | rfl | (simp [errW_none, errW_some] <;> rfl) | (simp [*, errW_none, errW_some] <;> rfl), by repeat (first | (with_reducible first | exact HB.out | apply below_alloc | apply pw_below_drewN | apply below_drew1 | refine below_set ?_ GE228.out) | exact HB.out)⟩
       ·replace c19 := Bool.eq_false_iff.mpr c19
        subst c19
        have H1 : (some (X_, true)) = some (r1, r2) := by rw [if_neg (show ¬ (false = true) by decide)] at H; exact H
        clear H
        have H := H1
        clear H1
        simp only [Option.some.injEq, Prod.mk.injEq] at H
        obtain ⟨rfl, rfl⟩ := H
        have hcv_ : Aside0 (∀ W : World, (convert 9 53 (.string X_)).run Tryd.prog W = .ok (.slice (some ⟨W.heap.size, 0, none⟩) X_.size (grownCap W X_.size 0 5)) (Lib.bytesWorld W 5 X_)) := ⟨fun W => Lib.run_convert_string_bytes W 9 53 5 X_ Tryd.underlying9 Tryd.underlying53 Tryd.underlying5⟩
        try go_wp2
        have n0_ := Aside0.mk (blk_drew BK228.out)
        have n1_ := Aside0.mk (below_drew1 HB.out)
        clear BK228
        clear HB
        have BK228 := n0_
        have HB := n1_
        clear n0_ n1_
        refine start_ (n := 9) (S := fun w' => w'.cell? ⟨gb228, 0, none⟩ = some (.string a0_0) ∧ w'.cell? ⟨gb228, 1, none⟩ = some (.string a0_1) ∧ w'.cell? ⟨gb228, 2, none⟩ = some (.int .i64 a0_2)) (ds := []) #[false, false, false, false, false, false, false, false, false] (by kernel_rfl) rfl rfl ⟨(blk_cell BK228.out 0).trans rfl, (blk_cell BK228.out 1).trans rfl, (blk_cell BK228.out 2).trans rfl⟩ (fun hHeld => ?_); refine with_tabW impl_CrashLog.tab3 impl_CrashLog.bits3 (fun HT_ HW_ => ?_)
        generalize wc.drew = w25 at BK228 HB hHeld ⊢
        refine pure_ (i := 0) (N := some 20) (v := ?_) (a' := ?_) #[true, false, false, false, false, false, false, false, false] rfl rfl (any_of HT_.out (by kernel_rfl)) (fun _ _ _ h => h) (Or.inl ⟨by rfl, ?_⟩) ?_ ?_
        rotate_left
        ·intro w'
         go_simp
         with_reducible rfl
        rotate_left
        ·simp only [Act.put, List.setIfInBounds_toArray, List.set_cons_zero, List.set_cons_succ, i64_w, i32_w]
         rfl
        refine pure_ (i := 2) (N := some 22) (v := ?_) (a' := ?_) #[true, false, true, false, false, false, false, false, false] rfl rfl (any_of HT_.out (by kernel_rfl)) (fun _ _ _ h => h) (Or.inl ⟨by rfl, ?_⟩) ?_ ?_
        rotate_left
        ·intro w'
         go_simp
         with_reducible rfl
        rotate_left
        ·simp only [Act.put, List.setIfInBounds_toArray, List.set_cons_zero, List.set_cons_succ, i64_w, i32_w]
         rfl
        refine pure_ (i := 4) (N := some 24) (v := ?_) (a' := ?_) #[true, false, true, false, true, false, false, false, false] rfl rfl (any_of HT_.out (by kernel_rfl)) (fun _ _ _ h => h) (Or.inl ⟨by rfl, ?_⟩) ?_ ?_
        rotate_left
        ·intro w'
         go_simp
         with_reducible rfl
        rotate_left
        ·simp only [Act.put, List.setIfInBounds_toArray, List.set_cons_zero, List.set_cons_succ, i64_w, i32_w]
         rfl
        refine take_ (i := 1) (N := some 21) (v := ?_) (a' := ?_) #[true, true, true, false, true, false, false, false, false] rfl rfl (take_ofW HT_.out HW_.out (by kernel_rfl)) (fun _ _ _ h => h) (Or.inl ⟨by rfl, ?_⟩) hHeld ?_ ?_
        rotate_left
        ·rintro w' ⟨s0, s1, s2⟩
         go_simp
         with_reducible rfl
        rotate_left
        ·simp only [Act.put, List.setIfInBounds_toArray, List.set_cons_zero, List.set_cons_succ, i64_w, i32_w]
         rfl
        refine take_ (i := 3) (N := some 23) (v := ?_) (a' := ?_) #[true, true, true, true, true, false, false, false, false] rfl rfl (take_ofW HT_.out HW_.out (by kernel_rfl)) (fun _ _ _ h => h) (Or.inl ⟨by rfl, ?_⟩) hHeld ?_ ?_
        rotate_left
        ·rintro w' ⟨s0, s1, s2⟩
         go_simp
         with_reducible rfl
        rotate_left
        ·simp only [Act.put, List.setIfInBounds_toArray, List.set_cons_zero, List.set_cons_succ, i64_w, i32_w]
         rfl
        refine pure_ (i := 5) (N := some 25) (v := ?_) (a' := ?_) #[true, true, true, true, true, true, false, false, false] rfl rfl (any_of HT_.out (by kernel_rfl)) (fun _ _ _ h => h) (Or.inl ⟨by rfl, ?_⟩) ?_ ?_
        rotate_left
        ·intro w'
         go_simp
         with_reducible rfl
        rotate_left
        ·simp only [Act.put, List.setIfInBounds_toArray, List.set_cons_zero, List.set_cons_succ, i64_w, i32_w]
         rfl
        refine pure_ (i := 6) (N := some 26) (v := ?_) (a' := ?_) #[true, true, true, true, true, true, true, false, false] rfl rfl (any_of HT_.out (by kernel_rfl)) (fun _ _ _ h => h) (Or.inl ⟨by rfl, ?_⟩) ?_ ?_
        rotate_left
        ·intro w'
         go_simp
         with_reducible rfl
        rotate_left
        ·simp only [Act.put, List.setIfInBounds_toArray, List.set_cons_zero, List.set_cons_succ, i64_w, i32_w]
         rfl
        refine one_ (i := 7) (N := some 27) #[true, true, true, true, true, true, true, true, false] rfl rfl (one_of HT_.out (by kernel_rfl)) (by decide) (fun K hK => ?_)
        refine conv_step 5 X_ ?hg (N := 27) ?hd ?hr ?_; (case hd => rfl); (case hg => rfl); (case hr => (have hq_ := hcv_.out; first | (go_simp; done) | (go_simp; rfl)))
        intro g cap w26 hab hR hb
        have hgg_ : w.heap.size ≤ g := by rw [hab]; exact below_size HB.out
        clear hab
        have n0_ := Aside0.mk (blk_below (g := gb228) (o := .cells #[.string a0_0, .string a0_1, .int .i64 a0_2] 31 (0, 0)) (by (with_reducible repeat (first | refine blk_drewN ?_ _ | refine blk_drew ?_ | refine blk_alloc ?_ _)); exact BK228.out) hb)
        have n1_ := Aside0.mk (below_step (by repeat (first | (with_reducible first | exact HB.out | apply below_alloc | apply pw_below_drewN | apply below_drew1 | refine below_set ?_ GE228.out) | exact HB.out)) hb)
        clear BK228
        clear HB
        have BK228 := n0_
        have HB := n1_
        clear n0_ n1_
        (try clear hb)
        (try clear hb2)
        (try clear hk)
        (try clear hi)
        refine hK.out _ _ ⟨(blk_cell BK228.out 0).trans rfl, (blk_cell BK228.out 1).trans rfl, (blk_cell BK228.out 2).trans rfl⟩ (fun hHeld => ?_)
        clear hK K
        refine norm_ (a' := ?_) ?_ ?_
        rotate_left
        ·show Act.put _ (some 27) _ = _
         simp only [Act.put, List.setIfInBounds_toArray, List.set_cons_zero, List.set_cons_succ, i64_w, i32_w]
         rfl
        refine pure_ (i := 8) (N := some 8) (v := ?_) (a' := ?_) #[true, true, true, true, true, true, true, true, true] rfl rfl (any_of HT_.out (by kernel_rfl)) (fun _ _ _ h => h) (Or.inl ⟨by rfl, ?_⟩) ?_ ?_
        rotate_left
        ·intro w'
         go_simp
         with_reducible rfl
        rotate_left
        ·simp only [Act.put, List.setIfInBounds_toArray, List.set_cons_zero, List.set_cons_succ, i64_w, i32_w]
         rfl
        refine done_ (done_of HT_.out (by kernel_rfl)) ?_
        have hk_ := bytes_back w26 g cap X_ hR hsl_
        try go_wp2
        go_ret2
        exact ⟨by first | rfl | (simp [errW_none, errW_some] <;> rfl) | (simp [*, errW_none, errW_some] <;> rfl), by repeat (first | (with_reducible first | exact HB.out | apply below_alloc | apply pw_below_drewN | apply below_drew1 | refine below_set ?_ GE228.out) | exact HB.out)⟩
      ·rw [if_neg c17] at H
       exact absurd H (by simp)
     ·rw [if_neg c16] at H
      exact absurd H (by simp)
    ·rw [if_neg c15] at H
     exact absurd H (by simp)



end Go.Proofs.YtphcagjmpaajmaaDoor.QFnCrashes
-- squeezed
