-- Written by px.py, a program of this session, over the kit's printer: some functions have a definition and a proof of this session's own.
import Derived.Test.YtphcagjmpaajmaaDoorQFnLogsx0
import Derived.Test.YtphcagjmpaajmaaDoorQFnLogsx1
import Derived.Test.YtphcagjmpaajmaaDoorQFnLogsx3
import Derived.Test.YtphcagjmpaajmaaDoorQFnLogsx8
import Derived.Test.YtphcagjmpaajmaaDoorQFnLogsx9
import Derived.Test.YtphcagjmpaajmaaDoorQFnLogsx10
namespace Go.Proofs.YtphcagjmpaajmaaDoor.QFnLogs
open Go.RowKit Go.Proofs.YtphcagjmpaajmaaDoorW.PrintWords Go.Proofs.YtphcagjmpaajmaaDoorW.PrintLast Go.Proofs.YtphcagjmpaajmaaDoorW.PrintMore
attribute [local go_sem] max2_int min2_int max_two min_two max_three min_three max_four min_four   -- for this text's walks alone
set_option linter.unusedVariables false
set_option linter.unusedSimpArgs false
set_option maxHeartbeats 8000000
set_option maxRecDepth 100000

attribute [local go_sem high] eqA27
def spec_DrawAppendRecord.l0 : Nat → Int → List Int → Int → Int → ByteArray → ByteArray → Int → Option (ByteArray × ByteArray × Int × ByteArray × ByteArray)
 | 0, _, _, _, _, _, _, _ => none
 | k + 1, x6, x1000, x1001, x1002, x405000, x405001, x405002 => if x6 > 0 then ((spec_AppendRecord.f k x405000 x405001 x405002 (⟨#[120]⟩ : ByteArray) (⟨#[]⟩ : ByteArray)).bind fun bt411 => (spec_DrawAppendRecord.l0 k (wrap64 (x6 - 1)) x1000 x1001 x1002 bt411.1 bt411.2.1 bt411.2.2.1)) else ((spec_l1Cur_logRecord.f x1000 x1001 x1002).bind fun bt415 => (some (x405000, x405001, x405002, bt415.1, bt415.2.1)))
def spec_DrawAppendRecord.f (k : Nat) (l0 : List Int) : Option (ByteArray × ByteArray × Int × ByteArray × ByteArray) := (spec_l1Cur_anyLog.f k l0 0 0).bind fun bt399 => ((spec_l1Cur_one.f l0 bt399.2.2.2.1 bt399.2.2.2.2 40).bind fun bt405 => (if bt405.1 = true then ((spec_l1Cur_pick.f l0 bt405.2.1 bt405.2.2 2).bind fun bt408 => (spec_DrawAppendRecord.l0 k (wrap64 (59 + bt408.1)) l0 bt408.2.1 bt408.2.2 (⟨#[]⟩ : ByteArray) (⟨#[]⟩ : ByteArray) 0)) else ((spec_l1Cur_logRecord.f l0 bt405.2.1 bt405.2.2).bind fun bt419 => (some (bt399.1, bt399.2.1, bt399.2.2.1, bt419.1, bt419.2.1)))))
theorem spec_DrawAppendRecord.mono_l : ∀ k, (∀ y0 y1 y2 y3 y4 y5 y6, LeO (spec_DrawAppendRecord.l0 k y0 y1 y2 y3 y4 y5 y6) (spec_DrawAppendRecord.l0 (k + 1) y0 y1 y2 y3 y4 y5 y6))
 | 0 => fun _ _ _ _ _ _ _ r h => by simp [spec_DrawAppendRecord.l0] at h
 | k + 1 => by
  have ih0 := spec_DrawAppendRecord.mono_l k
  ·intro y0 y1 y2 y3 y4 y5 y6
   unfold spec_DrawAppendRecord.l0
   repeat' first
   | (with_reducible exact ih0 _ _ _ _ _ _ _)
   | (with_reducible exact spec_AppendRecord.mono _ _ _ _ _ _)
   | (with_reducible exact spec_l1Cur_anyLog.mono _ _ _ _)
   | (with_reducible exact LeO.refl _)
   | (with_reducible exact LeO.none _)
   | (with_reducible refine LeO.ite ?_ ?_)
   | (with_reducible refine LeO.bind ?_ (fun _ => ?_))
theorem spec_DrawAppendRecord.mono : ∀ a0 k, LeO (spec_DrawAppendRecord.f k a0) (spec_DrawAppendRecord.f (k + 1) a0) := by
 intro a0 k
 have ih0 := spec_DrawAppendRecord.mono_l k
 unfold spec_DrawAppendRecord.f
 repeat' first
   | (with_reducible exact ih0 _ _ _ _ _ _ _)
   | (with_reducible exact spec_AppendRecord.mono _ _ _ _ _ _)
   | (with_reducible exact spec_l1Cur_anyLog.mono _ _ _ _)
   | (with_reducible exact LeO.refl _)
   | (with_reducible exact LeO.none _)
   | (with_reducible refine LeO.ite ?_ ?_)
   | (with_reducible refine LeO.bind ?_ (fun _ => ?_))
theorem spec_DrawAppendRecord.calls (k : Nat) (A0 : Option Addr) (c0 : Nat) (l0 : List Int) (r1 : ByteArray) (r2 : ByteArray) (r3 : Int) (r4 : ByteArray) (r5 : ByteArray) (w : World) (hr0 : Kd.C (Kd.int .u8) w A0 l0.length l0) (hc0 : l0.length ≤ c0) (h : spec_DrawAppendRecord.f k l0 = some (r1, r2, r3, r4, r5)) :
  Calls Tryd.prog 39 #[.slice A0 l0.length c0] w fun e w' => e = .returned (.tuple #[.agg #[.string r1, .string r2, .int .i64 r3], .agg #[.string r4, .string r5]]) ∧ Below w.heap.size w w' := by
 have hu79 := Tryd.underlying79
 have HB := A0_ (Below.refl w.heap.size w)
 have H : ((spec_l1Cur_anyLog.f k l0 0 0).bind fun bt399 => ((spec_l1Cur_one.f l0 bt399.2.2.2.1 bt399.2.2.2.2 40).bind fun bt405 => (if bt405.1 = true then ((spec_l1Cur_pick.f l0 bt405.2.1 bt405.2.2 2).bind fun bt408 => (spec_DrawAppendRecord.l0 k (wrap64 (59 + bt408.1)) l0 bt408.2.1 bt408.2.2 (⟨#[]⟩ : ByteArray) (⟨#[]⟩ : ByteArray) 0)) else ((spec_l1Cur_logRecord.f l0 bt405.2.1 bt405.2.2).bind fun bt419 => (some (bt399.1, bt399.2.1, bt399.2.2.1, bt419.1, bt419.2.1)))))) = some (r1, r2, r3, r4, r5) := h
 clear h
 replace H := ob_.mp H
 obtain ⟨⟨t399, t400, t401, t402, t403⟩, A20, H⟩ := H
 have A2 := A0_ A20
 clear A20
 replace H := ob_.mp H
 obtain ⟨⟨t405, t406, t407⟩, A30, H⟩ := H
 have A3 := A0_ A30
 clear A30
 by_cases c4 : t405 = true
 ·subst c4
  rw [if_pos rfl] at H
  replace H := ob_.mp H
  obtain ⟨⟨t408, t409, t410⟩, A50, H⟩ := H
  have A5 := A0_ A50
  clear A50
  have H' := A0_ H
  clear H
  go_enter Tryd.func39, Tryd.ntmps39
  go_wp2_with (first | ((with_reducible refine gd_ (N := 2) rfl ?_); refine be_ ?hg (N := 2) ?hd (cs := #[.string (⟨#[]⟩ : ByteArray), .string (⟨#[]⟩ : ByteArray), .int .i64 0]) (t := 31) ?hr ?_; (case hd => rfl); (case hg => rfl); (case hr => go_simp; first | done | rfl); intro gb397 hg w6 hbox hb; have n2_ := A0_ (bt_ (by repeat (with_reducible first | exact HB.out | apply ba_ | apply bn_ | apply bd_)) hb); have n3_ := A0_ (hbox); have n4_ := A0_ ((by rw [hg]; exact (bz_ (by repeat (with_reducible first | exact HB.out | apply ba_ | apply bn_ | apply bd_))) : w.heap.size ≤ gb397)); clear HB; have HB := n2_; have BK397 := n3_; have GW397 := n4_; have GE397 := n4_; clear n2_ n3_ n4_ hb hbox hg) | ((with_reducible refine gd_ (N := 3) rfl ?_); refine be_ ?hg (N := 3) ?hd (cs := #[.string (⟨#[]⟩ : ByteArray), .string (⟨#[]⟩ : ByteArray)]) (t := 27) ?hr ?_; (case hd => rfl); (case hg => rfl); (case hr => go_simp; first | done | rfl); intro gb398 hg w7 hbox hb; have n2_ := A0_ (bt_ (by repeat (with_reducible first | exact HB.out | apply ba_ | apply bn_ | apply bd_)) hb); have n3_ := A0_ (hbox); have n4_ := A0_ ((by rw [hg]; exact (bz_ (by repeat (with_reducible first | exact HB.out | apply ba_ | apply bn_ | apply bd_))) : w.heap.size ≤ gb398)); have m397_ := A0_ (kb_ (g := gb397) (o := .cells #[.string (⟨#[]⟩ : ByteArray), .string (⟨#[]⟩ : ByteArray), .int .i64 0] 31 (0, 0)) (by (with_reducible repeat (first | apply kn_ | apply kd_ | apply ka_)); exact BK397.out) hb); have NB398_397 := A0_ ((by rw [hg]; exact Nat.ne_of_gt (blk_lt (g := gb397) (o := .cells #[.string (⟨#[]⟩ : ByteArray), .string (⟨#[]⟩ : ByteArray), .int .i64 0] 31 (0, 0)) (by (with_reducible repeat (first | apply kn_ | apply kd_ | apply ka_)); exact BK397.out)) : gb398 ≠ gb397)); have NB397_398 := A0_ (Ne.symm NB398_397.out); clear HB BK397; have HB := n2_; have BK398 := n3_; have GW398 := n4_; have GE398 := n4_; have BK397 := m397_; clear m397_ n2_ n3_ n4_ hb hbox hg) | ((with_reducible refine gd_ (N := 9) rfl ?_); refine be_ ?hg (N := 9) ?hd (cs := #[.slice A0 l0.length c0, .int .i64 0, .int .u64 0]) (t := 79) ?hr ?_; (case hd => rfl); (case hg => rfl); (case hr => go_simp; first | done | rfl); intro g hg wB hbox hb; have n0_ := A0_ (show IsS79 w wB g l0 0 0 from ⟨A0, c0, hbox, (by rw [hg]; exact (bz_ (by repeat (with_reducible first | exact HB.out | apply ba_ | apply bn_ | apply bd_)))), hr0⟩); have n1_ := A0_ (KeepBut.refl wB g none); have n2_ := A0_ (bt_ (by repeat (with_reducible first | exact HB.out | apply ba_ | apply bn_ | apply bd_)) hb); have HW0 := A0_ (Below.size n2_.out); have m397_ := A0_ (kb_ (g := gb397) (o := .cells #[.string (⟨#[]⟩ : ByteArray), .string (⟨#[]⟩ : ByteArray), .int .i64 0] 31 (0, 0)) (by (with_reducible repeat (first | apply kn_ | apply kd_ | apply ka_)); exact BK397.out) hb); have NB0_397 := A0_ ((by rw [hg]; exact Nat.ne_of_gt (blk_lt (g := gb397) (o := .cells #[.string (⟨#[]⟩ : ByteArray), .string (⟨#[]⟩ : ByteArray), .int .i64 0] 31 (0, 0)) (by (with_reducible repeat (first | apply kn_ | apply kd_ | apply ka_)); exact BK397.out)) : g ≠ gb397)); have NB397_0 := A0_ (Ne.symm NB0_397.out); have m398_ := A0_ (kb_ (g := gb398) (o := .cells #[.string (⟨#[]⟩ : ByteArray), .string (⟨#[]⟩ : ByteArray)] 27 (0, 0)) (by (with_reducible repeat (first | apply kn_ | apply kd_ | apply ka_)); exact BK398.out) hb); have NB0_398 := A0_ ((by rw [hg]; exact Nat.ne_of_gt (blk_lt (g := gb398) (o := .cells #[.string (⟨#[]⟩ : ByteArray), .string (⟨#[]⟩ : ByteArray)] 27 (0, 0)) (by (with_reducible repeat (first | apply kn_ | apply kd_ | apply ka_)); exact BK398.out)) : g ≠ gb398)); have NB398_0 := A0_ (Ne.symm NB0_398.out); clear HB BK397 BK398; have HI0 := n0_; have HK := n1_; have HB := n2_; have BK397 := m397_; clear m397_; have BK398 := m398_; clear m398_ n0_ n1_ n2_ hb hbox hg) | ((with_reducible refine gc_ (f := 59) rfl ?_); refine goesL_ (some 11) rfl rfl Tryd.func59 (by kernel_rfl) rfl #[.pointer (some ⟨g, 0, none⟩)] rfl (by (try simp only [ma_, mc_, mn_]); first | done | rfl | (simp only [ld_, lt_]; rfl)) ?_; (with_reducible refine (spec_l1Cur_anyLog.calls k g l0 0 0 t399 t400 t401 t402 t403 w _ ?side1 ?side2 A2.out).mono ?_); (case side1 => repeat (with_reducible first | exact HI0.out | apply IsS79.alloc | apply IsS79.drewN | apply IsS79.drew | apply IsS79.set_1 | apply IsS79.set_2 | refine IsS79.far ?_ NB0_397.out _ | refine IsS79.far ?_ NB0_398.out _)); (case side2 => repeat (with_reducible first | exact HB.out | apply ba_ | apply bn_ | apply bd_ | refine bs_ ?_ (IsS79.ge HI0.out) | refine bs_ ?_ GE397.out | refine bs_ ?_ GE398.out)); rintro e w8 ⟨rfl, hi, hb, hk⟩; refine ⟨_, rfl, ?_⟩; replace BK397 := A0_ (KeepBut.blk hk (g' := gb397) (o := .cells #[.string (⟨#[]⟩ : ByteArray), .string (⟨#[]⟩ : ByteArray), .int .i64 0] 31 (0, 0)) (by (with_reducible repeat (first | apply kn_ | apply kd_ | apply ka_)); exact BK397.out) NB397_0.out (by simp)); replace BK398 := A0_ (KeepBut.blk hk (g' := gb398) (o := .cells #[.string (⟨#[]⟩ : ByteArray), .string (⟨#[]⟩ : ByteArray)] 27 (0, 0)) (by (with_reducible repeat (first | apply kn_ | apply kd_ | apply ka_)); exact BK398.out) NB398_0.out (by simp)); replace HK := A0_ (KeepBut.trans (by repeat (with_reducible first | exact HK.out | apply KeepBut.set_ | apply keep_drewN | apply keep_drew | apply keep_alloc | refine keep_far ?_ GW397.out _ | refine keep_far ?_ GW398.out _)) hk (.inl rfl)); replace HB := A0_ (hb); replace HI0 := A0_ (hi); (try clear hb); (try clear hk); (try clear hi)) | ((with_reducible refine gd_ (N := 5) rfl ?_); refine be_ ?hg (N := 5) ?hd (cs := #[.string (⟨#[]⟩ : ByteArray), .string (⟨#[]⟩ : ByteArray), .int .i64 0]) (t := 31) ?hr ?_; (case hd => rfl); (case hg => rfl); (case hr => go_simp; first | done | rfl); intro gb404 hg w9 hbox hb; replace HB := A0_ (bt_ (by repeat (with_reducible first | exact HB.out | apply ba_ | apply bn_ | apply bd_ | refine bs_ ?_ (IsS79.ge HI0.out) | refine bs_ ?_ GE397.out | refine bs_ ?_ GE398.out)) hb); have BK404 := A0_ (hbox); have GW404 := A0_ ((by rw [hg]; exact (keep_size (w := wB) (g := g) (row := none) (by repeat (with_reducible first | exact HK.out | apply KeepBut.set_ | apply keep_drewN | apply keep_drew | apply keep_alloc | refine keep_far ?_ GW397.out _ | refine keep_far ?_ GW398.out _))) : wB.heap.size ≤ gb404)); have GE404 := A0_ ((Nat.le_trans HW0.out (by rw [hg]; exact (keep_size (w := wB) (g := g) (row := none) (by repeat (with_reducible first | exact HK.out | apply KeepBut.set_ | apply keep_drewN | apply keep_drew | apply keep_alloc | refine keep_far ?_ GW397.out _ | refine keep_far ?_ GW398.out _))) : wB.heap.size ≤ gb404) : w.heap.size ≤ gb404)); replace HK := A0_ (KeepBut.trans (by repeat (with_reducible first | exact HK.out | apply KeepBut.set_ | apply keep_drewN | apply keep_drew | apply keep_alloc | refine keep_far ?_ GW397.out _ | refine keep_far ?_ GW398.out _)) (KeepBut.of_below hb g none) (.inl rfl)); have NB397_404 := A0_ ((by rw [hg]; exact Nat.ne_of_lt (blk_lt (g := gb397) (o := .cells #[.string (⟨#[]⟩ : ByteArray), .string (⟨#[]⟩ : ByteArray), .int .i64 0] 31 (0, 0)) (by (with_reducible repeat (first | apply kn_ | apply kd_ | apply ka_)); exact BK397.out)) : gb397 ≠ gb404)); have NB404_397 := A0_ ((by rw [hg]; exact Nat.ne_of_gt (blk_lt (g := gb397) (o := .cells #[.string (⟨#[]⟩ : ByteArray), .string (⟨#[]⟩ : ByteArray), .int .i64 0] 31 (0, 0)) (by (with_reducible repeat (first | apply kn_ | apply kd_ | apply ka_)); exact BK397.out)) : gb404 ≠ gb397)); replace BK397 := A0_ (kb_ (g := gb397) (o := .cells #[.string (⟨#[]⟩ : ByteArray), .string (⟨#[]⟩ : ByteArray), .int .i64 0] 31 (0, 0)) (by (with_reducible repeat (first | apply kn_ | apply kd_ | apply ka_)); exact BK397.out) hb); have NB398_404 := A0_ ((by rw [hg]; exact Nat.ne_of_lt (blk_lt (g := gb398) (o := .cells #[.string (⟨#[]⟩ : ByteArray), .string (⟨#[]⟩ : ByteArray)] 27 (0, 0)) (by (with_reducible repeat (first | apply kn_ | apply kd_ | apply ka_)); exact BK398.out)) : gb398 ≠ gb404)); have NB404_398 := A0_ ((by rw [hg]; exact Nat.ne_of_gt (blk_lt (g := gb398) (o := .cells #[.string (⟨#[]⟩ : ByteArray), .string (⟨#[]⟩ : ByteArray)] 27 (0, 0)) (by (with_reducible repeat (first | apply kn_ | apply kd_ | apply ka_)); exact BK398.out)) : gb404 ≠ gb398)); replace BK398 := A0_ (kb_ (g := gb398) (o := .cells #[.string (⟨#[]⟩ : ByteArray), .string (⟨#[]⟩ : ByteArray)] 27 (0, 0)) (by (with_reducible repeat (first | apply kn_ | apply kd_ | apply ka_)); exact BK398.out) hb); have NB0_404 := A0_ ((by rw [hg]; exact Nat.ne_of_lt (IsS79.lt (show IsS79 w _ g l0 t402 t403 from by repeat (with_reducible first | exact HI0.out | apply IsS79.alloc | apply IsS79.drewN | apply IsS79.drew | apply IsS79.set_1 | apply IsS79.set_2 | refine IsS79.far ?_ NB0_397.out _ | refine IsS79.far ?_ NB0_398.out _))) : g ≠ gb404)); have NB404_0 := A0_ ((by rw [hg]; exact Nat.ne_of_gt (IsS79.lt (show IsS79 w _ g l0 t402 t403 from by repeat (with_reducible first | exact HI0.out | apply IsS79.alloc | apply IsS79.drewN | apply IsS79.drew | apply IsS79.set_1 | apply IsS79.set_2 | refine IsS79.far ?_ NB0_397.out _ | refine IsS79.far ?_ NB0_398.out _))) : gb404 ≠ g)); replace HI0 := A0_ (IsS79.below (by repeat (with_reducible first | exact HI0.out | apply IsS79.alloc | apply IsS79.drewN | apply IsS79.drew | apply IsS79.set_1 | apply IsS79.set_2 | refine IsS79.far ?_ NB0_397.out _ | refine IsS79.far ?_ NB0_398.out _)) hb); clear hb hbox hg; have hnb10 := NB404_397.out; have hnc10 := NB397_404.out; have hnb11 := NB404_398.out; have hnc11 := NB398_404.out; have hnb12 := NB404_0.out; have hnc12 := NB0_404.out; have hcz13_0 : w9.cell? ⟨gb404, 0, none⟩ = some (.string (⟨#[]⟩ : ByteArray)) := (kc_ BK404.out 0).trans rfl; have hcz13_1 : w9.cell? ⟨gb404, 1, none⟩ = some (.string (⟨#[]⟩ : ByteArray)) := (kc_ BK404.out 1).trans rfl; have hcz13_2 : w9.cell? ⟨gb404, 2, none⟩ = some (.int .i64 0) := (kc_ BK404.out 2).trans rfl; have hfz13_0 := kf_ BK404.out 0; have hfz13_1 := kf_ BK404.out 1; have hfz13_2 := kf_ BK404.out 2) | ((with_reducible refine gc_ (f := 60) rfl ?_); refine goesL_ (some 13) rfl rfl Tryd.func60 (by kernel_rfl) rfl #[.pointer (some ⟨g, 0, none⟩), .int .i64 40] rfl (by (try simp only [ma_, mc_, mn_]); first | done | rfl | (simp only [ld_, lt_]; rfl)) ?_; (with_reducible refine (spec_l1Cur_one.calls g l0 t402 t403 40 true t406 t407 w _ ?side1 ?side2 A3.out).mono ?_); (case side1 => repeat (with_reducible first | exact HI0.out | apply IsS79.alloc | apply IsS79.drewN | apply IsS79.drew | apply IsS79.set_1 | apply IsS79.set_2 | refine IsS79.far ?_ NB0_397.out _ | refine IsS79.far ?_ NB0_398.out _ | refine IsS79.far ?_ NB0_404.out _)); (case side2 => repeat (with_reducible first | exact HB.out | apply ba_ | apply bn_ | apply bd_ | refine bs_ ?_ (IsS79.ge HI0.out) | refine bs_ ?_ GE397.out | refine bs_ ?_ GE398.out | refine bs_ ?_ GE404.out)); rintro e w14 ⟨rfl, hi, hb, hk⟩; refine ⟨_, rfl, ?_⟩; replace BK397 := A0_ (KeepBut.blk hk (g' := gb397) (o := .cells #[.string (⟨#[]⟩ : ByteArray), .string (⟨#[]⟩ : ByteArray), .int .i64 0] 31 (0, 0)) (by (with_reducible repeat (first | apply kn_ | apply kd_ | apply ka_)); refine blk_far ?_ NB397_404.out _; (with_reducible repeat (first | apply kn_ | apply kd_ | apply ka_)); refine blk_far ?_ NB397_404.out _; (with_reducible repeat (first | apply kn_ | apply kd_ | apply ka_)); refine blk_far ?_ NB397_404.out _; (with_reducible repeat (first | apply kn_ | apply kd_ | apply ka_)); exact BK397.out) NB397_0.out (by simp)); replace BK398 := A0_ (KeepBut.blk hk (g' := gb398) (o := .cells #[.string (⟨#[]⟩ : ByteArray), .string (⟨#[]⟩ : ByteArray)] 27 (0, 0)) (by (with_reducible repeat (first | apply kn_ | apply kd_ | apply ka_)); refine blk_far ?_ NB398_404.out _; (with_reducible repeat (first | apply kn_ | apply kd_ | apply ka_)); refine blk_far ?_ NB398_404.out _; (with_reducible repeat (first | apply kn_ | apply kd_ | apply ka_)); refine blk_far ?_ NB398_404.out _; (with_reducible repeat (first | apply kn_ | apply kd_ | apply ka_)); exact BK398.out) NB398_0.out (by simp)); replace BK404 := A0_ (KeepBut.blk hk (g' := gb404) (o := .cells #[.string t399, .string t400, .int .i64 t401] 31 (0, 0)) (by (with_reducible repeat (first | apply kn_ | apply kd_ | apply ka_)); refine blk_put (cs := #[.string t399, .string t400, .int .i64 0]) ?_ 2 _ rfl; (with_reducible repeat (first | apply kn_ | apply kd_ | apply ka_)); refine blk_put (cs := #[.string t399, .string (⟨#[]⟩ : ByteArray), .int .i64 0]) ?_ 1 _ rfl; (with_reducible repeat (first | apply kn_ | apply kd_ | apply ka_)); refine blk_put (cs := #[.string (⟨#[]⟩ : ByteArray), .string (⟨#[]⟩ : ByteArray), .int .i64 0]) ?_ 0 _ rfl; (with_reducible repeat (first | apply kn_ | apply kd_ | apply ka_)); exact BK404.out) NB404_0.out (by simp)); replace HK := A0_ (KeepBut.trans (by repeat (with_reducible first | exact HK.out | apply KeepBut.set_ | apply keep_drewN | apply keep_drew | apply keep_alloc | refine keep_far ?_ GW397.out _ | refine keep_far ?_ GW398.out _ | refine keep_far ?_ GW404.out _)) hk (.inl rfl)); replace HB := A0_ (hb); replace HI0 := A0_ (hi); (try clear hb); (try clear hk); (try clear hi); have hcz15_0 : w14.cell? ⟨gb404, 0, none⟩ = some (.string t399) := (kc_ BK404.out 0).trans rfl; have hcz15_1 : w14.cell? ⟨gb404, 1, none⟩ = some (.string t400) := (kc_ BK404.out 1).trans rfl; have hcz15_2 : w14.cell? ⟨gb404, 2, none⟩ = some (.int .i64 t401) := (kc_ BK404.out 2).trans rfl; have hfz15_0 := kf_ BK404.out 0; have hfz15_1 := kf_ BK404.out 1; have hfz15_2 := kf_ BK404.out 2) | ((with_reducible refine gc_ (f := 61) rfl ?_); refine goesL_ (some 16) rfl rfl Tryd.func61 (by kernel_rfl) rfl #[.pointer (some ⟨g, 0, none⟩), .int .i64 2] rfl (by (try simp only [ma_, mc_, mn_]); first | done | rfl | (simp only [ld_, lt_]; rfl)) ?_; (with_reducible refine (spec_l1Cur_pick.calls g l0 t406 t407 2 t408 t409 t410 w _ ?side1 ?side2 A5.out).mono ?_); (case side1 => repeat (with_reducible first | exact HI0.out | apply IsS79.alloc | apply IsS79.drewN | apply IsS79.drew | apply IsS79.set_1 | apply IsS79.set_2 | refine IsS79.far ?_ NB0_397.out _ | refine IsS79.far ?_ NB0_398.out _ | refine IsS79.far ?_ NB0_404.out _)); (case side2 => repeat (with_reducible first | exact HB.out | apply ba_ | apply bn_ | apply bd_ | refine bs_ ?_ (IsS79.ge HI0.out) | refine bs_ ?_ GE397.out | refine bs_ ?_ GE398.out | refine bs_ ?_ GE404.out)); rintro e w16 ⟨rfl, hi, hb, hk⟩; refine ⟨_, rfl, ?_⟩; replace BK397 := A0_ (KeepBut.blk hk (g' := gb397) (o := .cells #[.string (⟨#[]⟩ : ByteArray), .string (⟨#[]⟩ : ByteArray), .int .i64 0] 31 (0, 0)) (by (with_reducible repeat (first | apply kn_ | apply kd_ | apply ka_)); refine blk_far ?_ NB397_404.out _; (with_reducible repeat (first | apply kn_ | apply kd_ | apply ka_)); refine blk_far ?_ NB397_404.out _; (with_reducible repeat (first | apply kn_ | apply kd_ | apply ka_)); refine blk_far ?_ NB397_404.out _; (with_reducible repeat (first | apply kn_ | apply kd_ | apply ka_)); exact BK397.out) NB397_0.out (by simp)); replace BK398 := A0_ (KeepBut.blk hk (g' := gb398) (o := .cells #[.string (⟨#[]⟩ : ByteArray), .string (⟨#[]⟩ : ByteArray)] 27 (0, 0)) (by (with_reducible repeat (first | apply kn_ | apply kd_ | apply ka_)); refine blk_far ?_ NB398_404.out _; (with_reducible repeat (first | apply kn_ | apply kd_ | apply ka_)); refine blk_far ?_ NB398_404.out _; (with_reducible repeat (first | apply kn_ | apply kd_ | apply ka_)); refine blk_far ?_ NB398_404.out _; (with_reducible repeat (first | apply kn_ | apply kd_ | apply ka_)); exact BK398.out) NB398_0.out (by simp)); replace BK404 := A0_ (KeepBut.blk hk (g' := gb404) (o := .cells #[.string (⟨#[]⟩ : ByteArray), .string (⟨#[]⟩ : ByteArray), .int .i64 0] 31 (0, 0)) (by (with_reducible repeat (first | apply kn_ | apply kd_ | apply ka_)); refine blk_put (cs := #[.string (⟨#[]⟩ : ByteArray), .string (⟨#[]⟩ : ByteArray), .int .i64 t401]) ?_ 2 _ rfl; (with_reducible repeat (first | apply kn_ | apply kd_ | apply ka_)); refine blk_put (cs := #[.string (⟨#[]⟩ : ByteArray), .string t400, .int .i64 t401]) ?_ 1 _ rfl; (with_reducible repeat (first | apply kn_ | apply kd_ | apply ka_)); refine blk_put (cs := #[.string t399, .string t400, .int .i64 t401]) ?_ 0 _ rfl; (with_reducible repeat (first | apply kn_ | apply kd_ | apply ka_)); exact BK404.out) NB404_0.out (by simp)); replace HK := A0_ (KeepBut.trans (by repeat (with_reducible first | exact HK.out | apply KeepBut.set_ | apply keep_drewN | apply keep_drew | apply keep_alloc | refine keep_far ?_ GW397.out _ | refine keep_far ?_ GW398.out _ | refine keep_far ?_ GW404.out _)) hk (.inl rfl)); replace HB := A0_ (hb); replace HI0 := A0_ (hi); (try clear hb); (try clear hk); (try clear hi)))
  go_loopg [6] k (fun kq v6 w' => ∃ (x6_1 : Int) (x405000_1 : ByteArray) (x405001_1 : ByteArray) (x405002_1 : Int), v6 = .int .i64 x6_1 ∧ Aside0 (spec_DrawAppendRecord.l0 kq x6_1 l0 t409 t410 x405000_1 x405001_1 x405002_1 = some (r1, r2, r3, r4, r5)) ∧ Aside0 (kq ≤ k) ∧ Aside0 (w'.heap[gb397]? = some (.cells #[.string (⟨#[]⟩ : ByteArray), .string (⟨#[]⟩ : ByteArray), .int .i64 0] 31 (0, 0))) ∧ Aside0 (w'.heap[gb398]? = some (.cells #[.string (⟨#[]⟩ : ByteArray), .string (⟨#[]⟩ : ByteArray)] 27 (0, 0))) ∧ Aside0 (w'.heap[gb404]? = some (.cells #[.string x405000_1, .string x405001_1, .int .i64 x405002_1] 31 (0, 0))) ∧ Aside0 (IsS79 w w' g l0 t409 t410) ∧ Aside0 (KeepBut wB w' g none) ∧ Aside0 (Below w.heap.size w w'))
  case atStart => exact ⟨(wrap64 (59 + t408)), ((⟨#[]⟩ : ByteArray)), ((⟨#[]⟩ : ByteArray)), (0), (by first | rfl | (simp [*]; done)), H', ⟨Nat.le_refl _⟩, ⟨by (with_reducible repeat (first | apply kn_ | apply kd_ | apply ka_)); exact BK397.out⟩, ⟨by (with_reducible repeat (first | apply kn_ | apply kd_ | apply ka_)); exact BK398.out⟩, ⟨by (with_reducible repeat (first | apply kn_ | apply kd_ | apply ka_)); exact BK404.out⟩, ⟨by repeat (with_reducible first | exact HI0.out | apply IsS79.alloc | apply IsS79.drewN | apply IsS79.drew | apply IsS79.set_1 | apply IsS79.set_2 | refine IsS79.far ?_ NB0_397.out _ | refine IsS79.far ?_ NB0_398.out _ | refine IsS79.far ?_ NB0_404.out _)⟩, ⟨by repeat (with_reducible first | exact HK.out | apply KeepBut.set_ | apply keep_drewN | apply keep_drew | apply keep_alloc | refine keep_far ?_ GW397.out _ | refine keep_far ?_ GW398.out _ | refine keep_far ?_ GW404.out _)⟩, ⟨by repeat (with_reducible first | exact HB.out | apply ba_ | apply bn_ | apply bd_ | refine bs_ ?_ (IsS79.ge HI0.out) | refine bs_ ?_ GE397.out | refine bs_ ?_ GE398.out | refine bs_ ?_ GE404.out)⟩⟩
  case round =>
   clear H'
   try clear c1
   try clear p2
   try clear c3
   try clear c4
   try clear c5
   try clear c6
   try clear p6
   try clear c10
   try clear c11
   try clear c12
   try clear hcz13_0
   try clear hcz13_1
   try clear hcz13_2
   try clear hcz15_0
   try clear hcz15_1
   try clear hcz15_2
   try clear hfz13_0
   try clear hfz13_1
   try clear hfz13_2
   try clear hfz15_0
   try clear hfz15_1
   try clear hfz15_2
   obtain ⟨x6_1, x405000_1, x405001_1, x405002_1, rfl, HA, HK1, BK397, BK398, BK404, HI0, HK, HB⟩ := hrel
   cases gk with
   | zero => exact absurd HA.out (by simp [spec_DrawAppendRecord.l0])
   | succ k1 =>
    have H := HA.out
    clear HA
    simp only [spec_DrawAppendRecord.l0] at H
    by_cases c17 : x6_1 > 0
    ·rw [if_pos c17] at H
     have c17b0 : decide (0 < x6_1) = true := dt_ c17
     clear c17
     replace H := ob_.mp H
     obtain ⟨⟨t411, t412, t413, t414⟩, A180, H⟩ := H
     have A18 := A0_ A180
     clear A180
     have H' := A0_ H
     clear H
     have hnb19 := NB404_397.out
     have hnc19 := NB397_404.out
     have hnb20 := NB404_398.out
     have hnc20 := NB398_404.out
     have hnb21 := NB404_0.out
     have hnc21 := NB0_404.out
     have hcz22_0 : wr.cell? ⟨gb404, 0, none⟩ = some (.string x405000_1) := (kc_ BK404.out 0).trans rfl
     have hcz22_1 : wr.cell? ⟨gb404, 1, none⟩ = some (.string x405001_1) := (kc_ BK404.out 1).trans rfl
     have hcz22_2 : wr.cell? ⟨gb404, 2, none⟩ = some (.int .i64 x405002_1) := (kc_ BK404.out 2).trans rfl
     have hfz22_0 := kf_ BK404.out 0
     have hfz22_1 := kf_ BK404.out 1
     have hfz22_2 := kf_ BK404.out 2
     go_wp2_with (first | ((with_reducible refine gc_ (f := 27) rfl ?_); refine goesL_ (some 25) rfl rfl Tryd.func27 (by kernel_rfl) rfl #[.agg #[.string x405000_1, .string x405001_1, .int .i64 x405002_1], .agg #[.string (⟨#[120]⟩ : ByteArray), .string (⟨#[]⟩ : ByteArray)]] rfl (by (try simp only [ma_, mc_, mn_]); first | done | rfl | (simp only [ld_, lt_]; rfl)) ?_; (with_reducible refine (spec_AppendRecord.calls k1 x405000_1 x405001_1 x405002_1 (⟨#[120]⟩ : ByteArray) (⟨#[]⟩ : ByteArray) t411 t412 t413 t414 _ A18.out).mono ?_); rintro e w23 ⟨rfl, hb⟩; refine ⟨_, rfl, ?_⟩; replace BK397 := A0_ (kb_ (g := gb397) (o := .cells #[.string (⟨#[]⟩ : ByteArray), .string (⟨#[]⟩ : ByteArray), .int .i64 0] 31 (0, 0)) (by (with_reducible repeat (first | apply kn_ | apply kd_ | apply ka_)); exact BK397.out) hb); replace BK398 := A0_ (kb_ (g := gb398) (o := .cells #[.string (⟨#[]⟩ : ByteArray), .string (⟨#[]⟩ : ByteArray)] 27 (0, 0)) (by (with_reducible repeat (first | apply kn_ | apply kd_ | apply ka_)); exact BK398.out) hb); replace BK404 := A0_ (kb_ (g := gb404) (o := .cells #[.string x405000_1, .string x405001_1, .int .i64 x405002_1] 31 (0, 0)) (by (with_reducible repeat (first | apply kn_ | apply kd_ | apply ka_)); exact BK404.out) hb); replace HK := A0_ (KeepBut.trans (by repeat (with_reducible first | exact HK.out | apply KeepBut.set_ | apply keep_drewN | apply keep_drew | apply keep_alloc | refine keep_far ?_ GW397.out _ | refine keep_far ?_ GW398.out _ | refine keep_far ?_ GW404.out _)) (KeepBut.of_below hb g none) (.inl rfl)); replace HB := A0_ (bt_ (by repeat (with_reducible first | exact HB.out | apply ba_ | apply bn_ | apply bd_ | refine bs_ ?_ (IsS79.ge HI0.out) | refine bs_ ?_ GE397.out | refine bs_ ?_ GE398.out | refine bs_ ?_ GE404.out)) hb); replace HI0 := A0_ (IsS79.below (by repeat (with_reducible first | exact HI0.out | apply IsS79.alloc | apply IsS79.drewN | apply IsS79.drew | apply IsS79.set_1 | apply IsS79.set_2 | refine IsS79.far ?_ NB0_397.out _ | refine IsS79.far ?_ NB0_398.out _ | refine IsS79.far ?_ NB0_404.out _)) hb); (try clear hb); have hcz24_0 : w23.cell? ⟨gb404, 0, none⟩ = some (.string x405000_1) := (kc_ BK404.out 0).trans rfl; have hcz24_1 : w23.cell? ⟨gb404, 1, none⟩ = some (.string x405001_1) := (kc_ BK404.out 1).trans rfl; have hcz24_2 : w23.cell? ⟨gb404, 2, none⟩ = some (.int .i64 x405002_1) := (kc_ BK404.out 2).trans rfl; have hfz24_0 := kf_ BK404.out 0; have hfz24_1 := kf_ BK404.out 1; have hfz24_2 := kf_ BK404.out 2))
     go_roundg k1
     case measure => have := HK1.out; omega
     case rel => exact ⟨(wrap64 (x6_1 - 1)), (t411), (t412), (t413), (by first | rfl | (simp [*]; done)), H', ⟨by have := HK1.out; omega⟩, ⟨by (with_reducible repeat (first | apply kn_ | apply kd_ | apply ka_)); refine blk_far ?_ NB397_404.out _; (with_reducible repeat (first | apply kn_ | apply kd_ | apply ka_)); refine blk_far ?_ NB397_404.out _; (with_reducible repeat (first | apply kn_ | apply kd_ | apply ka_)); refine blk_far ?_ NB397_404.out _; (with_reducible repeat (first | apply kn_ | apply kd_ | apply ka_)); exact BK397.out⟩, ⟨by (with_reducible repeat (first | apply kn_ | apply kd_ | apply ka_)); refine blk_far ?_ NB398_404.out _; (with_reducible repeat (first | apply kn_ | apply kd_ | apply ka_)); refine blk_far ?_ NB398_404.out _; (with_reducible repeat (first | apply kn_ | apply kd_ | apply ka_)); refine blk_far ?_ NB398_404.out _; (with_reducible repeat (first | apply kn_ | apply kd_ | apply ka_)); exact BK398.out⟩, ⟨by (with_reducible repeat (first | apply kn_ | apply kd_ | apply ka_)); refine blk_put (cs := #[.string t411, .string t412, .int .i64 x405002_1]) ?_ 2 _ rfl; (with_reducible repeat (first | apply kn_ | apply kd_ | apply ka_)); refine blk_put (cs := #[.string t411, .string x405001_1, .int .i64 x405002_1]) ?_ 1 _ rfl; (with_reducible repeat (first | apply kn_ | apply kd_ | apply ka_)); refine blk_put (cs := #[.string x405000_1, .string x405001_1, .int .i64 x405002_1]) ?_ 0 _ rfl; (with_reducible repeat (first | apply kn_ | apply kd_ | apply ka_)); exact BK404.out⟩, ⟨by repeat (with_reducible first | exact HI0.out | apply IsS79.alloc | apply IsS79.drewN | apply IsS79.drew | apply IsS79.set_1 | apply IsS79.set_2 | refine IsS79.far ?_ NB0_397.out _ | refine IsS79.far ?_ NB0_398.out _ | refine IsS79.far ?_ NB0_404.out _)⟩, ⟨by repeat (with_reducible first | exact HK.out | apply KeepBut.set_ | apply keep_drewN | apply keep_drew | apply keep_alloc | refine keep_far ?_ GW397.out _ | refine keep_far ?_ GW398.out _ | refine keep_far ?_ GW404.out _)⟩, ⟨by repeat (with_reducible first | exact HB.out | apply ba_ | apply bn_ | apply bd_ | refine bs_ ?_ (IsS79.ge HI0.out) | refine bs_ ?_ GE397.out | refine bs_ ?_ GE398.out | refine bs_ ?_ GE404.out)⟩⟩
    ·rw [if_neg c17] at H
     have c17b0 : decide (0 < x6_1) = false := decide_eq_false c17
     clear c17
     replace H := ob_.mp H
     obtain ⟨⟨t415, t416, t417, t418⟩, A250, H⟩ := H
     replace H : (some (x405000_1, x405001_1, x405002_1, t415, t416)) = some (r1, r2, r3, r4, r5) := H
     have A25 := A0_ A250
     clear A250
     simp only [sj_, pj_] at H
     obtain ⟨rfl, rfl, rfl, rfl, rfl⟩ := H
     try go_wp2
     replace BK397 := A0_ (kd_ BK397.out)
     replace BK398 := A0_ (kd_ BK398.out)
     replace BK404 := A0_ (kd_ BK404.out)
     replace HI0 := A0_ (IsS79.drew HI0.out)
     replace HK := A0_ (keep_drew HK.out)
     replace HB := A0_ (bd_ HB.out)
     refine start_ (n := 5) (S := fun w' => w'.cell? ⟨gb404, 0, none⟩ = some (.string x405000_1) ∧ w'.cell? ⟨gb404, 1, none⟩ = some (.string x405001_1) ∧ w'.cell? ⟨gb404, 2, none⟩ = some (.int .i64 x405002_1)) (ds := []) #[false, false, false, false, false] (by kernel_rfl) rfl rfl ⟨(kc_ BK404.out 0).trans rfl, (kc_ BK404.out 1).trans rfl, (kc_ BK404.out 2).trans rfl⟩ (fun hHeld => ?_)
     generalize wr.drew = w26 at BK397 BK398 BK404 HI0 HK HB hHeld ⊢
     refine pure_ (i := 1) (N := some 29) (v := ?_) (a' := ?_) #[false, true, false, false, false] rfl rfl (by kernel_rfl) (fun _ _ _ h => h) (Or.inl ⟨by rfl, ?_⟩) ?_ ?_
     rotate_left
     ·intro w'
      go_simp
      with_reducible rfl
     rotate_left
     ·simp only [Act.put, sa_, sz_, ss_, i64_w, i32_w]
      rfl
     refine take_ (i := 0) (N := some 28) (v := ?_) (a' := ?_) #[true, true, false, false, false] rfl rfl (by kernel_rfl) (fun _ _ _ h => h) (Or.inl ⟨by rfl, ?_⟩) hHeld ?_ ?_
     rotate_left
     ·rintro w' ⟨s0, s1, s2⟩
      go_simp
      with_reducible rfl
     rotate_left
     ·simp only [Act.put, sa_, sz_, ss_, i64_w, i32_w]
      rfl
     refine one_ (i := 2) (N := some 30) #[true, true, true, false, false] rfl rfl (by kernel_rfl) (by decide) (fun K hK => ?_)
     refine goes_ Tryd.func57 (by kernel_rfl) rfl #[.pointer (some ⟨g, 0, none⟩)] (by rfl) rfl rfl (by (try simp only [ma_, mc_, mn_]); first | done | rfl | (simp only [ld_, lt_]; rfl)) ?_
     with_reducible refine (spec_l1Cur_logRecord.calls g l0 t409 t410 t415 t416 t417 t418 w _ ?side1 ?side2 A25.out).mono ?_
     (case side1 => repeat (with_reducible first | exact HI0.out | apply IsS79.alloc | apply IsS79.drewN | apply IsS79.drew | apply IsS79.set_1 | apply IsS79.set_2 | refine IsS79.far ?_ NB0_397.out _ | refine IsS79.far ?_ NB0_398.out _ | refine IsS79.far ?_ NB0_404.out _))
     (case side2 => repeat (with_reducible first | exact HB.out | apply ba_ | apply bn_ | apply bd_ | refine bs_ ?_ (IsS79.ge HI0.out) | refine bs_ ?_ GE397.out | refine bs_ ?_ GE398.out | refine bs_ ?_ GE404.out))
     rintro e w27 ⟨rfl, hi, hb, hk⟩
     refine ⟨_, rfl, ?_⟩
     replace BK397 := A0_ (KeepBut.blk hk (g' := gb397) (o := .cells #[.string (⟨#[]⟩ : ByteArray), .string (⟨#[]⟩ : ByteArray), .int .i64 0] 31 (0, 0)) (by (with_reducible repeat (first | apply kn_ | apply kd_ | apply ka_)); exact BK397.out) NB397_0.out (by simp))
     replace BK398 := A0_ (KeepBut.blk hk (g' := gb398) (o := .cells #[.string (⟨#[]⟩ : ByteArray), .string (⟨#[]⟩ : ByteArray)] 27 (0, 0)) (by (with_reducible repeat (first | apply kn_ | apply kd_ | apply ka_)); exact BK398.out) NB398_0.out (by simp))
     replace BK404 := A0_ (KeepBut.blk hk (g' := gb404) (o := .cells #[.string x405000_1, .string x405001_1, .int .i64 x405002_1] 31 (0, 0)) (by (with_reducible repeat (first | apply kn_ | apply kd_ | apply ka_)); exact BK404.out) NB404_0.out (by simp))
     replace HK := A0_ (KeepBut.trans (by repeat (with_reducible first | exact HK.out | apply KeepBut.set_ | apply keep_drewN | apply keep_drew | apply keep_alloc | refine keep_far ?_ GW397.out _ | refine keep_far ?_ GW398.out _ | refine keep_far ?_ GW404.out _)) hk (.inl rfl))
     replace HB := A0_ (hb)
     replace HI0 := A0_ (hi)
     (try clear hb)
     (try clear hb2)
     (try clear hk)
     (try clear hi)
     refine hK.out _ _ ⟨(kc_ BK404.out 0).trans rfl, (kc_ BK404.out 1).trans rfl, (kc_ BK404.out 2).trans rfl⟩ (fun hHeld => ?_)
     clear hK K
     refine norm_ (a' := ?_) ?_ ?_
     rotate_left
     ·show Act.put _ (some 30) _ = _
      simp only [Act.put, sa_, sz_, ss_, i64_w, i32_w]
      rfl
     refine one_ (i := 3) (N := none) #[true, true, true, true, false] rfl rfl (by kernel_rfl) (by decide) (fun K hK => ?_)
     have hs28 : w27.cell? ⟨gb397, 0, none⟩ = some (.string (⟨#[]⟩ : ByteArray)) := (kc_ BK397.out 0).trans rfl
     have hfs28 := kf_ BK397.out 0
     have hns28_1 := NB398_397.out
     have hns28_2 := NB404_397.out
     have hms28_1 := NB397_398.out
     have hms28_2 := NB397_404.out
     have hs29 : w27.cell? ⟨gb397, 1, none⟩ = some (.string (⟨#[]⟩ : ByteArray)) := (kc_ BK397.out 1).trans rfl
     have hfs29 := kf_ BK397.out 1
     have hns29_1 := NB398_397.out
     have hns29_2 := NB404_397.out
     have hms29_1 := NB397_398.out
     have hms29_2 := NB397_404.out
     have hs30 : w27.cell? ⟨gb397, 2, none⟩ = some (.int .i64 0) := (kc_ BK397.out 2).trans rfl
     have hfs30 := kf_ BK397.out 2
     have hns30_1 := NB398_397.out
     have hns30_2 := NB404_397.out
     have hms30_1 := NB397_398.out
     have hms30_2 := NB397_404.out
     refine skip_ (w1 := ?_) (by rfl) rfl ?_ ?_
     rotate_left
     ·go_simp
      rfl
     refine hK.out _ _ ⟨((cell_far (p := ⟨gb397, _, none⟩) NB404_397.out _).trans (((cell_far (p := ⟨gb397, _, none⟩) NB404_397.out _).trans (((cell_far (p := ⟨gb397, _, none⟩) NB404_397.out _).trans (hHeld.1)))))), ((cell_far (p := ⟨gb397, _, none⟩) NB404_397.out _).trans (((cell_far (p := ⟨gb397, _, none⟩) NB404_397.out _).trans (((cell_far (p := ⟨gb397, _, none⟩) NB404_397.out _).trans (hHeld.2.1)))))), ((cell_far (p := ⟨gb397, _, none⟩) NB404_397.out _).trans (((cell_far (p := ⟨gb397, _, none⟩) NB404_397.out _).trans (((cell_far (p := ⟨gb397, _, none⟩) NB404_397.out _).trans (hHeld.2.2))))))⟩ (fun hHeld => ?_)
     clear hK K
     refine one_ (i := 4) (N := none) #[true, true, true, true, true] rfl rfl (by kernel_rfl) (by decide) (fun K hK => ?_)
     have hs31 : w27.cell? ⟨gb398, 0, none⟩ = some (.string (⟨#[]⟩ : ByteArray)) := (kc_ BK398.out 0).trans rfl
     have hfs31 := kf_ BK398.out 0
     have hns31_0 := NB397_398.out
     have hns31_2 := NB404_398.out
     have hms31_0 := NB398_397.out
     have hms31_2 := NB398_404.out
     have hs32 : w27.cell? ⟨gb398, 1, none⟩ = some (.string (⟨#[]⟩ : ByteArray)) := (kc_ BK398.out 1).trans rfl
     have hfs32 := kf_ BK398.out 1
     have hns32_0 := NB397_398.out
     have hns32_2 := NB404_398.out
     have hms32_0 := NB398_397.out
     have hms32_2 := NB398_404.out
     refine skip_ (w1 := ?_) (by rfl) rfl ?_ ?_
     rotate_left
     ·go_simp
      rfl
     refine hK.out _ _ ⟨((cell_far (p := ⟨gb398, _, none⟩) NB404_398.out _).trans (((cell_far (p := ⟨gb398, _, none⟩) NB404_398.out _).trans (hHeld.1)))), ((cell_far (p := ⟨gb398, _, none⟩) NB404_398.out _).trans (((cell_far (p := ⟨gb398, _, none⟩) NB404_398.out _).trans (hHeld.2.1)))), ((cell_far (p := ⟨gb398, _, none⟩) NB404_398.out _).trans (((cell_far (p := ⟨gb398, _, none⟩) NB404_398.out _).trans (hHeld.2.2))))⟩ (fun hHeld => ?_)
     clear hK K
     refine done_ (by kernel_rfl) ?_
     try go_wp2
     refine bodyPost_ret (results_cc rfl _ _ gb397 gb398 31 27 #[.string x405000_1, .string x405001_1, .int .i64 x405002_1] #[.string t415, .string t416] (0, 0) (0, 0) _ _ rfl (by (with_reducible repeat (first | apply kn_ | apply kd_ | apply ka_)); refine blk_far ?_ NB397_398.out _; (with_reducible repeat (first | apply kn_ | apply kd_ | apply ka_)); refine blk_far ?_ NB397_398.out _; (with_reducible repeat (first | apply kn_ | apply kd_ | apply ka_)); refine blk_put (cs := #[.string x405000_1, .string x405001_1, .int .i64 0]) ?_ 2 _ rfl; (with_reducible repeat (first | apply kn_ | apply kd_ | apply ka_)); refine blk_put (cs := #[.string x405000_1, .string (⟨#[]⟩ : ByteArray), .int .i64 0]) ?_ 1 _ rfl; (with_reducible repeat (first | apply kn_ | apply kd_ | apply ka_)); refine blk_put (cs := #[.string (⟨#[]⟩ : ByteArray), .string (⟨#[]⟩ : ByteArray), .int .i64 0]) ?_ 0 _ rfl; (with_reducible repeat (first | apply kn_ | apply kd_ | apply ka_)); exact BK397.out) Tryd.underlying31 rfl (by kernel_rfl) rfl (by (with_reducible repeat (first | apply kn_ | apply kd_ | apply ka_)); refine blk_put (cs := #[.string t415, .string (⟨#[]⟩ : ByteArray)]) ?_ 1 _ rfl; (with_reducible repeat (first | apply kn_ | apply kd_ | apply ka_)); refine blk_put (cs := #[.string (⟨#[]⟩ : ByteArray), .string (⟨#[]⟩ : ByteArray)]) ?_ 0 _ rfl; (with_reducible repeat (first | apply kn_ | apply kd_ | apply ka_)); refine blk_far ?_ NB398_397.out _; (with_reducible repeat (first | apply kn_ | apply kd_ | apply ka_)); refine blk_far ?_ NB398_397.out _; (with_reducible repeat (first | apply kn_ | apply kd_ | apply ka_)); refine blk_far ?_ NB398_397.out _; (with_reducible repeat (first | apply kn_ | apply kd_ | apply ka_)); exact BK398.out) Tryd.underlying27 rfl (by kernel_rfl)) rfl ?_
     exact ⟨by first | rfl | (simp [*, errW_none, errW_some] <;> rfl), by repeat (with_reducible first | exact HB.out | apply ba_ | apply bn_ | apply bd_ | refine bs_ ?_ (IsS79.ge HI0.out) | refine bs_ ?_ GE397.out | refine bs_ ?_ GE398.out | refine bs_ ?_ GE404.out)⟩
 ·replace c4 := bf_.mpr c4
  subst c4
  rw [if_neg (show ¬ (false = true) by decide)] at H
  replace H := ob_.mp H
  obtain ⟨⟨t419, t420, t421, t422⟩, A330, H⟩ := H
  replace H : (some (t399, t400, t401, t419, t420)) = some (r1, r2, r3, r4, r5) := H
  have A33 := A0_ A330
  clear A330
  simp only [sj_, pj_] at H
  obtain ⟨rfl, rfl, rfl, rfl, rfl⟩ := H
  go_enter Tryd.func39, Tryd.ntmps39
  try go_wp2_with (first | ((with_reducible refine gd_ (N := 2) rfl ?_); refine be_ ?hg (N := 2) ?hd (cs := #[.string (⟨#[]⟩ : ByteArray), .string (⟨#[]⟩ : ByteArray), .int .i64 0]) (t := 31) ?hr ?_; (case hd => rfl); (case hg => rfl); (case hr => go_simp; first | done | rfl); intro gb397 hg w34 hbox hb; have n2_ := A0_ (bt_ (by repeat (with_reducible first | exact HB.out | apply ba_ | apply bn_ | apply bd_)) hb); have n3_ := A0_ (hbox); have n4_ := A0_ ((by rw [hg]; exact (bz_ (by repeat (with_reducible first | exact HB.out | apply ba_ | apply bn_ | apply bd_))) : w.heap.size ≤ gb397)); clear HB; have HB := n2_; have BK397 := n3_; have GW397 := n4_; have GE397 := n4_; clear n2_ n3_ n4_ hb hbox hg) | ((with_reducible refine gd_ (N := 3) rfl ?_); refine be_ ?hg (N := 3) ?hd (cs := #[.string (⟨#[]⟩ : ByteArray), .string (⟨#[]⟩ : ByteArray)]) (t := 27) ?hr ?_; (case hd => rfl); (case hg => rfl); (case hr => go_simp; first | done | rfl); intro gb398 hg w35 hbox hb; have n2_ := A0_ (bt_ (by repeat (with_reducible first | exact HB.out | apply ba_ | apply bn_ | apply bd_)) hb); have n3_ := A0_ (hbox); have n4_ := A0_ ((by rw [hg]; exact (bz_ (by repeat (with_reducible first | exact HB.out | apply ba_ | apply bn_ | apply bd_))) : w.heap.size ≤ gb398)); have m397_ := A0_ (kb_ (g := gb397) (o := .cells #[.string (⟨#[]⟩ : ByteArray), .string (⟨#[]⟩ : ByteArray), .int .i64 0] 31 (0, 0)) (by (with_reducible repeat (first | apply kn_ | apply kd_ | apply ka_)); exact BK397.out) hb); have NB398_397 := A0_ ((by rw [hg]; exact Nat.ne_of_gt (blk_lt (g := gb397) (o := .cells #[.string (⟨#[]⟩ : ByteArray), .string (⟨#[]⟩ : ByteArray), .int .i64 0] 31 (0, 0)) (by (with_reducible repeat (first | apply kn_ | apply kd_ | apply ka_)); exact BK397.out)) : gb398 ≠ gb397)); have NB397_398 := A0_ (Ne.symm NB398_397.out); clear HB BK397; have HB := n2_; have BK398 := n3_; have GW398 := n4_; have GE398 := n4_; have BK397 := m397_; clear m397_ n2_ n3_ n4_ hb hbox hg) | ((with_reducible refine gd_ (N := 9) rfl ?_); refine be_ ?hg (N := 9) ?hd (cs := #[.slice A0 l0.length c0, .int .i64 0, .int .u64 0]) (t := 79) ?hr ?_; (case hd => rfl); (case hg => rfl); (case hr => go_simp; first | done | rfl); intro g hg wB hbox hb; have n0_ := A0_ (show IsS79 w wB g l0 0 0 from ⟨A0, c0, hbox, (by rw [hg]; exact (bz_ (by repeat (with_reducible first | exact HB.out | apply ba_ | apply bn_ | apply bd_)))), hr0⟩); have n1_ := A0_ (KeepBut.refl wB g none); have n2_ := A0_ (bt_ (by repeat (with_reducible first | exact HB.out | apply ba_ | apply bn_ | apply bd_)) hb); have HW0 := A0_ (Below.size n2_.out); have m397_ := A0_ (kb_ (g := gb397) (o := .cells #[.string (⟨#[]⟩ : ByteArray), .string (⟨#[]⟩ : ByteArray), .int .i64 0] 31 (0, 0)) (by (with_reducible repeat (first | apply kn_ | apply kd_ | apply ka_)); exact BK397.out) hb); have NB0_397 := A0_ ((by rw [hg]; exact Nat.ne_of_gt (blk_lt (g := gb397) (o := .cells #[.string (⟨#[]⟩ : ByteArray), .string (⟨#[]⟩ : ByteArray), .int .i64 0] 31 (0, 0)) (by (with_reducible repeat (first | apply kn_ | apply kd_ | apply ka_)); exact BK397.out)) : g ≠ gb397)); have NB397_0 := A0_ (Ne.symm NB0_397.out); have m398_ := A0_ (kb_ (g := gb398) (o := .cells #[.string (⟨#[]⟩ : ByteArray), .string (⟨#[]⟩ : ByteArray)] 27 (0, 0)) (by (with_reducible repeat (first | apply kn_ | apply kd_ | apply ka_)); exact BK398.out) hb); have NB0_398 := A0_ ((by rw [hg]; exact Nat.ne_of_gt (blk_lt (g := gb398) (o := .cells #[.string (⟨#[]⟩ : ByteArray), .string (⟨#[]⟩ : ByteArray)] 27 (0, 0)) (by (with_reducible repeat (first | apply kn_ | apply kd_ | apply ka_)); exact BK398.out)) : g ≠ gb398)); have NB398_0 := A0_ (Ne.symm NB0_398.out); clear HB BK397 BK398; have HI0 := n0_; have HK := n1_; have HB := n2_; have BK397 := m397_; clear m397_; have BK398 := m398_; clear m398_ n0_ n1_ n2_ hb hbox hg) | ((with_reducible refine gc_ (f := 59) rfl ?_); refine goesL_ (some 11) rfl rfl Tryd.func59 (by kernel_rfl) rfl #[.pointer (some ⟨g, 0, none⟩)] rfl (by (try simp only [ma_, mc_, mn_]); first | done | rfl | (simp only [ld_, lt_]; rfl)) ?_; (with_reducible refine (spec_l1Cur_anyLog.calls k g l0 0 0 t399 t400 t401 t402 t403 w _ ?side1 ?side2 A2.out).mono ?_); (case side1 => repeat (with_reducible first | exact HI0.out | apply IsS79.alloc | apply IsS79.drewN | apply IsS79.drew | apply IsS79.set_1 | apply IsS79.set_2 | refine IsS79.far ?_ NB0_397.out _ | refine IsS79.far ?_ NB0_398.out _)); (case side2 => repeat (with_reducible first | exact HB.out | apply ba_ | apply bn_ | apply bd_ | refine bs_ ?_ (IsS79.ge HI0.out) | refine bs_ ?_ GE397.out | refine bs_ ?_ GE398.out)); rintro e w36 ⟨rfl, hi, hb, hk⟩; refine ⟨_, rfl, ?_⟩; replace BK397 := A0_ (KeepBut.blk hk (g' := gb397) (o := .cells #[.string (⟨#[]⟩ : ByteArray), .string (⟨#[]⟩ : ByteArray), .int .i64 0] 31 (0, 0)) (by (with_reducible repeat (first | apply kn_ | apply kd_ | apply ka_)); exact BK397.out) NB397_0.out (by simp)); replace BK398 := A0_ (KeepBut.blk hk (g' := gb398) (o := .cells #[.string (⟨#[]⟩ : ByteArray), .string (⟨#[]⟩ : ByteArray)] 27 (0, 0)) (by (with_reducible repeat (first | apply kn_ | apply kd_ | apply ka_)); exact BK398.out) NB398_0.out (by simp)); replace HK := A0_ (KeepBut.trans (by repeat (with_reducible first | exact HK.out | apply KeepBut.set_ | apply keep_drewN | apply keep_drew | apply keep_alloc | refine keep_far ?_ GW397.out _ | refine keep_far ?_ GW398.out _)) hk (.inl rfl)); replace HB := A0_ (hb); replace HI0 := A0_ (hi); (try clear hb); (try clear hk); (try clear hi)) | ((with_reducible refine gd_ (N := 5) rfl ?_); refine be_ ?hg (N := 5) ?hd (cs := #[.string (⟨#[]⟩ : ByteArray), .string (⟨#[]⟩ : ByteArray), .int .i64 0]) (t := 31) ?hr ?_; (case hd => rfl); (case hg => rfl); (case hr => go_simp; first | done | rfl); intro gb404 hg w37 hbox hb; replace HB := A0_ (bt_ (by repeat (with_reducible first | exact HB.out | apply ba_ | apply bn_ | apply bd_ | refine bs_ ?_ (IsS79.ge HI0.out) | refine bs_ ?_ GE397.out | refine bs_ ?_ GE398.out)) hb); have BK404 := A0_ (hbox); have GW404 := A0_ ((by rw [hg]; exact (keep_size (w := wB) (g := g) (row := none) (by repeat (with_reducible first | exact HK.out | apply KeepBut.set_ | apply keep_drewN | apply keep_drew | apply keep_alloc | refine keep_far ?_ GW397.out _ | refine keep_far ?_ GW398.out _))) : wB.heap.size ≤ gb404)); have GE404 := A0_ ((Nat.le_trans HW0.out (by rw [hg]; exact (keep_size (w := wB) (g := g) (row := none) (by repeat (with_reducible first | exact HK.out | apply KeepBut.set_ | apply keep_drewN | apply keep_drew | apply keep_alloc | refine keep_far ?_ GW397.out _ | refine keep_far ?_ GW398.out _))) : wB.heap.size ≤ gb404) : w.heap.size ≤ gb404)); replace HK := A0_ (KeepBut.trans (by repeat (with_reducible first | exact HK.out | apply KeepBut.set_ | apply keep_drewN | apply keep_drew | apply keep_alloc | refine keep_far ?_ GW397.out _ | refine keep_far ?_ GW398.out _)) (KeepBut.of_below hb g none) (.inl rfl)); have NB397_404 := A0_ ((by rw [hg]; exact Nat.ne_of_lt (blk_lt (g := gb397) (o := .cells #[.string (⟨#[]⟩ : ByteArray), .string (⟨#[]⟩ : ByteArray), .int .i64 0] 31 (0, 0)) (by (with_reducible repeat (first | apply kn_ | apply kd_ | apply ka_)); exact BK397.out)) : gb397 ≠ gb404)); have NB404_397 := A0_ ((by rw [hg]; exact Nat.ne_of_gt (blk_lt (g := gb397) (o := .cells #[.string (⟨#[]⟩ : ByteArray), .string (⟨#[]⟩ : ByteArray), .int .i64 0] 31 (0, 0)) (by (with_reducible repeat (first | apply kn_ | apply kd_ | apply ka_)); exact BK397.out)) : gb404 ≠ gb397)); replace BK397 := A0_ (kb_ (g := gb397) (o := .cells #[.string (⟨#[]⟩ : ByteArray), .string (⟨#[]⟩ : ByteArray), .int .i64 0] 31 (0, 0)) (by (with_reducible repeat (first | apply kn_ | apply kd_ | apply ka_)); exact BK397.out) hb); have NB398_404 := A0_ ((by rw [hg]; exact Nat.ne_of_lt (blk_lt (g := gb398) (o := .cells #[.string (⟨#[]⟩ : ByteArray), .string (⟨#[]⟩ : ByteArray)] 27 (0, 0)) (by (with_reducible repeat (first | apply kn_ | apply kd_ | apply ka_)); exact BK398.out)) : gb398 ≠ gb404)); have NB404_398 := A0_ ((by rw [hg]; exact Nat.ne_of_gt (blk_lt (g := gb398) (o := .cells #[.string (⟨#[]⟩ : ByteArray), .string (⟨#[]⟩ : ByteArray)] 27 (0, 0)) (by (with_reducible repeat (first | apply kn_ | apply kd_ | apply ka_)); exact BK398.out)) : gb404 ≠ gb398)); replace BK398 := A0_ (kb_ (g := gb398) (o := .cells #[.string (⟨#[]⟩ : ByteArray), .string (⟨#[]⟩ : ByteArray)] 27 (0, 0)) (by (with_reducible repeat (first | apply kn_ | apply kd_ | apply ka_)); exact BK398.out) hb); have NB0_404 := A0_ ((by rw [hg]; exact Nat.ne_of_lt (IsS79.lt (show IsS79 w _ g l0 t402 t403 from by repeat (with_reducible first | exact HI0.out | apply IsS79.alloc | apply IsS79.drewN | apply IsS79.drew | apply IsS79.set_1 | apply IsS79.set_2 | refine IsS79.far ?_ NB0_397.out _ | refine IsS79.far ?_ NB0_398.out _))) : g ≠ gb404)); have NB404_0 := A0_ ((by rw [hg]; exact Nat.ne_of_gt (IsS79.lt (show IsS79 w _ g l0 t402 t403 from by repeat (with_reducible first | exact HI0.out | apply IsS79.alloc | apply IsS79.drewN | apply IsS79.drew | apply IsS79.set_1 | apply IsS79.set_2 | refine IsS79.far ?_ NB0_397.out _ | refine IsS79.far ?_ NB0_398.out _))) : gb404 ≠ g)); replace HI0 := A0_ (IsS79.below (by repeat (with_reducible first | exact HI0.out | apply IsS79.alloc | apply IsS79.drewN | apply IsS79.drew | apply IsS79.set_1 | apply IsS79.set_2 | refine IsS79.far ?_ NB0_397.out _ | refine IsS79.far ?_ NB0_398.out _)) hb); clear hb hbox hg; have hnb38 := NB404_397.out; have hnc38 := NB397_404.out; have hnb39 := NB404_398.out; have hnc39 := NB398_404.out; have hnb40 := NB404_0.out; have hnc40 := NB0_404.out; have hcz41_0 : w37.cell? ⟨gb404, 0, none⟩ = some (.string (⟨#[]⟩ : ByteArray)) := (kc_ BK404.out 0).trans rfl; have hcz41_1 : w37.cell? ⟨gb404, 1, none⟩ = some (.string (⟨#[]⟩ : ByteArray)) := (kc_ BK404.out 1).trans rfl; have hcz41_2 : w37.cell? ⟨gb404, 2, none⟩ = some (.int .i64 0) := (kc_ BK404.out 2).trans rfl; have hfz41_0 := kf_ BK404.out 0; have hfz41_1 := kf_ BK404.out 1; have hfz41_2 := kf_ BK404.out 2) | ((with_reducible refine gc_ (f := 60) rfl ?_); refine goesL_ (some 13) rfl rfl Tryd.func60 (by kernel_rfl) rfl #[.pointer (some ⟨g, 0, none⟩), .int .i64 40] rfl (by (try simp only [ma_, mc_, mn_]); first | done | rfl | (simp only [ld_, lt_]; rfl)) ?_; (with_reducible refine (spec_l1Cur_one.calls g l0 t402 t403 40 false t406 t407 w _ ?side1 ?side2 A3.out).mono ?_); (case side1 => repeat (with_reducible first | exact HI0.out | apply IsS79.alloc | apply IsS79.drewN | apply IsS79.drew | apply IsS79.set_1 | apply IsS79.set_2 | refine IsS79.far ?_ NB0_397.out _ | refine IsS79.far ?_ NB0_398.out _ | refine IsS79.far ?_ NB0_404.out _)); (case side2 => repeat (with_reducible first | exact HB.out | apply ba_ | apply bn_ | apply bd_ | refine bs_ ?_ (IsS79.ge HI0.out) | refine bs_ ?_ GE397.out | refine bs_ ?_ GE398.out | refine bs_ ?_ GE404.out)); rintro e w42 ⟨rfl, hi, hb, hk⟩; refine ⟨_, rfl, ?_⟩; replace BK397 := A0_ (KeepBut.blk hk (g' := gb397) (o := .cells #[.string (⟨#[]⟩ : ByteArray), .string (⟨#[]⟩ : ByteArray), .int .i64 0] 31 (0, 0)) (by (with_reducible repeat (first | apply kn_ | apply kd_ | apply ka_)); refine blk_far ?_ NB397_404.out _; (with_reducible repeat (first | apply kn_ | apply kd_ | apply ka_)); refine blk_far ?_ NB397_404.out _; (with_reducible repeat (first | apply kn_ | apply kd_ | apply ka_)); refine blk_far ?_ NB397_404.out _; (with_reducible repeat (first | apply kn_ | apply kd_ | apply ka_)); exact BK397.out) NB397_0.out (by simp)); replace BK398 := A0_ (KeepBut.blk hk (g' := gb398) (o := .cells #[.string (⟨#[]⟩ : ByteArray), .string (⟨#[]⟩ : ByteArray)] 27 (0, 0)) (by (with_reducible repeat (first | apply kn_ | apply kd_ | apply ka_)); refine blk_far ?_ NB398_404.out _; (with_reducible repeat (first | apply kn_ | apply kd_ | apply ka_)); refine blk_far ?_ NB398_404.out _; (with_reducible repeat (first | apply kn_ | apply kd_ | apply ka_)); refine blk_far ?_ NB398_404.out _; (with_reducible repeat (first | apply kn_ | apply kd_ | apply ka_)); exact BK398.out) NB398_0.out (by simp)); replace BK404 := A0_ (KeepBut.blk hk (g' := gb404) (o := .cells #[.string t399, .string t400, .int .i64 t401] 31 (0, 0)) (by (with_reducible repeat (first | apply kn_ | apply kd_ | apply ka_)); refine blk_put (cs := #[.string t399, .string t400, .int .i64 0]) ?_ 2 _ rfl; (with_reducible repeat (first | apply kn_ | apply kd_ | apply ka_)); refine blk_put (cs := #[.string t399, .string (⟨#[]⟩ : ByteArray), .int .i64 0]) ?_ 1 _ rfl; (with_reducible repeat (first | apply kn_ | apply kd_ | apply ka_)); refine blk_put (cs := #[.string (⟨#[]⟩ : ByteArray), .string (⟨#[]⟩ : ByteArray), .int .i64 0]) ?_ 0 _ rfl; (with_reducible repeat (first | apply kn_ | apply kd_ | apply ka_)); exact BK404.out) NB404_0.out (by simp)); replace HK := A0_ (KeepBut.trans (by repeat (with_reducible first | exact HK.out | apply KeepBut.set_ | apply keep_drewN | apply keep_drew | apply keep_alloc | refine keep_far ?_ GW397.out _ | refine keep_far ?_ GW398.out _ | refine keep_far ?_ GW404.out _)) hk (.inl rfl)); replace HB := A0_ (hb); replace HI0 := A0_ (hi); (try clear hb); (try clear hk); (try clear hi)))
  replace BK397 := A0_ (kd_ BK397.out)
  replace BK398 := A0_ (kd_ BK398.out)
  replace BK404 := A0_ (kd_ BK404.out)
  replace HI0 := A0_ (IsS79.drew HI0.out)
  replace HK := A0_ (keep_drew HK.out)
  replace HB := A0_ (bd_ HB.out)
  refine start_ (n := 5) (S := fun w' => w'.cell? ⟨gb404, 0, none⟩ = some (.string t399) ∧ w'.cell? ⟨gb404, 1, none⟩ = some (.string t400) ∧ w'.cell? ⟨gb404, 2, none⟩ = some (.int .i64 t401)) (ds := []) #[false, false, false, false, false] (by kernel_rfl) rfl rfl ⟨(kc_ BK404.out 0).trans rfl, (kc_ BK404.out 1).trans rfl, (kc_ BK404.out 2).trans rfl⟩ (fun hHeld => ?_)
  generalize w42.drew = w43 at BK397 BK398 BK404 HI0 HK HB hHeld ⊢
  refine pure_ (i := 1) (N := some 29) (v := ?_) (a' := ?_) #[false, true, false, false, false] rfl rfl (by kernel_rfl) (fun _ _ _ h => h) (Or.inl ⟨by rfl, ?_⟩) ?_ ?_
  rotate_left
  ·intro w'
   go_simp
   with_reducible rfl
  rotate_left
  ·simp only [Act.put, sa_, sz_, ss_, i64_w, i32_w]
   rfl
  refine take_ (i := 0) (N := some 28) (v := ?_) (a' := ?_) #[true, true, false, false, false] rfl rfl (by kernel_rfl) (fun _ _ _ h => h) (Or.inl ⟨by rfl, ?_⟩) hHeld ?_ ?_
  rotate_left
  ·rintro w' ⟨s0, s1, s2⟩
   go_simp
   with_reducible rfl
  rotate_left
  ·simp only [Act.put, sa_, sz_, ss_, i64_w, i32_w]
   rfl
  refine one_ (i := 2) (N := some 30) #[true, true, true, false, false] rfl rfl (by kernel_rfl) (by decide) (fun K hK => ?_)
  refine goes_ Tryd.func57 (by kernel_rfl) rfl #[.pointer (some ⟨g, 0, none⟩)] (by rfl) rfl rfl (by (try simp only [ma_, mc_, mn_]); first | done | rfl | (simp only [ld_, lt_]; rfl)) ?_
  with_reducible refine (spec_l1Cur_logRecord.calls g l0 t406 t407 t419 t420 t421 t422 w _ ?side1 ?side2 A33.out).mono ?_
  (case side1 => repeat (with_reducible first | exact HI0.out | apply IsS79.alloc | apply IsS79.drewN | apply IsS79.drew | apply IsS79.set_1 | apply IsS79.set_2 | refine IsS79.far ?_ NB0_397.out _ | refine IsS79.far ?_ NB0_398.out _ | refine IsS79.far ?_ NB0_404.out _))
  (case side2 => repeat (with_reducible first | exact HB.out | apply ba_ | apply bn_ | apply bd_ | refine bs_ ?_ (IsS79.ge HI0.out) | refine bs_ ?_ GE397.out | refine bs_ ?_ GE398.out | refine bs_ ?_ GE404.out))
  rintro e w44 ⟨rfl, hi, hb, hk⟩
  refine ⟨_, rfl, ?_⟩
  replace BK397 := A0_ (KeepBut.blk hk (g' := gb397) (o := .cells #[.string (⟨#[]⟩ : ByteArray), .string (⟨#[]⟩ : ByteArray), .int .i64 0] 31 (0, 0)) (by (with_reducible repeat (first | apply kn_ | apply kd_ | apply ka_)); exact BK397.out) NB397_0.out (by simp))
  replace BK398 := A0_ (KeepBut.blk hk (g' := gb398) (o := .cells #[.string (⟨#[]⟩ : ByteArray), .string (⟨#[]⟩ : ByteArray)] 27 (0, 0)) (by (with_reducible repeat (first | apply kn_ | apply kd_ | apply ka_)); exact BK398.out) NB398_0.out (by simp))
  replace BK404 := A0_ (KeepBut.blk hk (g' := gb404) (o := .cells #[.string t399, .string t400, .int .i64 t401] 31 (0, 0)) (by (with_reducible repeat (first | apply kn_ | apply kd_ | apply ka_)); exact BK404.out) NB404_0.out (by simp))
  replace HK := A0_ (KeepBut.trans (by repeat (with_reducible first | exact HK.out | apply KeepBut.set_ | apply keep_drewN | apply keep_drew | apply keep_alloc | refine keep_far ?_ GW397.out _ | refine keep_far ?_ GW398.out _ | refine keep_far ?_ GW404.out _)) hk (.inl rfl))
  replace HB := A0_ (hb)
  replace HI0 := A0_ (hi)
  (try clear hb)
  (try clear hb2)
  (try clear hk)
  (try clear hi)
  refine hK.out _ _ ⟨(kc_ BK404.out 0).trans rfl, (kc_ BK404.out 1).trans rfl, (kc_ BK404.out 2).trans rfl⟩ (fun hHeld => ?_)
  clear hK K
  refine norm_ (a' := ?_) ?_ ?_
  rotate_left
  ·show Act.put _ (some 30) _ = _
   simp only [Act.put, sa_, sz_, ss_, i64_w, i32_w]
   rfl
  refine one_ (i := 3) (N := none) #[true, true, true, true, false] rfl rfl (by kernel_rfl) (by decide) (fun K hK => ?_)
  have hs45 : w44.cell? ⟨gb397, 0, none⟩ = some (.string (⟨#[]⟩ : ByteArray)) := (kc_ BK397.out 0).trans rfl
  have hfs45 := kf_ BK397.out 0
  have hns45_1 := NB398_397.out
  have hns45_2 := NB404_397.out
  have hms45_1 := NB397_398.out
  have hms45_2 := NB397_404.out
  have hs46 : w44.cell? ⟨gb397, 1, none⟩ = some (.string (⟨#[]⟩ : ByteArray)) := (kc_ BK397.out 1).trans rfl
  have hfs46 := kf_ BK397.out 1
  have hns46_1 := NB398_397.out
  have hns46_2 := NB404_397.out
  have hms46_1 := NB397_398.out
  have hms46_2 := NB397_404.out
  have hs47 : w44.cell? ⟨gb397, 2, none⟩ = some (.int .i64 0) := (kc_ BK397.out 2).trans rfl
  have hfs47 := kf_ BK397.out 2
  have hns47_1 := NB398_397.out
  have hns47_2 := NB404_397.out
  have hms47_1 := NB397_398.out
  have hms47_2 := NB397_404.out
  refine skip_ (w1 := ?_) (by rfl) rfl ?_ ?_
  rotate_left
  ·go_simp
   rfl
  refine hK.out _ _ ⟨((cell_far (p := ⟨gb397, _, none⟩) NB404_397.out _).trans (((cell_far (p := ⟨gb397, _, none⟩) NB404_397.out _).trans (((cell_far (p := ⟨gb397, _, none⟩) NB404_397.out _).trans (hHeld.1)))))), ((cell_far (p := ⟨gb397, _, none⟩) NB404_397.out _).trans (((cell_far (p := ⟨gb397, _, none⟩) NB404_397.out _).trans (((cell_far (p := ⟨gb397, _, none⟩) NB404_397.out _).trans (hHeld.2.1)))))), ((cell_far (p := ⟨gb397, _, none⟩) NB404_397.out _).trans (((cell_far (p := ⟨gb397, _, none⟩) NB404_397.out _).trans (((cell_far (p := ⟨gb397, _, none⟩) NB404_397.out _).trans (hHeld.2.2))))))⟩ (fun hHeld => ?_)
  clear hK K
  refine one_ (i := 4) (N := none) #[true, true, true, true, true] rfl rfl (by kernel_rfl) (by decide) (fun K hK => ?_)
  have hs48 : w44.cell? ⟨gb398, 0, none⟩ = some (.string (⟨#[]⟩ : ByteArray)) := (kc_ BK398.out 0).trans rfl
  have hfs48 := kf_ BK398.out 0
  have hns48_0 := NB397_398.out
  have hns48_2 := NB404_398.out
  have hms48_0 := NB398_397.out
  have hms48_2 := NB398_404.out
  have hs49 : w44.cell? ⟨gb398, 1, none⟩ = some (.string (⟨#[]⟩ : ByteArray)) := (kc_ BK398.out 1).trans rfl
  have hfs49 := kf_ BK398.out 1
  have hns49_0 := NB397_398.out
  have hns49_2 := NB404_398.out
  have hms49_0 := NB398_397.out
  have hms49_2 := NB398_404.out
  refine skip_ (w1 := ?_) (by rfl) rfl ?_ ?_
  rotate_left
  ·go_simp
   rfl
  refine hK.out _ _ ⟨((cell_far (p := ⟨gb398, _, none⟩) NB404_398.out _).trans (((cell_far (p := ⟨gb398, _, none⟩) NB404_398.out _).trans (hHeld.1)))), ((cell_far (p := ⟨gb398, _, none⟩) NB404_398.out _).trans (((cell_far (p := ⟨gb398, _, none⟩) NB404_398.out _).trans (hHeld.2.1)))), ((cell_far (p := ⟨gb398, _, none⟩) NB404_398.out _).trans (((cell_far (p := ⟨gb398, _, none⟩) NB404_398.out _).trans (hHeld.2.2))))⟩ (fun hHeld => ?_)
  clear hK K
  refine done_ (by kernel_rfl) ?_
  try go_wp2
  refine bodyPost_ret (results_cc rfl _ _ gb397 gb398 31 27 #[.string t399, .string t400, .int .i64 t401] #[.string t419, .string t420] (0, 0) (0, 0) _ _ rfl (by (with_reducible repeat (first | apply kn_ | apply kd_ | apply ka_)); refine blk_far ?_ NB397_398.out _; (with_reducible repeat (first | apply kn_ | apply kd_ | apply ka_)); refine blk_far ?_ NB397_398.out _; (with_reducible repeat (first | apply kn_ | apply kd_ | apply ka_)); refine blk_put (cs := #[.string t399, .string t400, .int .i64 0]) ?_ 2 _ rfl; (with_reducible repeat (first | apply kn_ | apply kd_ | apply ka_)); refine blk_put (cs := #[.string t399, .string (⟨#[]⟩ : ByteArray), .int .i64 0]) ?_ 1 _ rfl; (with_reducible repeat (first | apply kn_ | apply kd_ | apply ka_)); refine blk_put (cs := #[.string (⟨#[]⟩ : ByteArray), .string (⟨#[]⟩ : ByteArray), .int .i64 0]) ?_ 0 _ rfl; (with_reducible repeat (first | apply kn_ | apply kd_ | apply ka_)); exact BK397.out) Tryd.underlying31 rfl (by kernel_rfl) rfl (by (with_reducible repeat (first | apply kn_ | apply kd_ | apply ka_)); refine blk_put (cs := #[.string t419, .string (⟨#[]⟩ : ByteArray)]) ?_ 1 _ rfl; (with_reducible repeat (first | apply kn_ | apply kd_ | apply ka_)); refine blk_put (cs := #[.string (⟨#[]⟩ : ByteArray), .string (⟨#[]⟩ : ByteArray)]) ?_ 0 _ rfl; (with_reducible repeat (first | apply kn_ | apply kd_ | apply ka_)); refine blk_far ?_ NB398_397.out _; (with_reducible repeat (first | apply kn_ | apply kd_ | apply ka_)); refine blk_far ?_ NB398_397.out _; (with_reducible repeat (first | apply kn_ | apply kd_ | apply ka_)); refine blk_far ?_ NB398_397.out _; (with_reducible repeat (first | apply kn_ | apply kd_ | apply ka_)); exact BK398.out) Tryd.underlying27 rfl (by kernel_rfl)) rfl ?_
  exact ⟨by first | rfl | (simp [*, errW_none, errW_some] <;> rfl), by repeat (with_reducible first | exact HB.out | apply ba_ | apply bn_ | apply bd_ | refine bs_ ?_ (IsS79.ge HI0.out) | refine bs_ ?_ GE397.out | refine bs_ ?_ GE398.out | refine bs_ ?_ GE404.out)⟩


def spec_IsValidRecord.f (k : Nat) (a0_0 : ByteArray) (a0_1 : ByteArray) : Option (Bool) := (spec_l12Record.f k a0_0 a0_1).bind fun t376 => (some t376)
theorem spec_IsValidRecord.mono : ∀ a0 a1 k, LeO (spec_IsValidRecord.f k a0 a1) (spec_IsValidRecord.f (k + 1) a0 a1) := by
 intro a0 a1 k
 unfold spec_IsValidRecord.f
 repeat' first
   | (with_reducible exact spec_l12Record.mono _ _ _)
   | (with_reducible exact LeO.refl _)
   | (with_reducible exact LeO.none _)
   | (with_reducible refine LeO.ite ?_ ?_)
   | (with_reducible refine LeO.bind ?_ (fun _ => ?_))
theorem spec_IsValidRecord.calls (k : Nat) (a0_0 : ByteArray) (a0_1 : ByteArray) (r : Bool) (w : World) (h : spec_IsValidRecord.f k a0_0 a0_1 = some r) :
  Calls Tryd.prog 41 #[.agg #[.string a0_0, .string a0_1]] w fun e w' => e = .returned (.bool r) ∧ Below w.heap.size w w' := by
 have hu27 := Tryd.underlying27
 have HB := A0_ (Below.refl w.heap.size w)
 have H : ((spec_l12Record.f k a0_0 a0_1).bind fun t376 => (some t376)) = some r := h
 clear h
 replace H := ob_.mp H
 obtain ⟨t376, A20, H⟩ := H
 replace H : (some t376) = some r := H
 have A2 := A0_ A20
 clear A20
 obtain rfl := si_ H
 go_enter Tryd.func41, Tryd.ntmps41
 go_wp2_with (first | ((with_reducible refine gd_ (N := 1) rfl ?_); refine be_ ?hg (N := 1) ?hd (cs := #[.string a0_0, .string a0_1]) (t := 27) ?hr ?_; (case hd => rfl); (case hg => rfl); (case hr => go_simp; first | done | rfl); intro gb375 hg w3 hbox hb; have BK375 := A0_ (hbox); have GW375 := A0_ ((by rw [hg]; exact (bz_ (by repeat (with_reducible first | exact HB.out | apply ba_ | apply bn_ | apply bd_))) : w.heap.size ≤ gb375)); have GE375 := A0_ ((by rw [hg]; exact (bz_ (by repeat (with_reducible first | exact HB.out | apply ba_ | apply bn_ | apply bd_))) : w.heap.size ≤ gb375)); replace HB := A0_ (bt_ (by repeat (with_reducible first | exact HB.out | apply ba_ | apply bn_ | apply bd_)) hb); clear hb hbox hg; have hcz4_0 : w3.cell? ⟨gb375, 0, none⟩ = some (.string a0_0) := (kc_ BK375.out 0).trans rfl; have hcz4_1 : w3.cell? ⟨gb375, 1, none⟩ = some (.string a0_1) := (kc_ BK375.out 1).trans rfl) | ((with_reducible refine gc_ (f := 46) rfl ?_); refine goesL_ (some 4) rfl rfl Tryd.func46 (by kernel_rfl) rfl #[.agg #[.string a0_0, .string a0_1]] rfl (by (try simp only [ma_, mc_, mn_]); first | done | rfl | (simp only [ld_, lt_]; rfl)) ?_; (with_reducible refine (spec_l12Record.calls k a0_0 a0_1 t376 _ A2.out).mono ?_); rintro e w5 ⟨rfl, hb⟩; refine ⟨_, rfl, ?_⟩; replace BK375 := A0_ (kb_ (g := gb375) (o := .cells #[.string a0_0, .string a0_1] 27 (0, 0)) (by (with_reducible repeat (first | apply kn_ | apply kd_ | apply ka_)); exact BK375.out) hb); replace HB := A0_ (bt_ (by repeat (with_reducible first | exact HB.out | apply ba_ | apply bn_ | apply bd_ | refine bs_ ?_ GE375.out)) hb); (try clear hb)))
 go_ret
 exact ⟨by first | rfl | (simp [*, errW_none, errW_some] <;> rfl), by repeat (with_reducible first | exact HB.out | apply ba_ | apply bn_ | apply bd_ | refine bs_ ?_ GE375.out)⟩

def laws_vRecords.l0 : Nat → List (S27) → List (S27) → Int → Option (Bool)
 | 0, _, _, _ => none
 | k + 1, x0, x1, x5 => if x5 < (x0.length : Int) then (if 0 ≤ x5 then (if x5 < (x1.length : Int) then (if (!((((rd_T27 x0 x5).f0).toList) == (((rd_T27 x1 x5).f0).toList)) || (!((((rd_T27 x0 x5).f1).toList) == (((rd_T27 x1 x5).f1).toList)))) = true then (some false) else (laws_vRecords.l0 k x0 x1 (wrap64 (x5 + 1)))) else (none)) else (none)) else (some true)
def laws_vRecords.f (k : Nat) (l0 : List (S27)) (l1 : List (S27)) : Option (Bool) := if (l0.length : Int) = (l1.length : Int) then (laws_vRecords.l0 k l0 l1 0) else (some false)
theorem laws_vRecords.mono_l : ∀ k, (∀ y0 y1 y2, LeO (laws_vRecords.l0 k y0 y1 y2) (laws_vRecords.l0 (k + 1) y0 y1 y2))
 | 0 => fun _ _ _ r h => by simp [laws_vRecords.l0] at h
 | k + 1 => by
  have ih0 := laws_vRecords.mono_l k
  ·intro y0 y1 y2
   unfold laws_vRecords.l0
   repeat' first
   | (with_reducible exact ih0 _ _ _)
   | (with_reducible exact LeO.refl _)
   | (with_reducible exact LeO.none _)
   | (with_reducible refine LeO.ite ?_ ?_)
   | (with_reducible refine LeO.bind ?_ (fun _ => ?_))
theorem laws_vRecords.mono : ∀ a0 a1 k, LeO (laws_vRecords.f k a0 a1) (laws_vRecords.f (k + 1) a0 a1) := by
 intro a0 a1 k
 have ih0 := laws_vRecords.mono_l k
 unfold laws_vRecords.f
 repeat' first
   | (with_reducible exact ih0 _ _ _)
   | (with_reducible exact LeO.refl _)
   | (with_reducible exact LeO.none _)
   | (with_reducible refine LeO.ite ?_ ?_)
   | (with_reducible refine LeO.bind ?_ (fun _ => ?_))
theorem laws_vRecords.calls (k : Nat) (A0 : Option Addr) (c0 : Nat) (l0 : List (S27)) (A1 : Option Addr) (c1 : Nat) (l1 : List (S27)) (r : Bool) (w : World) (hr0 : Kd.C k27 w A0 l0.length l0) (hc0 : l0.length ≤ c0) (hr1 : Kd.C k27 w A1 l1.length l1) (hc1 : l1.length ≤ c1) (h : laws_vRecords.f k l0 l1 = some r) :
  Calls Tryd.prog 42 #[.slice A0 l0.length c0, .slice A1 l1.length c1] w fun e w' => e = .returned (.bool r) ∧ Drawn0 w w' := by
 have hu27 := Tryd.underlying27
 have HR0 := A0_ hr0
 have HC0 := A0_ hc0
 clear hr0 hc0
 have HR1 := A0_ hr1
 have HC1 := A0_ hc1
 clear hr1 hc1
 have H : (if (l0.length : Int) = (l1.length : Int) then (laws_vRecords.l0 k l0 l1 0) else (some false)) = some r := h
 clear h
 by_cases c3 : (l0.length : Int) = (l1.length : Int)
 ·rw [if_pos c3] at H
  have c3b0 : ((l0.length : Int) == (l1.length : Int)) = true := beq_iff_eq.mpr c3
  have c3b1 : ((l0.length : Int) != (l1.length : Int)) = false := bne_eq_false_iff_eq.mpr c3
  have c3b2 : (l0.length == l1.length) = true := by first | simpa using c3 | (simp at c3 ⊢; omega)
  clear c3
  have H' := A0_ H
  clear H
  go_enter Tryd.func42, Tryd.ntmps42
  go_wp2
  repeat (go_quiet (fail); try go_wp2)
  go_loopg [5] k (fun kq v5 w' => ∃ (x5_1 : Int), v5 = .int .i64 x5_1 ∧ Aside0 (laws_vRecords.l0 kq l0 l1 x5_1 = some r) ∧ Aside0 (kq ≤ k) ∧ Drawn0 w w')
  case atStart => exact ⟨(0), (by first | rfl | (simp [*]; done)), H', ⟨Nat.le_refl _⟩, by repeat (first | exact Drawn0.refl _ | apply Drawn0.step)⟩
  case round =>
   clear H'
   try clear c1
   try clear p2
   try clear c3
   try clear c3b0
   try clear c3b1
   try clear c3b2
   obtain ⟨x5_1, rfl, HA, HK1, ⟨m1, rfl⟩⟩ := hrel
   cases gk with
   | zero => exact absurd HA.out (by simp [laws_vRecords.l0])
   | succ k1 =>
    have H := HA.out
    clear HA
    simp only [laws_vRecords.l0] at H
    by_cases c4 : x5_1 < (l0.length : Int)
    ·rw [if_pos c4] at H
     have c4b0 : decide (x5_1 < (l0.length : Int)) = true := dt_ c4
     clear c4
     by_cases c5 : 0 ≤ x5_1
     ·rw [if_pos c5] at H
      have c5b0 : decide (0 ≤ x5_1) = true := dt_ c5
      clear c5
      by_cases c6 : x5_1 < (l1.length : Int)
      ·rw [if_pos c6] at H
       have c6b0 : decide (x5_1 < (l1.length : Int)) = true := dt_ c6
       clear c6
       by_cases c7 : (!((((rd_T27 l0 x5_1).f0).toList) == (((rd_T27 l1 x5_1).f0).toList)) || (!((((rd_T27 l0 x5_1).f1).toList) == (((rd_T27 l1 x5_1).f1).toList)))) = true
       ·rw [if_pos c7] at H
        have c7b0 : (!((((rd_T27 l0 x5_1).f0).toList) == (((rd_T27 l1 x5_1).f0).toList)) || (!((((rd_T27 l0 x5_1).f1).toList) == (((rd_T27 l1 x5_1).f1).toList)))) = true := c7
        clear c7
        obtain rfl := si_ H
        have p377 : 0 ≤ (x5_1 : Int) := od_ (by first | (with_reducible assumption) | assumption)
        have q377 : x5_1 < (l0.length : Int) := od_ (by first | (with_reducible assumption) | assumption)
        obtain ⟨ad377, e377, hx377_0, hx377_1⟩ := at_T27 HR0.out x5_1 p377 q377
        cases e377
        replace p377 := eq_true p377
        replace q377 := eq_true q377
        have p378 : 0 ≤ (x5_1 : Int) := od_ (by first | (with_reducible assumption) | assumption)
        have q378 : x5_1 < (l1.length : Int) := od_ (by first | (with_reducible assumption) | assumption)
        obtain ⟨ad378, e378, hx378_0, hx378_1⟩ := at_T27 HR1.out x5_1 p378 q378
        cases e378
        replace p378 := eq_true p378
        replace q378 := eq_true q378
        go_wp2
        repeat (go_quiet (fail); try go_wp2)
        go_ret
        exact ⟨by first | rfl | (simp; done) | (simp [*]; done), by repeat (first | exact Drawn0.refl _ | apply Drawn0.step)⟩
       ·rw [if_neg c7] at H
        have c7b0 : (!((((rd_T27 l0 x5_1).f0).toList) == (((rd_T27 l1 x5_1).f0).toList)) || (!((((rd_T27 l0 x5_1).f1).toList) == (((rd_T27 l1 x5_1).f1).toList)))) = false := by simpa using c7
        clear c7
        have H' := A0_ H
        clear H
        have p377 : 0 ≤ (x5_1 : Int) := od_ (by first | (with_reducible assumption) | assumption)
        have q377 : x5_1 < (l0.length : Int) := od_ (by first | (with_reducible assumption) | assumption)
        obtain ⟨ad377, e377, hx377_0, hx377_1⟩ := at_T27 HR0.out x5_1 p377 q377
        cases e377
        replace p377 := eq_true p377
        replace q377 := eq_true q377
        have p378 : 0 ≤ (x5_1 : Int) := od_ (by first | (with_reducible assumption) | assumption)
        have q378 : x5_1 < (l1.length : Int) := od_ (by first | (with_reducible assumption) | assumption)
        obtain ⟨ad378, e378, hx378_0, hx378_1⟩ := at_T27 HR1.out x5_1 p378 q378
        cases e378
        replace p378 := eq_true p378
        replace q378 := eq_true q378
        go_wp2
        repeat (go_quiet (fail); try go_wp2)
        go_roundg k1
        case measure => have := HK1.out; omega
        case rel => exact ⟨(wrap64 (x5_1 + 1)), (by first | rfl | (simp [*]; done)), H', ⟨by have := HK1.out; omega⟩, by repeat (first | exact Drawn0.refl _ | apply Drawn0.step)⟩
      ·rw [if_neg c6] at H
       exact absurd H (by simp)
     ·rw [if_neg c5] at H
      exact absurd H (by simp)
    ·rw [if_neg c4] at H
     have c4b0 : decide (x5_1 < (l0.length : Int)) = false := decide_eq_false c4
     clear c4
     obtain rfl := si_ H
     go_wp2
     repeat (go_quiet (fail); try go_wp2)
     go_ret
     exact ⟨by first | rfl | (simp; done) | (simp [*]; done), by repeat (first | exact Drawn0.refl _ | apply Drawn0.step)⟩
 ·rw [if_neg c3] at H
  have c3b0 : ((l0.length : Int) == (l1.length : Int)) = false := beq_eq_false_iff_ne.mpr c3
  have c3b1 : ((l0.length : Int) != (l1.length : Int)) = true := bne_iff_ne.mpr c3
  have c3b2 : (l0.length == l1.length) = false := by first | simpa using c3 | (simp at c3 ⊢; omega)
  obtain rfl := si_ H
  go_enter Tryd.func42, Tryd.ntmps42
  go_wp2
  repeat (go_quiet (fail); try go_wp2)
  go_ret
  exact ⟨by first | rfl | (simp; done) | (simp [*]; done), by repeat (first | exact Drawn0.refl _ | apply Drawn0.step)⟩

end Go.Proofs.YtphcagjmpaajmaaDoor.QFnLogs
-- squeezed
