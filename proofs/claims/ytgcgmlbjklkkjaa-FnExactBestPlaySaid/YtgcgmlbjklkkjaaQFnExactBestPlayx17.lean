-- Written by px.py, a program of this session, over the kit's printer: some functions have a definition and a proof of this session's own.
import Derived.Test.YtgcgmlbjklkkjaaQFnExactBestPlayx0
import Derived.Test.YtgcgmlbjklkkjaaQFnExactBestPlayx10
import Derived.Test.YtgcgmlbjklkkjaaQFnExactBestPlayx11
import Derived.Test.YtgcgmlbjklkkjaaQFnExactBestPlayx12
import Derived.Test.YtgcgmlbjklkkjaaQFnExactBestPlayx16
namespace Go.Proofs.Ytgcgmlbjklkkjaa.QFnExactBestPlay
open Go.RowKit Go.Proofs.YtgcgmlbjklkkjaaW.PrintWords Go.Proofs.YtgcgmlbjklkkjaaW.PrintLast Go.Proofs.YtgcgmlbjklkkjaaW.PrintMore
attribute [local go_sem] max2_int min2_int max_two min_two max_three min_three max_four min_four   -- for this text's walks alone
set_option linter.unusedVariables false
set_option linter.unusedSimpArgs false
set_option maxHeartbeats 8000000
set_option maxRecDepth 100000

def impl_BestPlay.l0 : Nat → Int → List Int → Int → Int → Bool → Option (List Int × Bool)
 | 0, _, _, _, _, _ => none
 | k + 1, x1, x6, x8, x455000, x455001 => (impl_bench_moves.f k x455000 x455001 x8 x1).bind fun t456 => (if (t456.length : Int) = 0 then (some (x6, true)) else (if 0 < (t456.length : Int) then ((impl_bench_winMoves.f k x455000 x455001 x8 x1).bind fun t460 => (if (t460.length : Int) > 0 then (if 0 < (t460.length : Int) then (if x6.length < 17592186044416 then ((impl_bench_behind.f k x455000 x455001 x8 x1 (rd t460 0)).bind fun t467 => (impl_BestPlay.l0 k x1 (x6 ++ [rd t460 0]) t467 x455000 x455001)) else (none)) else (none)) else (if x6.length < 17592186044416 then ((impl_bench_behind.f k x455000 x455001 x8 x1 (rd t456 0)).bind fun t471 => (impl_BestPlay.l0 k x1 (x6 ++ [rd t456 0]) t471 x455000 x455001)) else (none)))) else (none)))
def impl_BestPlay.f (k : Nat) (a0_0 : Int) (a0_1 : Bool) (l0_2 : List Int) (a1 : Int) : Option (List Int × Bool) := (impl_isGame.f k a0_0 a0_1 l0_2 a1).bind fun t448 => (if t448 = true then ((impl_Row_bench.f a0_0 a0_1 l0_2).bind fun bt452 => ((impl_Row_taken.f k a0_0 a0_1 l0_2).bind fun t455 => (impl_BestPlay.l0 k a1 (([] : List Int)) t455 bt452.1 bt452.2))) else (some (([] : List Int), false)))
theorem impl_BestPlay.mono_l : ∀ k, (∀ y0 y1 y2 y3 y4, LeO (impl_BestPlay.l0 k y0 y1 y2 y3 y4) (impl_BestPlay.l0 (k + 1) y0 y1 y2 y3 y4))
 | 0 => fun _ _ _ _ _ r h => by simp [impl_BestPlay.l0] at h
 | k + 1 => by
  have ih0 := impl_BestPlay.mono_l k
  ·intro y0 y1 y2 y3 y4
   unfold impl_BestPlay.l0
   repeat' first
   | (with_reducible exact ih0 _ _ _ _ _)
   | (with_reducible exact impl_Row_taken.mono _ _ _ _)
   | (with_reducible exact impl_bench_behind.mono _ _ _ _ _ _)
   | (with_reducible exact impl_bench_moves.mono _ _ _ _ _)
   | (with_reducible exact impl_bench_winMoves.mono _ _ _ _ _)
   | (with_reducible exact impl_isGame.mono _ _ _ _ _)
   | (with_reducible exact LeO.refl _)
   | (with_reducible exact LeO.none _)
   | (with_reducible refine LeO.ite ?_ ?_)
   | (with_reducible refine LeO.bind ?_ (fun _ => ?_))
theorem impl_BestPlay.mono : ∀ a0 a1 a2 a3 k, LeO (impl_BestPlay.f k a0 a1 a2 a3) (impl_BestPlay.f (k + 1) a0 a1 a2 a3) := by
 intro a0 a1 a2 a3 k
 have ih0 := impl_BestPlay.mono_l k
 unfold impl_BestPlay.f
 repeat' first
   | (with_reducible exact ih0 _ _ _ _ _)
   | (with_reducible exact impl_Row_taken.mono _ _ _ _)
   | (with_reducible exact impl_bench_behind.mono _ _ _ _ _ _)
   | (with_reducible exact impl_bench_moves.mono _ _ _ _ _)
   | (with_reducible exact impl_bench_winMoves.mono _ _ _ _ _)
   | (with_reducible exact impl_isGame.mono _ _ _ _ _)
   | (with_reducible exact LeO.refl _)
   | (with_reducible exact LeO.none _)
   | (with_reducible refine LeO.ite ?_ ?_)
   | (with_reducible refine LeO.bind ?_ (fun _ => ?_))
def impl_BestPlay.T12 : Bool × List (List Nat × List Nat) := (true, [([], []), ([], []), ([1], [1]), ([0, 2], [0, 2]), ([], []), ([], []), ([], []), ([], []), ([4, 5, 6, 7, 3], [4, 5, 6, 7]), ([3, 8, 0, 1, 2, 3], [0, 3]), ([8, 9, 0, 1, 2, 3, 4, 5, 6, 7, 8, 9], [5, 8])])
def impl_BestPlay.B12 : List Nat := [0, 0, 2, 7, 0, 0, 0, 0, 255, 511, 1023]
theorem impl_BestPlay.tab12 : rtab .any (opsOf Try.f37 12) = impl_BestPlay.T12 := by kernel_rfl
theorem impl_BestPlay.bits12 : waitsOk impl_BestPlay.T12.2 impl_BestPlay.B12 = true := by kernel_rfl
theorem impl_BestPlay.calls (k : Nat) (a0_0 : Int) (a0_1 : Bool) (A0_2 : Option Addr) (c0_2 : Nat) (l0_2 : List Int) (a1 : Int) (r1 : List Int) (r2 : Bool) (w : World) (hr0_2 : Kd.C (Kd.int .i64) w A0_2 l0_2.length l0_2) (hc0_2 : l0_2.length ≤ c0_2) (h : impl_BestPlay.f k a0_0 a0_1 l0_2 a1 = some (r1, r2)) :
  Calls Try.prog 37 #[.agg #[.int .i64 a0_0, .bool a0_1, .slice A0_2 l0_2.length c0_2], .int .i64 a1] w fun e w' => ∃ v0_ : Value, e = .returned (.tuple #[v0_, .bool r2]) ∧ Kd.R (Kd.int .i64) 3 w' w.heap.size (fun _ => True) v0_ r1 ∧ Below w.heap.size w w' := by
 have hu32 := Try.underlying32
 have hu57 := Try.underlying57
 have HR0_2 := A0_ hr0_2
 have HC0_2 := A0_ hc0_2
 clear hr0_2 hc0_2
 have HB := A0_ (Below.refl w.heap.size w)
 have H : ((impl_isGame.f k a0_0 a0_1 l0_2 a1).bind fun t448 => (if t448 = true then ((impl_Row_bench.f a0_0 a0_1 l0_2).bind fun bt452 => ((impl_Row_taken.f k a0_0 a0_1 l0_2).bind fun t455 => (impl_BestPlay.l0 k a1 (([] : List Int)) t455 bt452.1 bt452.2))) else (some (([] : List Int), false)))) = some (r1, r2) := h
 clear h
 replace H := ob_.mp H
 obtain ⟨t448, A30, H⟩ := H
 have A3 := A0_ A30
 clear A30
 by_cases c4 : t448 = true
 ·subst c4
  rw [if_pos rfl] at H
  obtain ⟨y449, hy449⟩ : ∃ y_ : List Int, y_ = (([] : List Int)) := ⟨_, rfl⟩
  replace H : ((impl_Row_bench.f a0_0 a0_1 l0_2).bind fun bt452 => ((impl_Row_taken.f k a0_0 a0_1 l0_2).bind fun t455 => (impl_BestPlay.l0 k a1 y449 t455 bt452.1 bt452.2))) = some (r1, r2) := by first | (rw [hy449]; with_reducible exact H) | (have H2_ := (Option.bind_some _ _).symm.trans H; rw [hy449]; with_reducible exact H2_) | (have H2_ := (Option.bind_some _ _).symm.trans H; with_reducible exact H2_) | with_reducible exact H | (rw [hy449]; exact H) | exact H
  have Ny449 := A0_ hy449
  clear hy449
  replace H := ob_.mp H
  obtain ⟨⟨t452, t453⟩, A50, H⟩ := H
  have A5 := A0_ A50
  clear A50
  replace H := ob_.mp H
  obtain ⟨t455, A60, H⟩ := H
  have A6 := A0_ A60
  clear A60
  have H' := A0_ H
  clear H
  go_enter Try.func37, Try.ntmps37
  go_wp2_with (first | ((with_reducible refine gd_ (N := 2) rfl ?_); refine be_ ?hg (N := 2) ?hd (cs := #[.int .i64 a0_0, .bool a0_1, .slice A0_2 l0_2.length c0_2]) (t := 32) ?hr ?_; (case hd => rfl); (case hg => rfl); (case hr => go_simp; first | done | rfl); intro gb447 hg w7 hbox hb; have n0_ := A0_ (bt_ (by repeat (first | exact HB.out | apply ba_ | apply bn_ | apply bd_)) hb); have n1_ := A0_ (hbox); have n2_ := A0_ ((by rw [hg]; exact (bz_ (by repeat (first | exact HB.out | apply ba_ | apply bn_ | apply bd_))) : w.heap.size ≤ gb447)); have n3_ := A0_ ((by rw [hg]; exact (bz_ (by repeat (first | exact HB.out | apply ba_ | apply bn_ | apply bd_))) : w.heap.size ≤ gb447)); clear HB; have HB := n0_; have BK447 := n1_; have GW447 := n2_; have GE447 := n3_; clear n0_ n1_ n2_ n3_ hb hbox hg; have hcz8_0 : w7.cell? ⟨gb447, 0, none⟩ = some (.int .i64 a0_0) := (kc_ BK447.out 0).trans rfl; have hcz8_1 : w7.cell? ⟨gb447, 1, none⟩ = some (.bool a0_1) := (kc_ BK447.out 1).trans rfl; have hcz8_2 : w7.cell? ⟨gb447, 2, none⟩ = some (.slice A0_2 l0_2.length c0_2) := (kc_ BK447.out 2).trans rfl; have hfz8_0 := kf_ BK447.out 0; have hfz8_1 := kf_ BK447.out 1; have hfz8_2 := kf_ BK447.out 2) | ((with_reducible refine gc_ (f := 50) rfl ?_); refine goesL_ (some 14) rfl rfl Try.func50 (by kernel_rfl) rfl #[.agg #[.int .i64 a0_0, .bool a0_1, .slice A0_2 l0_2.length c0_2], .int .i64 a1] rfl (by (try simp only [ma_, mc_, mn_]); first | done | rfl | (simp only [ld_, lt_]; rfl)) ?_; (with_reducible refine (impl_isGame.calls k a0_0 a0_1 _ _ l0_2 a1 true _ ?side1 ?side2 A3.out).mono ?_); (case side1 => repeat (first | exact (cb_ HR0_2.out HB.out) | (with_reducible refine ca_ ?_ _) | (with_reducible refine cn_ ?_ _) | (with_reducible refine cd_ ?_))); (case side2 => exact HC0_2.out); rintro e w9 ⟨rfl, hb⟩; refine ⟨_, rfl, ?_⟩; have n0_ := A0_ (kb_ (g := gb447) (o := .cells #[.int .i64 a0_0, .bool a0_1, .slice A0_2 l0_2.length c0_2] 32 (0, 0)) (by (with_reducible repeat (first | apply kn_ | apply kd_ | apply ka_)); exact BK447.out) hb); have n1_ := A0_ (bt_ (by repeat (first | exact HB.out | apply ba_ | apply bn_ | apply bd_ | refine bs_ ?_ GE447.out)) hb); clear BK447 HB; have BK447 := n0_; have HB := n1_; clear n0_ n1_; (try clear hb)) | ((with_reducible refine gd_ (N := 16) rfl ?_); refine Kd.R_lit (Kd.int .i64) _ 3 ?hg (N := 16) ?hd (xs := ([] : List Int)) (inner := []) (ok := fun _ => True) (okp := fun _ => True) ?hr ?hp (fun _ hk => hk) trivial (Below.refl _ _) (Nat.le_refl _) (by simp) ?_; (case hd => rfl); (case hg => rfl); (case hr => go_simp; first | done | rfl); (case hp => exact (Reps.none _ _)); intro v450 w10 ho11 hb hg_ hnew_; clear hg_ hnew_; (first | rw [← Ny449.out] at ho11 | (simp only [Int.reduceToNat] at ho11; rw [← Ny449.out] at ho11)); have n0_ := A0_ (Kd.R_lower ho11 (bz_ (by repeat (first | exact HB.out | apply ba_ | apply bn_ | apply bd_ | refine bs_ ?_ GE447.out)))); have n1_ := A0_ (kb_ (g := gb447) (o := .cells #[.int .i64 a0_0, .bool a0_1, .slice A0_2 l0_2.length c0_2] 32 (0, 0)) (by (with_reducible repeat (first | apply kn_ | apply kd_ | apply ka_)); exact BK447.out) hb); have n2_ := A0_ (bt_ (by repeat (first | exact HB.out | apply ba_ | apply bn_ | apply bd_ | refine bs_ ?_ GE447.out)) hb); clear BK447 HB; have HO451 := n0_; have BK447 := n1_; have HB := n2_; clear n0_ n1_ n2_ hb ho11; have hcz12_0 : w10.cell? ⟨gb447, 0, none⟩ = some (.int .i64 a0_0) := (kc_ BK447.out 0).trans rfl; have hcz12_1 : w10.cell? ⟨gb447, 1, none⟩ = some (.bool a0_1) := (kc_ BK447.out 1).trans rfl; have hcz12_2 : w10.cell? ⟨gb447, 2, none⟩ = some (.slice A0_2 l0_2.length c0_2) := (kc_ BK447.out 2).trans rfl; have hfz12_0 := kf_ BK447.out 0; have hfz12_1 := kf_ BK447.out 1; have hfz12_2 := kf_ BK447.out 2) | ((with_reducible refine gc_ (f := 51) rfl ?_); refine goesL_ (some 18) rfl rfl Try.func51 (by kernel_rfl) rfl #[.agg #[.int .i64 a0_0, .bool a0_1, .slice A0_2 l0_2.length c0_2]] rfl (by (try simp only [ma_, mc_, mn_]); first | done | rfl | (simp only [ld_, lt_]; rfl)) ?_; (with_reducible refine (impl_Row_bench.calls a0_0 a0_1 _ _ l0_2 t452 t453 _ ?side1 ?side2 A5.out).mono ?_); (case side1 => repeat (first | exact (cb_ HR0_2.out HB.out) | (with_reducible refine ca_ ?_ _) | (with_reducible refine cn_ ?_ _) | (with_reducible refine cd_ ?_))); (case side2 => exact HC0_2.out); rintro e w13 ⟨rfl, hb⟩; refine ⟨_, rfl, ?_⟩; have n0_ := A0_ (Kd.R_below (by (with_reducible repeat (first | apply ra_ | apply rn_ | apply rd_)); exact HO451.out) hb); have n1_ := A0_ (kb_ (g := gb447) (o := .cells #[.int .i64 a0_0, .bool a0_1, .slice A0_2 l0_2.length c0_2] 32 (0, 0)) (by (with_reducible repeat (first | apply kn_ | apply kd_ | apply ka_)); exact BK447.out) hb); have n2_ := A0_ (bt_ (by repeat (first | exact HB.out | apply ba_ | apply bn_ | apply bd_ | refine bs_ ?_ GE447.out)) hb); clear HO451 BK447 HB; have HO451 := n0_; have BK447 := n1_; have HB := n2_; clear n0_ n1_ n2_; (try clear hb)) | ((with_reducible refine gd_ (N := 7) rfl ?_); refine be_ ?hg (N := 7) ?hd (cs := #[.int .i64 0, .bool false]) (t := 57) ?hr ?_; (case hd => rfl); (case hg => rfl); (case hr => go_simp; first | done | rfl); intro gb454 hg w14 hbox hb; have n0_ := A0_ (Kd.R_below (by (with_reducible repeat (first | apply ra_ | apply rn_ | apply rd_)); exact HO451.out) hb); have n1_ := A0_ (kb_ (g := gb447) (o := .cells #[.int .i64 a0_0, .bool a0_1, .slice A0_2 l0_2.length c0_2] 32 (0, 0)) (by (with_reducible repeat (first | apply kn_ | apply kd_ | apply ka_)); exact BK447.out) hb); have n2_ := A0_ (bt_ (by repeat (first | exact HB.out | apply ba_ | apply bn_ | apply bd_ | refine bs_ ?_ GE447.out)) hb); have n3_ := A0_ (hbox); have n4_ := A0_ ((by rw [hg]; exact (bz_ (by repeat (first | exact HB.out | apply ba_ | apply bn_ | apply bd_ | refine bs_ ?_ GE447.out))) : w.heap.size ≤ gb454)); have n5_ := A0_ ((by rw [hg]; exact (bz_ (by repeat (first | exact HB.out | apply ba_ | apply bn_ | apply bd_ | refine bs_ ?_ GE447.out))) : w.heap.size ≤ gb454)); have n6_ := A0_ ((by rw [hg]; exact Nat.ne_of_lt (blk_lt (g := gb447) (o := .cells #[.int .i64 a0_0, .bool a0_1, .slice A0_2 l0_2.length c0_2] 32 (0, 0)) (by (with_reducible repeat (first | apply kn_ | apply kd_ | apply ka_)); exact BK447.out)) : gb447 ≠ gb454)); have n7_ := A0_ ((by rw [hg]; exact Nat.ne_of_gt (blk_lt (g := gb447) (o := .cells #[.int .i64 a0_0, .bool a0_1, .slice A0_2 l0_2.length c0_2] 32 (0, 0)) (by (with_reducible repeat (first | apply kn_ | apply kd_ | apply ka_)); exact BK447.out)) : gb454 ≠ gb447)); clear HO451 BK447 HB; have HO451 := n0_; have BK447 := n1_; have HB := n2_; have BK454 := n3_; have GW454 := n4_; have GE454 := n5_; have NB447_454 := n6_; have NB454_447 := n7_; clear n0_ n1_ n2_ n3_ n4_ n5_ n6_ n7_ hb hbox hg; have hnb15 := NB454_447.out; have hnc15 := NB447_454.out; have hcz16_0 : w14.cell? ⟨gb454, 0, none⟩ = some (.int .i64 0) := (kc_ BK454.out 0).trans rfl; have hcz16_1 : w14.cell? ⟨gb454, 1, none⟩ = some (.bool false) := (kc_ BK454.out 1).trans rfl; have hfz16_0 := kf_ BK454.out 0; have hfz16_1 := kf_ BK454.out 1; have hcz17_0 : w14.cell? ⟨gb447, 0, none⟩ = some (.int .i64 a0_0) := (kc_ BK447.out 0).trans rfl; have hcz17_1 : w14.cell? ⟨gb447, 1, none⟩ = some (.bool a0_1) := (kc_ BK447.out 1).trans rfl; have hcz17_2 : w14.cell? ⟨gb447, 2, none⟩ = some (.slice A0_2 l0_2.length c0_2) := (kc_ BK447.out 2).trans rfl; have hfz17_0 := kf_ BK447.out 0; have hfz17_1 := kf_ BK447.out 1; have hfz17_2 := kf_ BK447.out 2) | ((with_reducible refine gc_ (f := 53) rfl ?_); refine goesL_ (some 20) rfl rfl Try.func53 (by kernel_rfl) rfl #[.agg #[.int .i64 a0_0, .bool a0_1, .slice A0_2 l0_2.length c0_2]] rfl (by (try simp only [ma_, mc_, mn_]); first | done | rfl | (simp only [ld_, lt_]; rfl)) ?_; (with_reducible refine (impl_Row_taken.calls k a0_0 a0_1 _ _ l0_2 t455 _ ?side1 ?side2 A6.out).mono ?_); (case side1 => exact cb_ HR0_2.out (by repeat (first | exact HB.out | apply ba_ | apply bn_ | apply bd_ | refine bs_ ?_ GE447.out | refine bs_ ?_ GE454.out))); (case side2 => exact HC0_2.out); rintro e w18 ⟨rfl, hb⟩; refine ⟨_, rfl, ?_⟩; have n0_ := A0_ (Kd.R_below (by (with_reducible repeat (first | apply ra_ | apply rn_ | apply rd_)); exact (Kd.R_mono (Kd.R_far (p := ⟨gb454, 1, none⟩) (Kd.R_far (p := ⟨gb454, 0, none⟩) (Kd.R_types HO451.out BK454.out (by decide)) (fun _ hk => hk.2) (.int .i64 t452)) (fun _ hk => hk.2) (.bool t453)) (fun _ h_ => h_.1))) hb); have n1_ := A0_ (kb_ (g := gb447) (o := .cells #[.int .i64 a0_0, .bool a0_1, .slice A0_2 l0_2.length c0_2] 32 (0, 0)) (by (with_reducible repeat (first | apply kn_ | apply kd_ | apply ka_)); refine blk_far ?_ NB447_454.out _; (with_reducible repeat (first | apply kn_ | apply kd_ | apply ka_)); refine blk_far ?_ NB447_454.out _; (with_reducible repeat (first | apply kn_ | apply kd_ | apply ka_)); exact BK447.out) hb); have n2_ := A0_ (kb_ (g := gb454) (o := .cells #[.int .i64 t452, .bool t453] 57 (0, 0)) (by (with_reducible repeat (first | apply kn_ | apply kd_ | apply ka_)); refine blk_put (cs := #[.int .i64 t452, .bool false]) ?_ 1 _ rfl; (with_reducible repeat (first | apply kn_ | apply kd_ | apply ka_)); refine blk_put (cs := #[.int .i64 0, .bool false]) ?_ 0 _ rfl; (with_reducible repeat (first | apply kn_ | apply kd_ | apply ka_)); exact BK454.out) hb); have n3_ := A0_ (bt_ (by repeat (first | exact HB.out | apply ba_ | apply bn_ | apply bd_ | refine bs_ ?_ GE447.out | refine bs_ ?_ GE454.out)) hb); clear HO451 BK447 BK454 HB; have HO451 := n0_; have BK447 := n1_; have BK454 := n2_; have HB := n3_; clear n0_ n1_ n2_ n3_; (try clear hb)))
  go_loopg [6, 8] k (fun kq v6 v8 w' => ∃ (x6_1 : List Int) (x8_1 : Int), v8 = .int .u32 x8_1 ∧ Aside0 (impl_BestPlay.l0 kq a1 x6_1 x8_1 t452 t453 = some (r1, r2)) ∧ Aside0 (kq ≤ k) ∧ Aside0 (Kd.R (Kd.int .i64) 3 w' w.heap.size (fun _ => True) v6 x6_1) ∧ Aside0 (w'.heap[gb447]? = some (.cells #[.int .i64 a0_0, .bool a0_1, (.slice A0_2 l0_2.length c0_2)] 32 (0, 0))) ∧ Aside0 (w'.heap[gb454]? = some (.cells #[.int .i64 t452, .bool t453] 57 (0, 0))) ∧ Aside0 (Below w.heap.size w w'))
  case atStart => exact ⟨(y449), (t455), (by first | rfl | (simp [*]; done)), H', ⟨Nat.le_refl _⟩, ⟨by (with_reducible repeat (first | apply ra_ | apply rn_ | apply rd_)); exact HO451.out⟩, ⟨by (with_reducible repeat (first | apply kn_ | apply kd_ | apply ka_)); exact BK447.out⟩, ⟨by (with_reducible repeat (first | apply kn_ | apply kd_ | apply ka_)); exact BK454.out⟩, ⟨by repeat (first | exact HB.out | apply ba_ | apply bn_ | apply bd_ | refine bs_ ?_ GE447.out | refine bs_ ?_ GE454.out)⟩⟩
  case round =>
   clear H'
   try clear c1
   try clear p2
   try clear c3
   try clear c4
   try clear c5
   try clear c15
   try clear hcz12_0
   try clear hcz12_1
   try clear hcz12_2
   try clear hcz16_0
   try clear hcz16_1
   try clear hcz17_0
   try clear hcz17_1
   try clear hcz17_2
   try clear hcz8_0
   try clear hcz8_1
   try clear hcz8_2
   try clear hfz12_0
   try clear hfz12_1
   try clear hfz12_2
   try clear hfz16_0
   try clear hfz16_1
   try clear hfz17_0
   try clear hfz17_1
   try clear hfz17_2
   try clear hfz8_0
   try clear hfz8_1
   try clear hfz8_2
   obtain ⟨x6_1, x8_1, rfl, HA, HK1, HO_6, BK447, BK454, HB⟩ := hrel
   cases gk with
   | zero => exact absurd HA.out (by simp [impl_BestPlay.l0])
   | succ k1 =>
    have H := HA.out
    clear HA
    simp only [impl_BestPlay.l0] at H
    replace H := ob_.mp H
    obtain ⟨t456, A190, H⟩ := H
    have A19 := A0_ A190
    clear A190
    by_cases c20 : (t456.length : Int) = 0
    ·rw [if_pos c20] at H
     have c20b0 : ((t456.length : Int) == 0) = true := beq_iff_eq.mpr c20
     have c20b1 : ((t456.length : Int) != 0) = false := bne_eq_false_iff_eq.mpr c20
     clear c20
     simp only [sj_, pj_] at H
     obtain ⟨rfl, rfl⟩ := H
     have hnb21 := NB454_447.out
     have hnc21 := NB447_454.out
     have hcz22_0 : wr.cell? ⟨gb454, 0, none⟩ = some (.int .i64 t452) := (kc_ BK454.out 0).trans rfl
     have hcz22_1 : wr.cell? ⟨gb454, 1, none⟩ = some (.bool t453) := (kc_ BK454.out 1).trans rfl
     have hfz22_0 := kf_ BK454.out 0
     have hfz22_1 := kf_ BK454.out 1
     go_wp2_with (first | ((with_reducible refine gc_ (f := 52) rfl ?_); refine goesL_ (some 24) rfl rfl Try.func52 (by kernel_rfl) rfl #[.agg #[.int .i64 t452, .bool t453], .int .u32 x8_1, .int .i64 a1] rfl (by (try simp only [ma_, mc_, mn_]); first | done | rfl | (simp only [ld_, lt_]; rfl)) ?_; (with_reducible refine (impl_bench_moves.calls k1 t452 t453 x8_1 a1 t456 _ A19.out).mono ?_); rintro e w23 ⟨v457, rfl, ho0, hb⟩; refine ⟨_, rfl, ?_⟩; have n0_ := A0_ (Kd.R_elder' (by (with_reducible repeat (first | apply ra_ | apply rn_ | apply rd_)); exact HO_6.out) (Kd.R_base ho0) hb); have n1_ := A0_ (Kd.R_lower (Kd.R_new' ho0 (Kd.R_lt (by (with_reducible repeat (first | apply ra_ | apply rn_ | apply rd_)); exact HO_6.out))) (bz_ (by repeat (first | exact HB.out | apply ba_ | apply bn_ | apply bd_ | refine bs_ ?_ GE447.out | refine bs_ ?_ GE454.out)))); have n2_ := A0_ (kb_ (g := gb447) (o := .cells #[.int .i64 a0_0, .bool a0_1, .slice A0_2 l0_2.length c0_2] 32 (0, 0)) (by (with_reducible repeat (first | apply kn_ | apply kd_ | apply ka_)); exact BK447.out) hb); have n3_ := A0_ (kb_ (g := gb454) (o := .cells #[.int .i64 t452, .bool t453] 57 (0, 0)) (by (with_reducible repeat (first | apply kn_ | apply kd_ | apply ka_)); exact BK454.out) hb); have n4_ := A0_ (bt_ (by repeat (first | exact HB.out | apply ba_ | apply bn_ | apply bd_ | refine bs_ ?_ GE447.out | refine bs_ ?_ GE454.out)) hb); clear HO_6 BK447 BK454 HB; have HO_6 := n0_; have HO458 := n1_; have BK447 := n2_; have BK454 := n3_; have HB := n4_; clear n0_ n1_ n2_ n3_ n4_; (try clear hb); (try clear ho0); obtain ⟨Ao24, co24, eo24⟩ := Kd.R_slice HO458.out; subst eo24))
     go_ret2
     exact ⟨_, by first | rfl | (simp [*, errW_none, errW_some] <;> rfl), by (with_reducible repeat (first | apply ra_ | apply rn_ | apply rd_)); exact Kd.R_mono HO_6.out (fun _ hk => trivial), by repeat (first | exact HB.out | apply ba_ | apply bn_ | apply bd_ | refine bs_ ?_ GE447.out | refine bs_ ?_ GE454.out)⟩
    ·rw [if_neg c20] at H
     have c20b0 : ((t456.length : Int) == 0) = false := beq_eq_false_iff_ne.mpr c20
     have c20b1 : ((t456.length : Int) != 0) = true := bne_iff_ne.mpr c20
     have c20b2 : ¬ (t456 = []) := fun h_ => c20 (by rw [h_]; rfl)
     by_cases c25 : 0 < (t456.length : Int)
     ·rw [if_pos c25] at H
      have c25b0 : decide (0 < (t456.length : Int)) = true := dt_ c25
      have c25b1 : decide (0 < t456.length) = true := dt_ (by omega)
      clear c25
      replace H := ob_.mp H
      obtain ⟨t460, A260, H⟩ := H
      have A26 := A0_ A260
      clear A260
      by_cases c27 : (t460.length : Int) > 0
      ·rw [if_pos c27] at H
       have c27b0 : decide (0 < (t460.length : Int)) = true := dt_ c27
       have c27b1 : decide (0 < t460.length) = true := dt_ (by omega)
       clear c27
       by_cases c28 : 0 < (t460.length : Int)
       ·rw [if_pos c28] at H
        have c28b0 : decide (0 < (t460.length : Int)) = true := dt_ c28
        have c28b1 : decide (0 < t460.length) = true := dt_ (by omega)
        clear c28
        by_cases c29 : x6_1.length < 17592186044416
        ·rw [if_pos c29] at H
         have LMc29 := A0_ c29
         clear c29
         obtain ⟨y464, hy464⟩ : ∃ y_ : List Int, y_ = (x6_1 ++ [rd t460 0]) := ⟨_, rfl⟩
         replace H : ((impl_bench_behind.f k1 t452 t453 x8_1 a1 (rd t460 0)).bind fun t467 => (impl_BestPlay.l0 k1 a1 y464 t467 t452 t453)) = some (r1, r2) := by first | (rw [hy464]; with_reducible exact H) | (have H2_ := (Option.bind_some _ _).symm.trans H; rw [hy464]; with_reducible exact H2_) | (have H2_ := (Option.bind_some _ _).symm.trans H; with_reducible exact H2_) | with_reducible exact H | (rw [hy464]; exact H) | exact H
         have Ny464 := A0_ hy464
         clear hy464
         replace H := ob_.mp H
         obtain ⟨t467, A300, H⟩ := H
         have A30 := A0_ A300
         clear A300
         have H' := A0_ H
         clear H
         have hnb31 := NB454_447.out
         have hnc31 := NB447_454.out
         have hcz32_0 : wr.cell? ⟨gb454, 0, none⟩ = some (.int .i64 t452) := (kc_ BK454.out 0).trans rfl
         have hcz32_1 : wr.cell? ⟨gb454, 1, none⟩ = some (.bool t453) := (kc_ BK454.out 1).trans rfl
         have hfz32_0 := kf_ BK454.out 0
         have hfz32_1 := kf_ BK454.out 1
         try go_wp2_with (first | ((with_reducible refine gc_ (f := 52) rfl ?_); refine goesL_ (some 24) rfl rfl Try.func52 (by kernel_rfl) rfl #[.agg #[.int .i64 t452, .bool t453], .int .u32 x8_1, .int .i64 a1] rfl (by (try simp only [ma_, mc_, mn_]); first | done | rfl | (simp only [ld_, lt_]; rfl)) ?_; (with_reducible refine (impl_bench_moves.calls k1 t452 t453 x8_1 a1 t456 _ A19.out).mono ?_); rintro e w33 ⟨v457, rfl, ho0, hb⟩; refine ⟨_, rfl, ?_⟩; have n0_ := A0_ (Kd.R_elder' (by (with_reducible repeat (first | apply ra_ | apply rn_ | apply rd_)); exact HO_6.out) (Kd.R_base ho0) hb); have n1_ := A0_ (Kd.R_lower (Kd.R_new' ho0 (Kd.R_lt (by (with_reducible repeat (first | apply ra_ | apply rn_ | apply rd_)); exact HO_6.out))) (bz_ (by repeat (first | exact HB.out | apply ba_ | apply bn_ | apply bd_ | refine bs_ ?_ GE447.out | refine bs_ ?_ GE454.out)))); have n2_ := A0_ (kb_ (g := gb447) (o := .cells #[.int .i64 a0_0, .bool a0_1, .slice A0_2 l0_2.length c0_2] 32 (0, 0)) (by (with_reducible repeat (first | apply kn_ | apply kd_ | apply ka_)); exact BK447.out) hb); have n3_ := A0_ (kb_ (g := gb454) (o := .cells #[.int .i64 t452, .bool t453] 57 (0, 0)) (by (with_reducible repeat (first | apply kn_ | apply kd_ | apply ka_)); exact BK454.out) hb); have n4_ := A0_ (bt_ (by repeat (first | exact HB.out | apply ba_ | apply bn_ | apply bd_ | refine bs_ ?_ GE447.out | refine bs_ ?_ GE454.out)) hb); clear HO_6 BK447 BK454 HB; have HO_6 := n0_; have HO458 := n1_; have BK447 := n2_; have BK454 := n3_; have HB := n4_; clear n0_ n1_ n2_ n3_ n4_; (try clear hb); (try clear ho0); obtain ⟨Ao34, co34, eo34⟩ := Kd.R_slice HO458.out; subst eo34; have p459 : 0 ≤ (0 : Int) := (by omega); have q459 : 0 < (t456.length : Int) := od_ (by first | (with_reducible assumption) | assumption); obtain ⟨ad459, e459, hx459_0⟩ := Kd.at_int (rr_ HO458.out).2.2 0 p459 q459; cases e459; have qi459 : (0 < t456.length) = True := eq_true (by omega); (try rw [show ((0 : Int)).toNat = 0 from rfl] at hx459_0); (try rw [Addr.add_zero'] at hx459_0); replace p459 := eq_true p459; replace q459 := eq_true q459; have hcz35_0 : w33.cell? ⟨gb454, 0, none⟩ = some (.int .i64 t452) := (kc_ BK454.out 0).trans rfl; have hcz35_1 : w33.cell? ⟨gb454, 1, none⟩ = some (.bool t453) := (kc_ BK454.out 1).trans rfl; have hfz35_0 := kf_ BK454.out 0; have hfz35_1 := kf_ BK454.out 1) | ((with_reducible refine gc_ (f := 66) rfl ?_); refine goesL_ (some 35) rfl rfl Try.func66 (by kernel_rfl) rfl #[.agg #[.int .i64 t452, .bool t453], .int .u32 x8_1, .int .i64 a1] rfl (by (try simp only [ma_, mc_, mn_]); first | done | rfl | (simp only [ld_, lt_]; rfl)) ?_; (with_reducible refine (impl_bench_winMoves.calls k1 t452 t453 x8_1 a1 t460 _ A26.out).mono ?_); rintro e w36 ⟨v461, rfl, ho0, hb⟩; refine ⟨_, rfl, ?_⟩; have n0_ := A0_ (Kd.R_elder' (by (with_reducible repeat (first | apply ra_ | apply rn_ | apply rd_)); exact HO_6.out) (Kd.R_base ho0) hb); have n1_ := A0_ (Kd.R_elder' (by (with_reducible repeat (first | apply ra_ | apply rn_ | apply rd_)); exact HO458.out) (Kd.R_base ho0) hb); have n2_ := A0_ (Kd.R_lower (Kd.R_new' (Kd.R_new' ho0 (Kd.R_lt (by (with_reducible repeat (first | apply ra_ | apply rn_ | apply rd_)); exact HO_6.out))) (Kd.R_lt (by (with_reducible repeat (first | apply ra_ | apply rn_ | apply rd_)); exact HO458.out))) (bz_ (by repeat (first | exact HB.out | apply ba_ | apply bn_ | apply bd_ | refine bs_ ?_ GE447.out | refine bs_ ?_ GE454.out)))); have n3_ := A0_ (kb_ (g := gb447) (o := .cells #[.int .i64 a0_0, .bool a0_1, .slice A0_2 l0_2.length c0_2] 32 (0, 0)) (by (with_reducible repeat (first | apply kn_ | apply kd_ | apply ka_)); exact BK447.out) hb); have n4_ := A0_ (kb_ (g := gb454) (o := .cells #[.int .i64 t452, .bool t453] 57 (0, 0)) (by (with_reducible repeat (first | apply kn_ | apply kd_ | apply ka_)); exact BK454.out) hb); have n5_ := A0_ (bt_ (by repeat (first | exact HB.out | apply ba_ | apply bn_ | apply bd_ | refine bs_ ?_ GE447.out | refine bs_ ?_ GE454.out)) hb); clear HO_6 HO458 BK447 BK454 HB; have HO_6 := n0_; have HO458 := n1_; have HO462 := n2_; have BK447 := n3_; have BK454 := n4_; have HB := n5_; clear n0_ n1_ n2_ n3_ n4_ n5_; (try clear hb); (try clear ho0); obtain ⟨Ao37, co37, eo37⟩ := Kd.R_slice HO462.out; subst eo37; have p463 : 0 ≤ (0 : Int) := (by omega); have q463 : 0 < (t460.length : Int) := od_ (by first | (with_reducible assumption) | assumption); obtain ⟨ad463, e463, hx463_0⟩ := Kd.at_int (rr_ HO462.out).2.2 0 p463 q463; cases e463; have qi463 : (0 < t460.length) = True := eq_true (by omega); (try rw [show ((0 : Int)).toNat = 0 from rfl] at hx463_0); (try rw [Addr.add_zero'] at hx463_0); replace p463 := eq_true p463; replace q463 := eq_true q463))
         have n0_ := A0_ (rd_ HO_6.out)
         have n1_ := A0_ (rd_ HO458.out)
         have n2_ := A0_ (rd_ HO462.out)
         have n3_ := A0_ (kd_ BK447.out)
         have n4_ := A0_ (kd_ BK454.out)
         have n5_ := A0_ (bd_ HB.out)
         clear HO_6
         clear HO458
         clear HO462
         clear BK447
         clear BK454
         clear HB
         have HO_6 := n0_
         have HO458 := n1_
         have HO462 := n2_
         have BK447 := n3_
         have BK454 := n4_
         have HB := n5_
         clear n0_ n1_ n2_ n3_ n4_ n5_
         refine start_ (n := 11) (S := fun w' => w'.cell? ⟨gb454, 0, none⟩ = some (.int .i64 t452) ∧ w'.cell? ⟨gb454, 1, none⟩ = some (.bool t453)) (ds := []) #[false, false, false, false, false, false, false, false, false, false, false] (by kernel_rfl) rfl rfl ⟨(kc_ BK454.out 0).trans rfl, (kc_ BK454.out 1).trans rfl⟩ (fun hHeld => ?_); refine with_tabW impl_BestPlay.tab12 impl_BestPlay.bits12 (fun HT_ HW_ => ?_)
         generalize w36.drew = w38 at HO_6 HO458 HO462 BK447 BK454 HB hHeld ⊢
         refine pure_ (i := 0) (N := some 42) (v := ?_) (a' := ?_) #[true, false, false, false, false, false, false, false, false, false, false] rfl rfl (any_of HT_.out (by kernel_rfl)) (fun _ _ _ h => h) (Or.inl ⟨by rfl, ?_⟩) ?_ ?_
         rotate_left
         ·intro w'
          go_simp
          with_reducible rfl
         rotate_left
         ·simp only [Act.put, sa_, sz_, ss_, i64_w, i32_w]
          rfl
         refine pure_ (i := 1) (N := some 43) (v := ?_) (a' := ?_) #[true, true, false, false, false, false, false, false, false, false, false] rfl rfl (any_of HT_.out (by kernel_rfl)) (fun _ _ _ h => h) (Or.inl ⟨by rfl, ?_⟩) ?_ ?_
         rotate_left
         ·intro w'
          go_simp
          with_reducible rfl
         rotate_left
         ·simp only [Act.put, sa_, sz_, ss_, i64_w, i32_w]
          rfl
         refine pure_ (i := 5) (N := some 47) (v := ?_) (a' := ?_) #[true, true, false, false, false, true, false, false, false, false, false] rfl rfl (any_of HT_.out (by kernel_rfl)) (fun _ _ _ h => h) (Or.inl ⟨by rfl, ?_⟩) ?_ ?_
         rotate_left
         ·intro w'
          go_simp
          with_reducible rfl
         rotate_left
         ·simp only [Act.put, sa_, sz_, ss_, i64_w, i32_w]
          rfl
         refine pure_ (i := 6) (N := some 48) (v := ?_) (a' := ?_) #[true, true, false, false, false, true, true, false, false, false, false] rfl rfl (any_of HT_.out (by kernel_rfl)) (fun _ _ _ h => h) (Or.inl ⟨by rfl, ?_⟩) ?_ ?_
         rotate_left
         ·intro w'
          go_simp
          with_reducible rfl
         rotate_left
         ·simp only [Act.put, sa_, sz_, ss_, i64_w, i32_w]
          rfl
         refine pure_ (i := 7) (N := some 49) (v := ?_) (a' := ?_) #[true, true, false, false, false, true, true, true, false, false, false] rfl rfl (any_of HT_.out (by kernel_rfl)) (fun _ _ _ h => h) (Or.inl ⟨by rfl, ?_⟩) ?_ ?_
         rotate_left
         ·intro w'
          go_simp
          with_reducible rfl
         rotate_left
         ·simp only [Act.put, sa_, sz_, ss_, i64_w, i32_w]
          rfl
         refine take_ (i := 4) (N := some 46) (v := ?_) (a' := ?_) #[true, true, false, false, true, true, true, true, false, false, false] rfl rfl (take_ofW HT_.out HW_.out (by kernel_rfl)) (fun _ _ _ h => h) (Or.inl ⟨by rfl, ?_⟩) hHeld ?_ ?_
         rotate_left
         ·rintro w' ⟨s0, s1⟩
          go_simp
          with_reducible rfl
         rotate_left
         ·simp only [Act.put, sa_, sz_, ss_, i64_w, i32_w]
          rfl
         refine one_ (i := 2) (N := some 44) #[true, true, true, false, true, true, true, true, false, false, false] rfl rfl (one_of HT_.out (by kernel_rfl)) (by decide) (fun K hK => ?_)
         refine value_ (w1 := ?_) (v := ?_) (by rfl) rfl ?_ ?_
         rotate_left 2
         ·go_simp
          constructor
          ·rfl
          ·rfl
         refine hK.out _ _ ⟨(kc_ (ka_ BK454.out _) 0).trans rfl, (kc_ (ka_ BK454.out _) 1).trans rfl⟩ (fun hHeld => ?_)
         clear hK K
         refine norm_ (a' := ?_) ?_ ?_
         rotate_left
         ·show Act.put _ (some 44) _ = _
          simp only [Act.put, sa_, sz_, ss_, i64_w, i32_w]
          rfl
         refine one_ (i := 3) (N := some 45) #[true, true, true, true, true, true, true, true, false, false, false] rfl rfl (one_of HT_.out (by kernel_rfl)) (by decide) (fun K hK => ?_)
         refine Kd.R_append_step (Kd.int .i64) (w0 := w) w.heap.size (by rfl) (.tmp 42) (.tmp 44) 22 3 (.int .i64 0) 8 rfl Try.underlying22 info3 rfl (by decide) (by omega) u6 x6_1 (rd t460 0) [.int .i64 (rd t460 0)] (fun k_ => some k_ ≠ (.slice (some ad459) t456.length co34 : Value).ownBlock ∧ some k_ ≠ (.slice (some ad463) t460.length co37 : Value).ownBlock) (fun _ => False) rfl rfl ?aP (fun _ hk => hk.elim) ?aF ?aO ?aB ?aS ?aL ?_
         (case aP => exact rfl)
         (case aB => exact (by repeat (first | exact HB.out | apply ba_ | apply bn_ | apply bd_ | refine bs_ ?_ GE447.out | refine bs_ ?_ GE454.out)))
         (case aF => exact (fun k_ hk => ⟨Kd.fresh' (Kd.R_lt (by (with_reducible repeat (first | apply ra_ | apply rn_ | apply rd_)); exact HO458.out)) k_ hk, Kd.fresh' (Kd.R_lt (by (with_reducible repeat (first | apply ra_ | apply rn_ | apply rd_)); exact HO462.out)) k_ hk⟩))
         (case aO => exact (by (with_reducible repeat (first | apply ra_ | apply rn_ | apply rd_)); exact Kd.R_mono HO_6.out (fun _ hk => ⟨hk.1.2, hk.2⟩)))
         (case aS => exact (bz_ (by repeat (first | exact HB.out | apply ba_ | apply bn_ | apply bd_ | refine bs_ ?_ GE447.out | refine bs_ ?_ GE454.out))))
         (case aL => have := LMc29.out; omega)
         intro v465 w39 ho hb hg hat
         rw [← Ny464.out] at ho
         have n0_ := A0_ (blk_grown (g := gb447) (o := .cells #[.int .i64 a0_0, .bool a0_1, .slice A0_2 l0_2.length c0_2] 32 (0, 0)) (by (with_reducible repeat (first | apply kn_ | apply kd_ | apply ka_)); exact BK447.out) hg (Kd.R_ne HO_6.out BK447.out (by decide)))
         have n1_ := A0_ (blk_grown (g := gb454) (o := .cells #[.int .i64 t452, .bool t453] 57 (0, 0)) (by (with_reducible repeat (first | apply kn_ | apply kd_ | apply ka_)); exact BK454.out) hg (Kd.R_ne HO_6.out BK454.out (by decide)))
         have n2_ := A0_ (Kd.R_after (ok := (fun k_ => some k_ ≠ (.slice (some ad463) t460.length co37 : Value).ownBlock)) (by (with_reducible repeat (first | apply ra_ | apply rn_ | apply rd_)); exact Kd.R_mono HO458.out (fun _ hk => ⟨hk.2, hk.1.2⟩)) hg hat)
         have n3_ := A0_ (Kd.R_after (ok := (fun k_ => some k_ ≠ (.slice (some ad459) t456.length co34 : Value).ownBlock)) (by (with_reducible repeat (first | apply ra_ | apply rn_ | apply rd_)); exact Kd.R_mono HO462.out (fun _ hk => ⟨hk.2, hk.1.2⟩)) hg hat)
         have n4_ := A0_ (hb)
         have n5_ := A0_ (ho)
         clear BK447
         clear BK454
         clear HO458
         clear HO462
         clear HB
         clear HO_6
         have BK447 := n0_
         have BK454 := n1_
         have HO458 := n2_
         have HO462 := n3_
         have HB := n4_
         have HO466 := n5_
         clear n0_ n1_ n2_ n3_ n4_ n5_
         clear ho hb hg hat
         refine hK.out _ _ ⟨(kc_ BK454.out 0).trans rfl, (kc_ BK454.out 1).trans rfl⟩ (fun hHeld => ?_)
         clear hK K
         refine norm_ (a' := ?_) ?_ ?_
         rotate_left
         ·show Act.put _ (some 45) _ = _
          simp only [Act.put, sa_, sz_, ss_, i64_w, i32_w]
          rfl
         refine one_ (i := 8) (N := some 50) #[true, true, true, true, true, true, true, true, true, false, false] rfl rfl (one_of HT_.out (by kernel_rfl)) (by decide) (fun K hK => ?_)
         refine goes_ Try.func61 (by kernel_rfl) rfl #[.agg #[.int .i64 t452, .bool t453], .int .u32 x8_1, .int .i64 a1, .int .i64 (rd t460 0)] (by rfl) rfl rfl (by (try simp only [ma_, mc_, mn_]); first | done | rfl | (simp only [ld_, lt_]; rfl)) ?_
         with_reducible refine (impl_bench_behind.calls k1 t452 t453 x8_1 a1 (rd t460 0) t467 _ A30.out).mono ?_
         rintro e w40 ⟨rfl, hb⟩
         refine ⟨_, rfl, ?_⟩
         have n0_ := A0_ (Kd.R_below (by (with_reducible repeat (first | apply ra_ | apply rn_ | apply rd_)); exact HO458.out) hb)
         have n1_ := A0_ (Kd.R_below (by (with_reducible repeat (first | apply ra_ | apply rn_ | apply rd_)); exact HO462.out) hb)
         have n2_ := A0_ (Kd.R_below (by (with_reducible repeat (first | apply ra_ | apply rn_ | apply rd_)); exact HO466.out) hb)
         have n3_ := A0_ (kb_ (g := gb447) (o := .cells #[.int .i64 a0_0, .bool a0_1, .slice A0_2 l0_2.length c0_2] 32 (0, 0)) (by (with_reducible repeat (first | apply kn_ | apply kd_ | apply ka_)); exact BK447.out) hb)
         have n4_ := A0_ (kb_ (g := gb454) (o := .cells #[.int .i64 t452, .bool t453] 57 (0, 0)) (by (with_reducible repeat (first | apply kn_ | apply kd_ | apply ka_)); exact BK454.out) hb)
         have n5_ := A0_ (bt_ (by repeat (first | exact HB.out | apply ba_ | apply bn_ | apply bd_ | refine bs_ ?_ GE447.out | refine bs_ ?_ GE454.out)) hb)
         clear HO458
         clear HO462
         clear HO466
         clear BK447
         clear BK454
         clear HB
         have HO458 := n0_
         have HO462 := n1_
         have HO466 := n2_
         have BK447 := n3_
         have BK454 := n4_
         have HB := n5_
         clear n0_ n1_ n2_ n3_ n4_ n5_
         (try clear hb)
         (try clear hb2)
         (try clear hk)
         (try clear hi)
         refine hK.out _ _ ⟨(kc_ BK454.out 0).trans rfl, (kc_ BK454.out 1).trans rfl⟩ (fun hHeld => ?_)
         clear hK K
         refine norm_ (a' := ?_) ?_ ?_
         rotate_left
         ·show Act.put _ (some 50) _ = _
          simp only [Act.put, sa_, sz_, ss_, i64_w, i32_w]
          rfl
         refine pure_ (i := 9) (N := some 6) (v := ?_) (a' := ?_) #[true, true, true, true, true, true, true, true, true, true, false] rfl rfl (any_of HT_.out (by kernel_rfl)) (fun _ _ _ h => h) (Or.inl ⟨by rfl, ?_⟩) ?_ ?_
         rotate_left
         ·intro w'
          go_simp
          with_reducible rfl
         rotate_left
         ·simp only [Act.put, sa_, sz_, ss_, i64_w, i32_w]
          rfl
         refine pure_ (i := 10) (N := some 8) (v := ?_) (a' := ?_) #[true, true, true, true, true, true, true, true, true, true, true] rfl rfl (any_of HT_.out (by kernel_rfl)) (fun _ _ _ h => h) (Or.inl ⟨by rfl, ?_⟩) ?_ ?_
         rotate_left
         ·intro w'
          go_simp
          with_reducible rfl
         rotate_left
         ·simp only [Act.put, sa_, sz_, ss_, i64_w, i32_w]
          rfl
         refine done_ (done_of HT_.out (by kernel_rfl)) ?_
         try go_wp2
         go_roundg k1
         case measure => have := HK1.out; omega
         case rel => exact ⟨(y464), (t467), (by first | rfl | (simp [*]; done)), H', ⟨by have := HK1.out; omega⟩, ⟨by (with_reducible repeat (first | apply ra_ | apply rn_ | apply rd_)); exact Kd.R_mono HO466.out (fun _ hk => trivial)⟩, ⟨by (with_reducible repeat (first | apply kn_ | apply kd_ | apply ka_)); exact BK447.out⟩, ⟨by (with_reducible repeat (first | apply kn_ | apply kd_ | apply ka_)); exact BK454.out⟩, ⟨by repeat (first | exact HB.out | apply ba_ | apply bn_ | apply bd_ | refine bs_ ?_ GE447.out | refine bs_ ?_ GE454.out)⟩⟩
        ·rw [if_neg c29] at H
         exact absurd H (by simp)
       ·rw [if_neg c28] at H
        exact absurd H (by simp)
      ·rw [if_neg c27] at H
       have c27b0 : decide (0 < (t460.length : Int)) = false := decide_eq_false c27
       have c27b1 : decide (0 < t460.length) = false := decide_eq_false (by omega)
       clear c27
       by_cases c41 : x6_1.length < 17592186044416
       ·rw [if_pos c41] at H
        have LMc41 := A0_ c41
        clear c41
        obtain ⟨y468, hy468⟩ : ∃ y_ : List Int, y_ = (x6_1 ++ [rd t456 0]) := ⟨_, rfl⟩
        replace H : ((impl_bench_behind.f k1 t452 t453 x8_1 a1 (rd t456 0)).bind fun t471 => (impl_BestPlay.l0 k1 a1 y468 t471 t452 t453)) = some (r1, r2) := by first | (rw [hy468]; with_reducible exact H) | (have H2_ := (Option.bind_some _ _).symm.trans H; rw [hy468]; with_reducible exact H2_) | (have H2_ := (Option.bind_some _ _).symm.trans H; with_reducible exact H2_) | with_reducible exact H | (rw [hy468]; exact H) | exact H
        have Ny468 := A0_ hy468
        clear hy468
        replace H := ob_.mp H
        obtain ⟨t471, A420, H⟩ := H
        have A42 := A0_ A420
        clear A420
        have H' := A0_ H
        clear H
        have hnb43 := NB454_447.out
        have hnc43 := NB447_454.out
        have hcz44_0 : wr.cell? ⟨gb454, 0, none⟩ = some (.int .i64 t452) := (kc_ BK454.out 0).trans rfl
        have hcz44_1 : wr.cell? ⟨gb454, 1, none⟩ = some (.bool t453) := (kc_ BK454.out 1).trans rfl
        have hfz44_0 := kf_ BK454.out 0
        have hfz44_1 := kf_ BK454.out 1
        try go_wp2_with (first | ((with_reducible refine gc_ (f := 52) rfl ?_); refine goesL_ (some 24) rfl rfl Try.func52 (by kernel_rfl) rfl #[.agg #[.int .i64 t452, .bool t453], .int .u32 x8_1, .int .i64 a1] rfl (by (try simp only [ma_, mc_, mn_]); first | done | rfl | (simp only [ld_, lt_]; rfl)) ?_; (with_reducible refine (impl_bench_moves.calls k1 t452 t453 x8_1 a1 t456 _ A19.out).mono ?_); rintro e w45 ⟨v457, rfl, ho0, hb⟩; refine ⟨_, rfl, ?_⟩; have n0_ := A0_ (Kd.R_elder' (by (with_reducible repeat (first | apply ra_ | apply rn_ | apply rd_)); exact HO_6.out) (Kd.R_base ho0) hb); have n1_ := A0_ (Kd.R_lower (Kd.R_new' ho0 (Kd.R_lt (by (with_reducible repeat (first | apply ra_ | apply rn_ | apply rd_)); exact HO_6.out))) (bz_ (by repeat (first | exact HB.out | apply ba_ | apply bn_ | apply bd_ | refine bs_ ?_ GE447.out | refine bs_ ?_ GE454.out)))); have n2_ := A0_ (kb_ (g := gb447) (o := .cells #[.int .i64 a0_0, .bool a0_1, .slice A0_2 l0_2.length c0_2] 32 (0, 0)) (by (with_reducible repeat (first | apply kn_ | apply kd_ | apply ka_)); exact BK447.out) hb); have n3_ := A0_ (kb_ (g := gb454) (o := .cells #[.int .i64 t452, .bool t453] 57 (0, 0)) (by (with_reducible repeat (first | apply kn_ | apply kd_ | apply ka_)); exact BK454.out) hb); have n4_ := A0_ (bt_ (by repeat (first | exact HB.out | apply ba_ | apply bn_ | apply bd_ | refine bs_ ?_ GE447.out | refine bs_ ?_ GE454.out)) hb); clear HO_6 BK447 BK454 HB; have HO_6 := n0_; have HO458 := n1_; have BK447 := n2_; have BK454 := n3_; have HB := n4_; clear n0_ n1_ n2_ n3_ n4_; (try clear hb); (try clear ho0); obtain ⟨Ao46, co46, eo46⟩ := Kd.R_slice HO458.out; subst eo46; have p459 : 0 ≤ (0 : Int) := (by omega); have q459 : 0 < (t456.length : Int) := od_ (by first | (with_reducible assumption) | assumption); obtain ⟨ad459, e459, hx459_0⟩ := Kd.at_int (rr_ HO458.out).2.2 0 p459 q459; cases e459; have qi459 : (0 < t456.length) = True := eq_true (by omega); (try rw [show ((0 : Int)).toNat = 0 from rfl] at hx459_0); (try rw [Addr.add_zero'] at hx459_0); replace p459 := eq_true p459; replace q459 := eq_true q459; have hcz47_0 : w45.cell? ⟨gb454, 0, none⟩ = some (.int .i64 t452) := (kc_ BK454.out 0).trans rfl; have hcz47_1 : w45.cell? ⟨gb454, 1, none⟩ = some (.bool t453) := (kc_ BK454.out 1).trans rfl; have hfz47_0 := kf_ BK454.out 0; have hfz47_1 := kf_ BK454.out 1) | ((with_reducible refine gc_ (f := 66) rfl ?_); refine goesL_ (some 35) rfl rfl Try.func66 (by kernel_rfl) rfl #[.agg #[.int .i64 t452, .bool t453], .int .u32 x8_1, .int .i64 a1] rfl (by (try simp only [ma_, mc_, mn_]); first | done | rfl | (simp only [ld_, lt_]; rfl)) ?_; (with_reducible refine (impl_bench_winMoves.calls k1 t452 t453 x8_1 a1 t460 _ A26.out).mono ?_); rintro e w48 ⟨v461, rfl, ho0, hb⟩; refine ⟨_, rfl, ?_⟩; have n0_ := A0_ (Kd.R_elder' (by (with_reducible repeat (first | apply ra_ | apply rn_ | apply rd_)); exact HO_6.out) (Kd.R_base ho0) hb); have n1_ := A0_ (Kd.R_elder' (by (with_reducible repeat (first | apply ra_ | apply rn_ | apply rd_)); exact HO458.out) (Kd.R_base ho0) hb); have n2_ := A0_ (Kd.R_lower (Kd.R_new' (Kd.R_new' ho0 (Kd.R_lt (by (with_reducible repeat (first | apply ra_ | apply rn_ | apply rd_)); exact HO_6.out))) (Kd.R_lt (by (with_reducible repeat (first | apply ra_ | apply rn_ | apply rd_)); exact HO458.out))) (bz_ (by repeat (first | exact HB.out | apply ba_ | apply bn_ | apply bd_ | refine bs_ ?_ GE447.out | refine bs_ ?_ GE454.out)))); have n3_ := A0_ (kb_ (g := gb447) (o := .cells #[.int .i64 a0_0, .bool a0_1, .slice A0_2 l0_2.length c0_2] 32 (0, 0)) (by (with_reducible repeat (first | apply kn_ | apply kd_ | apply ka_)); exact BK447.out) hb); have n4_ := A0_ (kb_ (g := gb454) (o := .cells #[.int .i64 t452, .bool t453] 57 (0, 0)) (by (with_reducible repeat (first | apply kn_ | apply kd_ | apply ka_)); exact BK454.out) hb); have n5_ := A0_ (bt_ (by repeat (first | exact HB.out | apply ba_ | apply bn_ | apply bd_ | refine bs_ ?_ GE447.out | refine bs_ ?_ GE454.out)) hb); clear HO_6 HO458 BK447 BK454 HB; have HO_6 := n0_; have HO458 := n1_; have HO462 := n2_; have BK447 := n3_; have BK454 := n4_; have HB := n5_; clear n0_ n1_ n2_ n3_ n4_ n5_; (try clear hb); (try clear ho0); obtain ⟨Ao49, co49, eo49⟩ := Kd.R_slice HO462.out; subst eo49))
        have n0_ := A0_ (rd_ HO_6.out)
        have n1_ := A0_ (rd_ HO458.out)
        have n2_ := A0_ (rd_ HO462.out)
        have n3_ := A0_ (kd_ BK447.out)
        have n4_ := A0_ (kd_ BK454.out)
        have n5_ := A0_ (bd_ HB.out)
        clear HO_6
        clear HO458
        clear HO462
        clear BK447
        clear BK454
        clear HB
        have HO_6 := n0_
        have HO458 := n1_
        have HO462 := n2_
        have BK447 := n3_
        have BK454 := n4_
        have HB := n5_
        clear n0_ n1_ n2_ n3_ n4_ n5_
        refine start_ (n := 11) (S := fun w' => w'.cell? ⟨gb454, 0, none⟩ = some (.int .i64 t452) ∧ w'.cell? ⟨gb454, 1, none⟩ = some (.bool t453)) (ds := []) #[false, false, false, false, false, false, false, false, false, false, false] (by kernel_rfl) rfl rfl ⟨(kc_ BK454.out 0).trans rfl, (kc_ BK454.out 1).trans rfl⟩ (fun hHeld => ?_); refine with_tabW impl_BestPlay.tab12 impl_BestPlay.bits12 (fun HT_ HW_ => ?_)
        generalize w48.drew = w50 at HO_6 HO458 HO462 BK447 BK454 HB hHeld ⊢
        refine pure_ (i := 0) (N := some 42) (v := ?_) (a' := ?_) #[true, false, false, false, false, false, false, false, false, false, false] rfl rfl (any_of HT_.out (by kernel_rfl)) (fun _ _ _ h => h) (Or.inl ⟨by rfl, ?_⟩) ?_ ?_
        rotate_left
        ·intro w'
         go_simp
         with_reducible rfl
        rotate_left
        ·simp only [Act.put, sa_, sz_, ss_, i64_w, i32_w]
         rfl
        refine pure_ (i := 1) (N := some 43) (v := ?_) (a' := ?_) #[true, true, false, false, false, false, false, false, false, false, false] rfl rfl (any_of HT_.out (by kernel_rfl)) (fun _ _ _ h => h) (Or.inl ⟨by rfl, ?_⟩) ?_ ?_
        rotate_left
        ·intro w'
         go_simp
         with_reducible rfl
        rotate_left
        ·simp only [Act.put, sa_, sz_, ss_, i64_w, i32_w]
         rfl
        refine pure_ (i := 5) (N := some 47) (v := ?_) (a' := ?_) #[true, true, false, false, false, true, false, false, false, false, false] rfl rfl (any_of HT_.out (by kernel_rfl)) (fun _ _ _ h => h) (Or.inl ⟨by rfl, ?_⟩) ?_ ?_
        rotate_left
        ·intro w'
         go_simp
         with_reducible rfl
        rotate_left
        ·simp only [Act.put, sa_, sz_, ss_, i64_w, i32_w]
         rfl
        refine pure_ (i := 6) (N := some 48) (v := ?_) (a' := ?_) #[true, true, false, false, false, true, true, false, false, false, false] rfl rfl (any_of HT_.out (by kernel_rfl)) (fun _ _ _ h => h) (Or.inl ⟨by rfl, ?_⟩) ?_ ?_
        rotate_left
        ·intro w'
         go_simp
         with_reducible rfl
        rotate_left
        ·simp only [Act.put, sa_, sz_, ss_, i64_w, i32_w]
         rfl
        refine pure_ (i := 7) (N := some 49) (v := ?_) (a' := ?_) #[true, true, false, false, false, true, true, true, false, false, false] rfl rfl (any_of HT_.out (by kernel_rfl)) (fun _ _ _ h => h) (Or.inl ⟨by rfl, ?_⟩) ?_ ?_
        rotate_left
        ·intro w'
         go_simp
         with_reducible rfl
        rotate_left
        ·simp only [Act.put, sa_, sz_, ss_, i64_w, i32_w]
         rfl
        refine take_ (i := 4) (N := some 46) (v := ?_) (a' := ?_) #[true, true, false, false, true, true, true, true, false, false, false] rfl rfl (take_ofW HT_.out HW_.out (by kernel_rfl)) (fun _ _ _ h => h) (Or.inl ⟨by rfl, ?_⟩) hHeld ?_ ?_
        rotate_left
        ·rintro w' ⟨s0, s1⟩
         go_simp
         with_reducible rfl
        rotate_left
        ·simp only [Act.put, sa_, sz_, ss_, i64_w, i32_w]
         rfl
        refine one_ (i := 2) (N := some 44) #[true, true, true, false, true, true, true, true, false, false, false] rfl rfl (one_of HT_.out (by kernel_rfl)) (by decide) (fun K hK => ?_)
        refine value_ (w1 := ?_) (v := ?_) (by rfl) rfl ?_ ?_
        rotate_left 2
        ·go_simp
         constructor
         ·rfl
         ·rfl
        refine hK.out _ _ ⟨(kc_ (ka_ BK454.out _) 0).trans rfl, (kc_ (ka_ BK454.out _) 1).trans rfl⟩ (fun hHeld => ?_)
        clear hK K
        refine norm_ (a' := ?_) ?_ ?_
        rotate_left
        ·show Act.put _ (some 44) _ = _
         simp only [Act.put, sa_, sz_, ss_, i64_w, i32_w]
         rfl
        refine one_ (i := 3) (N := some 45) #[true, true, true, true, true, true, true, true, false, false, false] rfl rfl (one_of HT_.out (by kernel_rfl)) (by decide) (fun K hK => ?_)
        refine Kd.R_append_step (Kd.int .i64) (w0 := w) w.heap.size (by rfl) (.tmp 42) (.tmp 44) 22 3 (.int .i64 0) 8 rfl Try.underlying22 info3 rfl (by decide) (by omega) u6 x6_1 (rd t456 0) [.int .i64 (rd t456 0)] (fun k_ => some k_ ≠ (.slice (some ad459) t456.length co46 : Value).ownBlock ∧ some k_ ≠ (.slice Ao49 t460.length co49 : Value).ownBlock) (fun _ => False) rfl rfl ?aP (fun _ hk => hk.elim) ?aF ?aO ?aB ?aS ?aL ?_
        (case aP => exact rfl)
        (case aB => exact (by repeat (first | exact HB.out | apply ba_ | apply bn_ | apply bd_ | refine bs_ ?_ GE447.out | refine bs_ ?_ GE454.out)))
        (case aF => exact (fun k_ hk => ⟨Kd.fresh' (Kd.R_lt (by (with_reducible repeat (first | apply ra_ | apply rn_ | apply rd_)); exact HO458.out)) k_ hk, Kd.fresh' (Kd.R_lt (by (with_reducible repeat (first | apply ra_ | apply rn_ | apply rd_)); exact HO462.out)) k_ hk⟩))
        (case aO => exact (by (with_reducible repeat (first | apply ra_ | apply rn_ | apply rd_)); exact Kd.R_mono HO_6.out (fun _ hk => ⟨hk.1.2, hk.2⟩)))
        (case aS => exact (bz_ (by repeat (first | exact HB.out | apply ba_ | apply bn_ | apply bd_ | refine bs_ ?_ GE447.out | refine bs_ ?_ GE454.out))))
        (case aL => have := LMc41.out; omega)
        intro v469 w51 ho hb hg hat
        rw [← Ny468.out] at ho
        have n0_ := A0_ (blk_grown (g := gb447) (o := .cells #[.int .i64 a0_0, .bool a0_1, .slice A0_2 l0_2.length c0_2] 32 (0, 0)) (by (with_reducible repeat (first | apply kn_ | apply kd_ | apply ka_)); exact BK447.out) hg (Kd.R_ne HO_6.out BK447.out (by decide)))
        have n1_ := A0_ (blk_grown (g := gb454) (o := .cells #[.int .i64 t452, .bool t453] 57 (0, 0)) (by (with_reducible repeat (first | apply kn_ | apply kd_ | apply ka_)); exact BK454.out) hg (Kd.R_ne HO_6.out BK454.out (by decide)))
        have n2_ := A0_ (Kd.R_after (ok := (fun k_ => some k_ ≠ (.slice Ao49 t460.length co49 : Value).ownBlock)) (by (with_reducible repeat (first | apply ra_ | apply rn_ | apply rd_)); exact Kd.R_mono HO458.out (fun _ hk => ⟨hk.2, hk.1.2⟩)) hg hat)
        have n3_ := A0_ (Kd.R_after (ok := (fun k_ => some k_ ≠ (.slice (some ad459) t456.length co46 : Value).ownBlock)) (by (with_reducible repeat (first | apply ra_ | apply rn_ | apply rd_)); exact Kd.R_mono HO462.out (fun _ hk => ⟨hk.2, hk.1.2⟩)) hg hat)
        have n4_ := A0_ (hb)
        have n5_ := A0_ (ho)
        clear BK447
        clear BK454
        clear HO458
        clear HO462
        clear HB
        clear HO_6
        have BK447 := n0_
        have BK454 := n1_
        have HO458 := n2_
        have HO462 := n3_
        have HB := n4_
        have HO470 := n5_
        clear n0_ n1_ n2_ n3_ n4_ n5_
        clear ho hb hg hat
        refine hK.out _ _ ⟨(kc_ BK454.out 0).trans rfl, (kc_ BK454.out 1).trans rfl⟩ (fun hHeld => ?_)
        clear hK K
        refine norm_ (a' := ?_) ?_ ?_
        rotate_left
        ·show Act.put _ (some 45) _ = _
         simp only [Act.put, sa_, sz_, ss_, i64_w, i32_w]
         rfl
        refine one_ (i := 8) (N := some 50) #[true, true, true, true, true, true, true, true, true, false, false] rfl rfl (one_of HT_.out (by kernel_rfl)) (by decide) (fun K hK => ?_)
        refine goes_ Try.func61 (by kernel_rfl) rfl #[.agg #[.int .i64 t452, .bool t453], .int .u32 x8_1, .int .i64 a1, .int .i64 (rd t456 0)] (by rfl) rfl rfl (by (try simp only [ma_, mc_, mn_]); first | done | rfl | (simp only [ld_, lt_]; rfl)) ?_
        with_reducible refine (impl_bench_behind.calls k1 t452 t453 x8_1 a1 (rd t456 0) t471 _ A42.out).mono ?_
        rintro e w52 ⟨rfl, hb⟩
        refine ⟨_, rfl, ?_⟩
        have n0_ := A0_ (Kd.R_below (by (with_reducible repeat (first | apply ra_ | apply rn_ | apply rd_)); exact HO458.out) hb)
        have n1_ := A0_ (Kd.R_below (by (with_reducible repeat (first | apply ra_ | apply rn_ | apply rd_)); exact HO462.out) hb)
        have n2_ := A0_ (Kd.R_below (by (with_reducible repeat (first | apply ra_ | apply rn_ | apply rd_)); exact HO470.out) hb)
        have n3_ := A0_ (kb_ (g := gb447) (o := .cells #[.int .i64 a0_0, .bool a0_1, .slice A0_2 l0_2.length c0_2] 32 (0, 0)) (by (with_reducible repeat (first | apply kn_ | apply kd_ | apply ka_)); exact BK447.out) hb)
        have n4_ := A0_ (kb_ (g := gb454) (o := .cells #[.int .i64 t452, .bool t453] 57 (0, 0)) (by (with_reducible repeat (first | apply kn_ | apply kd_ | apply ka_)); exact BK454.out) hb)
        have n5_ := A0_ (bt_ (by repeat (first | exact HB.out | apply ba_ | apply bn_ | apply bd_ | refine bs_ ?_ GE447.out | refine bs_ ?_ GE454.out)) hb)
        clear HO458
        clear HO462
        clear HO470
        clear BK447
        clear BK454
        clear HB
        have HO458 := n0_
        have HO462 := n1_
        have HO470 := n2_
        have BK447 := n3_
        have BK454 := n4_
        have HB := n5_
        clear n0_ n1_ n2_ n3_ n4_ n5_
        (try clear hb)
        (try clear hb2)
        (try clear hk)
        (try clear hi)
        refine hK.out _ _ ⟨(kc_ BK454.out 0).trans rfl, (kc_ BK454.out 1).trans rfl⟩ (fun hHeld => ?_)
        clear hK K
        refine norm_ (a' := ?_) ?_ ?_
        rotate_left
        ·show Act.put _ (some 50) _ = _
         simp only [Act.put, sa_, sz_, ss_, i64_w, i32_w]
         rfl
        refine pure_ (i := 9) (N := some 6) (v := ?_) (a' := ?_) #[true, true, true, true, true, true, true, true, true, true, false] rfl rfl (any_of HT_.out (by kernel_rfl)) (fun _ _ _ h => h) (Or.inl ⟨by rfl, ?_⟩) ?_ ?_
        rotate_left
        ·intro w'
         go_simp
         with_reducible rfl
        rotate_left
        ·simp only [Act.put, sa_, sz_, ss_, i64_w, i32_w]
         rfl
        refine pure_ (i := 10) (N := some 8) (v := ?_) (a' := ?_) #[true, true, true, true, true, true, true, true, true, true, true] rfl rfl (any_of HT_.out (by kernel_rfl)) (fun _ _ _ h => h) (Or.inl ⟨by rfl, ?_⟩) ?_ ?_
        rotate_left
        ·intro w'
         go_simp
         with_reducible rfl
        rotate_left
        ·simp only [Act.put, sa_, sz_, ss_, i64_w, i32_w]
         rfl
        refine done_ (done_of HT_.out (by kernel_rfl)) ?_
        try go_wp2
        go_roundg k1
        case measure => have := HK1.out; omega
        case rel => exact ⟨(y468), (t471), (by first | rfl | (simp [*]; done)), H', ⟨by have := HK1.out; omega⟩, ⟨by (with_reducible repeat (first | apply ra_ | apply rn_ | apply rd_)); exact Kd.R_mono HO470.out (fun _ hk => trivial)⟩, ⟨by (with_reducible repeat (first | apply kn_ | apply kd_ | apply ka_)); exact BK447.out⟩, ⟨by (with_reducible repeat (first | apply kn_ | apply kd_ | apply ka_)); exact BK454.out⟩, ⟨by repeat (first | exact HB.out | apply ba_ | apply bn_ | apply bd_ | refine bs_ ?_ GE447.out | refine bs_ ?_ GE454.out)⟩⟩
       ·rw [if_neg c41] at H
        exact absurd H (by simp)
     ·rw [if_neg c25] at H
      exact absurd H (by simp)
 ·replace c4 := bf_.mpr c4
  subst c4
  rw [if_neg (show ¬ (false = true) by decide)] at H
  simp only [sj_, pj_] at H
  obtain ⟨rfl, rfl⟩ := H
  go_enter Try.func37, Try.ntmps37
  go_wp2_with (first | ((with_reducible refine gd_ (N := 2) rfl ?_); refine be_ ?hg (N := 2) ?hd (cs := #[.int .i64 a0_0, .bool a0_1, .slice A0_2 l0_2.length c0_2]) (t := 32) ?hr ?_; (case hd => rfl); (case hg => rfl); (case hr => go_simp; first | done | rfl); intro gb447 hg w53 hbox hb; have n0_ := A0_ (bt_ (by repeat (first | exact HB.out | apply ba_ | apply bn_ | apply bd_)) hb); have n1_ := A0_ (hbox); have n2_ := A0_ ((by rw [hg]; exact (bz_ (by repeat (first | exact HB.out | apply ba_ | apply bn_ | apply bd_))) : w.heap.size ≤ gb447)); have n3_ := A0_ ((by rw [hg]; exact (bz_ (by repeat (first | exact HB.out | apply ba_ | apply bn_ | apply bd_))) : w.heap.size ≤ gb447)); clear HB; have HB := n0_; have BK447 := n1_; have GW447 := n2_; have GE447 := n3_; clear n0_ n1_ n2_ n3_ hb hbox hg; have hcz54_0 : w53.cell? ⟨gb447, 0, none⟩ = some (.int .i64 a0_0) := (kc_ BK447.out 0).trans rfl; have hcz54_1 : w53.cell? ⟨gb447, 1, none⟩ = some (.bool a0_1) := (kc_ BK447.out 1).trans rfl; have hcz54_2 : w53.cell? ⟨gb447, 2, none⟩ = some (.slice A0_2 l0_2.length c0_2) := (kc_ BK447.out 2).trans rfl; have hfz54_0 := kf_ BK447.out 0; have hfz54_1 := kf_ BK447.out 1; have hfz54_2 := kf_ BK447.out 2) | ((with_reducible refine gc_ (f := 50) rfl ?_); refine goesL_ (some 14) rfl rfl Try.func50 (by kernel_rfl) rfl #[.agg #[.int .i64 a0_0, .bool a0_1, .slice A0_2 l0_2.length c0_2], .int .i64 a1] rfl (by (try simp only [ma_, mc_, mn_]); first | done | rfl | (simp only [ld_, lt_]; rfl)) ?_; (with_reducible refine (impl_isGame.calls k a0_0 a0_1 _ _ l0_2 a1 false _ ?side1 ?side2 A3.out).mono ?_); (case side1 => repeat (first | exact (cb_ HR0_2.out HB.out) | (with_reducible refine ca_ ?_ _) | (with_reducible refine cn_ ?_ _) | (with_reducible refine cd_ ?_))); (case side2 => exact HC0_2.out); rintro e w55 ⟨rfl, hb⟩; refine ⟨_, rfl, ?_⟩; have n0_ := A0_ (kb_ (g := gb447) (o := .cells #[.int .i64 a0_0, .bool a0_1, .slice A0_2 l0_2.length c0_2] 32 (0, 0)) (by (with_reducible repeat (first | apply kn_ | apply kd_ | apply ka_)); exact BK447.out) hb); have n1_ := A0_ (bt_ (by repeat (first | exact HB.out | apply ba_ | apply bn_ | apply bd_ | refine bs_ ?_ GE447.out)) hb); clear BK447 HB; have BK447 := n0_; have HB := n1_; clear n0_ n1_; (try clear hb)))
  go_ret2
  exact ⟨_, by first | rfl | (simp [*, errW_none, errW_some] <;> rfl), by first | exact Kd.R_nil _ _ _ _ _ | exact Kd.N_nil _ _ _ _ _ | exact Kd.V_nil _ _ _ _ _ | exact Kd.Q_nil _ _ _ _ _ | exact Kd.S_nil _ _ _ _ _, by repeat (first | exact HB.out | apply ba_ | apply bn_ | apply bd_ | refine bs_ ?_ GE447.out)⟩

end Go.Proofs.Ytgcgmlbjklkkjaa.QFnExactBestPlay
-- squeezed
