-- Written by px.py, a program of this session, over the kit's printer: some functions have a definition and a proof of this session's own.
import Derived.Test.YtgcgmlbjklkkjaaQFnExactBestPlayx0
import Derived.Test.YtgcgmlbjklkkjaaQFnExactBestPlayx11
import Derived.Test.YtgcgmlbjklkkjaaQFnExactBestPlayx13
namespace Go.Proofs.Ytgcgmlbjklkkjaa.QFnExactBestPlay
open Go.RowKit Go.Proofs.YtgcgmlbjklkkjaaW.PrintWords Go.Proofs.YtgcgmlbjklkkjaaW.PrintLast Go.Proofs.YtgcgmlbjklkkjaaW.PrintMore
attribute [local go_sem] max2_int min2_int max_two min_two max_three min_three max_four min_four   -- for this text's walks alone
set_option linter.unusedVariables false
set_option linter.unusedSimpArgs false
set_option maxHeartbeats 8000000
set_option maxRecDepth 100000

mutual
def impl_bench_runs.j0 : Nat → Int → List (S70) → Bool → Int → Bool → Option ((List (S70)))
 | 0, _, _, _, _, _ => none
 | k + 1, x1, x5, x18, x394000, x394001 => if x18 = true then (if x5.length < 8796093022208 then (some (x5 ++ [(⟨0, x394000⟩ : S70)])) else (none)) else (impl_bench_runs.l0 k x1 x5 x394000 0 x394000 x394001)
def impl_bench_runs.l0 : Nat → Int → List (S70) → Int → Int → Int → Bool → Option ((List (S70)))
 | 0, _, _, _, _, _, _ => none
 | k + 1, x1, x5, x26, x27, x394000, x394001 => if x27 < x26 then (if x394001 = true then (impl_bench_runs.j2 k x1 x5 x27 (wrap64 (x27 - 1)) x26 x27 (x27 == 0) x394000 x394001) else (impl_bench_runs.j2 k x1 x5 x27 (wrap64 (x27 - 1)) x26 x27 false x394000 x394001)) else (some x5)
def impl_bench_runs.j2 : Nat → Int → List (S70) → Int → Int → Int → Int → Bool → Int → Bool → Option ((List (S70)))
 | 0, _, _, _, _, _, _, _, _, _ => none
 | k + 1, x1, x5, x6, x7, x26, x27, x37, x394000, x394001 => if x37 = true then (impl_bench_runs.j3 k x1 x5 x6 (wrap64 (x394000 - 1)) x26 x27 x394000 x394001) else (impl_bench_runs.j3 k x1 x5 x6 x7 x26 x27 x394000 x394001)
def impl_bench_runs.j3 : Nat → Int → List (S70) → Int → Int → Int → Int → Int → Bool → Option ((List (S70)))
 | 0, _, _, _, _, _, _, _, _ => none
 | k + 1, x1, x5, x6, x7, x26, x27, x394000, x394001 => (impl_set_has.f x1 x6).bind fun t401 => (if t401 = true then (if x7 ≥ 0 then ((impl_set_has.f x1 x7).bind fun t402 => (impl_bench_runs.j4 k x1 x5 x6 x26 x27 t402 x394000 x394001)) else (impl_bench_runs.j4 k x1 x5 x6 x26 x27 false x394000 x394001)) else (impl_bench_runs.j4 k x1 x5 x6 x26 x27 true x394000 x394001))
def impl_bench_runs.j4 : Nat → Int → List (S70) → Int → Int → Int → Bool → Int → Bool → Option ((List (S70)))
 | 0, _, _, _, _, _, _, _, _ => none
 | k + 1, x1, x5, x6, x26, x27, x53, x394000, x394001 => if x53 = true then (impl_bench_runs.l0 k x1 x5 x26 (wrap64 (x27 + 1)) x394000 x394001) else (impl_bench_runs.l1 k x1 x5 x6 0 x6 x26 x27 x394000 x394001)
def impl_bench_runs.l1 : Nat → Int → List (S70) → Int → Int → Int → Int → Int → Int → Bool → Option ((List (S70)))
 | 0, _, _, _, _, _, _, _, _, _ => none
 | k + 1, x1, x5, x6, x8, x9, x26, x27, x394000, x394001 => if x394000 = 0 then (none) else ((impl_set_has.f x1 (Int.tmod x9 x394000)).bind fun t403 => (if t403 = true then (if x394001 = true then (impl_bench_runs.l1 k x1 x5 x6 (wrap64 (x8 + 1)) (wrap64 (x9 + 1)) x26 x27 x394000 x394001) else (if x9 < x394000 then (impl_bench_runs.l1 k x1 x5 x6 (wrap64 (x8 + 1)) (wrap64 (x9 + 1)) x26 x27 x394000 x394001) else (if x5.length < 8796093022208 then (impl_bench_runs.l0 k x1 (x5 ++ [(⟨x6, x8⟩ : S70)]) x26 (wrap64 (x27 + 1)) x394000 x394001) else (none)))) else (if x5.length < 8796093022208 then (impl_bench_runs.l0 k x1 (x5 ++ [(⟨x6, x8⟩ : S70)]) x26 (wrap64 (x27 + 1)) x394000 x394001) else (none))))
end
def impl_bench_runs.f (k : Nat) (a0_0 : Int) (a0_1 : Bool) (a1 : Int) : Option ((List (S70))) := (some (([] : List (S70)) : List (S70))).bind fun y394 => (if a0_1 = true then ((impl_bench_all.f a0_0 a0_1).bind fun t397 => (impl_bench_runs.j0 k a1 y394 (a1 == t397) a0_0 a0_1)) else (impl_bench_runs.j0 k a1 y394 false a0_0 a0_1))
theorem impl_bench_runs.mono_l : ∀ k, (∀ y0 y1 y2 y3 y4, LeO (impl_bench_runs.j0 k y0 y1 y2 y3 y4) (impl_bench_runs.j0 (k + 1) y0 y1 y2 y3 y4)) ∧ (∀ y0 y1 y2 y3 y4 y5, LeO (impl_bench_runs.l0 k y0 y1 y2 y3 y4 y5) (impl_bench_runs.l0 (k + 1) y0 y1 y2 y3 y4 y5)) ∧ (∀ y0 y1 y2 y3 y4 y5 y6 y7 y8, LeO (impl_bench_runs.j2 k y0 y1 y2 y3 y4 y5 y6 y7 y8) (impl_bench_runs.j2 (k + 1) y0 y1 y2 y3 y4 y5 y6 y7 y8)) ∧ (∀ y0 y1 y2 y3 y4 y5 y6 y7, LeO (impl_bench_runs.j3 k y0 y1 y2 y3 y4 y5 y6 y7) (impl_bench_runs.j3 (k + 1) y0 y1 y2 y3 y4 y5 y6 y7)) ∧ (∀ y0 y1 y2 y3 y4 y5 y6 y7, LeO (impl_bench_runs.j4 k y0 y1 y2 y3 y4 y5 y6 y7) (impl_bench_runs.j4 (k + 1) y0 y1 y2 y3 y4 y5 y6 y7)) ∧ (∀ y0 y1 y2 y3 y4 y5 y6 y7 y8, LeO (impl_bench_runs.l1 k y0 y1 y2 y3 y4 y5 y6 y7 y8) (impl_bench_runs.l1 (k + 1) y0 y1 y2 y3 y4 y5 y6 y7 y8))
 | 0 => ⟨fun _ _ _ _ _ r h => by simp [impl_bench_runs.j0] at h, fun _ _ _ _ _ _ r h => by simp [impl_bench_runs.l0] at h, fun _ _ _ _ _ _ _ _ _ r h => by simp [impl_bench_runs.j2] at h, fun _ _ _ _ _ _ _ _ r h => by simp [impl_bench_runs.j3] at h, fun _ _ _ _ _ _ _ _ r h => by simp [impl_bench_runs.j4] at h, fun _ _ _ _ _ _ _ _ _ r h => by simp [impl_bench_runs.l1] at h⟩
 | k + 1 => by
  obtain ⟨ih0, ih1, ih2, ih3, ih4, ih5⟩ := impl_bench_runs.mono_l k
  refine ⟨?_, ?_, ?_, ?_, ?_, ?_⟩
  ·intro y0 y1 y2 y3 y4
   unfold impl_bench_runs.j0
   repeat' first
   | (with_reducible exact ih0 _ _ _ _ _)
   | (with_reducible exact ih1 _ _ _ _ _ _)
   | (with_reducible exact ih2 _ _ _ _ _ _ _ _ _)
   | (with_reducible exact ih3 _ _ _ _ _ _ _ _)
   | (with_reducible exact ih4 _ _ _ _ _ _ _ _)
   | (with_reducible exact ih5 _ _ _ _ _ _ _ _ _)
   | (with_reducible exact LeO.refl _)
   | (with_reducible exact LeO.none _)
   | (with_reducible refine LeO.ite ?_ ?_)
   | (with_reducible refine LeO.bind ?_ (fun _ => ?_))
  ·intro y0 y1 y2 y3 y4 y5
   unfold impl_bench_runs.l0
   repeat' first
   | (with_reducible exact ih0 _ _ _ _ _)
   | (with_reducible exact ih1 _ _ _ _ _ _)
   | (with_reducible exact ih2 _ _ _ _ _ _ _ _ _)
   | (with_reducible exact ih3 _ _ _ _ _ _ _ _)
   | (with_reducible exact ih4 _ _ _ _ _ _ _ _)
   | (with_reducible exact ih5 _ _ _ _ _ _ _ _ _)
   | (with_reducible exact LeO.refl _)
   | (with_reducible exact LeO.none _)
   | (with_reducible refine LeO.ite ?_ ?_)
   | (with_reducible refine LeO.bind ?_ (fun _ => ?_))
  ·intro y0 y1 y2 y3 y4 y5 y6 y7 y8
   unfold impl_bench_runs.j2
   repeat' first
   | (with_reducible exact ih0 _ _ _ _ _)
   | (with_reducible exact ih1 _ _ _ _ _ _)
   | (with_reducible exact ih2 _ _ _ _ _ _ _ _ _)
   | (with_reducible exact ih3 _ _ _ _ _ _ _ _)
   | (with_reducible exact ih4 _ _ _ _ _ _ _ _)
   | (with_reducible exact ih5 _ _ _ _ _ _ _ _ _)
   | (with_reducible exact LeO.refl _)
   | (with_reducible exact LeO.none _)
   | (with_reducible refine LeO.ite ?_ ?_)
   | (with_reducible refine LeO.bind ?_ (fun _ => ?_))
  ·intro y0 y1 y2 y3 y4 y5 y6 y7
   unfold impl_bench_runs.j3
   repeat' first
   | (with_reducible exact ih0 _ _ _ _ _)
   | (with_reducible exact ih1 _ _ _ _ _ _)
   | (with_reducible exact ih2 _ _ _ _ _ _ _ _ _)
   | (with_reducible exact ih3 _ _ _ _ _ _ _ _)
   | (with_reducible exact ih4 _ _ _ _ _ _ _ _)
   | (with_reducible exact ih5 _ _ _ _ _ _ _ _ _)
   | (with_reducible exact LeO.refl _)
   | (with_reducible exact LeO.none _)
   | (with_reducible refine LeO.ite ?_ ?_)
   | (with_reducible refine LeO.bind ?_ (fun _ => ?_))
  ·intro y0 y1 y2 y3 y4 y5 y6 y7
   unfold impl_bench_runs.j4
   repeat' first
   | (with_reducible exact ih0 _ _ _ _ _)
   | (with_reducible exact ih1 _ _ _ _ _ _)
   | (with_reducible exact ih2 _ _ _ _ _ _ _ _ _)
   | (with_reducible exact ih3 _ _ _ _ _ _ _ _)
   | (with_reducible exact ih4 _ _ _ _ _ _ _ _)
   | (with_reducible exact ih5 _ _ _ _ _ _ _ _ _)
   | (with_reducible exact LeO.refl _)
   | (with_reducible exact LeO.none _)
   | (with_reducible refine LeO.ite ?_ ?_)
   | (with_reducible refine LeO.bind ?_ (fun _ => ?_))
  ·intro y0 y1 y2 y3 y4 y5 y6 y7 y8
   unfold impl_bench_runs.l1
   repeat' first
   | (with_reducible exact ih0 _ _ _ _ _)
   | (with_reducible exact ih1 _ _ _ _ _ _)
   | (with_reducible exact ih2 _ _ _ _ _ _ _ _ _)
   | (with_reducible exact ih3 _ _ _ _ _ _ _ _)
   | (with_reducible exact ih4 _ _ _ _ _ _ _ _)
   | (with_reducible exact ih5 _ _ _ _ _ _ _ _ _)
   | (with_reducible exact LeO.refl _)
   | (with_reducible exact LeO.none _)
   | (with_reducible refine LeO.ite ?_ ?_)
   | (with_reducible refine LeO.bind ?_ (fun _ => ?_))
theorem impl_bench_runs.mono : ∀ a0 a1 a2 k, LeO (impl_bench_runs.f k a0 a1 a2) (impl_bench_runs.f (k + 1) a0 a1 a2) := by
 intro a0 a1 a2 k
 obtain ⟨ih0, ih1, ih2, ih3, ih4, ih5⟩ := impl_bench_runs.mono_l k
 unfold impl_bench_runs.f
 repeat' first
   | (with_reducible exact ih0 _ _ _ _ _)
   | (with_reducible exact ih1 _ _ _ _ _ _)
   | (with_reducible exact ih2 _ _ _ _ _ _ _ _ _)
   | (with_reducible exact ih3 _ _ _ _ _ _ _ _)
   | (with_reducible exact ih4 _ _ _ _ _ _ _ _)
   | (with_reducible exact ih5 _ _ _ _ _ _ _ _ _)
   | (with_reducible exact LeO.refl _)
   | (with_reducible exact LeO.none _)
   | (with_reducible refine LeO.ite ?_ ?_)
   | (with_reducible refine LeO.bind ?_ (fun _ => ?_))
theorem impl_bench_runs.calls (k : Nat) (a0_0 : Int) (a0_1 : Bool) (a1 : Int) (r : List (S70)) (w : World) (h : impl_bench_runs.f k a0_0 a0_1 a1 = some r) :
  Calls Try.prog 84 #[.agg #[.int .i64 a0_0, .bool a0_1], .int .u32 a1] w fun e w' => ∃ v0_ : Value, e = .returned (v0_) ∧ Kd.R k70 70 w' w.heap.size (fun _ => True) v0_ r ∧ Below w.heap.size w w' := by
 have hu57 := Try.underlying57
 have hu70 := Try.underlying70
 have HB := A0_ (Below.refl w.heap.size w)
 have H : ((some (([] : List (S70)) : List (S70))).bind fun y394 => (if a0_1 = true then ((impl_bench_all.f a0_0 a0_1).bind fun t397 => (impl_bench_runs.j0 k a1 y394 (a1 == t397) a0_0 a0_1)) else (impl_bench_runs.j0 k a1 y394 false a0_0 a0_1))) = some r := h
 clear h
 obtain ⟨y394, hy394⟩ : ∃ y_ : List (S70), y_ = (([] : List (S70))) := ⟨_, rfl⟩
 replace H : (if a0_1 = true then ((impl_bench_all.f a0_0 a0_1).bind fun t397 => (impl_bench_runs.j0 k a1 y394 (a1 == t397) a0_0 a0_1)) else (impl_bench_runs.j0 k a1 y394 false a0_0 a0_1)) = some r := by first | (rw [hy394]; with_reducible exact H) | (have H2_ := (Option.bind_some _ _).symm.trans H; rw [hy394]; with_reducible exact H2_) | (have H2_ := (Option.bind_some _ _).symm.trans H; with_reducible exact H2_) | with_reducible exact H | (rw [hy394]; exact H) | exact H
 have Ny394 := A0_ hy394
 clear hy394
 have HC3 := A0_ H
 clear H
 go_enter Try.func84, Try.ntmps84
 go_upto_region 2 with (first | ((with_reducible refine gd_ (N := 2) rfl ?_); refine be_ ?hg (N := 2) ?hd (cs := #[.int .i64 a0_0, .bool a0_1]) (t := 57) ?hr ?_; (case hd => rfl); (case hg => rfl); (case hr => go_simp; first | done | rfl); intro gb393 hg w4 hbox hb; have n0_ := A0_ (bt_ (by repeat (first | exact HB.out | apply ba_ | apply bn_ | apply bd_)) hb); have n1_ := A0_ (hbox); have n2_ := A0_ ((by rw [hg]; exact (bz_ (by repeat (first | exact HB.out | apply ba_ | apply bn_ | apply bd_))) : w.heap.size ≤ gb393)); have n3_ := A0_ ((by rw [hg]; exact (bz_ (by repeat (first | exact HB.out | apply ba_ | apply bn_ | apply bd_))) : w.heap.size ≤ gb393)); clear HB; have HB := n0_; have BK393 := n1_; have GW393 := n2_; have GE393 := n3_; clear n0_ n1_ n2_ n3_ hb hbox hg) | ((with_reducible refine gd_ (N := 10) rfl ?_); refine Kd.R_lit k70 _ 70 ?hg (N := 10) ?hd (xs := ([] : List (S70))) (inner := []) (ok := fun _ => True) (okp := fun _ => True) ?hr ?hp (fun _ hk => hk) trivial (Below.refl _ _) (Nat.le_refl _) (by simp) ?_; (case hd => rfl); (case hg => rfl); (case hr => go_simp; first | done | rfl); (case hp => exact (Reps.none _ _)); intro v395 w5 ho6 hb hg_ hnew_; clear hg_ hnew_; (first | rw [← Ny394.out] at ho6 | (simp only [Int.reduceToNat] at ho6; rw [← Ny394.out] at ho6)); have n0_ := A0_ (Kd.R_lower ho6 (bz_ (by repeat (first | exact HB.out | apply ba_ | apply bn_ | apply bd_ | refine bs_ ?_ GE393.out)))); have n1_ := A0_ (kb_ (g := gb393) (o := .cells #[.int .i64 a0_0, .bool a0_1] 57 (0, 0)) (by (with_reducible repeat (first | apply kn_ | apply kd_ | apply ka_)); exact BK393.out) hb); have n2_ := A0_ (bt_ (by repeat (first | exact HB.out | apply ba_ | apply bn_ | apply bd_ | refine bs_ ?_ GE393.out)) hb); clear BK393 HB; have HO396 := n0_; have BK393 := n1_; have HB := n2_; clear n0_ n1_ n2_ hb ho6))
 (try simp only [Act.put, sa_, sz_, ss_])
 go_cut [18] (fun v18 wc => ∃ (kq : Nat) (x18_2 : Bool), v18 = .bool x18_2 ∧ Aside0 (impl_bench_runs.j0 kq a1 y394 x18_2 a0_0 a0_1 = some r) ∧ Aside0 (kq ≤ k) ∧ Aside0 (Kd.R k70 70 wc w.heap.size (fun _ => True) v395 y394) ∧ Aside0 (wc.heap[gb393]? = some (.cells #[.int .i64 a0_0, .bool a0_1] 57 (0, 0))) ∧ Aside0 (Below w.heap.size w wc))
 case first =>
  have H := HC3.out
  clear HC3
  by_cases c7 : a0_1 = true
  ·subst c7
   rw [if_pos rfl] at H
   replace H := ob_.mp H
   obtain ⟨t397, A80, H⟩ := H
   have A8 := A0_ A80
   clear A80
   have H' := A0_ H
   clear H
   have hcz9_0 : w5.cell? ⟨gb393, 0, none⟩ = some (.int .i64 a0_0) := (kc_ BK393.out 0).trans rfl
   have hcz9_1 : w5.cell? ⟨gb393, 1, none⟩ = some (.bool true) := (kc_ BK393.out 1).trans rfl
   go_wp2_with (first | (go_at_call 82; (with_reducible refine (impl_bench_all.calls a0_0 true t397 _ A8.out).mono ?_); rintro e w10 ⟨rfl, hb⟩; have n0_ := A0_ (Kd.R_below (by (with_reducible repeat (first | apply ra_ | apply rn_ | apply rd_)); exact HO396.out) hb); have n1_ := A0_ (kb_ (g := gb393) (o := .cells #[.int .i64 a0_0, .bool true] 57 (0, 0)) (by (with_reducible repeat (first | apply kn_ | apply kd_ | apply ka_)); exact BK393.out) hb); have n2_ := A0_ (bt_ (by repeat (first | exact HB.out | apply ba_ | apply bn_ | apply bd_ | refine bs_ ?_ GE393.out)) hb); clear HO396 BK393 HB; have HO396 := n0_; have BK393 := n1_; have HB := n2_; clear n0_ n1_ n2_; (try clear hb)))
   go_meet
   case rel => exact ⟨_, ((a1 == t397)), (by first | rfl | (simp [*]; done)), H', ⟨by first | omega | exact Nat.le_refl _⟩, ⟨by (with_reducible repeat (first | apply ra_ | apply rn_ | apply rd_)); exact HO396.out⟩, ⟨by (with_reducible repeat (first | apply kn_ | apply kd_ | apply ka_)); exact BK393.out⟩, ⟨by repeat (first | exact HB.out | apply ba_ | apply bn_ | apply bd_ | refine bs_ ?_ GE393.out)⟩⟩
  ·replace c7 := bf_.mpr c7
   subst c7
   rw [if_neg (show ¬ (false = true) by decide)] at H
   have H' := A0_ H
   clear H
   have hcz11_0 : w5.cell? ⟨gb393, 0, none⟩ = some (.int .i64 a0_0) := (kc_ BK393.out 0).trans rfl
   have hcz11_1 : w5.cell? ⟨gb393, 1, none⟩ = some (.bool false) := (kc_ BK393.out 1).trans rfl
   go_wp2
   go_meet
   case rel => exact ⟨_, (false), (by first | rfl | (simp [*]; done)), H', ⟨by first | omega | exact Nat.le_refl _⟩, ⟨by (with_reducible repeat (first | apply ra_ | apply rn_ | apply rd_)); exact HO396.out⟩, ⟨by (with_reducible repeat (first | apply kn_ | apply kd_ | apply ka_)); exact BK393.out⟩, ⟨by repeat (first | exact HB.out | apply ba_ | apply bn_ | apply bd_ | refine bs_ ?_ GE393.out)⟩⟩
 case rest =>
  clear HC3
  try clear p2
  try clear c7
  try clear c8
  try clear hcz11_0
  try clear hcz11_1
  try clear hcz9_0
  try clear hcz9_1
  obtain ⟨kq, x18_2, rfl, HA, HJ2, HO_5, BK393, HB⟩ := hcut
  cases kq with
  | zero => exact absurd HA.out (by simp [impl_bench_runs.j0])
  | succ kj2 =>
   have H := HA.out
   clear HA
   simp only [impl_bench_runs.j0] at H
   by_cases c12 : x18_2 = true
   ·subst c12
    rw [if_pos rfl] at H
    by_cases c13 : y394.length < 8796093022208
    ·rw [if_pos c13] at H
     have LMc13 := A0_ c13
     clear c13
     obtain ⟨y398, hy398⟩ : ∃ y_ : List (S70), y_ = (y394 ++ [(⟨0, a0_0⟩ : S70)]) := ⟨_, rfl⟩
     replace H : (some y398) = some r := by first | (rw [hy398]; with_reducible exact H) | (have H2_ := (Option.bind_some _ _).symm.trans H; rw [hy398]; with_reducible exact H2_) | (have H2_ := (Option.bind_some _ _).symm.trans H; with_reducible exact H2_) | with_reducible exact H | (rw [hy398]; exact H) | exact H
     have Ny398 := A0_ hy398
     clear hy398
     obtain rfl := si_ H
     have hcz14_0 : wc.cell? ⟨gb393, 0, none⟩ = some (.int .i64 a0_0) := (kc_ BK393.out 0).trans rfl
     have hcz14_1 : wc.cell? ⟨gb393, 1, none⟩ = some (.bool a0_1) := (kc_ BK393.out 1).trans rfl
     go_wp2_with (first | ((with_reducible refine gate_builtin (b := .append) (xs := #[.tmp 19, .tmp 23]) rfl ?_); at_builtin; refine Kd.R_append k70 (w0 := w) w.heap.size rfl (.tmp 19) (.tmp 23) 68 70 (.agg #[(.int .i64 0), (.int .i64 0)]) 16 rfl Try.underlying68 info70 rfl (by decide) (by omega) v395 y394 (⟨0, a0_0⟩ : S70) [.int .i64 0, .int .i64 a0_0] (fun _ => True) (fun _ => False) rfl rfl ?aP (fun _ hk => hk.elim) ?aF ?aO ?aB ?aS ?aL ?_; (case aP => exact k70_mkM _ _ _ (⟨0, a0_0⟩ : S70)); (case aB => exact (by repeat (first | exact HB.out | apply ba_ | apply bn_ | apply bd_ | refine bs_ ?_ GE393.out))); (case aF => exact (fun _ _ => trivial)); (case aO => exact (by (with_reducible repeat (first | apply ra_ | apply rn_ | apply rd_)); exact HO_5.out)); (case aS => exact (bz_ (by repeat (first | exact HB.out | apply ba_ | apply bn_ | apply bd_ | refine bs_ ?_ GE393.out)))); (case aL => have := LMc13.out; omega); intro v399 w15 ho hb hg hat; rw [← Ny398.out] at ho; have n0_ := A0_ (blk_grown (g := gb393) (o := .cells #[.int .i64 a0_0, .bool a0_1] 57 (0, 0)) (by (with_reducible repeat (first | apply kn_ | apply kd_ | apply ka_)); exact BK393.out) hg (Kd.R_ne HO_5.out BK393.out (by decide))); have n1_ := A0_ (hb); have n2_ := A0_ (ho); clear BK393 HB HO_5; have BK393 := n0_; have HB := n1_; have HO400 := n2_; clear n0_ n1_ n2_ ho hb hg hat))
     go_ret
     exact ⟨_, by first | rfl | (simp [*, errW_none, errW_some] <;> rfl), by (with_reducible repeat (first | apply ra_ | apply rn_ | apply rd_)); exact HO400.out, by repeat (first | exact HB.out | apply ba_ | apply bn_ | apply bd_ | refine bs_ ?_ GE393.out)⟩
    ·rw [if_neg c13] at H
     exact absurd H (by simp)
   ·replace c12 := bf_.mpr c12
    subst c12
    rw [if_neg (show ¬ (false = true) by decide)] at H
    have H' := A0_ H
    clear H
    have hcz16_0 : wc.cell? ⟨gb393, 0, none⟩ = some (.int .i64 a0_0) := (kc_ BK393.out 0).trans rfl
    have hcz16_1 : wc.cell? ⟨gb393, 1, none⟩ = some (.bool a0_1) := (kc_ BK393.out 1).trans rfl
    go_wp2
    go_loopg [5, 27] kj2 (fun kq v5 v27 w' => ∃ (x5_2 : List (S70)) (x27_2 : Int), v27 = .int .i64 x27_2 ∧ Aside0 (impl_bench_runs.l0 kq a1 x5_2 a0_0 x27_2 a0_0 a0_1 = some r) ∧ Aside0 (kq ≤ kj2) ∧ Aside0 (Kd.R k70 70 w' w.heap.size (fun _ => True) v5 x5_2) ∧ Aside0 (w'.heap[gb393]? = some (.cells #[.int .i64 a0_0, .bool a0_1] 57 (0, 0))) ∧ Aside0 (Below w.heap.size w w'))
    case atStart => exact ⟨(y394), (0), (by first | rfl | (simp [*]; done)), H', ⟨Nat.le_refl _⟩, ⟨by (with_reducible repeat (first | apply ra_ | apply rn_ | apply rd_)); exact HO_5.out⟩, ⟨by (with_reducible repeat (first | apply kn_ | apply kd_ | apply ka_)); exact BK393.out⟩, ⟨by repeat (first | exact HB.out | apply ba_ | apply bn_ | apply bd_ | refine bs_ ?_ GE393.out)⟩⟩
    case round =>
     clear H'
     try clear c1
     try clear p2
     try clear c7
     try clear c8
     try clear c12
     try clear c13
     try clear hcz11_0
     try clear hcz11_1
     try clear hcz14_0
     try clear hcz14_1
     try clear hcz16_0
     try clear hcz16_1
     try clear hcz9_0
     try clear hcz9_1
     try clear p2
     obtain ⟨x5_2, x27_2, rfl, HA, HK2, HO_5, BK393, HB⟩ := hrel
     cases gk with
     | zero => exact absurd HA.out (by simp [impl_bench_runs.l0])
     | succ k2 =>
      have H := HA.out
      clear HA
      simp only [impl_bench_runs.l0] at H
      by_cases c17 : x27_2 < a0_0
      ·rw [if_pos c17] at H
       have c17b0 : decide (x27_2 < a0_0) = true := dt_ c17
       clear c17
       have HC18 := A0_ H
       clear H
       go_upto_region 8 with (fail)
       go_cut [37] (fun v37 wc => ∃ (kq : Nat) (x37_17 : Bool), v37 = .bool x37_17 ∧ Aside0 (impl_bench_runs.j2 kq a1 x5_2 x27_2 (wrap64 (x27_2 - 1)) a0_0 x27_2 x37_17 a0_0 a0_1 = some r) ∧ Aside0 (kq ≤ k2) ∧ Aside0 (Kd.R k70 70 wc w.heap.size (fun _ => True) u5 x5_2) ∧ Aside0 (wc.heap[gb393]? = some (.cells #[.int .i64 a0_0, .bool a0_1] 57 (0, 0))) ∧ Aside0 (Below w.heap.size w wc))
       case first =>
        have H := HC18.out
        clear HC18
        by_cases c19 : a0_1 = true
        ·subst c19
         rw [if_pos rfl] at H
         have H' := A0_ H
         clear H
         have hcz20_0 : wr.cell? ⟨gb393, 0, none⟩ = some (.int .i64 a0_0) := (kc_ BK393.out 0).trans rfl
         have hcz20_1 : wr.cell? ⟨gb393, 1, none⟩ = some (.bool true) := (kc_ BK393.out 1).trans rfl
         go_wp2
         go_meet
         case rel => exact ⟨_, ((x27_2 == 0)), (by first | rfl | (simp [*]; done)), H', ⟨by have := HJ2.out; have := HK2.out; first | omega | exact Nat.le_refl _⟩, ⟨by (with_reducible repeat (first | apply ra_ | apply rn_ | apply rd_)); exact HO_5.out⟩, ⟨by (with_reducible repeat (first | apply kn_ | apply kd_ | apply ka_)); exact BK393.out⟩, ⟨by repeat (first | exact HB.out | apply ba_ | apply bn_ | apply bd_ | refine bs_ ?_ GE393.out)⟩⟩
        ·replace c19 := bf_.mpr c19
         subst c19
         rw [if_neg (show ¬ (false = true) by decide)] at H
         have H' := A0_ H
         clear H
         have hcz21_0 : wr.cell? ⟨gb393, 0, none⟩ = some (.int .i64 a0_0) := (kc_ BK393.out 0).trans rfl
         have hcz21_1 : wr.cell? ⟨gb393, 1, none⟩ = some (.bool false) := (kc_ BK393.out 1).trans rfl
         go_wp2
         go_meet
         case rel => exact ⟨_, (false), (by first | rfl | (simp [*]; done)), H', ⟨by have := HJ2.out; have := HK2.out; first | omega | exact Nat.le_refl _⟩, ⟨by (with_reducible repeat (first | apply ra_ | apply rn_ | apply rd_)); exact HO_5.out⟩, ⟨by (with_reducible repeat (first | apply kn_ | apply kd_ | apply ka_)); exact BK393.out⟩, ⟨by repeat (first | exact HB.out | apply ba_ | apply bn_ | apply bd_ | refine bs_ ?_ GE393.out)⟩⟩
       case rest =>
        clear HC18
        try clear c1
        try clear p2
        try clear p6
        try clear c7
        try clear c8
        try clear c12
        try clear c13
        try clear c17
        try clear c17b0
        try clear c19
        try clear hcz11_0
        try clear hcz11_1
        try clear hcz14_0
        try clear hcz14_1
        try clear hcz16_0
        try clear hcz16_1
        try clear hcz20_0
        try clear hcz20_1
        try clear hcz21_0
        try clear hcz21_1
        try clear hcz9_0
        try clear hcz9_1
        try clear p2
        obtain ⟨kq, x37_17, rfl, HA, HJ17, HO_5, BK393, HB⟩ := hcut
        cases kq with
        | zero => exact absurd HA.out (by simp [impl_bench_runs.j2])
        | succ kj17 =>
         have H := HA.out
         clear HA
         simp only [impl_bench_runs.j2] at H
         have HC22 := A0_ H
         clear H
         go_upto_if 37 with (fail)
         go_cut [7] (fun v7 wc => ∃ (kq : Nat) (x7_21 : Int), v7 = .int .i64 x7_21 ∧ Aside0 (impl_bench_runs.j3 kq a1 x5_2 x27_2 x7_21 a0_0 x27_2 a0_0 a0_1 = some r) ∧ Aside0 (kq ≤ kj17) ∧ Aside0 (Kd.R k70 70 wc w.heap.size (fun _ => True) u5 x5_2) ∧ Aside0 (wc.heap[gb393]? = some (.cells #[.int .i64 a0_0, .bool a0_1] 57 (0, 0))) ∧ Aside0 (Below w.heap.size w wc))
         case first =>
          have H := HC22.out
          clear HC22
          by_cases c23 : x37_17 = true
          ·subst c23
           rw [if_pos rfl] at H
           have H' := A0_ H
           clear H
           have hcz24_0 : wc.cell? ⟨gb393, 0, none⟩ = some (.int .i64 a0_0) := (kc_ BK393.out 0).trans rfl
           have hcz24_1 : wc.cell? ⟨gb393, 1, none⟩ = some (.bool a0_1) := (kc_ BK393.out 1).trans rfl
           go_wp2
           go_meet
           case rel => exact ⟨_, (wrap64 (a0_0 - 1)), (by first | rfl | (simp [*]; done)), H', ⟨by have := HJ2.out; have := HK2.out; have := HJ17.out; first | omega | exact Nat.le_refl _⟩, ⟨by (with_reducible repeat (first | apply ra_ | apply rn_ | apply rd_)); exact HO_5.out⟩, ⟨by (with_reducible repeat (first | apply kn_ | apply kd_ | apply ka_)); exact BK393.out⟩, ⟨by repeat (first | exact HB.out | apply ba_ | apply bn_ | apply bd_ | refine bs_ ?_ GE393.out)⟩⟩
          ·replace c23 := bf_.mpr c23
           subst c23
           rw [if_neg (show ¬ (false = true) by decide)] at H
           have H' := A0_ H
           clear H
           go_wp2
           go_meet
           case rel => exact ⟨_, ((wrap64 (x27_2 - 1))), (by first | rfl | (simp [*]; done)), H', ⟨by have := HJ2.out; have := HK2.out; have := HJ17.out; first | omega | exact Nat.le_refl _⟩, ⟨by (with_reducible repeat (first | apply ra_ | apply rn_ | apply rd_)); exact HO_5.out⟩, ⟨by (with_reducible repeat (first | apply kn_ | apply kd_ | apply ka_)); exact BK393.out⟩, ⟨by repeat (first | exact HB.out | apply ba_ | apply bn_ | apply bd_ | refine bs_ ?_ GE393.out)⟩⟩
         case rest =>
          clear HC22
          try clear c1
          try clear c2
          try clear p2
          try clear p6
          try clear c7
          try clear c8
          try clear c12
          try clear c13
          try clear c17
          try clear c17b0
          try clear c19
          try clear c23
          try clear hcz11_0
          try clear hcz11_1
          try clear hcz14_0
          try clear hcz14_1
          try clear hcz16_0
          try clear hcz16_1
          try clear hcz20_0
          try clear hcz20_1
          try clear hcz21_0
          try clear hcz21_1
          try clear hcz24_0
          try clear hcz24_1
          try clear hcz9_0
          try clear hcz9_1
          try clear p2
          try clear p6
          obtain ⟨kq, x7_21, rfl, HA, HJ21, HO_5, BK393, HB⟩ := hcut
          cases kq with
          | zero => exact absurd HA.out (by simp [impl_bench_runs.j3])
          | succ kj21 =>
           have H := HA.out
           clear HA
           simp only [impl_bench_runs.j3] at H
           have HC25 := A0_ H
           clear H
           go_upto_region 10 with (fail)
           go_cut [53] (fun v53 wc => ∃ (kq : Nat) (x53_24 : Bool), v53 = .bool x53_24 ∧ Aside0 (impl_bench_runs.j4 kq a1 x5_2 x27_2 a0_0 x27_2 x53_24 a0_0 a0_1 = some r) ∧ Aside0 (kq ≤ kj21) ∧ Aside0 (Kd.R k70 70 wc w.heap.size (fun _ => True) u5 x5_2) ∧ Aside0 (wc.heap[gb393]? = some (.cells #[.int .i64 a0_0, .bool a0_1] 57 (0, 0))) ∧ Aside0 (Below w.heap.size w wc))
           case first =>
            have H := HC25.out
            clear HC25
            replace H := ob_.mp H
            obtain ⟨t401, A260, H⟩ := H
            have A26 := A0_ A260
            clear A260
            by_cases c27 : t401 = true
            ·subst c27
             rw [if_pos rfl] at H
             by_cases c28 : x7_21 ≥ 0
             ·rw [if_pos c28] at H
              have c28b0 : decide (0 ≤ x7_21) = true := dt_ c28
              clear c28
              (first | rw [c28b0] | (simp only [i64_w, i32_w]; rw [c28b0]) | skip)
              replace H := ob_.mp H
              obtain ⟨t402, A290, H⟩ := H
              have A29 := A0_ A290
              clear A290
              have H' := A0_ H
              clear H
              go_wp2_with (first | ((with_reducible refine gc_ (f := 73) rfl ?_); refine goesL_ (some 43) rfl rfl Try.func73 (by kernel_rfl) rfl #[.int .u32 a1, .int .i64 x27_2] rfl (by (try simp only [ma_, mc_, mn_]); first | done | rfl | (simp only [ld_, lt_]; rfl)) ?_; (with_reducible refine (impl_set_has.calls a1 x27_2 true _ A26.out).mono ?_); rintro e w' ⟨rfl, ⟨nd, rfl⟩⟩; refine ⟨_, rfl, ?_⟩) | (go_at_call 73; (with_reducible refine (impl_set_has.calls a1 x7_21 t402 _ A29.out).mono ?_); rintro e w' ⟨rfl, ⟨nd, rfl⟩⟩))
              go_meet
              case rel => exact ⟨_, (t402), (by first | rfl | (simp [*]; done)), H', ⟨by have := HJ2.out; have := HK2.out; have := HJ17.out; have := HJ21.out; first | omega | exact Nat.le_refl _⟩, ⟨by (with_reducible repeat (first | apply ra_ | apply rn_ | apply rd_)); exact HO_5.out⟩, ⟨by (with_reducible repeat (first | apply kn_ | apply kd_ | apply ka_)); exact BK393.out⟩, ⟨by repeat (first | exact HB.out | apply ba_ | apply bn_ | apply bd_ | refine bs_ ?_ GE393.out)⟩⟩
             ·rw [if_neg c28] at H
              have c28b0 : decide (0 ≤ x7_21) = false := decide_eq_false c28
              clear c28
              (first | rw [c28b0] | (simp only [i64_w, i32_w]; rw [c28b0]) | skip)
              have H' := A0_ H
              clear H
              go_wp2_with (first | ((with_reducible refine gc_ (f := 73) rfl ?_); refine goesL_ (some 43) rfl rfl Try.func73 (by kernel_rfl) rfl #[.int .u32 a1, .int .i64 x27_2] rfl (by (try simp only [ma_, mc_, mn_]); first | done | rfl | (simp only [ld_, lt_]; rfl)) ?_; (with_reducible refine (impl_set_has.calls a1 x27_2 true _ A26.out).mono ?_); rintro e w' ⟨rfl, ⟨nd, rfl⟩⟩; refine ⟨_, rfl, ?_⟩))
              go_meet
              case rel => exact ⟨_, (false), (by first | rfl | (simp [*]; done)), H', ⟨by have := HJ2.out; have := HK2.out; have := HJ17.out; have := HJ21.out; first | omega | exact Nat.le_refl _⟩, ⟨by (with_reducible repeat (first | apply ra_ | apply rn_ | apply rd_)); exact HO_5.out⟩, ⟨by (with_reducible repeat (first | apply kn_ | apply kd_ | apply ka_)); exact BK393.out⟩, ⟨by repeat (first | exact HB.out | apply ba_ | apply bn_ | apply bd_ | refine bs_ ?_ GE393.out)⟩⟩
            ·replace c27 := bf_.mpr c27
             subst c27
             rw [if_neg (show ¬ (false = true) by decide)] at H
             have H' := A0_ H
             clear H
             go_wp2_with (first | ((with_reducible refine gc_ (f := 73) rfl ?_); refine goesL_ (some 43) rfl rfl Try.func73 (by kernel_rfl) rfl #[.int .u32 a1, .int .i64 x27_2] rfl (by (try simp only [ma_, mc_, mn_]); first | done | rfl | (simp only [ld_, lt_]; rfl)) ?_; (with_reducible refine (impl_set_has.calls a1 x27_2 false _ A26.out).mono ?_); rintro e w' ⟨rfl, ⟨nd, rfl⟩⟩; refine ⟨_, rfl, ?_⟩))
             go_meet
             case rel => exact ⟨_, (true), (by first | rfl | (simp [*]; done)), H', ⟨by have := HJ2.out; have := HK2.out; have := HJ17.out; have := HJ21.out; first | omega | exact Nat.le_refl _⟩, ⟨by (with_reducible repeat (first | apply ra_ | apply rn_ | apply rd_)); exact HO_5.out⟩, ⟨by (with_reducible repeat (first | apply kn_ | apply kd_ | apply ka_)); exact BK393.out⟩, ⟨by repeat (first | exact HB.out | apply ba_ | apply bn_ | apply bd_ | refine bs_ ?_ GE393.out)⟩⟩
           case rest =>
            clear HC25
            try clear c1
            try clear c2
            try clear p2
            try clear p6
            try clear c7
            try clear c8
            try clear c12
            try clear c13
            try clear c17
            try clear c17b0
            try clear c19
            try clear c23
            try clear c27
            try clear c28
            try clear c28b0
            try clear hcz11_0
            try clear hcz11_1
            try clear hcz14_0
            try clear hcz14_1
            try clear hcz16_0
            try clear hcz16_1
            try clear hcz20_0
            try clear hcz20_1
            try clear hcz21_0
            try clear hcz21_1
            try clear hcz24_0
            try clear hcz24_1
            try clear hcz9_0
            try clear hcz9_1
            try clear p2
            try clear p6
            obtain ⟨kq, x53_24, rfl, HA, HJ24, HO_5, BK393, HB⟩ := hcut
            cases kq with
            | zero => exact absurd HA.out (by simp [impl_bench_runs.j4])
            | succ kj24 =>
             have H := HA.out
             clear HA
             simp only [impl_bench_runs.j4] at H
             by_cases c30 : x53_24 = true
             ·subst c30
              rw [if_pos rfl] at H
              have H' := A0_ H
              clear H
              go_wp2
              go_roundg kj24
              case measure => have := HJ2.out; have := HK2.out; have := HJ17.out; have := HJ21.out; have := HJ24.out; omega
              case rel => exact ⟨(x5_2), (wrap64 (x27_2 + 1)), (by first | rfl | (simp [*]; done)), H', ⟨by have := HJ2.out; have := HK2.out; have := HJ17.out; have := HJ21.out; have := HJ24.out; omega⟩, ⟨by (with_reducible repeat (first | apply ra_ | apply rn_ | apply rd_)); exact HO_5.out⟩, ⟨by (with_reducible repeat (first | apply kn_ | apply kd_ | apply ka_)); exact BK393.out⟩, ⟨by repeat (first | exact HB.out | apply ba_ | apply bn_ | apply bd_ | refine bs_ ?_ GE393.out)⟩⟩
             ·replace c30 := bf_.mpr c30
              subst c30
              rw [if_neg (show ¬ (false = true) by decide)] at H
              have H' := A0_ H
              clear H
              go_wp2
              go_loopg [8, 9] kj24 (fun kq v8 v9 w' => ∃ (x8_6 : Int) (x9_6 : Int), v8 = .int .i64 x8_6 ∧ v9 = .int .i64 x9_6 ∧ Aside0 (impl_bench_runs.l1 kq a1 x5_2 x27_2 x8_6 x9_6 a0_0 x27_2 a0_0 a0_1 = some r) ∧ Aside0 (kq ≤ kj24) ∧ Aside0 (Kd.R k70 70 w' w.heap.size (fun _ => True) u5 x5_2) ∧ Aside0 (w'.heap[gb393]? = some (.cells #[.int .i64 a0_0, .bool a0_1] 57 (0, 0))) ∧ Aside0 (Below w.heap.size w w'))
              case atStart => exact ⟨(0), (x27_2), (by first | rfl | (simp [*]; done)), (by first | rfl | (simp [*]; done)), H', ⟨Nat.le_refl _⟩, ⟨by (with_reducible repeat (first | apply ra_ | apply rn_ | apply rd_)); exact HO_5.out⟩, ⟨by (with_reducible repeat (first | apply kn_ | apply kd_ | apply ka_)); exact BK393.out⟩, ⟨by repeat (first | exact HB.out | apply ba_ | apply bn_ | apply bd_ | refine bs_ ?_ GE393.out)⟩⟩
              case round =>
               clear H'
               try clear c1
               try clear c2
               try clear p2
               try clear c3
               try clear p6
               try clear c7
               try clear c8
               try clear c12
               try clear c13
               try clear c17
               try clear c17b0
               try clear c19
               try clear c23
               try clear c27
               try clear c28
               try clear c28b0
               try clear c30
               try clear hcz11_0
               try clear hcz11_1
               try clear hcz14_0
               try clear hcz14_1
               try clear hcz16_0
               try clear hcz16_1
               try clear hcz20_0
               try clear hcz20_1
               try clear hcz21_0
               try clear hcz21_1
               try clear hcz24_0
               try clear hcz24_1
               try clear hcz9_0
               try clear hcz9_1
               try clear p2
               try clear p6
               obtain ⟨x8_6, x9_6, rfl, rfl, HA, HK6, HO_5, BK393, HB⟩ := hrel
               cases gk with
               | zero => exact absurd HA.out (by simp [impl_bench_runs.l1])
               | succ k6 =>
                have H := HA.out
                clear HA
                simp only [impl_bench_runs.l1] at H
                by_cases c31 : a0_0 = 0
                ·rw [if_pos c31] at H
                 exact absurd H (by simp)
                ·rw [if_neg c31] at H
                 have c31b0 : (a0_0 == 0) = false := beq_eq_false_iff_ne.mpr c31
                 have c31b1 : (a0_0 != 0) = true := bne_iff_ne.mpr c31
                 replace H := ob_.mp H
                 obtain ⟨t403, A320, H⟩ := H
                 have A32 := A0_ A320
                 clear A320
                 by_cases c33 : t403 = true
                 ·subst c33
                  rw [if_pos rfl] at H
                  by_cases c34 : a0_1 = true
                  ·subst c34
                   rw [if_pos rfl] at H
                   have H' := A0_ H
                   clear H
                   have hcz35_0 : wr.cell? ⟨gb393, 0, none⟩ = some (.int .i64 a0_0) := (kc_ BK393.out 0).trans rfl
                   have hcz35_1 : wr.cell? ⟨gb393, 1, none⟩ = some (.bool true) := (kc_ BK393.out 1).trans rfl
                   go_wp2_with (first | ((with_reducible refine gc_ (f := 73) rfl ?_); refine goesL_ (some 60) rfl rfl Try.func73 (by kernel_rfl) rfl #[.int .u32 a1, .int .i64 (Int.tmod x9_6 a0_0)] rfl (by (try simp only [ma_, mc_, mn_]); first | done | rfl | (simp only [ld_, lt_]; rfl)) ?_; (with_reducible refine (impl_set_has.calls a1 (Int.tmod x9_6 a0_0) true _ A32.out).mono ?_); rintro e w' ⟨rfl, ⟨nd, rfl⟩⟩; refine ⟨_, rfl, ?_⟩))
                   go_roundg k6
                   case measure => have := HJ2.out; have := HK2.out; have := HJ17.out; have := HJ21.out; have := HJ24.out; have := HK6.out; omega
                   case rel => exact ⟨(wrap64 (x8_6 + 1)), (wrap64 (x9_6 + 1)), (by first | rfl | (simp [*]; done)), (by first | rfl | (simp [*]; done)), H', ⟨by have := HJ2.out; have := HK2.out; have := HJ17.out; have := HJ21.out; have := HJ24.out; have := HK6.out; omega⟩, ⟨by (with_reducible repeat (first | apply ra_ | apply rn_ | apply rd_)); exact HO_5.out⟩, ⟨by (with_reducible repeat (first | apply kn_ | apply kd_ | apply ka_)); exact BK393.out⟩, ⟨by repeat (first | exact HB.out | apply ba_ | apply bn_ | apply bd_ | refine bs_ ?_ GE393.out)⟩⟩
                  ·replace c34 := bf_.mpr c34
                   subst c34
                   rw [if_neg (show ¬ (false = true) by decide)] at H
                   by_cases c36 : x9_6 < a0_0
                   ·rw [if_pos c36] at H
                    have c36b0 : decide (x9_6 < a0_0) = true := dt_ c36
                    clear c36
                    have H' := A0_ H
                    clear H
                    have hcz37_0 : wr.cell? ⟨gb393, 0, none⟩ = some (.int .i64 a0_0) := (kc_ BK393.out 0).trans rfl
                    have hcz37_1 : wr.cell? ⟨gb393, 1, none⟩ = some (.bool false) := (kc_ BK393.out 1).trans rfl
                    go_wp2_with (first | ((with_reducible refine gc_ (f := 73) rfl ?_); refine goesL_ (some 60) rfl rfl Try.func73 (by kernel_rfl) rfl #[.int .u32 a1, .int .i64 (Int.tmod x9_6 a0_0)] rfl (by (try simp only [ma_, mc_, mn_]); first | done | rfl | (simp only [ld_, lt_]; rfl)) ?_; (with_reducible refine (impl_set_has.calls a1 (Int.tmod x9_6 a0_0) true _ A32.out).mono ?_); rintro e w' ⟨rfl, ⟨nd, rfl⟩⟩; refine ⟨_, rfl, ?_⟩))
                    go_roundg k6
                    case measure => have := HJ2.out; have := HK2.out; have := HJ17.out; have := HJ21.out; have := HJ24.out; have := HK6.out; omega
                    case rel => exact ⟨(wrap64 (x8_6 + 1)), (wrap64 (x9_6 + 1)), (by first | rfl | (simp [*]; done)), (by first | rfl | (simp [*]; done)), H', ⟨by have := HJ2.out; have := HK2.out; have := HJ17.out; have := HJ21.out; have := HJ24.out; have := HK6.out; omega⟩, ⟨by (with_reducible repeat (first | apply ra_ | apply rn_ | apply rd_)); exact HO_5.out⟩, ⟨by (with_reducible repeat (first | apply kn_ | apply kd_ | apply ka_)); exact BK393.out⟩, ⟨by repeat (first | exact HB.out | apply ba_ | apply bn_ | apply bd_ | refine bs_ ?_ GE393.out)⟩⟩
                   ·rw [if_neg c36] at H
                    have c36b0 : decide (x9_6 < a0_0) = false := decide_eq_false c36
                    clear c36
                    by_cases c38 : x5_2.length < 8796093022208
                    ·rw [if_pos c38] at H
                     have LMc38 := A0_ c38
                     clear c38
                     obtain ⟨y404, hy404⟩ : ∃ y_ : List (S70), y_ = (x5_2 ++ [(⟨x27_2, x8_6⟩ : S70)]) := ⟨_, rfl⟩
                     replace H : (impl_bench_runs.l0 k6 a1 y404 a0_0 (wrap64 (x27_2 + 1)) a0_0 false) = some r := by first | (rw [hy404]; with_reducible exact H) | (have H2_ := (Option.bind_some _ _).symm.trans H; rw [hy404]; with_reducible exact H2_) | (have H2_ := (Option.bind_some _ _).symm.trans H; with_reducible exact H2_) | with_reducible exact H | (rw [hy404]; exact H) | exact H
                     have Ny404 := A0_ hy404
                     clear hy404
                     have H' := A0_ H
                     clear H
                     have hcz39_0 : wr.cell? ⟨gb393, 0, none⟩ = some (.int .i64 a0_0) := (kc_ BK393.out 0).trans rfl
                     have hcz39_1 : wr.cell? ⟨gb393, 1, none⟩ = some (.bool false) := (kc_ BK393.out 1).trans rfl
                     go_wp2_with (first | ((with_reducible refine gc_ (f := 73) rfl ?_); refine goesL_ (some 60) rfl rfl Try.func73 (by kernel_rfl) rfl #[.int .u32 a1, .int .i64 (Int.tmod x9_6 a0_0)] rfl (by (try simp only [ma_, mc_, mn_]); first | done | rfl | (simp only [ld_, lt_]; rfl)) ?_; (with_reducible refine (impl_set_has.calls a1 (Int.tmod x9_6 a0_0) true _ A32.out).mono ?_); rintro e w' ⟨rfl, ⟨nd, rfl⟩⟩; refine ⟨_, rfl, ?_⟩) | ((with_reducible refine gate_builtin (b := .append) (xs := #[.tmp 75, .tmp 79]) rfl ?_); at_builtin; refine Kd.R_append k70 (w0 := w) w.heap.size rfl (.tmp 75) (.tmp 79) 68 70 (.agg #[(.int .i64 0), (.int .i64 0)]) 16 rfl Try.underlying68 info70 rfl (by decide) (by omega) u5 x5_2 (⟨x27_2, x8_6⟩ : S70) [.int .i64 x27_2, .int .i64 x8_6] (fun _ => True) (fun _ => False) rfl rfl ?aP (fun _ hk => hk.elim) ?aF ?aO ?aB ?aS ?aL ?_; (case aP => exact k70_mkM _ _ _ (⟨x27_2, x8_6⟩ : S70)); (case aB => exact (by repeat (first | exact HB.out | apply ba_ | apply bn_ | apply bd_ | refine bs_ ?_ GE393.out))); (case aF => exact (fun _ _ => trivial)); (case aO => exact (by (with_reducible repeat (first | apply ra_ | apply rn_ | apply rd_)); exact HO_5.out)); (case aS => exact (bz_ (by repeat (first | exact HB.out | apply ba_ | apply bn_ | apply bd_ | refine bs_ ?_ GE393.out)))); (case aL => have := LMc38.out; omega); intro v405 w40 ho hb hg hat; rw [← Ny404.out] at ho; have n0_ := A0_ (blk_grown (g := gb393) (o := .cells #[.int .i64 a0_0, .bool false] 57 (0, 0)) (by (with_reducible repeat (first | apply kn_ | apply kd_ | apply ka_)); exact BK393.out) hg (Kd.R_ne HO_5.out BK393.out (by decide))); have n1_ := A0_ (hb); have n2_ := A0_ (ho); clear BK393 HB HO_5; have BK393 := n0_; have HB := n1_; have HO406 := n2_; clear n0_ n1_ n2_ ho hb hg hat))
                     go_roundg k6
                     case measure => have := HJ2.out; have := HK2.out; have := HJ17.out; have := HJ21.out; have := HJ24.out; have := HK6.out; omega
                     case rel => exact ⟨(y404), (wrap64 (x27_2 + 1)), (by first | rfl | (simp [*]; done)), H', ⟨by have := HJ2.out; have := HK2.out; have := HJ17.out; have := HJ21.out; have := HJ24.out; have := HK6.out; omega⟩, ⟨by (with_reducible repeat (first | apply ra_ | apply rn_ | apply rd_)); exact HO406.out⟩, ⟨by (with_reducible repeat (first | apply kn_ | apply kd_ | apply ka_)); exact BK393.out⟩, ⟨by repeat (first | exact HB.out | apply ba_ | apply bn_ | apply bd_ | refine bs_ ?_ GE393.out)⟩⟩
                    ·rw [if_neg c38] at H
                     exact absurd H (by simp)
                 ·replace c33 := bf_.mpr c33
                  subst c33
                  rw [if_neg (show ¬ (false = true) by decide)] at H
                  by_cases c41 : x5_2.length < 8796093022208
                  ·rw [if_pos c41] at H
                   have LMc41 := A0_ c41
                   clear c41
                   obtain ⟨y407, hy407⟩ : ∃ y_ : List (S70), y_ = (x5_2 ++ [(⟨x27_2, x8_6⟩ : S70)]) := ⟨_, rfl⟩
                   replace H : (impl_bench_runs.l0 k6 a1 y407 a0_0 (wrap64 (x27_2 + 1)) a0_0 a0_1) = some r := by first | (rw [hy407]; with_reducible exact H) | (have H2_ := (Option.bind_some _ _).symm.trans H; rw [hy407]; with_reducible exact H2_) | (have H2_ := (Option.bind_some _ _).symm.trans H; with_reducible exact H2_) | with_reducible exact H | (rw [hy407]; exact H) | exact H
                   have Ny407 := A0_ hy407
                   clear hy407
                   have H' := A0_ H
                   clear H
                   have hcz42_0 : wr.cell? ⟨gb393, 0, none⟩ = some (.int .i64 a0_0) := (kc_ BK393.out 0).trans rfl
                   have hcz42_1 : wr.cell? ⟨gb393, 1, none⟩ = some (.bool a0_1) := (kc_ BK393.out 1).trans rfl
                   go_wp2_with (first | ((with_reducible refine gc_ (f := 73) rfl ?_); refine goesL_ (some 60) rfl rfl Try.func73 (by kernel_rfl) rfl #[.int .u32 a1, .int .i64 (Int.tmod x9_6 a0_0)] rfl (by (try simp only [ma_, mc_, mn_]); first | done | rfl | (simp only [ld_, lt_]; rfl)) ?_; (with_reducible refine (impl_set_has.calls a1 (Int.tmod x9_6 a0_0) false _ A32.out).mono ?_); rintro e w' ⟨rfl, ⟨nd, rfl⟩⟩; refine ⟨_, rfl, ?_⟩) | ((with_reducible refine gate_builtin (b := .append) (xs := #[.tmp 75, .tmp 79]) rfl ?_); at_builtin; refine Kd.R_append k70 (w0 := w) w.heap.size rfl (.tmp 75) (.tmp 79) 68 70 (.agg #[(.int .i64 0), (.int .i64 0)]) 16 rfl Try.underlying68 info70 rfl (by decide) (by omega) u5 x5_2 (⟨x27_2, x8_6⟩ : S70) [.int .i64 x27_2, .int .i64 x8_6] (fun _ => True) (fun _ => False) rfl rfl ?aP (fun _ hk => hk.elim) ?aF ?aO ?aB ?aS ?aL ?_; (case aP => exact k70_mkM _ _ _ (⟨x27_2, x8_6⟩ : S70)); (case aB => exact (by repeat (first | exact HB.out | apply ba_ | apply bn_ | apply bd_ | refine bs_ ?_ GE393.out))); (case aF => exact (fun _ _ => trivial)); (case aO => exact (by (with_reducible repeat (first | apply ra_ | apply rn_ | apply rd_)); exact HO_5.out)); (case aS => exact (bz_ (by repeat (first | exact HB.out | apply ba_ | apply bn_ | apply bd_ | refine bs_ ?_ GE393.out)))); (case aL => have := LMc41.out; omega); intro v408 w43 ho hb hg hat; rw [← Ny407.out] at ho; have n0_ := A0_ (blk_grown (g := gb393) (o := .cells #[.int .i64 a0_0, .bool a0_1] 57 (0, 0)) (by (with_reducible repeat (first | apply kn_ | apply kd_ | apply ka_)); exact BK393.out) hg (Kd.R_ne HO_5.out BK393.out (by decide))); have n1_ := A0_ (hb); have n2_ := A0_ (ho); clear BK393 HB HO_5; have BK393 := n0_; have HB := n1_; have HO409 := n2_; clear n0_ n1_ n2_ ho hb hg hat))
                   go_roundg k6
                   case measure => have := HJ2.out; have := HK2.out; have := HJ17.out; have := HJ21.out; have := HJ24.out; have := HK6.out; omega
                   case rel => exact ⟨(y407), (wrap64 (x27_2 + 1)), (by first | rfl | (simp [*]; done)), H', ⟨by have := HJ2.out; have := HK2.out; have := HJ17.out; have := HJ21.out; have := HJ24.out; have := HK6.out; omega⟩, ⟨by (with_reducible repeat (first | apply ra_ | apply rn_ | apply rd_)); exact HO409.out⟩, ⟨by (with_reducible repeat (first | apply kn_ | apply kd_ | apply ka_)); exact BK393.out⟩, ⟨by repeat (first | exact HB.out | apply ba_ | apply bn_ | apply bd_ | refine bs_ ?_ GE393.out)⟩⟩
                  ·rw [if_neg c41] at H
                   exact absurd H (by simp)
      ·rw [if_neg c17] at H
       have c17b0 : decide (x27_2 < a0_0) = false := decide_eq_false c17
       clear c17
       obtain rfl := si_ H
       go_wp2
       go_ret
       exact ⟨_, by first | rfl | (simp [*, errW_none, errW_some] <;> rfl), by (with_reducible repeat (first | apply ra_ | apply rn_ | apply rd_)); exact HO_5.out, by repeat (first | exact HB.out | apply ba_ | apply bn_ | apply bd_ | refine bs_ ?_ GE393.out)⟩

end Go.Proofs.Ytgcgmlbjklkkjaa.QFnExactBestPlay
-- squeezed
