-- Written by px.py, a program of this session, over the kit's printer: some functions have a definition and a proof of this session's own.
import Derived.Test.YtgcgmlbjklkkjaaQFnExactBestPlayx0
import Derived.Test.YtgcgmlbjklkkjaaQFnExactBestPlayx12
import Derived.Test.YtgcgmlbjklkkjaaQFnExactBestPlayx13
import Derived.Test.YtgcgmlbjklkkjaaQFnExactBestPlayx15
namespace Go.Proofs.Ytgcgmlbjklkkjaa.QFnExactBestPlay
open Go.RowKit Go.Proofs.YtgcgmlbjklkkjaaW.PrintWords Go.Proofs.YtgcgmlbjklkkjaaW.PrintLast Go.Proofs.YtgcgmlbjklkkjaaW.PrintMore
attribute [local go_sem] max2_int min2_int max_two min_two max_three min_three max_four min_four   -- for this text's walks alone
set_option linter.unusedVariables false
set_option linter.unusedSimpArgs false
set_option maxHeartbeats 8000000
set_option maxRecDepth 100000

def impl_bench_number.l0 : Nat → List Int → Int → List (S70) → Int → Int → Option (Int)
 | 0, _, _, _, _, _ => none
 | k + 1, x7, x11, x37, x38, x39 => if x39 < x38 then (if 0 ≤ x39 then (if x39 < (x37.length : Int) then (if 0 ≤ ((rd_T70 x37 x39).f1) then (if ((rd_T70 x37 x39).f1) < (x7.length : Int) then (impl_bench_number.l0 k x7 (Go.bits .xor .i64 x11 (rd x7 ((rd_T70 x37 x39).f1))) x37 x38 (wrap64 (x39 + 1))) else (none)) else (none)) else (none)) else (none)) else (some x11)
def impl_bench_number.f (k : Nat) (a0_0 : Int) (a0_1 : Bool) (a1 : Int) (a2 : Int) : Option (Int) := (impl_lineNumbers.f k a2).bind fun t422 => ((impl_bench_pieces.f k a0_0 a0_1 a1 a2).bind fun bt425 => (if bt425.2 = true then (if a2 = 1 then (if 0 ≤ (wrap64 (a0_0 - 3)) then (if (wrap64 (a0_0 - 3)) < (t422.length : Int) then (if (rd t422 (wrap64 (a0_0 - 3))) = 0 then (some 1) else (some 0)) else (none)) else (none)) else (if 0 ≤ (wrap64 (a0_0 - 2)) then (if (wrap64 (a0_0 - 2)) < (t422.length : Int) then (if (rd t422 (wrap64 (a0_0 - 2))) = 0 then (some 1) else (some 0)) else (none)) else (none))) else (impl_bench_number.l0 k t422 0 bt425.1 (bt425.1.length : Int) 0)))
theorem impl_bench_number.mono_l : ∀ k, (∀ y0 y1 y2 y3 y4, LeO (impl_bench_number.l0 k y0 y1 y2 y3 y4) (impl_bench_number.l0 (k + 1) y0 y1 y2 y3 y4))
 | 0 => fun _ _ _ _ _ r h => by simp [impl_bench_number.l0] at h
 | k + 1 => by
  have ih0 := impl_bench_number.mono_l k
  ·intro y0 y1 y2 y3 y4
   unfold impl_bench_number.l0
   repeat' first
   | (with_reducible exact ih0 _ _ _ _ _)
   | (with_reducible exact impl_bench_pieces.mono _ _ _ _ _)
   | (with_reducible exact impl_lineNumbers.mono _ _)
   | (with_reducible exact LeO.refl _)
   | (with_reducible exact LeO.none _)
   | (with_reducible refine LeO.ite ?_ ?_)
   | (with_reducible refine LeO.bind ?_ (fun _ => ?_))
theorem impl_bench_number.mono : ∀ a0 a1 a2 a3 k, LeO (impl_bench_number.f k a0 a1 a2 a3) (impl_bench_number.f (k + 1) a0 a1 a2 a3) := by
 intro a0 a1 a2 a3 k
 have ih0 := impl_bench_number.mono_l k
 unfold impl_bench_number.f
 repeat' first
   | (with_reducible exact ih0 _ _ _ _ _)
   | (with_reducible exact impl_bench_pieces.mono _ _ _ _ _)
   | (with_reducible exact impl_lineNumbers.mono _ _)
   | (with_reducible exact LeO.refl _)
   | (with_reducible exact LeO.none _)
   | (with_reducible refine LeO.ite ?_ ?_)
   | (with_reducible refine LeO.bind ?_ (fun _ => ?_))
theorem impl_bench_number.calls (k : Nat) (a0_0 : Int) (a0_1 : Bool) (a1 : Int) (a2 : Int) (r : Int) (w : World) (h : impl_bench_number.f k a0_0 a0_1 a1 a2 = some r) :
  Calls Try.prog 57 #[.agg #[.int .i64 a0_0, .bool a0_1], .int .u32 a1, .int .i64 a2] w fun e w' => e = .returned (.int .i64 r) ∧ Below w.heap.size w w' := by
 have hu57 := Try.underlying57
 have hu70 := Try.underlying70
 have HB := A0_ (Below.refl w.heap.size w)
 have H : ((impl_lineNumbers.f k a2).bind fun t422 => ((impl_bench_pieces.f k a0_0 a0_1 a1 a2).bind fun bt425 => (if bt425.2 = true then (if a2 = 1 then (if 0 ≤ (wrap64 (a0_0 - 3)) then (if (wrap64 (a0_0 - 3)) < (t422.length : Int) then (if (rd t422 (wrap64 (a0_0 - 3))) = 0 then (some 1) else (some 0)) else (none)) else (none)) else (if 0 ≤ (wrap64 (a0_0 - 2)) then (if (wrap64 (a0_0 - 2)) < (t422.length : Int) then (if (rd t422 (wrap64 (a0_0 - 2))) = 0 then (some 1) else (some 0)) else (none)) else (none))) else (impl_bench_number.l0 k t422 0 bt425.1 (bt425.1.length : Int) 0)))) = some r := h
 clear h
 replace H := ob_.mp H
 obtain ⟨t422, A40, H⟩ := H
 have A4 := A0_ A40
 clear A40
 replace H := ob_.mp H
 obtain ⟨⟨t425, t428⟩, A50, H⟩ := H
 have A5 := A0_ A50
 clear A50
 by_cases c6 : t428 = true
 ·subst c6
  rw [if_pos rfl] at H
  by_cases c7 : a2 = 1
  ·rw [if_pos c7] at H
   have c7b0 : (a2 == 1) = true := beq_iff_eq.mpr c7
   have c7b1 : (a2 != 1) = false := bne_eq_false_iff_eq.mpr c7
   clear c7
   obtain ⟨ji8, hji8⟩ : ∃ j_ : Int, (wrap64 (a0_0 - 3)) = j_ := ⟨_, rfl⟩
   replace H : (if 0 ≤ (ji8) then (if (ji8) < (t422.length : Int) then (if (rd t422 (ji8)) = 0 then (some 1) else (some 0)) else (none)) else (none)) = some r := by first | (rw [hji8] at H; exact H) | (simp only [hji8] at H ⊢; exact H)
   (try rw [hji8] at A4)
   (try rw [hji8] at A5)
   have hji8w : (IntKind.i64.wrap (a0_0 - 3)) = ji8 := (i64_w _).trans hji8
   by_cases c9 : 0 ≤ (ji8)
   ·rw [if_pos c9] at H
    have c9b0 : decide (0 ≤ (ji8)) = true := dt_ c9
    clear c9
    by_cases c10 : (ji8) < (t422.length : Int)
    ·rw [if_pos c10] at H
     have c10b0 : decide ((ji8) < (t422.length : Int)) = true := dt_ c10
     clear c10
     by_cases c11 : (rd t422 (ji8)) = 0
     ·rw [if_pos c11] at H
      have c11b0 : ((rd t422 (ji8)) == 0) = true := beq_iff_eq.mpr c11
      have c11b1 : ((rd t422 (ji8)) != 0) = false := bne_eq_false_iff_eq.mpr c11
      clear c11
      obtain rfl := si_ H
      go_enter Try.func57, Try.ntmps57
      go_wp2_with (first | ((with_reducible refine gd_ (N := 3) rfl ?_); refine be_ ?hg (N := 3) ?hd (cs := #[.int .i64 a0_0, .bool a0_1]) (t := 57) ?hr ?_; (case hd => rfl); (case hg => rfl); (case hr => go_simp; first | done | rfl); intro gb421 hg w12 hbox hb; have n0_ := A0_ (bt_ (by repeat (first | exact HB.out | apply ba_ | apply bn_ | apply bd_)) hb); have n1_ := A0_ (hbox); have n2_ := A0_ ((by rw [hg]; exact (bz_ (by repeat (first | exact HB.out | apply ba_ | apply bn_ | apply bd_))) : w.heap.size ≤ gb421)); have n3_ := A0_ ((by rw [hg]; exact (bz_ (by repeat (first | exact HB.out | apply ba_ | apply bn_ | apply bd_))) : w.heap.size ≤ gb421)); clear HB; have HB := n0_; have BK421 := n1_; have GW421 := n2_; have GE421 := n3_; clear n0_ n1_ n2_ n3_ hb hbox hg) | ((with_reducible refine gc_ (f := 45) rfl ?_); refine goesL_ (some 15) rfl rfl Try.func45 (by kernel_rfl) rfl #[.int .i64 a2] rfl (by (try simp only [ma_, mc_, mn_]); first | done | rfl | (simp only [ld_, lt_]; rfl)) ?_; (with_reducible refine (impl_lineNumbers.calls k a2 t422 _ A4.out).mono ?_); rintro e w13 ⟨v423, rfl, ho0, hb⟩; refine ⟨_, rfl, ?_⟩; have n0_ := A0_ (Kd.R_lower ho0 (bz_ (by repeat (first | exact HB.out | apply ba_ | apply bn_ | apply bd_ | refine bs_ ?_ GE421.out)))); have n1_ := A0_ (kb_ (g := gb421) (o := .cells #[.int .i64 a0_0, .bool a0_1] 57 (0, 0)) (by (with_reducible repeat (first | apply kn_ | apply kd_ | apply ka_)); exact BK421.out) hb); have n2_ := A0_ (bt_ (by repeat (first | exact HB.out | apply ba_ | apply bn_ | apply bd_ | refine bs_ ?_ GE421.out)) hb); clear BK421 HB; have HO424 := n0_; have BK421 := n1_; have HB := n2_; clear n0_ n1_ n2_; (try clear hb); (try clear ho0); have hcz14_0 : w13.cell? ⟨gb421, 0, none⟩ = some (.int .i64 a0_0) := (kc_ BK421.out 0).trans rfl; have hcz14_1 : w13.cell? ⟨gb421, 1, none⟩ = some (.bool a0_1) := (kc_ BK421.out 1).trans rfl; have hfz14_0 := kf_ BK421.out 0; have hfz14_1 := kf_ BK421.out 1) | ((with_reducible refine gc_ (f := 64) rfl ?_); refine goesL_ (some 20) rfl rfl Try.func64 (by kernel_rfl) rfl #[.agg #[.int .i64 a0_0, .bool a0_1], .int .u32 a1, .int .i64 a2] rfl (by (try simp only [ma_, mc_, mn_]); first | done | rfl | (simp only [ld_, lt_]; rfl)) ?_; (with_reducible refine (impl_bench_pieces.calls k a0_0 a0_1 a1 a2 t425 true _ A5.out).mono ?_); rintro e w15 ⟨v426, rfl, ho0, hb⟩; refine ⟨_, rfl, ?_⟩; have n0_ := A0_ (Kd.R_below (by (with_reducible repeat (first | apply ra_ | apply rn_ | apply rd_)); exact HO424.out) hb); have n1_ := A0_ (Kd.R_lower ho0 (bz_ (by repeat (first | exact HB.out | apply ba_ | apply bn_ | apply bd_ | refine bs_ ?_ GE421.out)))); have n2_ := A0_ (kb_ (g := gb421) (o := .cells #[.int .i64 a0_0, .bool a0_1] 57 (0, 0)) (by (with_reducible repeat (first | apply kn_ | apply kd_ | apply ka_)); exact BK421.out) hb); have n3_ := A0_ (bt_ (by repeat (first | exact HB.out | apply ba_ | apply bn_ | apply bd_ | refine bs_ ?_ GE421.out)) hb); clear HO424 BK421 HB; have HO424 := n0_; have HO427 := n1_; have BK421 := n2_; have HB := n3_; clear n0_ n1_ n2_ n3_; (try clear hb); (try clear ho0); have hcz16_0 : w15.cell? ⟨gb421, 0, none⟩ = some (.int .i64 a0_0) := (kc_ BK421.out 0).trans rfl; have hcz16_1 : w15.cell? ⟨gb421, 1, none⟩ = some (.bool a0_1) := (kc_ BK421.out 1).trans rfl; have hfz16_0 := kf_ BK421.out 0; have hfz16_1 := kf_ BK421.out 1; obtain ⟨Ao17, co17, eo17⟩ := Kd.R_slice HO424.out; subst eo17; have p429 : 0 ≤ ((ji8) : Int) := od_ (by first | (with_reducible assumption) | assumption); have q429 : (ji8) < (t422.length : Int) := od_ (by first | (with_reducible assumption) | assumption); obtain ⟨ad429, e429, hx429_0⟩ := Kd.at_int (rr_ HO424.out).2.2 (ji8) p429 q429; cases e429; replace p429 := eq_true p429; replace q429 := eq_true q429))
      go_ret
      exact ⟨by first | rfl | (simp [errW_none, errW_some] <;> rfl) | (simp only [← hji8]; first | rfl | (simp [errW_none, errW_some] <;> rfl)) | (simp [*, errW_none, errW_some] <;> rfl), by repeat (first | exact HB.out | apply ba_ | apply bn_ | apply bd_ | refine bs_ ?_ GE421.out)⟩
     ·rw [if_neg c11] at H
      have c11b0 : ((rd t422 (ji8)) == 0) = false := beq_eq_false_iff_ne.mpr c11
      have c11b1 : ((rd t422 (ji8)) != 0) = true := bne_iff_ne.mpr c11
      obtain rfl := si_ H
      go_enter Try.func57, Try.ntmps57
      go_wp2_with (first | ((with_reducible refine gd_ (N := 3) rfl ?_); refine be_ ?hg (N := 3) ?hd (cs := #[.int .i64 a0_0, .bool a0_1]) (t := 57) ?hr ?_; (case hd => rfl); (case hg => rfl); (case hr => go_simp; first | done | rfl); intro gb421 hg w18 hbox hb; have n0_ := A0_ (bt_ (by repeat (first | exact HB.out | apply ba_ | apply bn_ | apply bd_)) hb); have n1_ := A0_ (hbox); have n2_ := A0_ ((by rw [hg]; exact (bz_ (by repeat (first | exact HB.out | apply ba_ | apply bn_ | apply bd_))) : w.heap.size ≤ gb421)); have n3_ := A0_ ((by rw [hg]; exact (bz_ (by repeat (first | exact HB.out | apply ba_ | apply bn_ | apply bd_))) : w.heap.size ≤ gb421)); clear HB; have HB := n0_; have BK421 := n1_; have GW421 := n2_; have GE421 := n3_; clear n0_ n1_ n2_ n3_ hb hbox hg) | ((with_reducible refine gc_ (f := 45) rfl ?_); refine goesL_ (some 15) rfl rfl Try.func45 (by kernel_rfl) rfl #[.int .i64 a2] rfl (by (try simp only [ma_, mc_, mn_]); first | done | rfl | (simp only [ld_, lt_]; rfl)) ?_; (with_reducible refine (impl_lineNumbers.calls k a2 t422 _ A4.out).mono ?_); rintro e w19 ⟨v423, rfl, ho0, hb⟩; refine ⟨_, rfl, ?_⟩; have n0_ := A0_ (Kd.R_lower ho0 (bz_ (by repeat (first | exact HB.out | apply ba_ | apply bn_ | apply bd_ | refine bs_ ?_ GE421.out)))); have n1_ := A0_ (kb_ (g := gb421) (o := .cells #[.int .i64 a0_0, .bool a0_1] 57 (0, 0)) (by (with_reducible repeat (first | apply kn_ | apply kd_ | apply ka_)); exact BK421.out) hb); have n2_ := A0_ (bt_ (by repeat (first | exact HB.out | apply ba_ | apply bn_ | apply bd_ | refine bs_ ?_ GE421.out)) hb); clear BK421 HB; have HO424 := n0_; have BK421 := n1_; have HB := n2_; clear n0_ n1_ n2_; (try clear hb); (try clear ho0); have hcz20_0 : w19.cell? ⟨gb421, 0, none⟩ = some (.int .i64 a0_0) := (kc_ BK421.out 0).trans rfl; have hcz20_1 : w19.cell? ⟨gb421, 1, none⟩ = some (.bool a0_1) := (kc_ BK421.out 1).trans rfl; have hfz20_0 := kf_ BK421.out 0; have hfz20_1 := kf_ BK421.out 1) | ((with_reducible refine gc_ (f := 64) rfl ?_); refine goesL_ (some 20) rfl rfl Try.func64 (by kernel_rfl) rfl #[.agg #[.int .i64 a0_0, .bool a0_1], .int .u32 a1, .int .i64 a2] rfl (by (try simp only [ma_, mc_, mn_]); first | done | rfl | (simp only [ld_, lt_]; rfl)) ?_; (with_reducible refine (impl_bench_pieces.calls k a0_0 a0_1 a1 a2 t425 true _ A5.out).mono ?_); rintro e w21 ⟨v426, rfl, ho0, hb⟩; refine ⟨_, rfl, ?_⟩; have n0_ := A0_ (Kd.R_below (by (with_reducible repeat (first | apply ra_ | apply rn_ | apply rd_)); exact HO424.out) hb); have n1_ := A0_ (Kd.R_lower ho0 (bz_ (by repeat (first | exact HB.out | apply ba_ | apply bn_ | apply bd_ | refine bs_ ?_ GE421.out)))); have n2_ := A0_ (kb_ (g := gb421) (o := .cells #[.int .i64 a0_0, .bool a0_1] 57 (0, 0)) (by (with_reducible repeat (first | apply kn_ | apply kd_ | apply ka_)); exact BK421.out) hb); have n3_ := A0_ (bt_ (by repeat (first | exact HB.out | apply ba_ | apply bn_ | apply bd_ | refine bs_ ?_ GE421.out)) hb); clear HO424 BK421 HB; have HO424 := n0_; have HO427 := n1_; have BK421 := n2_; have HB := n3_; clear n0_ n1_ n2_ n3_; (try clear hb); (try clear ho0); have hcz22_0 : w21.cell? ⟨gb421, 0, none⟩ = some (.int .i64 a0_0) := (kc_ BK421.out 0).trans rfl; have hcz22_1 : w21.cell? ⟨gb421, 1, none⟩ = some (.bool a0_1) := (kc_ BK421.out 1).trans rfl; have hfz22_0 := kf_ BK421.out 0; have hfz22_1 := kf_ BK421.out 1; obtain ⟨Ao23, co23, eo23⟩ := Kd.R_slice HO424.out; subst eo23; have p429 : 0 ≤ ((ji8) : Int) := od_ (by first | (with_reducible assumption) | assumption); have q429 : (ji8) < (t422.length : Int) := od_ (by first | (with_reducible assumption) | assumption); obtain ⟨ad429, e429, hx429_0⟩ := Kd.at_int (rr_ HO424.out).2.2 (ji8) p429 q429; cases e429; replace p429 := eq_true p429; replace q429 := eq_true q429))
      go_ret
      exact ⟨by first | rfl | (simp [errW_none, errW_some] <;> rfl) | (simp only [← hji8]; first | rfl | (simp [errW_none, errW_some] <;> rfl)) | (simp [*, errW_none, errW_some] <;> rfl), by repeat (first | exact HB.out | apply ba_ | apply bn_ | apply bd_ | refine bs_ ?_ GE421.out)⟩
    ·rw [if_neg c10] at H
     exact absurd H (by simp)
   ·rw [if_neg c9] at H
    exact absurd H (by simp)
  ·rw [if_neg c7] at H
   have c7b0 : (a2 == 1) = false := beq_eq_false_iff_ne.mpr c7
   have c7b1 : (a2 != 1) = true := bne_iff_ne.mpr c7
   obtain ⟨ji24, hji24⟩ : ∃ j_ : Int, (wrap64 (a0_0 - 2)) = j_ := ⟨_, rfl⟩
   replace H : (if 0 ≤ (ji24) then (if (ji24) < (t422.length : Int) then (if (rd t422 (ji24)) = 0 then (some 1) else (some 0)) else (none)) else (none)) = some r := by first | (rw [hji24] at H; exact H) | (simp only [hji24] at H ⊢; exact H)
   (try rw [hji24] at A4)
   (try rw [hji24] at A5)
   have hji24w : (IntKind.i64.wrap (a0_0 - 2)) = ji24 := (i64_w _).trans hji24
   by_cases c25 : 0 ≤ (ji24)
   ·rw [if_pos c25] at H
    have c25b0 : decide (0 ≤ (ji24)) = true := dt_ c25
    clear c25
    by_cases c26 : (ji24) < (t422.length : Int)
    ·rw [if_pos c26] at H
     have c26b0 : decide ((ji24) < (t422.length : Int)) = true := dt_ c26
     clear c26
     by_cases c27 : (rd t422 (ji24)) = 0
     ·rw [if_pos c27] at H
      have c27b0 : ((rd t422 (ji24)) == 0) = true := beq_iff_eq.mpr c27
      have c27b1 : ((rd t422 (ji24)) != 0) = false := bne_eq_false_iff_eq.mpr c27
      clear c27
      obtain rfl := si_ H
      go_enter Try.func57, Try.ntmps57
      go_wp2_with (first | ((with_reducible refine gd_ (N := 3) rfl ?_); refine be_ ?hg (N := 3) ?hd (cs := #[.int .i64 a0_0, .bool a0_1]) (t := 57) ?hr ?_; (case hd => rfl); (case hg => rfl); (case hr => go_simp; first | done | rfl); intro gb421 hg w28 hbox hb; have n0_ := A0_ (bt_ (by repeat (first | exact HB.out | apply ba_ | apply bn_ | apply bd_)) hb); have n1_ := A0_ (hbox); have n2_ := A0_ ((by rw [hg]; exact (bz_ (by repeat (first | exact HB.out | apply ba_ | apply bn_ | apply bd_))) : w.heap.size ≤ gb421)); have n3_ := A0_ ((by rw [hg]; exact (bz_ (by repeat (first | exact HB.out | apply ba_ | apply bn_ | apply bd_))) : w.heap.size ≤ gb421)); clear HB; have HB := n0_; have BK421 := n1_; have GW421 := n2_; have GE421 := n3_; clear n0_ n1_ n2_ n3_ hb hbox hg) | ((with_reducible refine gc_ (f := 45) rfl ?_); refine goesL_ (some 15) rfl rfl Try.func45 (by kernel_rfl) rfl #[.int .i64 a2] rfl (by (try simp only [ma_, mc_, mn_]); first | done | rfl | (simp only [ld_, lt_]; rfl)) ?_; (with_reducible refine (impl_lineNumbers.calls k a2 t422 _ A4.out).mono ?_); rintro e w29 ⟨v423, rfl, ho0, hb⟩; refine ⟨_, rfl, ?_⟩; have n0_ := A0_ (Kd.R_lower ho0 (bz_ (by repeat (first | exact HB.out | apply ba_ | apply bn_ | apply bd_ | refine bs_ ?_ GE421.out)))); have n1_ := A0_ (kb_ (g := gb421) (o := .cells #[.int .i64 a0_0, .bool a0_1] 57 (0, 0)) (by (with_reducible repeat (first | apply kn_ | apply kd_ | apply ka_)); exact BK421.out) hb); have n2_ := A0_ (bt_ (by repeat (first | exact HB.out | apply ba_ | apply bn_ | apply bd_ | refine bs_ ?_ GE421.out)) hb); clear BK421 HB; have HO424 := n0_; have BK421 := n1_; have HB := n2_; clear n0_ n1_ n2_; (try clear hb); (try clear ho0); have hcz30_0 : w29.cell? ⟨gb421, 0, none⟩ = some (.int .i64 a0_0) := (kc_ BK421.out 0).trans rfl; have hcz30_1 : w29.cell? ⟨gb421, 1, none⟩ = some (.bool a0_1) := (kc_ BK421.out 1).trans rfl; have hfz30_0 := kf_ BK421.out 0; have hfz30_1 := kf_ BK421.out 1) | ((with_reducible refine gc_ (f := 64) rfl ?_); refine goesL_ (some 20) rfl rfl Try.func64 (by kernel_rfl) rfl #[.agg #[.int .i64 a0_0, .bool a0_1], .int .u32 a1, .int .i64 a2] rfl (by (try simp only [ma_, mc_, mn_]); first | done | rfl | (simp only [ld_, lt_]; rfl)) ?_; (with_reducible refine (impl_bench_pieces.calls k a0_0 a0_1 a1 a2 t425 true _ A5.out).mono ?_); rintro e w31 ⟨v426, rfl, ho0, hb⟩; refine ⟨_, rfl, ?_⟩; have n0_ := A0_ (Kd.R_below (by (with_reducible repeat (first | apply ra_ | apply rn_ | apply rd_)); exact HO424.out) hb); have n1_ := A0_ (Kd.R_lower ho0 (bz_ (by repeat (first | exact HB.out | apply ba_ | apply bn_ | apply bd_ | refine bs_ ?_ GE421.out)))); have n2_ := A0_ (kb_ (g := gb421) (o := .cells #[.int .i64 a0_0, .bool a0_1] 57 (0, 0)) (by (with_reducible repeat (first | apply kn_ | apply kd_ | apply ka_)); exact BK421.out) hb); have n3_ := A0_ (bt_ (by repeat (first | exact HB.out | apply ba_ | apply bn_ | apply bd_ | refine bs_ ?_ GE421.out)) hb); clear HO424 BK421 HB; have HO424 := n0_; have HO427 := n1_; have BK421 := n2_; have HB := n3_; clear n0_ n1_ n2_ n3_; (try clear hb); (try clear ho0); have hcz32_0 : w31.cell? ⟨gb421, 0, none⟩ = some (.int .i64 a0_0) := (kc_ BK421.out 0).trans rfl; have hcz32_1 : w31.cell? ⟨gb421, 1, none⟩ = some (.bool a0_1) := (kc_ BK421.out 1).trans rfl; have hfz32_0 := kf_ BK421.out 0; have hfz32_1 := kf_ BK421.out 1; obtain ⟨Ao33, co33, eo33⟩ := Kd.R_slice HO424.out; subst eo33; have p430 : 0 ≤ ((ji24) : Int) := od_ (by first | (with_reducible assumption) | assumption); have q430 : (ji24) < (t422.length : Int) := od_ (by first | (with_reducible assumption) | assumption); obtain ⟨ad430, e430, hx430_0⟩ := Kd.at_int (rr_ HO424.out).2.2 (ji24) p430 q430; cases e430; replace p430 := eq_true p430; replace q430 := eq_true q430))
      go_ret
      exact ⟨by first | rfl | (simp [errW_none, errW_some] <;> rfl) | (simp only [← hji24]; first | rfl | (simp [errW_none, errW_some] <;> rfl)) | (simp [*, errW_none, errW_some] <;> rfl), by repeat (first | exact HB.out | apply ba_ | apply bn_ | apply bd_ | refine bs_ ?_ GE421.out)⟩
     ·rw [if_neg c27] at H
      have c27b0 : ((rd t422 (ji24)) == 0) = false := beq_eq_false_iff_ne.mpr c27
      have c27b1 : ((rd t422 (ji24)) != 0) = true := bne_iff_ne.mpr c27
      obtain rfl := si_ H
      go_enter Try.func57, Try.ntmps57
      go_wp2_with (first | ((with_reducible refine gd_ (N := 3) rfl ?_); refine be_ ?hg (N := 3) ?hd (cs := #[.int .i64 a0_0, .bool a0_1]) (t := 57) ?hr ?_; (case hd => rfl); (case hg => rfl); (case hr => go_simp; first | done | rfl); intro gb421 hg w34 hbox hb; have n0_ := A0_ (bt_ (by repeat (first | exact HB.out | apply ba_ | apply bn_ | apply bd_)) hb); have n1_ := A0_ (hbox); have n2_ := A0_ ((by rw [hg]; exact (bz_ (by repeat (first | exact HB.out | apply ba_ | apply bn_ | apply bd_))) : w.heap.size ≤ gb421)); have n3_ := A0_ ((by rw [hg]; exact (bz_ (by repeat (first | exact HB.out | apply ba_ | apply bn_ | apply bd_))) : w.heap.size ≤ gb421)); clear HB; have HB := n0_; have BK421 := n1_; have GW421 := n2_; have GE421 := n3_; clear n0_ n1_ n2_ n3_ hb hbox hg) | ((with_reducible refine gc_ (f := 45) rfl ?_); refine goesL_ (some 15) rfl rfl Try.func45 (by kernel_rfl) rfl #[.int .i64 a2] rfl (by (try simp only [ma_, mc_, mn_]); first | done | rfl | (simp only [ld_, lt_]; rfl)) ?_; (with_reducible refine (impl_lineNumbers.calls k a2 t422 _ A4.out).mono ?_); rintro e w35 ⟨v423, rfl, ho0, hb⟩; refine ⟨_, rfl, ?_⟩; have n0_ := A0_ (Kd.R_lower ho0 (bz_ (by repeat (first | exact HB.out | apply ba_ | apply bn_ | apply bd_ | refine bs_ ?_ GE421.out)))); have n1_ := A0_ (kb_ (g := gb421) (o := .cells #[.int .i64 a0_0, .bool a0_1] 57 (0, 0)) (by (with_reducible repeat (first | apply kn_ | apply kd_ | apply ka_)); exact BK421.out) hb); have n2_ := A0_ (bt_ (by repeat (first | exact HB.out | apply ba_ | apply bn_ | apply bd_ | refine bs_ ?_ GE421.out)) hb); clear BK421 HB; have HO424 := n0_; have BK421 := n1_; have HB := n2_; clear n0_ n1_ n2_; (try clear hb); (try clear ho0); have hcz36_0 : w35.cell? ⟨gb421, 0, none⟩ = some (.int .i64 a0_0) := (kc_ BK421.out 0).trans rfl; have hcz36_1 : w35.cell? ⟨gb421, 1, none⟩ = some (.bool a0_1) := (kc_ BK421.out 1).trans rfl; have hfz36_0 := kf_ BK421.out 0; have hfz36_1 := kf_ BK421.out 1) | ((with_reducible refine gc_ (f := 64) rfl ?_); refine goesL_ (some 20) rfl rfl Try.func64 (by kernel_rfl) rfl #[.agg #[.int .i64 a0_0, .bool a0_1], .int .u32 a1, .int .i64 a2] rfl (by (try simp only [ma_, mc_, mn_]); first | done | rfl | (simp only [ld_, lt_]; rfl)) ?_; (with_reducible refine (impl_bench_pieces.calls k a0_0 a0_1 a1 a2 t425 true _ A5.out).mono ?_); rintro e w37 ⟨v426, rfl, ho0, hb⟩; refine ⟨_, rfl, ?_⟩; have n0_ := A0_ (Kd.R_below (by (with_reducible repeat (first | apply ra_ | apply rn_ | apply rd_)); exact HO424.out) hb); have n1_ := A0_ (Kd.R_lower ho0 (bz_ (by repeat (first | exact HB.out | apply ba_ | apply bn_ | apply bd_ | refine bs_ ?_ GE421.out)))); have n2_ := A0_ (kb_ (g := gb421) (o := .cells #[.int .i64 a0_0, .bool a0_1] 57 (0, 0)) (by (with_reducible repeat (first | apply kn_ | apply kd_ | apply ka_)); exact BK421.out) hb); have n3_ := A0_ (bt_ (by repeat (first | exact HB.out | apply ba_ | apply bn_ | apply bd_ | refine bs_ ?_ GE421.out)) hb); clear HO424 BK421 HB; have HO424 := n0_; have HO427 := n1_; have BK421 := n2_; have HB := n3_; clear n0_ n1_ n2_ n3_; (try clear hb); (try clear ho0); have hcz38_0 : w37.cell? ⟨gb421, 0, none⟩ = some (.int .i64 a0_0) := (kc_ BK421.out 0).trans rfl; have hcz38_1 : w37.cell? ⟨gb421, 1, none⟩ = some (.bool a0_1) := (kc_ BK421.out 1).trans rfl; have hfz38_0 := kf_ BK421.out 0; have hfz38_1 := kf_ BK421.out 1; obtain ⟨Ao39, co39, eo39⟩ := Kd.R_slice HO424.out; subst eo39; have p430 : 0 ≤ ((ji24) : Int) := od_ (by first | (with_reducible assumption) | assumption); have q430 : (ji24) < (t422.length : Int) := od_ (by first | (with_reducible assumption) | assumption); obtain ⟨ad430, e430, hx430_0⟩ := Kd.at_int (rr_ HO424.out).2.2 (ji24) p430 q430; cases e430; replace p430 := eq_true p430; replace q430 := eq_true q430))
      go_ret
      exact ⟨by first | rfl | (simp [errW_none, errW_some] <;> rfl) | (simp only [← hji24]; first | rfl | (simp [errW_none, errW_some] <;> rfl)) | (simp [*, errW_none, errW_some] <;> rfl), by repeat (first | exact HB.out | apply ba_ | apply bn_ | apply bd_ | refine bs_ ?_ GE421.out)⟩
    ·rw [if_neg c26] at H
     exact absurd H (by simp)
   ·rw [if_neg c25] at H
    exact absurd H (by simp)
 ·replace c6 := bf_.mpr c6
  subst c6
  rw [if_neg (show ¬ (false = true) by decide)] at H
  have H' := A0_ H
  clear H
  go_enter Try.func57, Try.ntmps57
  go_wp2_with (first | ((with_reducible refine gd_ (N := 3) rfl ?_); refine be_ ?hg (N := 3) ?hd (cs := #[.int .i64 a0_0, .bool a0_1]) (t := 57) ?hr ?_; (case hd => rfl); (case hg => rfl); (case hr => go_simp; first | done | rfl); intro gb421 hg w40 hbox hb; have n0_ := A0_ (bt_ (by repeat (first | exact HB.out | apply ba_ | apply bn_ | apply bd_)) hb); have n1_ := A0_ (hbox); have n2_ := A0_ ((by rw [hg]; exact (bz_ (by repeat (first | exact HB.out | apply ba_ | apply bn_ | apply bd_))) : w.heap.size ≤ gb421)); have n3_ := A0_ ((by rw [hg]; exact (bz_ (by repeat (first | exact HB.out | apply ba_ | apply bn_ | apply bd_))) : w.heap.size ≤ gb421)); clear HB; have HB := n0_; have BK421 := n1_; have GW421 := n2_; have GE421 := n3_; clear n0_ n1_ n2_ n3_ hb hbox hg) | ((with_reducible refine gc_ (f := 45) rfl ?_); refine goesL_ (some 15) rfl rfl Try.func45 (by kernel_rfl) rfl #[.int .i64 a2] rfl (by (try simp only [ma_, mc_, mn_]); first | done | rfl | (simp only [ld_, lt_]; rfl)) ?_; (with_reducible refine (impl_lineNumbers.calls k a2 t422 _ A4.out).mono ?_); rintro e w41 ⟨v423, rfl, ho0, hb⟩; refine ⟨_, rfl, ?_⟩; have n0_ := A0_ (Kd.R_lower ho0 (bz_ (by repeat (first | exact HB.out | apply ba_ | apply bn_ | apply bd_ | refine bs_ ?_ GE421.out)))); have n1_ := A0_ (kb_ (g := gb421) (o := .cells #[.int .i64 a0_0, .bool a0_1] 57 (0, 0)) (by (with_reducible repeat (first | apply kn_ | apply kd_ | apply ka_)); exact BK421.out) hb); have n2_ := A0_ (bt_ (by repeat (first | exact HB.out | apply ba_ | apply bn_ | apply bd_ | refine bs_ ?_ GE421.out)) hb); clear BK421 HB; have HO424 := n0_; have BK421 := n1_; have HB := n2_; clear n0_ n1_ n2_; (try clear hb); (try clear ho0); have hcz42_0 : w41.cell? ⟨gb421, 0, none⟩ = some (.int .i64 a0_0) := (kc_ BK421.out 0).trans rfl; have hcz42_1 : w41.cell? ⟨gb421, 1, none⟩ = some (.bool a0_1) := (kc_ BK421.out 1).trans rfl; have hfz42_0 := kf_ BK421.out 0; have hfz42_1 := kf_ BK421.out 1) | ((with_reducible refine gc_ (f := 64) rfl ?_); refine goesL_ (some 20) rfl rfl Try.func64 (by kernel_rfl) rfl #[.agg #[.int .i64 a0_0, .bool a0_1], .int .u32 a1, .int .i64 a2] rfl (by (try simp only [ma_, mc_, mn_]); first | done | rfl | (simp only [ld_, lt_]; rfl)) ?_; (with_reducible refine (impl_bench_pieces.calls k a0_0 a0_1 a1 a2 t425 false _ A5.out).mono ?_); rintro e w43 ⟨v426, rfl, ho0, hb⟩; refine ⟨_, rfl, ?_⟩; have n0_ := A0_ (Kd.R_below (by (with_reducible repeat (first | apply ra_ | apply rn_ | apply rd_)); exact HO424.out) hb); have n1_ := A0_ (Kd.R_lower ho0 (bz_ (by repeat (first | exact HB.out | apply ba_ | apply bn_ | apply bd_ | refine bs_ ?_ GE421.out)))); have n2_ := A0_ (kb_ (g := gb421) (o := .cells #[.int .i64 a0_0, .bool a0_1] 57 (0, 0)) (by (with_reducible repeat (first | apply kn_ | apply kd_ | apply ka_)); exact BK421.out) hb); have n3_ := A0_ (bt_ (by repeat (first | exact HB.out | apply ba_ | apply bn_ | apply bd_ | refine bs_ ?_ GE421.out)) hb); clear HO424 BK421 HB; have HO424 := n0_; have HO427 := n1_; have BK421 := n2_; have HB := n3_; clear n0_ n1_ n2_ n3_; (try clear hb); (try clear ho0); obtain ⟨Ao44, co44, eo44⟩ := Kd.R_slice HO427.out; subst eo44))
  go_loopg [11, 39] k (fun kq v11 v39 w' => ∃ (x11_1 : Int) (x39_1 : Int), v11 = .int .i64 x11_1 ∧ v39 = .int .i64 x39_1 ∧ Aside0 (impl_bench_number.l0 kq t422 x11_1 t425 (t425.length : Int) x39_1 = some r) ∧ Aside0 (kq ≤ k) ∧ Aside0 (Kd.R (Kd.int .i64) 3 w' w.heap.size (fun _ => True) v423 t422) ∧ Aside0 (Kd.R k70 70 w' w.heap.size (fun _ => True) (.slice Ao44 t425.length co44) t425) ∧ Aside0 (w'.heap[gb421]? = some (.cells #[.int .i64 a0_0, .bool a0_1] 57 (0, 0))) ∧ Aside0 (Below w.heap.size w w'))
  case atStart => exact ⟨(0), (0), (by first | rfl | (simp [*]; done)), (by first | rfl | (simp [*]; done)), H', ⟨Nat.le_refl _⟩, ⟨by (with_reducible repeat (first | apply ra_ | apply rn_ | apply rd_)); exact HO424.out⟩, ⟨by (with_reducible repeat (first | apply ra_ | apply rn_ | apply rd_)); exact HO427.out⟩, ⟨by (with_reducible repeat (first | apply kn_ | apply kd_ | apply ka_)); exact BK421.out⟩, ⟨by repeat (first | exact HB.out | apply ba_ | apply bn_ | apply bd_ | refine bs_ ?_ GE421.out)⟩⟩
  case round =>
   clear H'
   try clear c1
   try clear c2
   try clear p2
   try clear c4
   try clear p4
   try clear q4
   try clear hx4
   try clear c5
   try clear c6
   try clear p6
   try clear c7
   try clear c7b0
   try clear c7b1
   try clear c9
   try clear c9b0
   try clear c10
   try clear c10b0
   try clear c11
   try clear c11b0
   try clear c11b1
   try clear c25
   try clear c25b0
   try clear c26
   try clear c26b0
   try clear c27
   try clear c27b0
   try clear c27b1
   try clear p42
   try clear q42
   try clear hx42
   try clear p43
   try clear q43
   try clear hx43
   try clear hcz14_0
   try clear hcz14_1
   try clear hcz16_0
   try clear hcz16_1
   try clear hcz20_0
   try clear hcz20_1
   try clear hcz22_0
   try clear hcz22_1
   try clear hcz30_0
   try clear hcz30_1
   try clear hcz32_0
   try clear hcz32_1
   try clear hcz36_0
   try clear hcz36_1
   try clear hcz38_0
   try clear hcz38_1
   try clear hcz42_0
   try clear hcz42_1
   try clear hfz14_0
   try clear hfz14_1
   try clear hfz16_0
   try clear hfz16_1
   try clear hfz20_0
   try clear hfz20_1
   try clear hfz22_0
   try clear hfz22_1
   try clear hfz30_0
   try clear hfz30_1
   try clear hfz32_0
   try clear hfz32_1
   try clear hfz36_0
   try clear hfz36_1
   try clear hfz38_0
   try clear hfz38_1
   try clear hfz42_0
   try clear hfz42_1
   try clear hx429_0
   try clear hx430_0
   try clear p429
   try clear p430
   try clear q429
   try clear q430
   obtain ⟨x11_1, x39_1, rfl, rfl, HA, HK1, HO_7, HO_37, BK421, HB⟩ := hrel
   cases gk with
   | zero => exact absurd HA.out (by simp [impl_bench_number.l0])
   | succ k1 =>
    have H := HA.out
    clear HA
    simp only [impl_bench_number.l0] at H
    by_cases c45 : x39_1 < (t425.length : Int)
    ·rw [if_pos c45] at H
     have c45b0 : decide (x39_1 < (t425.length : Int)) = true := dt_ c45
     clear c45
     by_cases c46 : 0 ≤ x39_1
     ·rw [if_pos c46] at H
      have c46b0 : decide (0 ≤ x39_1) = true := dt_ c46
      clear c46
      by_cases c47 : x39_1 < (t425.length : Int)
      ·rw [if_pos c47] at H
       have c47b0 : decide (x39_1 < (t425.length : Int)) = true := dt_ c47
       clear c47
       by_cases c48 : 0 ≤ ((rd_T70 t425 x39_1).f1)
       ·rw [if_pos c48] at H
        have c48b0 : decide (0 ≤ ((rd_T70 t425 x39_1).f1)) = true := dt_ c48
        clear c48
        by_cases c49 : ((rd_T70 t425 x39_1).f1) < (t422.length : Int)
        ·rw [if_pos c49] at H
         have c49b0 : decide (((rd_T70 t425 x39_1).f1) < (t422.length : Int)) = true := dt_ c49
         clear c49
         have H' := A0_ H
         clear H
         have p431 : 0 ≤ (x39_1 : Int) := od_ (by first | (with_reducible assumption) | assumption)
         have q431 : x39_1 < (t425.length : Int) := od_ (by first | (with_reducible assumption) | assumption)
         obtain ⟨ad431, e431, hx431_0, hx431_1⟩ := at_T70 (rr_ HO_37.out).2.2 x39_1 p431 q431
         cases e431
         replace p431 := eq_true p431
         replace q431 := eq_true q431
         go_wp2_with (first | ((with_reducible refine gd_ (N := 13) rfl ?_); refine be_ ?hg (N := 13) ?hd (cs := #[.int .i64 0, .int .i64 0]) (t := 70) ?hr ?_; (case hd => rfl); (case hg => rfl); (case hr => go_simp; first | done | rfl); intro gb432 hg w50 hbox hb; have n0_ := A0_ (Kd.R_below (by (with_reducible repeat (first | apply ra_ | apply rn_ | apply rd_)); exact HO_7.out) hb); have n1_ := A0_ (Kd.R_below (Kd.R_elderB (by (with_reducible repeat (first | apply ra_ | apply rn_ | apply rd_)); exact HO_37.out) gb432 (Nat.le_of_eq hg.symm)) hb); have n2_ := A0_ (kb_ (g := gb421) (o := .cells #[.int .i64 a0_0, .bool a0_1] 57 (0, 0)) (by (with_reducible repeat (first | apply kn_ | apply kd_ | apply ka_)); exact BK421.out) hb); have n3_ := A0_ (bt_ (by repeat (first | exact HB.out | apply ba_ | apply bn_ | apply bd_ | refine bs_ ?_ GE421.out)) hb); have n4_ := A0_ (hbox); have n5_ := A0_ ((by rw [hg]; exact (bz_ (by repeat (first | exact HB.out | apply ba_ | apply bn_ | apply bd_ | refine bs_ ?_ GE421.out))) : w.heap.size ≤ gb432)); have n6_ := A0_ ((by rw [hg]; exact (bz_ (by repeat (first | exact HB.out | apply ba_ | apply bn_ | apply bd_ | refine bs_ ?_ GE421.out))) : w.heap.size ≤ gb432)); have n7_ := A0_ ((by rw [hg]; exact Nat.ne_of_lt (blk_lt (g := gb421) (o := .cells #[.int .i64 a0_0, .bool a0_1] 57 (0, 0)) (by (with_reducible repeat (first | apply kn_ | apply kd_ | apply ka_)); exact BK421.out)) : gb421 ≠ gb432)); have n8_ := A0_ ((by rw [hg]; exact Nat.ne_of_gt (blk_lt (g := gb421) (o := .cells #[.int .i64 a0_0, .bool a0_1] 57 (0, 0)) (by (with_reducible repeat (first | apply kn_ | apply kd_ | apply ka_)); exact BK421.out)) : gb432 ≠ gb421)); clear HO_7 HO_37 BK421 HB; have HO_7 := n0_; have HO_37 := n1_; have BK421 := n2_; have HB := n3_; have BK432 := n4_; have GW432 := n5_; have GE432 := n6_; have NB421_432 := n7_; have NB432_421 := n8_; clear n0_ n1_ n2_ n3_ n4_ n5_ n6_ n7_ n8_ hb hbox hg; have hnb51 := NB432_421.out; have hnc51 := NB421_432.out; have hcz52_0 : w50.cell? ⟨gb432, 0, none⟩ = some (.int .i64 0) := (kc_ BK432.out 0).trans rfl; have hcz52_1 : w50.cell? ⟨gb432, 1, none⟩ = some (.int .i64 0) := (kc_ BK432.out 1).trans rfl; have hfz52_0 := kf_ BK432.out 0; have hfz52_1 := kf_ BK432.out 1; obtain ⟨Ao53, co53, eo53⟩ := Kd.R_slice HO_7.out; subst eo53; have p433 : 0 ≤ (((rd_T70 t425 x39_1).f1) : Int) := od_ (by first | (with_reducible assumption) | assumption); have q433 : ((rd_T70 t425 x39_1).f1) < (t422.length : Int) := od_ (by first | (with_reducible assumption) | assumption); obtain ⟨ad433, e433, hx433_0⟩ := Kd.at_int (rr_ HO_7.out).2.2 ((rd_T70 t425 x39_1).f1) p433 q433; cases e433; have hn433_0 : ad433.block ≠ gb432 := Kd.own_blk (Kd.R_ne HO_7.out BK432.out (by decide)); have hn433_1 : ad433.block ≠ gb432 := Kd.own_blk (Kd.R_ne HO_7.out BK432.out (by decide)); replace hx433_0 := (cell_far (p := ⟨gb432, 0, none⟩) (by first | (rw [add_block]; exact hn433_0) | (show (Addr.add _ _).block ≠ _; rw [add_block]; exact hn433_0) | exact hn433_0) (.int .i64 ((rd_T70 t425 x39_1).f0))).trans hx433_0; replace hx433_0 := (cell_far (p := ⟨gb432, 1, none⟩) (by first | (rw [add_block]; exact hn433_1) | (show (Addr.add _ _).block ≠ _; rw [add_block]; exact hn433_1) | exact hn433_1) (.int .i64 ((rd_T70 t425 x39_1).f1))).trans hx433_0; clear hn433_0 hn433_1; replace p433 := eq_true p433; replace q433 := eq_true q433))
         go_roundg k1
         case measure => have := HK1.out; omega
         case rel => exact ⟨(Go.bits .xor .i64 x11_1 (rd t422 ((rd_T70 t425 x39_1).f1))), (wrap64 (x39_1 + 1)), (by first | rfl | (simp [*]; done)), (by first | rfl | (simp [*]; done)), H', ⟨by have := HK1.out; omega⟩, ⟨by (with_reducible repeat (first | apply ra_ | apply rn_ | apply rd_)); exact Kd.R_mono (Kd.R_far (p := ⟨gb432, 1, none⟩) (Kd.R_far (p := ⟨gb432, 0, none⟩) (Kd.R_types HO_7.out BK432.out (by decide)) (fun _ hk => hk.2) (.int .i64 ((rd_T70 t425 x39_1).f0))) (fun _ hk => hk.2) (.int .i64 ((rd_T70 t425 x39_1).f1))) (fun _ hk => trivial)⟩, ⟨by (with_reducible repeat (first | apply ra_ | apply rn_ | apply rd_)); exact Kd.R_mono (Kd.R_far (p := ⟨gb432, 1, none⟩) (Kd.R_far (p := ⟨gb432, 0, none⟩) (Kd.R_mono HO_37.out (fun k_ hk => (⟨hk, hk.2⟩ : _ ∧ k_ ≠ gb432))) (fun _ hk => hk.2) (.int .i64 ((rd_T70 t425 x39_1).f0))) (fun _ hk => hk.2) (.int .i64 ((rd_T70 t425 x39_1).f1))) (fun _ hk => trivial)⟩, ⟨by (with_reducible repeat (first | apply kn_ | apply kd_ | apply ka_)); refine blk_far ?_ NB421_432.out _; (with_reducible repeat (first | apply kn_ | apply kd_ | apply ka_)); refine blk_far ?_ NB421_432.out _; (with_reducible repeat (first | apply kn_ | apply kd_ | apply ka_)); exact BK421.out⟩, ⟨by repeat (first | exact HB.out | apply ba_ | apply bn_ | apply bd_ | refine bs_ ?_ GE421.out | refine bs_ ?_ GE432.out)⟩⟩
        ·rw [if_neg c49] at H
         exact absurd H (by simp)
       ·rw [if_neg c48] at H
        exact absurd H (by simp)
      ·rw [if_neg c47] at H
       exact absurd H (by simp)
     ·rw [if_neg c46] at H
      exact absurd H (by simp)
    ·rw [if_neg c45] at H
     have c45b0 : decide (x39_1 < (t425.length : Int)) = false := decide_eq_false c45
     clear c45
     obtain rfl := si_ H
     go_wp2
     go_ret
     exact ⟨by first | rfl | (simp [*, errW_none, errW_some] <;> rfl), by repeat (first | exact HB.out | apply ba_ | apply bn_ | apply bd_ | refine bs_ ?_ GE421.out)⟩

def impl_bench_winMoves.l0 : Nat → Int → Int → List Int → List Int → Int → Int → Int → Bool → Option (List Int)
 | 0, _, _, _, _, _, _, _, _ => none
 | k + 1, x1, x2, x7, x14, x15, x16, x435000, x435001 => if x16 < x15 then (if 0 ≤ x16 then (if x16 < (x14.length : Int) then ((impl_bench_behind.f k x435000 x435001 x1 x2 (rd x14 x16)).bind fun t442 => ((impl_bench_number.f k x435000 x435001 t442 x2).bind fun t443 => (if t443 = 0 then (if x7.length < 17592186044416 then (impl_bench_winMoves.l0 k x1 x2 (x7 ++ [rd x14 x16]) x14 x15 (wrap64 (x16 + 1)) x435000 x435001) else (none)) else (impl_bench_winMoves.l0 k x1 x2 x7 x14 x15 (wrap64 (x16 + 1)) x435000 x435001)))) else (none)) else (none)) else (some x7)
def impl_bench_winMoves.f (k : Nat) (a0_0 : Int) (a0_1 : Bool) (a1 : Int) (a2 : Int) : Option (List Int) := (impl_bench_moves.f k a0_0 a0_1 a1 a2).bind fun t438 => (impl_bench_winMoves.l0 k a1 a2 (([] : List Int)) t438 (t438.length : Int) 0 a0_0 a0_1)
theorem impl_bench_winMoves.mono_l : ∀ k, (∀ y0 y1 y2 y3 y4 y5 y6 y7, LeO (impl_bench_winMoves.l0 k y0 y1 y2 y3 y4 y5 y6 y7) (impl_bench_winMoves.l0 (k + 1) y0 y1 y2 y3 y4 y5 y6 y7))
 | 0 => fun _ _ _ _ _ _ _ _ r h => by simp [impl_bench_winMoves.l0] at h
 | k + 1 => by
  have ih0 := impl_bench_winMoves.mono_l k
  ·intro y0 y1 y2 y3 y4 y5 y6 y7
   unfold impl_bench_winMoves.l0
   repeat' first
   | (with_reducible exact ih0 _ _ _ _ _ _ _ _)
   | (with_reducible exact impl_bench_behind.mono _ _ _ _ _ _)
   | (with_reducible exact impl_bench_moves.mono _ _ _ _ _)
   | (with_reducible exact impl_bench_number.mono _ _ _ _ _)
   | (with_reducible exact LeO.refl _)
   | (with_reducible exact LeO.none _)
   | (with_reducible refine LeO.ite ?_ ?_)
   | (with_reducible refine LeO.bind ?_ (fun _ => ?_))
theorem impl_bench_winMoves.mono : ∀ a0 a1 a2 a3 k, LeO (impl_bench_winMoves.f k a0 a1 a2 a3) (impl_bench_winMoves.f (k + 1) a0 a1 a2 a3) := by
 intro a0 a1 a2 a3 k
 have ih0 := impl_bench_winMoves.mono_l k
 unfold impl_bench_winMoves.f
 repeat' first
   | (with_reducible exact ih0 _ _ _ _ _ _ _ _)
   | (with_reducible exact impl_bench_behind.mono _ _ _ _ _ _)
   | (with_reducible exact impl_bench_moves.mono _ _ _ _ _)
   | (with_reducible exact impl_bench_number.mono _ _ _ _ _)
   | (with_reducible exact LeO.refl _)
   | (with_reducible exact LeO.none _)
   | (with_reducible refine LeO.ite ?_ ?_)
   | (with_reducible refine LeO.bind ?_ (fun _ => ?_))
def impl_bench_winMoves.T5 : Bool × List (List Nat × List Nat) := (true, [([], []), ([], []), ([], []), ([], []), ([], []), ([1, 2, 3, 4], [1, 2, 3, 4]), ([], []), ([0, 5, 6, 5], [0, 5, 6]), ([7], [7])])
def impl_bench_winMoves.B5 : List Nat := [0, 0, 0, 0, 0, 30, 0, 127, 255]
theorem impl_bench_winMoves.tab5 : rtab .any (opsOf Try.f66 5) = impl_bench_winMoves.T5 := by kernel_rfl
theorem impl_bench_winMoves.bits5 : waitsOk impl_bench_winMoves.T5.2 impl_bench_winMoves.B5 = true := by kernel_rfl
theorem impl_bench_winMoves.calls (k : Nat) (a0_0 : Int) (a0_1 : Bool) (a1 : Int) (a2 : Int) (r : List Int) (w : World) (h : impl_bench_winMoves.f k a0_0 a0_1 a1 a2 = some r) :
  Calls Try.prog 66 #[.agg #[.int .i64 a0_0, .bool a0_1], .int .u32 a1, .int .i64 a2] w fun e w' => ∃ v0_ : Value, e = .returned (v0_) ∧ Kd.R (Kd.int .i64) 3 w' w.heap.size (fun _ => True) v0_ r ∧ Below w.heap.size w w' := by
 have hu57 := Try.underlying57
 have HB := A0_ (Below.refl w.heap.size w)
 have H : ((impl_bench_moves.f k a0_0 a0_1 a1 a2).bind fun t438 => (impl_bench_winMoves.l0 k a1 a2 (([] : List Int)) t438 (t438.length : Int) 0 a0_0 a0_1)) = some r := h
 clear h
 obtain ⟨y435, hy435⟩ : ∃ y_ : List Int, y_ = (([] : List Int)) := ⟨_, rfl⟩
 replace H : ((impl_bench_moves.f k a0_0 a0_1 a1 a2).bind fun t438 => (impl_bench_winMoves.l0 k a1 a2 y435 t438 (t438.length : Int) 0 a0_0 a0_1)) = some r := by first | (rw [hy435]; with_reducible exact H) | (have H2_ := (Option.bind_some _ _).symm.trans H; rw [hy435]; with_reducible exact H2_) | (have H2_ := (Option.bind_some _ _).symm.trans H; with_reducible exact H2_) | with_reducible exact H | (rw [hy435]; exact H) | exact H
 have Ny435 := A0_ hy435
 clear hy435
 replace H := ob_.mp H
 obtain ⟨t438, A40, H⟩ := H
 have A4 := A0_ A40
 clear A40
 have H' := A0_ H
 clear H
 go_enter Try.func66, Try.ntmps66
 go_wp2_with (first | ((with_reducible refine gd_ (N := 3) rfl ?_); refine be_ ?hg (N := 3) ?hd (cs := #[.int .i64 a0_0, .bool a0_1]) (t := 57) ?hr ?_; (case hd => rfl); (case hg => rfl); (case hr => go_simp; first | done | rfl); intro gb434 hg w5 hbox hb; have n0_ := A0_ (bt_ (by repeat (first | exact HB.out | apply ba_ | apply bn_ | apply bd_)) hb); have n1_ := A0_ (hbox); have n2_ := A0_ ((by rw [hg]; exact (bz_ (by repeat (first | exact HB.out | apply ba_ | apply bn_ | apply bd_))) : w.heap.size ≤ gb434)); have n3_ := A0_ ((by rw [hg]; exact (bz_ (by repeat (first | exact HB.out | apply ba_ | apply bn_ | apply bd_))) : w.heap.size ≤ gb434)); clear HB; have HB := n0_; have BK434 := n1_; have GW434 := n2_; have GE434 := n3_; clear n0_ n1_ n2_ n3_ hb hbox hg) | ((with_reducible refine gd_ (N := 10) rfl ?_); refine Kd.R_lit (Kd.int .i64) _ 3 ?hg (N := 10) ?hd (xs := ([] : List Int)) (inner := []) (ok := fun _ => True) (okp := fun _ => True) ?hr ?hp (fun _ hk => hk) trivial (Below.refl _ _) (Nat.le_refl _) (by simp) ?_; (case hd => rfl); (case hg => rfl); (case hr => go_simp; first | done | rfl); (case hp => exact (Reps.none _ _)); intro v436 w6 ho7 hb hg_ hnew_; clear hg_ hnew_; (first | rw [← Ny435.out] at ho7 | (simp only [Int.reduceToNat] at ho7; rw [← Ny435.out] at ho7)); have n0_ := A0_ (Kd.R_lower ho7 (bz_ (by repeat (first | exact HB.out | apply ba_ | apply bn_ | apply bd_ | refine bs_ ?_ GE434.out)))); have n1_ := A0_ (kb_ (g := gb434) (o := .cells #[.int .i64 a0_0, .bool a0_1] 57 (0, 0)) (by (with_reducible repeat (first | apply kn_ | apply kd_ | apply ka_)); exact BK434.out) hb); have n2_ := A0_ (bt_ (by repeat (first | exact HB.out | apply ba_ | apply bn_ | apply bd_ | refine bs_ ?_ GE434.out)) hb); clear BK434 HB; have HO437 := n0_; have BK434 := n1_; have HB := n2_; clear n0_ n1_ n2_ hb ho7; have hcz8_0 : w6.cell? ⟨gb434, 0, none⟩ = some (.int .i64 a0_0) := (kc_ BK434.out 0).trans rfl; have hcz8_1 : w6.cell? ⟨gb434, 1, none⟩ = some (.bool a0_1) := (kc_ BK434.out 1).trans rfl; have hfz8_0 := kf_ BK434.out 0; have hfz8_1 := kf_ BK434.out 1) | ((with_reducible refine gc_ (f := 52) rfl ?_); refine goesL_ (some 14) rfl rfl Try.func52 (by kernel_rfl) rfl #[.agg #[.int .i64 a0_0, .bool a0_1], .int .u32 a1, .int .i64 a2] rfl (by (try simp only [ma_, mc_, mn_]); first | done | rfl | (simp only [ld_, lt_]; rfl)) ?_; (with_reducible refine (impl_bench_moves.calls k a0_0 a0_1 a1 a2 t438 _ A4.out).mono ?_); rintro e w9 ⟨v439, rfl, ho0, hb⟩; refine ⟨_, rfl, ?_⟩; have n0_ := A0_ (Kd.R_elder' (by (with_reducible repeat (first | apply ra_ | apply rn_ | apply rd_)); exact HO437.out) (Kd.R_base ho0) hb); have n1_ := A0_ (Kd.R_lower (Kd.R_new' ho0 (Kd.R_lt (by (with_reducible repeat (first | apply ra_ | apply rn_ | apply rd_)); exact HO437.out))) (bz_ (by repeat (first | exact HB.out | apply ba_ | apply bn_ | apply bd_ | refine bs_ ?_ GE434.out)))); have n2_ := A0_ (kb_ (g := gb434) (o := .cells #[.int .i64 a0_0, .bool a0_1] 57 (0, 0)) (by (with_reducible repeat (first | apply kn_ | apply kd_ | apply ka_)); exact BK434.out) hb); have n3_ := A0_ (bt_ (by repeat (first | exact HB.out | apply ba_ | apply bn_ | apply bd_ | refine bs_ ?_ GE434.out)) hb); clear HO437 BK434 HB; have HO437 := n0_; have HO440 := n1_; have BK434 := n2_; have HB := n3_; clear n0_ n1_ n2_ n3_; (try clear hb); (try clear ho0); obtain ⟨Ao10, co10, eo10⟩ := Kd.R_slice HO440.out; subst eo10))
 go_loopg [7, 16] k (fun kq v7 v16 w' => ∃ (x7_1 : List Int) (x16_1 : Int), v16 = .int .i64 x16_1 ∧ Aside0 (impl_bench_winMoves.l0 kq a1 a2 x7_1 t438 (t438.length : Int) x16_1 a0_0 a0_1 = some r) ∧ Aside0 (kq ≤ k) ∧ Aside0 (Kd.R (Kd.int .i64) 3 w' w.heap.size (fun k_ => some k_ ≠ ((.slice Ao10 t438.length co10) : Value).ownBlock) v7 x7_1) ∧ Aside0 (Kd.R (Kd.int .i64) 3 w' w.heap.size (fun k_ => some k_ ≠ (v7 : Value).ownBlock) (.slice Ao10 t438.length co10) t438) ∧ Aside0 (w'.heap[gb434]? = some (.cells #[.int .i64 a0_0, .bool a0_1] 57 (0, 0))) ∧ Aside0 (Below w.heap.size w w'))
 case atStart => exact ⟨(y435), (0), (by first | rfl | (simp [*]; done)), H', ⟨Nat.le_refl _⟩, ⟨by (with_reducible repeat (first | apply ra_ | apply rn_ | apply rd_)); exact Kd.R_mono HO437.out (fun _ hk => hk.2)⟩, ⟨by (with_reducible repeat (first | apply ra_ | apply rn_ | apply rd_)); exact Kd.R_mono HO440.out (fun _ hk => hk.2)⟩, ⟨by (with_reducible repeat (first | apply kn_ | apply kd_ | apply ka_)); exact BK434.out⟩, ⟨by repeat (first | exact HB.out | apply ba_ | apply bn_ | apply bd_ | refine bs_ ?_ GE434.out)⟩⟩
 case round =>
  clear H'
  try clear p2
  try clear c5
  try clear c6
  try clear hcz8_0
  try clear hcz8_1
  try clear hfz8_0
  try clear hfz8_1
  obtain ⟨x7_1, x16_1, rfl, HA, HK1, HO_7, HO_14, BK434, HB⟩ := hrel
  cases gk with
  | zero => exact absurd HA.out (by simp [impl_bench_winMoves.l0])
  | succ k1 =>
   have H := HA.out
   clear HA
   simp only [impl_bench_winMoves.l0] at H
   by_cases c11 : x16_1 < (t438.length : Int)
   ·rw [if_pos c11] at H
    have c11b0 : decide (x16_1 < (t438.length : Int)) = true := dt_ c11
    clear c11
    by_cases c12 : 0 ≤ x16_1
    ·rw [if_pos c12] at H
     have c12b0 : decide (0 ≤ x16_1) = true := dt_ c12
     clear c12
     by_cases c13 : x16_1 < (t438.length : Int)
     ·rw [if_pos c13] at H
      have c13b0 : decide (x16_1 < (t438.length : Int)) = true := dt_ c13
      clear c13
      replace H := ob_.mp H
      obtain ⟨t442, A140, H⟩ := H
      have A14 := A0_ A140
      clear A140
      replace H := ob_.mp H
      obtain ⟨t443, A150, H⟩ := H
      have A15 := A0_ A150
      clear A150
      by_cases c16 : t443 = 0
      ·rw [if_pos c16] at H
       have c16b0 : (t443 == 0) = true := beq_iff_eq.mpr c16
       have c16b1 : (t443 != 0) = false := bne_eq_false_iff_eq.mpr c16
       clear c16
       by_cases c17 : x7_1.length < 17592186044416
       ·rw [if_pos c17] at H
        have LMc17 := A0_ c17
        clear c17
        obtain ⟨y444, hy444⟩ : ∃ y_ : List Int, y_ = (x7_1 ++ [rd t438 x16_1]) := ⟨_, rfl⟩
        replace H : (impl_bench_winMoves.l0 k1 a1 a2 y444 t438 (t438.length : Int) (wrap64 (x16_1 + 1)) a0_0 a0_1) = some r := by first | (rw [hy444]; with_reducible exact H) | (have H2_ := (Option.bind_some _ _).symm.trans H; rw [hy444]; with_reducible exact H2_) | (have H2_ := (Option.bind_some _ _).symm.trans H; with_reducible exact H2_) | with_reducible exact H | (rw [hy444]; exact H) | exact H
        have Ny444 := A0_ hy444
        clear hy444
        have H' := A0_ H
        clear H
        have p441 : 0 ≤ (x16_1 : Int) := od_ (by first | (with_reducible assumption) | assumption)
        have q441 : x16_1 < (t438.length : Int) := od_ (by first | (with_reducible assumption) | assumption)
        obtain ⟨ad441, e441, hx441_0⟩ := Kd.at_int (rr_ HO_14.out).2.2 x16_1 p441 q441
        cases e441
        replace p441 := eq_true p441
        replace q441 := eq_true q441
        try go_wp2
        have n0_ := A0_ (rd_ HO_7.out)
        have n1_ := A0_ (rd_ HO_14.out)
        have n2_ := A0_ (kd_ BK434.out)
        have n3_ := A0_ (bd_ HB.out)
        clear HO_7
        clear HO_14
        clear BK434
        clear HB
        have HO_7 := n0_
        have HO_14 := n1_
        have BK434 := n2_
        have HB := n3_
        clear n0_ n1_ n2_ n3_
        refine start_ (n := 9) (S := fun w' => w'.cell? ⟨gb434, 0, none⟩ = some (.int .i64 a0_0) ∧ w'.cell? ⟨gb434, 1, none⟩ = some (.bool a0_1)) (ds := []) #[false, false, false, false, false, false, false, false, false] (by kernel_rfl) rfl rfl ⟨(kc_ BK434.out 0).trans rfl, (kc_ BK434.out 1).trans rfl⟩ (fun hHeld => ?_); refine with_tabW impl_bench_winMoves.tab5 impl_bench_winMoves.bits5 (fun HT_ HW_ => ?_)
        generalize wr.drew = w18 at HO_7 HO_14 BK434 HB hHeld ⊢
        refine pure_ (i := 2) (N := some 22) (v := ?_) (a' := ?_) #[false, false, true, false, false, false, false, false, false] rfl rfl (any_of HT_.out (by kernel_rfl)) (fun _ _ _ h => h) (Or.inl ⟨by rfl, ?_⟩) ?_ ?_
        rotate_left
        ·intro w'
         go_simp
         with_reducible rfl
        rotate_left
        ·simp only [Act.put, sa_, sz_, ss_, i64_w, i32_w]
         rfl
        refine pure_ (i := 3) (N := some 23) (v := ?_) (a' := ?_) #[false, false, true, true, false, false, false, false, false] rfl rfl (any_of HT_.out (by kernel_rfl)) (fun _ _ _ h => h) (Or.inl ⟨by rfl, ?_⟩) ?_ ?_
        rotate_left
        ·intro w'
         go_simp
         with_reducible rfl
        rotate_left
        ·simp only [Act.put, sa_, sz_, ss_, i64_w, i32_w]
         rfl
        refine pure_ (i := 4) (N := some 24) (v := ?_) (a' := ?_) #[false, false, true, true, true, false, false, false, false] rfl rfl (any_of HT_.out (by kernel_rfl)) (fun _ _ _ h => h) (Or.inl ⟨by rfl, ?_⟩) ?_ ?_
        rotate_left
        ·intro w'
         go_simp
         with_reducible rfl
        rotate_left
        ·simp only [Act.put, sa_, sz_, ss_, i64_w, i32_w]
         rfl
        refine pure_ (i := 6) (N := some 26) (v := ?_) (a' := ?_) #[false, false, true, true, true, false, true, false, false] rfl rfl (any_of HT_.out (by kernel_rfl)) (fun _ _ _ h => h) (Or.inl ⟨by rfl, ?_⟩) ?_ ?_
        rotate_left
        ·intro w'
         go_simp
         with_reducible rfl
        rotate_left
        ·simp only [Act.put, sa_, sz_, ss_, i64_w, i32_w]
         rfl
        refine take_ (i := 0) (N := some 20) (v := ?_) (a' := ?_) #[true, false, true, true, true, false, true, false, false] rfl rfl (take_ofW HT_.out HW_.out (by kernel_rfl)) (fun _ _ _ h => h) (Or.inl ⟨by rfl, ?_⟩) hHeld ?_ ?_
        rotate_left
        ·rintro w' ⟨s0, s1⟩
         go_simp
         with_reducible rfl
        rotate_left
        ·simp only [Act.put, sa_, sz_, ss_, i64_w, i32_w]
         rfl
        refine take_ (i := 1) (N := some 21) (v := ?_) (a' := ?_) #[true, true, true, true, true, false, true, false, false] rfl rfl (take_ofW HT_.out HW_.out (by kernel_rfl)) (fun _ _ _ h => h) (Or.inl ⟨by rfl, ?_⟩) hHeld ?_ ?_
        rotate_left
        ·rintro w' ⟨s0, s1⟩
         go_simp
         with_reducible rfl
        rotate_left
        ·simp only [Act.put, sa_, sz_, ss_, i64_w, i32_w]
         rfl
        refine one_ (i := 5) (N := some 25) #[true, true, true, true, true, true, true, false, false] rfl rfl (one_of HT_.out (by kernel_rfl)) (by decide) (fun K hK => ?_)
        refine goes_ Try.func61 (by kernel_rfl) rfl #[.agg #[.int .i64 a0_0, .bool a0_1], .int .u32 a1, .int .i64 a2, .int .i64 (rd t438 x16_1)] (by rfl) rfl rfl (by (try simp only [ma_, mc_, mn_]); first | done | rfl | (simp only [ld_, lt_]; rfl)) ?_
        with_reducible refine (impl_bench_behind.calls k1 a0_0 a0_1 a1 a2 (rd t438 x16_1) t442 _ A14.out).mono ?_
        rintro e w19 ⟨rfl, hb⟩
        refine ⟨_, rfl, ?_⟩
        have n0_ := A0_ (Kd.R_below (by (with_reducible repeat (first | apply ra_ | apply rn_ | apply rd_)); exact HO_7.out) hb)
        have n1_ := A0_ (Kd.R_below (by (with_reducible repeat (first | apply ra_ | apply rn_ | apply rd_)); exact HO_14.out) hb)
        have n2_ := A0_ (kb_ (g := gb434) (o := .cells #[.int .i64 a0_0, .bool a0_1] 57 (0, 0)) (by (with_reducible repeat (first | apply kn_ | apply kd_ | apply ka_)); exact BK434.out) hb)
        have n3_ := A0_ (bt_ (by repeat (first | exact HB.out | apply ba_ | apply bn_ | apply bd_ | refine bs_ ?_ GE434.out)) hb)
        clear HO_7
        clear HO_14
        clear BK434
        clear HB
        have HO_7 := n0_
        have HO_14 := n1_
        have BK434 := n2_
        have HB := n3_
        clear n0_ n1_ n2_ n3_
        (try clear hb)
        (try clear hb2)
        (try clear hk)
        (try clear hi)
        refine hK.out _ _ ⟨(kc_ BK434.out 0).trans rfl, (kc_ BK434.out 1).trans rfl⟩ (fun hHeld => ?_)
        clear hK K
        refine norm_ (a' := ?_) ?_ ?_
        rotate_left
        ·show Act.put _ (some 25) _ = _
         simp only [Act.put, sa_, sz_, ss_, i64_w, i32_w]
         rfl
        refine one_ (i := 7) (N := some 27) #[true, true, true, true, true, true, true, true, false] rfl rfl (one_of HT_.out (by kernel_rfl)) (by decide) (fun K hK => ?_)
        refine goes_ Try.func57 (by kernel_rfl) rfl #[.agg #[.int .i64 a0_0, .bool a0_1], .int .u32 t442, .int .i64 a2] (by rfl) rfl rfl (by (try simp only [ma_, mc_, mn_]); first | done | rfl | (simp only [ld_, lt_]; rfl)) ?_
        with_reducible refine (impl_bench_number.calls k1 a0_0 a0_1 t442 a2 t443 _ A15.out).mono ?_
        rintro e w20 ⟨rfl, hb⟩
        refine ⟨_, rfl, ?_⟩
        have n0_ := A0_ (Kd.R_below (by (with_reducible repeat (first | apply ra_ | apply rn_ | apply rd_)); exact HO_7.out) hb)
        have n1_ := A0_ (Kd.R_below (by (with_reducible repeat (first | apply ra_ | apply rn_ | apply rd_)); exact HO_14.out) hb)
        have n2_ := A0_ (kb_ (g := gb434) (o := .cells #[.int .i64 a0_0, .bool a0_1] 57 (0, 0)) (by (with_reducible repeat (first | apply kn_ | apply kd_ | apply ka_)); exact BK434.out) hb)
        have n3_ := A0_ (bt_ (by repeat (first | exact HB.out | apply ba_ | apply bn_ | apply bd_ | refine bs_ ?_ GE434.out)) hb)
        clear HO_7
        clear HO_14
        clear BK434
        clear HB
        have HO_7 := n0_
        have HO_14 := n1_
        have BK434 := n2_
        have HB := n3_
        clear n0_ n1_ n2_ n3_
        (try clear hb)
        (try clear hb2)
        (try clear hk)
        (try clear hi)
        refine hK.out _ _ ⟨(kc_ BK434.out 0).trans rfl, (kc_ BK434.out 1).trans rfl⟩ (fun hHeld => ?_)
        clear hK K
        refine norm_ (a' := ?_) ?_ ?_
        rotate_left
        ·show Act.put _ (some 27) _ = _
         simp only [Act.put, sa_, sz_, ss_, i64_w, i32_w]
         rfl
        refine pure_ (i := 8) (N := some 28) (v := ?_) (a' := ?_) #[true, true, true, true, true, true, true, true, true] rfl rfl (any_of HT_.out (by kernel_rfl)) (fun _ _ _ h => h) (Or.inl ⟨by rfl, ?_⟩) ?_ ?_
        rotate_left
        ·intro w'
         go_simp
         with_reducible rfl
        rotate_left
        ·simp only [Act.put, sa_, sz_, ss_, i64_w, i32_w]
         rfl
        refine done_ (done_of HT_.out (by kernel_rfl)) ?_
        try go_wp2_with (first | ((with_reducible refine gate_builtin (b := .append) (xs := #[.tmp 29, .tmp 31]) rfl ?_); at_builtin; refine Kd.R_append (Kd.int .i64) (w0 := w) w.heap.size rfl (.tmp 29) (.tmp 31) 22 3 (.int .i64 0) 8 rfl Try.underlying22 info3 rfl (by decide) (by omega) u7 x7_1 (rd t438 x16_1) [.int .i64 (rd t438 x16_1)] (fun k_ => some k_ ≠ (.slice (some ad441) t438.length co10 : Value).ownBlock) (fun _ => False) rfl rfl ?aP (fun _ hk => hk.elim) ?aF ?aO ?aB ?aS ?aL ?_; (case aP => exact rfl); (case aB => exact (by repeat (first | exact HB.out | apply ba_ | apply bn_ | apply bd_ | refine bs_ ?_ GE434.out))); (case aF => exact (fun k_ hk => Kd.fresh' (Kd.R_lt (by (with_reducible repeat (first | apply ra_ | apply rn_ | apply rd_)); exact HO_14.out)) k_ hk)); (case aO => exact (by (with_reducible repeat (first | apply ra_ | apply rn_ | apply rd_)); exact HO_7.out)); (case aS => exact (bz_ (by repeat (first | exact HB.out | apply ba_ | apply bn_ | apply bd_ | refine bs_ ?_ GE434.out)))); (case aL => have := LMc17.out; omega); intro v445 w21 ho hb hg hat; rw [← Ny444.out] at ho; have n0_ := A0_ (Kd.R_after (ok := (fun _ => True)) (by (with_reducible repeat (first | apply ra_ | apply rn_ | apply rd_)); exact Kd.R_mono HO_14.out (fun _ hk => ⟨trivial, hk⟩)) hg hat); have n1_ := A0_ (blk_grown (g := gb434) (o := .cells #[.int .i64 a0_0, .bool a0_1] 57 (0, 0)) (by (with_reducible repeat (first | apply kn_ | apply kd_ | apply ka_)); exact BK434.out) hg (Kd.R_ne HO_7.out BK434.out (by decide))); have n2_ := A0_ (hb); have n3_ := A0_ (ho); clear HO_14 BK434 HB HO_7; have HO_14 := n0_; have BK434 := n1_; have HB := n2_; have HO446 := n3_; clear n0_ n1_ n2_ n3_ ho hb hg hat))
        go_roundg k1
        case measure => have := HK1.out; omega
        case rel => exact ⟨(y444), (wrap64 (x16_1 + 1)), (by first | rfl | (simp [*]; done)), H', ⟨by have := HK1.out; omega⟩, ⟨by (with_reducible repeat (first | apply ra_ | apply rn_ | apply rd_)); exact HO446.out⟩, ⟨by (with_reducible repeat (first | apply ra_ | apply rn_ | apply rd_)); exact Kd.R_mono HO_14.out (fun _ hk => hk.2)⟩, ⟨by (with_reducible repeat (first | apply kn_ | apply kd_ | apply ka_)); exact BK434.out⟩, ⟨by repeat (first | exact HB.out | apply ba_ | apply bn_ | apply bd_ | refine bs_ ?_ GE434.out)⟩⟩
       ·rw [if_neg c17] at H
        exact absurd H (by simp)
      ·rw [if_neg c16] at H
       have c16b0 : (t443 == 0) = false := beq_eq_false_iff_ne.mpr c16
       have c16b1 : (t443 != 0) = true := bne_iff_ne.mpr c16
       have H' := A0_ H
       clear H
       have p441 : 0 ≤ (x16_1 : Int) := od_ (by first | (with_reducible assumption) | assumption)
       have q441 : x16_1 < (t438.length : Int) := od_ (by first | (with_reducible assumption) | assumption)
       obtain ⟨ad441, e441, hx441_0⟩ := Kd.at_int (rr_ HO_14.out).2.2 x16_1 p441 q441
       cases e441
       replace p441 := eq_true p441
       replace q441 := eq_true q441
       try go_wp2
       have n0_ := A0_ (rd_ HO_7.out)
       have n1_ := A0_ (rd_ HO_14.out)
       have n2_ := A0_ (kd_ BK434.out)
       have n3_ := A0_ (bd_ HB.out)
       clear HO_7
       clear HO_14
       clear BK434
       clear HB
       have HO_7 := n0_
       have HO_14 := n1_
       have BK434 := n2_
       have HB := n3_
       clear n0_ n1_ n2_ n3_
       refine start_ (n := 9) (S := fun w' => w'.cell? ⟨gb434, 0, none⟩ = some (.int .i64 a0_0) ∧ w'.cell? ⟨gb434, 1, none⟩ = some (.bool a0_1)) (ds := []) #[false, false, false, false, false, false, false, false, false] (by kernel_rfl) rfl rfl ⟨(kc_ BK434.out 0).trans rfl, (kc_ BK434.out 1).trans rfl⟩ (fun hHeld => ?_); refine with_tabW impl_bench_winMoves.tab5 impl_bench_winMoves.bits5 (fun HT_ HW_ => ?_)
       generalize wr.drew = w22 at HO_7 HO_14 BK434 HB hHeld ⊢
       refine pure_ (i := 2) (N := some 22) (v := ?_) (a' := ?_) #[false, false, true, false, false, false, false, false, false] rfl rfl (any_of HT_.out (by kernel_rfl)) (fun _ _ _ h => h) (Or.inl ⟨by rfl, ?_⟩) ?_ ?_
       rotate_left
       ·intro w'
        go_simp
        with_reducible rfl
       rotate_left
       ·simp only [Act.put, sa_, sz_, ss_, i64_w, i32_w]
        rfl
       refine pure_ (i := 3) (N := some 23) (v := ?_) (a' := ?_) #[false, false, true, true, false, false, false, false, false] rfl rfl (any_of HT_.out (by kernel_rfl)) (fun _ _ _ h => h) (Or.inl ⟨by rfl, ?_⟩) ?_ ?_
       rotate_left
       ·intro w'
        go_simp
        with_reducible rfl
       rotate_left
       ·simp only [Act.put, sa_, sz_, ss_, i64_w, i32_w]
        rfl
       refine pure_ (i := 4) (N := some 24) (v := ?_) (a' := ?_) #[false, false, true, true, true, false, false, false, false] rfl rfl (any_of HT_.out (by kernel_rfl)) (fun _ _ _ h => h) (Or.inl ⟨by rfl, ?_⟩) ?_ ?_
       rotate_left
       ·intro w'
        go_simp
        with_reducible rfl
       rotate_left
       ·simp only [Act.put, sa_, sz_, ss_, i64_w, i32_w]
        rfl
       refine pure_ (i := 6) (N := some 26) (v := ?_) (a' := ?_) #[false, false, true, true, true, false, true, false, false] rfl rfl (any_of HT_.out (by kernel_rfl)) (fun _ _ _ h => h) (Or.inl ⟨by rfl, ?_⟩) ?_ ?_
       rotate_left
       ·intro w'
        go_simp
        with_reducible rfl
       rotate_left
       ·simp only [Act.put, sa_, sz_, ss_, i64_w, i32_w]
        rfl
       refine take_ (i := 0) (N := some 20) (v := ?_) (a' := ?_) #[true, false, true, true, true, false, true, false, false] rfl rfl (take_ofW HT_.out HW_.out (by kernel_rfl)) (fun _ _ _ h => h) (Or.inl ⟨by rfl, ?_⟩) hHeld ?_ ?_
       rotate_left
       ·rintro w' ⟨s0, s1⟩
        go_simp
        with_reducible rfl
       rotate_left
       ·simp only [Act.put, sa_, sz_, ss_, i64_w, i32_w]
        rfl
       refine take_ (i := 1) (N := some 21) (v := ?_) (a' := ?_) #[true, true, true, true, true, false, true, false, false] rfl rfl (take_ofW HT_.out HW_.out (by kernel_rfl)) (fun _ _ _ h => h) (Or.inl ⟨by rfl, ?_⟩) hHeld ?_ ?_
       rotate_left
       ·rintro w' ⟨s0, s1⟩
        go_simp
        with_reducible rfl
       rotate_left
       ·simp only [Act.put, sa_, sz_, ss_, i64_w, i32_w]
        rfl
       refine one_ (i := 5) (N := some 25) #[true, true, true, true, true, true, true, false, false] rfl rfl (one_of HT_.out (by kernel_rfl)) (by decide) (fun K hK => ?_)
       refine goes_ Try.func61 (by kernel_rfl) rfl #[.agg #[.int .i64 a0_0, .bool a0_1], .int .u32 a1, .int .i64 a2, .int .i64 (rd t438 x16_1)] (by rfl) rfl rfl (by (try simp only [ma_, mc_, mn_]); first | done | rfl | (simp only [ld_, lt_]; rfl)) ?_
       with_reducible refine (impl_bench_behind.calls k1 a0_0 a0_1 a1 a2 (rd t438 x16_1) t442 _ A14.out).mono ?_
       rintro e w23 ⟨rfl, hb⟩
       refine ⟨_, rfl, ?_⟩
       have n0_ := A0_ (Kd.R_below (by (with_reducible repeat (first | apply ra_ | apply rn_ | apply rd_)); exact HO_7.out) hb)
       have n1_ := A0_ (Kd.R_below (by (with_reducible repeat (first | apply ra_ | apply rn_ | apply rd_)); exact HO_14.out) hb)
       have n2_ := A0_ (kb_ (g := gb434) (o := .cells #[.int .i64 a0_0, .bool a0_1] 57 (0, 0)) (by (with_reducible repeat (first | apply kn_ | apply kd_ | apply ka_)); exact BK434.out) hb)
       have n3_ := A0_ (bt_ (by repeat (first | exact HB.out | apply ba_ | apply bn_ | apply bd_ | refine bs_ ?_ GE434.out)) hb)
       clear HO_7
       clear HO_14
       clear BK434
       clear HB
       have HO_7 := n0_
       have HO_14 := n1_
       have BK434 := n2_
       have HB := n3_
       clear n0_ n1_ n2_ n3_
       (try clear hb)
       (try clear hb2)
       (try clear hk)
       (try clear hi)
       refine hK.out _ _ ⟨(kc_ BK434.out 0).trans rfl, (kc_ BK434.out 1).trans rfl⟩ (fun hHeld => ?_)
       clear hK K
       refine norm_ (a' := ?_) ?_ ?_
       rotate_left
       ·show Act.put _ (some 25) _ = _
        simp only [Act.put, sa_, sz_, ss_, i64_w, i32_w]
        rfl
       refine one_ (i := 7) (N := some 27) #[true, true, true, true, true, true, true, true, false] rfl rfl (one_of HT_.out (by kernel_rfl)) (by decide) (fun K hK => ?_)
       refine goes_ Try.func57 (by kernel_rfl) rfl #[.agg #[.int .i64 a0_0, .bool a0_1], .int .u32 t442, .int .i64 a2] (by rfl) rfl rfl (by (try simp only [ma_, mc_, mn_]); first | done | rfl | (simp only [ld_, lt_]; rfl)) ?_
       with_reducible refine (impl_bench_number.calls k1 a0_0 a0_1 t442 a2 t443 _ A15.out).mono ?_
       rintro e w24 ⟨rfl, hb⟩
       refine ⟨_, rfl, ?_⟩
       have n0_ := A0_ (Kd.R_below (by (with_reducible repeat (first | apply ra_ | apply rn_ | apply rd_)); exact HO_7.out) hb)
       have n1_ := A0_ (Kd.R_below (by (with_reducible repeat (first | apply ra_ | apply rn_ | apply rd_)); exact HO_14.out) hb)
       have n2_ := A0_ (kb_ (g := gb434) (o := .cells #[.int .i64 a0_0, .bool a0_1] 57 (0, 0)) (by (with_reducible repeat (first | apply kn_ | apply kd_ | apply ka_)); exact BK434.out) hb)
       have n3_ := A0_ (bt_ (by repeat (first | exact HB.out | apply ba_ | apply bn_ | apply bd_ | refine bs_ ?_ GE434.out)) hb)
       clear HO_7
       clear HO_14
       clear BK434
       clear HB
       have HO_7 := n0_
       have HO_14 := n1_
       have BK434 := n2_
       have HB := n3_
       clear n0_ n1_ n2_ n3_
       (try clear hb)
       (try clear hb2)
       (try clear hk)
       (try clear hi)
       refine hK.out _ _ ⟨(kc_ BK434.out 0).trans rfl, (kc_ BK434.out 1).trans rfl⟩ (fun hHeld => ?_)
       clear hK K
       refine norm_ (a' := ?_) ?_ ?_
       rotate_left
       ·show Act.put _ (some 27) _ = _
        simp only [Act.put, sa_, sz_, ss_, i64_w, i32_w]
        rfl
       refine pure_ (i := 8) (N := some 28) (v := ?_) (a' := ?_) #[true, true, true, true, true, true, true, true, true] rfl rfl (any_of HT_.out (by kernel_rfl)) (fun _ _ _ h => h) (Or.inl ⟨by rfl, ?_⟩) ?_ ?_
       rotate_left
       ·intro w'
        go_simp
        with_reducible rfl
       rotate_left
       ·simp only [Act.put, sa_, sz_, ss_, i64_w, i32_w]
        rfl
       refine done_ (done_of HT_.out (by kernel_rfl)) ?_
       try go_wp2
       go_roundg k1
       case measure => have := HK1.out; omega
       case rel => exact ⟨(x7_1), (wrap64 (x16_1 + 1)), (by first | rfl | (simp [*]; done)), H', ⟨by have := HK1.out; omega⟩, ⟨by (with_reducible repeat (first | apply ra_ | apply rn_ | apply rd_)); exact HO_7.out⟩, ⟨by (with_reducible repeat (first | apply ra_ | apply rn_ | apply rd_)); exact HO_14.out⟩, ⟨by (with_reducible repeat (first | apply kn_ | apply kd_ | apply ka_)); exact BK434.out⟩, ⟨by repeat (first | exact HB.out | apply ba_ | apply bn_ | apply bd_ | refine bs_ ?_ GE434.out)⟩⟩
     ·rw [if_neg c13] at H
      exact absurd H (by simp)
    ·rw [if_neg c12] at H
     exact absurd H (by simp)
   ·rw [if_neg c11] at H
    have c11b0 : decide (x16_1 < (t438.length : Int)) = false := decide_eq_false c11
    clear c11
    obtain rfl := si_ H
    go_wp2
    go_ret
    exact ⟨_, by first | rfl | (simp [*, errW_none, errW_some] <;> rfl), by (with_reducible repeat (first | apply ra_ | apply rn_ | apply rd_)); exact Kd.R_mono HO_7.out (fun _ hk => trivial), by repeat (first | exact HB.out | apply ba_ | apply bn_ | apply bd_ | refine bs_ ?_ GE434.out)⟩

end Go.Proofs.Ytgcgmlbjklkkjaa.QFnExactBestPlay
-- squeezed
