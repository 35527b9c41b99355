-- Written by px.py, a program of this session, over the kit's printer: some functions have a definition and a proof of this session's own.
import Derived.Test.YtgcgmlbjklkkjaaQFnExactBestPlayx0
import Derived.Test.YtgcgmlbjklkkjaaQFnExactBestPlayx1
import Derived.Test.YtgcgmlbjklkkjaaQFnExactBestPlayx10
import Derived.Test.YtgcgmlbjklkkjaaQFnExactBestPlayx17
namespace Go.Proofs.Ytgcgmlbjklkkjaa.QFnExactBestPlay
open Go.RowKit Go.Proofs.YtgcgmlbjklkkjaaW.PrintWords Go.Proofs.YtgcgmlbjklkkjaaW.PrintLast Go.Proofs.YtgcgmlbjklkkjaaW.PrintMore
attribute [local go_sem] max2_int min2_int max_two min_two max_three min_three max_four min_four   -- for this text's walks alone
set_option linter.unusedVariables false
set_option linter.unusedSimpArgs false
set_option maxHeartbeats 8000000
set_option maxRecDepth 100000

mutual
def laws_FnExactBestPlay.j0 : Nat → Int → List Int → Bool → List Int → Bool → Bool → Int → Bool → List Int → Int → Bool → List Int → Option (Bool)
 | 0, _, _, _, _, _, _, _, _, _, _, _, _ => none
 | k + 1, x1, x6, x7, x9, x10, x44, x473000, x473001, x473002, x489000, x489001, x489002 => if x44 = true then (some false) else ((laws_toRow.f k x473000 x473001 x473002).bind fun bt494 => ((laws_eqRow.f k x489000 x489001 x489002 bt494.1 bt494.2.1 bt494.2.2).bind fun t499 => (if t499 = true then ((laws_markRow.f k x489000 x489001 x489002 1).bind fun bt500 => (if bt500.1 < 0 then (laws_FnExactBestPlay.j1 k x1 x6 x7 x9 true x473000 x473001 x473002) else ((laws_eqIntS.f k x9 x6).bind fun t502 => (if t502 = true then (laws_FnExactBestPlay.j1 k x1 x6 x7 x9 (x10 != x7) x473000 x473001 x473002) else (laws_FnExactBestPlay.j1 k x1 x6 x7 x9 true x473000 x473001 x473002))))) else (some false))))
def laws_FnExactBestPlay.j1 : Nat → Int → List Int → Bool → List Int → Bool → Int → Bool → List Int → Option (Bool)
 | 0, _, _, _, _, _, _, _, _ => none
 | k + 1, x1, x6, x7, x9, x65, x473000, x473001, x473002 => if x65 = true then (some false) else ((laws_markIntS.f k x9 1).bind fun bt503 => ((laws_heldIntS.f k bt503.2 1).bind fun t505 => (if t505 < 0 then (some false) else (if t505 = bt503.1 then ((laws_toRow.f k x473000 x473001 x473002).bind fun bt506 => ((impl_BestPlay.f k bt506.1 bt506.2.1 bt506.2.2 x1).bind fun bt511 => ((laws_eqIntS.f k bt511.1 x6).bind fun t515 => (if t515 = true then (laws_FnExactBestPlay.j2 k bt503.2 bt503.1 (bt511.2 != x7)) else (laws_FnExactBestPlay.j2 k bt503.2 bt503.1 true))))) else (some false)))))
def laws_FnExactBestPlay.j2 : Nat → List Int → Int → Bool → Option (Bool)
 | 0, _, _, _ => none
 | k + 1, x9, x12, x92 => if x92 = true then (some false) else ((laws_heldIntS.f k x9 1).bind fun t516 => (if t516 < 0 then (some false) else (if t516 = x12 then (some true) else (some false))))
end
def laws_FnExactBestPlay.f (k : Nat) (a0_0 : Int) (a0_1 : Bool) (l0_2 : List Int) (a1 : Int) : Option (Bool) := (laws_szRow.f a0_0 a0_1 l0_2 1048576).bind fun t473 => (if t473 < 0 then (some true) else ((laws_toRow.f k a0_0 a0_1 l0_2).bind fun bt474 => ((spec_BestPlay.f k bt474.1 bt474.2.1 bt474.2.2 a1).bind fun bt479 => ((laws_toRow.f k a0_0 a0_1 l0_2).bind fun bt483 => ((impl_BestPlay.f k bt483.1 bt483.2.1 bt483.2.2 a1).bind fun bt489 => ((laws_eqIntS.f k bt489.1 bt479.1).bind fun t493 => (if t493 = true then (laws_FnExactBestPlay.j0 k a1 bt479.1 bt479.2 bt489.1 bt489.2 (bt489.2 != bt479.2) a0_0 a0_1 l0_2 bt483.1 bt483.2.1 bt483.2.2) else (laws_FnExactBestPlay.j0 k a1 bt479.1 bt479.2 bt489.1 bt489.2 true a0_0 a0_1 l0_2 bt483.1 bt483.2.1 bt483.2.2))))))))
theorem laws_FnExactBestPlay.mono_l : ∀ k, (∀ y0 y1 y2 y3 y4 y5 y6 y7 y8 y9 y10 y11, LeO (laws_FnExactBestPlay.j0 k y0 y1 y2 y3 y4 y5 y6 y7 y8 y9 y10 y11) (laws_FnExactBestPlay.j0 (k + 1) y0 y1 y2 y3 y4 y5 y6 y7 y8 y9 y10 y11)) ∧ (∀ y0 y1 y2 y3 y4 y5 y6 y7, LeO (laws_FnExactBestPlay.j1 k y0 y1 y2 y3 y4 y5 y6 y7) (laws_FnExactBestPlay.j1 (k + 1) y0 y1 y2 y3 y4 y5 y6 y7)) ∧ (∀ y0 y1 y2, LeO (laws_FnExactBestPlay.j2 k y0 y1 y2) (laws_FnExactBestPlay.j2 (k + 1) y0 y1 y2))
 | 0 => ⟨fun _ _ _ _ _ _ _ _ _ _ _ _ r h => by simp [laws_FnExactBestPlay.j0] at h, fun _ _ _ _ _ _ _ _ r h => by simp [laws_FnExactBestPlay.j1] at h, fun _ _ _ r h => by simp [laws_FnExactBestPlay.j2] at h⟩
 | k + 1 => by
  obtain ⟨ih0, ih1, ih2⟩ := laws_FnExactBestPlay.mono_l k
  refine ⟨?_, ?_, ?_⟩
  ·intro y0 y1 y2 y3 y4 y5 y6 y7 y8 y9 y10 y11
   unfold laws_FnExactBestPlay.j0
   repeat' first
   | (with_reducible exact ih0 _ _ _ _ _ _ _ _ _ _ _ _)
   | (with_reducible exact ih1 _ _ _ _ _ _ _ _)
   | (with_reducible exact ih2 _ _ _)
   | (with_reducible exact impl_BestPlay.mono _ _ _ _ _)
   | (with_reducible exact laws_eqIntS.mono _ _ _)
   | (with_reducible exact laws_eqRow.mono _ _ _ _ _ _ _)
   | (with_reducible exact laws_heldIntS.mono _ _ _)
   | (with_reducible exact laws_markIntS.mono _ _ _)
   | (with_reducible exact laws_markRow.mono _ _ _ _ _)
   | (with_reducible exact laws_toRow.mono _ _ _ _)
   | (with_reducible exact spec_BestPlay.mono _ _ _ _ _)
   | (with_reducible exact LeO.refl _)
   | (with_reducible exact LeO.none _)
   | (with_reducible refine LeO.ite ?_ ?_)
   | (with_reducible refine LeO.bind ?_ (fun _ => ?_))
  ·intro y0 y1 y2 y3 y4 y5 y6 y7
   unfold laws_FnExactBestPlay.j1
   repeat' first
   | (with_reducible exact ih0 _ _ _ _ _ _ _ _ _ _ _ _)
   | (with_reducible exact ih1 _ _ _ _ _ _ _ _)
   | (with_reducible exact ih2 _ _ _)
   | (with_reducible exact impl_BestPlay.mono _ _ _ _ _)
   | (with_reducible exact laws_eqIntS.mono _ _ _)
   | (with_reducible exact laws_eqRow.mono _ _ _ _ _ _ _)
   | (with_reducible exact laws_heldIntS.mono _ _ _)
   | (with_reducible exact laws_markIntS.mono _ _ _)
   | (with_reducible exact laws_markRow.mono _ _ _ _ _)
   | (with_reducible exact laws_toRow.mono _ _ _ _)
   | (with_reducible exact spec_BestPlay.mono _ _ _ _ _)
   | (with_reducible exact LeO.refl _)
   | (with_reducible exact LeO.none _)
   | (with_reducible refine LeO.ite ?_ ?_)
   | (with_reducible refine LeO.bind ?_ (fun _ => ?_))
  ·intro y0 y1 y2
   unfold laws_FnExactBestPlay.j2
   repeat' first
   | (with_reducible exact ih0 _ _ _ _ _ _ _ _ _ _ _ _)
   | (with_reducible exact ih1 _ _ _ _ _ _ _ _)
   | (with_reducible exact ih2 _ _ _)
   | (with_reducible exact impl_BestPlay.mono _ _ _ _ _)
   | (with_reducible exact laws_eqIntS.mono _ _ _)
   | (with_reducible exact laws_eqRow.mono _ _ _ _ _ _ _)
   | (with_reducible exact laws_heldIntS.mono _ _ _)
   | (with_reducible exact laws_markIntS.mono _ _ _)
   | (with_reducible exact laws_markRow.mono _ _ _ _ _)
   | (with_reducible exact laws_toRow.mono _ _ _ _)
   | (with_reducible exact spec_BestPlay.mono _ _ _ _ _)
   | (with_reducible exact LeO.refl _)
   | (with_reducible exact LeO.none _)
   | (with_reducible refine LeO.ite ?_ ?_)
   | (with_reducible refine LeO.bind ?_ (fun _ => ?_))
theorem laws_FnExactBestPlay.mono : ∀ a0 a1 a2 a3 k, LeO (laws_FnExactBestPlay.f k a0 a1 a2 a3) (laws_FnExactBestPlay.f (k + 1) a0 a1 a2 a3) := by
 intro a0 a1 a2 a3 k
 obtain ⟨ih0, ih1, ih2⟩ := laws_FnExactBestPlay.mono_l k
 unfold laws_FnExactBestPlay.f
 repeat' first
   | (with_reducible exact ih0 _ _ _ _ _ _ _ _ _ _ _ _)
   | (with_reducible exact ih1 _ _ _ _ _ _ _ _)
   | (with_reducible exact ih2 _ _ _)
   | (with_reducible exact impl_BestPlay.mono _ _ _ _ _)
   | (with_reducible exact laws_eqIntS.mono _ _ _)
   | (with_reducible exact laws_eqRow.mono _ _ _ _ _ _ _)
   | (with_reducible exact laws_heldIntS.mono _ _ _)
   | (with_reducible exact laws_markIntS.mono _ _ _)
   | (with_reducible exact laws_markRow.mono _ _ _ _ _)
   | (with_reducible exact laws_toRow.mono _ _ _ _)
   | (with_reducible exact spec_BestPlay.mono _ _ _ _ _)
   | (with_reducible exact LeO.refl _)
   | (with_reducible exact LeO.none _)
   | (with_reducible refine LeO.ite ?_ ?_)
   | (with_reducible refine LeO.bind ?_ (fun _ => ?_))
theorem laws_FnExactBestPlay.calls (k : Nat) (a0_0 : Int) (a0_1 : Bool) (A0_2 : Option Addr) (c0_2 : Nat) (l0_2 : List Int) (a1 : Int) (r : Bool) (w : World) (hr0_2 : Kd.C (Kd.int .i64) w A0_2 l0_2.length l0_2) (hc0_2 : l0_2.length ≤ c0_2) (h : laws_FnExactBestPlay.f k a0_0 a0_1 l0_2 a1 = some r) :
  Calls Try.prog 11 #[.agg #[.int .i64 a0_0, .bool a0_1, .slice A0_2 l0_2.length c0_2], .int .i64 a1] w fun e w' => e = .returned (.bool r) ∧ Below w.heap.size w w' := by
 have hu29 := Try.underlying29
 have hu32 := Try.underlying32
 have HR0_2 := A0_ hr0_2
 have HC0_2 := A0_ hc0_2
 clear hr0_2 hc0_2
 have HB := A0_ (Below.refl w.heap.size w)
 have H : ((laws_szRow.f a0_0 a0_1 l0_2 1048576).bind fun t473 => (if t473 < 0 then (some true) else ((laws_toRow.f k a0_0 a0_1 l0_2).bind fun bt474 => ((spec_BestPlay.f k bt474.1 bt474.2.1 bt474.2.2 a1).bind fun bt479 => ((laws_toRow.f k a0_0 a0_1 l0_2).bind fun bt483 => ((impl_BestPlay.f k bt483.1 bt483.2.1 bt483.2.2 a1).bind fun bt489 => ((laws_eqIntS.f k bt489.1 bt479.1).bind fun t493 => (if t493 = true then (laws_FnExactBestPlay.j0 k a1 bt479.1 bt479.2 bt489.1 bt489.2 (bt489.2 != bt479.2) a0_0 a0_1 l0_2 bt483.1 bt483.2.1 bt483.2.2) else (laws_FnExactBestPlay.j0 k a1 bt479.1 bt479.2 bt489.1 bt489.2 true a0_0 a0_1 l0_2 bt483.1 bt483.2.1 bt483.2.2))))))))) = some r := h
 clear h
 replace H := ob_.mp H
 obtain ⟨t473, A30, H⟩ := H
 have A3 := A0_ A30
 clear A30
 by_cases c4 : t473 < 0
 ·rw [if_pos c4] at H
  have c4b0 : decide (t473 < 0) = true := dt_ c4
  clear c4
  obtain rfl := si_ H
  go_enter Try.func11, Try.ntmps11
  go_wp2_with (first | ((with_reducible refine gd_ (N := 2) rfl ?_); refine be_ ?hg (N := 2) ?hd (cs := #[.int .i64 a0_0, .bool a0_1, .slice A0_2 l0_2.length c0_2]) (t := 29) ?hr ?_; (case hd => rfl); (case hg => rfl); (case hr => go_simp; first | done | rfl); intro gb472 hg w5 hbox hb; have n0_ := A0_ (bt_ (by repeat (first | exact HB.out | apply ba_ | apply bn_ | apply bd_)) hb); have n1_ := A0_ (hbox); have n2_ := A0_ ((by rw [hg]; exact (bz_ (by repeat (first | exact HB.out | apply ba_ | apply bn_ | apply bd_))) : w.heap.size ≤ gb472)); have n3_ := A0_ ((by rw [hg]; exact (bz_ (by repeat (first | exact HB.out | apply ba_ | apply bn_ | apply bd_))) : w.heap.size ≤ gb472)); clear HB; have HB := n0_; have BK472 := n1_; have GW472 := n2_; have GE472 := n3_; clear n0_ n1_ n2_ n3_ hb hbox hg; have hcz6_0 : w5.cell? ⟨gb472, 0, none⟩ = some (.int .i64 a0_0) := (kc_ BK472.out 0).trans rfl; have hcz6_1 : w5.cell? ⟨gb472, 1, none⟩ = some (.bool a0_1) := (kc_ BK472.out 1).trans rfl; have hcz6_2 : w5.cell? ⟨gb472, 2, none⟩ = some (.slice A0_2 l0_2.length c0_2) := (kc_ BK472.out 2).trans rfl; have hfz6_0 := kf_ BK472.out 0; have hfz6_1 := kf_ BK472.out 1; have hfz6_2 := kf_ BK472.out 2) | ((with_reducible refine gc_ (f := 18) rfl ?_); refine goesL_ (some 18) rfl rfl Try.func18 (by kernel_rfl) rfl #[.agg #[.int .i64 a0_0, .bool a0_1, .slice A0_2 l0_2.length c0_2], .int .i64 1048576] rfl (by (try simp only [ma_, mc_, mn_]); first | done | rfl | (simp only [ld_, lt_]; rfl)) ?_; (with_reducible refine (laws_szRow.calls a0_0 a0_1 _ _ l0_2 1048576 t473 _ ?side1 ?side2 A3.out).mono ?_); (case side1 => repeat (first | exact (cb_ HR0_2.out HB.out) | (with_reducible refine ca_ ?_ _) | (with_reducible refine cn_ ?_ _) | (with_reducible refine cd_ ?_))); (case side2 => exact HC0_2.out); rintro e w7 ⟨rfl, hb⟩; refine ⟨_, rfl, ?_⟩; have n0_ := A0_ (kb_ (g := gb472) (o := .cells #[.int .i64 a0_0, .bool a0_1, .slice A0_2 l0_2.length c0_2] 29 (0, 0)) (by (with_reducible repeat (first | apply kn_ | apply kd_ | apply ka_)); exact BK472.out) hb); have n1_ := A0_ (bt_ (by repeat (first | exact HB.out | apply ba_ | apply bn_ | apply bd_ | refine bs_ ?_ GE472.out)) hb); clear BK472 HB; have BK472 := n0_; have HB := n1_; clear n0_ n1_; (try clear hb)))
  go_ret
  exact ⟨by first | rfl | (simp [*, errW_none, errW_some] <;> rfl), by repeat (first | exact HB.out | apply ba_ | apply bn_ | apply bd_ | refine bs_ ?_ GE472.out)⟩
 ·rw [if_neg c4] at H
  have c4b0 : decide (t473 < 0) = false := decide_eq_false c4
  clear c4
  replace H := ob_.mp H
  obtain ⟨⟨t474, t475, t476⟩, A80, H⟩ := H
  have A8 := A0_ A80
  clear A80
  replace H := ob_.mp H
  obtain ⟨⟨t479, t482⟩, A90, H⟩ := H
  have A9 := A0_ A90
  clear A90
  replace H := ob_.mp H
  obtain ⟨⟨t483, t484, t485⟩, A100, H⟩ := H
  have A10 := A0_ A100
  clear A100
  replace H := ob_.mp H
  obtain ⟨⟨t489, t492⟩, A110, H⟩ := H
  have A11 := A0_ A110
  clear A110
  have HC12 := A0_ H
  clear H
  go_enter Try.func11, Try.ntmps11
  go_upto_region 8 with (first | ((with_reducible refine gd_ (N := 2) rfl ?_); refine be_ ?hg (N := 2) ?hd (cs := #[.int .i64 a0_0, .bool a0_1, .slice A0_2 l0_2.length c0_2]) (t := 29) ?hr ?_; (case hd => rfl); (case hg => rfl); (case hr => go_simp; first | done | rfl); intro gb472 hg w13 hbox hb; have n0_ := A0_ (bt_ (by repeat (first | exact HB.out | apply ba_ | apply bn_ | apply bd_)) hb); have n1_ := A0_ (hbox); have n2_ := A0_ ((by rw [hg]; exact (bz_ (by repeat (first | exact HB.out | apply ba_ | apply bn_ | apply bd_))) : w.heap.size ≤ gb472)); have n3_ := A0_ ((by rw [hg]; exact (bz_ (by repeat (first | exact HB.out | apply ba_ | apply bn_ | apply bd_))) : w.heap.size ≤ gb472)); clear HB; have HB := n0_; have BK472 := n1_; have GW472 := n2_; have GE472 := n3_; clear n0_ n1_ n2_ n3_ hb hbox hg; have hcz14_0 : w13.cell? ⟨gb472, 0, none⟩ = some (.int .i64 a0_0) := (kc_ BK472.out 0).trans rfl; have hcz14_1 : w13.cell? ⟨gb472, 1, none⟩ = some (.bool a0_1) := (kc_ BK472.out 1).trans rfl; have hcz14_2 : w13.cell? ⟨gb472, 2, none⟩ = some (.slice A0_2 l0_2.length c0_2) := (kc_ BK472.out 2).trans rfl; have hfz14_0 := kf_ BK472.out 0; have hfz14_1 := kf_ BK472.out 1; have hfz14_2 := kf_ BK472.out 2) | ((with_reducible refine gc_ (f := 18) rfl ?_); refine goesL_ (some 18) rfl rfl Try.func18 (by kernel_rfl) rfl #[.agg #[.int .i64 a0_0, .bool a0_1, .slice A0_2 l0_2.length c0_2], .int .i64 1048576] rfl (by (try simp only [ma_, mc_, mn_]); first | done | rfl | (simp only [ld_, lt_]; rfl)) ?_; (with_reducible refine (laws_szRow.calls a0_0 a0_1 _ _ l0_2 1048576 t473 _ ?side1 ?side2 A3.out).mono ?_); (case side1 => repeat (first | exact (cb_ HR0_2.out HB.out) | (with_reducible refine ca_ ?_ _) | (with_reducible refine cn_ ?_ _) | (with_reducible refine cd_ ?_))); (case side2 => exact HC0_2.out); rintro e w15 ⟨rfl, hb⟩; refine ⟨_, rfl, ?_⟩; have n0_ := A0_ (kb_ (g := gb472) (o := .cells #[.int .i64 a0_0, .bool a0_1, .slice A0_2 l0_2.length c0_2] 29 (0, 0)) (by (with_reducible repeat (first | apply kn_ | apply kd_ | apply ka_)); exact BK472.out) hb); have n1_ := A0_ (bt_ (by repeat (first | exact HB.out | apply ba_ | apply bn_ | apply bd_ | refine bs_ ?_ GE472.out)) hb); clear BK472 HB; have BK472 := n0_; have HB := n1_; clear n0_ n1_; (try clear hb); have hcz16_0 : w15.cell? ⟨gb472, 0, none⟩ = some (.int .i64 a0_0) := (kc_ BK472.out 0).trans rfl; have hcz16_1 : w15.cell? ⟨gb472, 1, none⟩ = some (.bool a0_1) := (kc_ BK472.out 1).trans rfl; have hcz16_2 : w15.cell? ⟨gb472, 2, none⟩ = some (.slice A0_2 l0_2.length c0_2) := (kc_ BK472.out 2).trans rfl; have hfz16_0 := kf_ BK472.out 0; have hfz16_1 := kf_ BK472.out 1; have hfz16_2 := kf_ BK472.out 2) | ((with_reducible refine gc_ (f := 20) rfl ?_); refine goesL_ (some 23) rfl rfl Try.func20 (by kernel_rfl) rfl #[.agg #[.int .i64 a0_0, .bool a0_1, .slice A0_2 l0_2.length c0_2]] rfl (by (try simp only [ma_, mc_, mn_]); first | done | rfl | (simp only [ld_, lt_]; rfl)) ?_; (with_reducible refine (laws_toRow.calls k a0_0 a0_1 _ _ l0_2 t474 t475 t476 _ ?side1 ?side2 A8.out).mono ?_); (case side1 => repeat (first | exact (cb_ HR0_2.out HB.out) | (with_reducible refine ca_ ?_ _) | (with_reducible refine cn_ ?_ _) | (with_reducible refine cd_ ?_))); (case side2 => exact HC0_2.out); rintro e w17 ⟨v477, rfl, ho0, hb⟩; refine ⟨_, rfl, ?_⟩; have n0_ := A0_ (Kd.R_lower ho0 (bz_ (by repeat (first | exact HB.out | apply ba_ | apply bn_ | apply bd_ | refine bs_ ?_ GE472.out)))); have n1_ := A0_ (kb_ (g := gb472) (o := .cells #[.int .i64 a0_0, .bool a0_1, .slice A0_2 l0_2.length c0_2] 29 (0, 0)) (by (with_reducible repeat (first | apply kn_ | apply kd_ | apply ka_)); exact BK472.out) hb); have n2_ := A0_ (bt_ (by repeat (first | exact HB.out | apply ba_ | apply bn_ | apply bd_ | refine bs_ ?_ GE472.out)) hb); clear BK472 HB; have HO478 := n0_; have BK472 := n1_; have HB := n2_; clear n0_ n1_ n2_; (try clear hb); (try clear ho0); obtain ⟨Ao18, co18, eo18⟩ := Kd.R_slice HO478.out; subst eo18) | ((with_reducible refine gc_ (f := 36) rfl ?_); refine goesL_ (some 25) rfl rfl Try.func36 (by kernel_rfl) rfl #[.agg #[.int .i64 t474, .bool t475, .slice Ao18 t476.length co18], .int .i64 a1] rfl (by (try simp only [ma_, mc_, mn_]); first | done | rfl | (simp only [ld_, lt_]; rfl)) ?_; (with_reducible refine (spec_BestPlay.calls k t474 t475 (fun k_ => some k_ = (.slice Ao18 t476.length co18 : Value).ownBlock) _ _ t476 a1 t479 t482 _ ?side1 A9.out).mono ?_); (case side1 => exact Kd.R_V (Kd.R_tight rfl (Kd.R_types (HO478.out) BK472.out (by decide)))); rintro e w19 ⟨v480, rfl, ho0, hb⟩; refine ⟨_, rfl, ?_⟩; have n0_ := A0_ (Kd.R_elder' (by (with_reducible repeat (first | apply ra_ | apply rn_ | apply rd_)); exact HO478.out) (Kd.R_base ho0) hb); have n1_ := A0_ (Kd.R_lower (Kd.R_new' (Kd.R_mono (ok' := fun k_ => True) ho0 (fun _ hk_ => trivial)) (Kd.R_lt (by (with_reducible repeat (first | apply ra_ | apply rn_ | apply rd_)); exact HO478.out))) (bz_ (by repeat (first | exact HB.out | apply ba_ | apply bn_ | apply bd_ | refine bs_ ?_ GE472.out)))); have n2_ := A0_ (kb_ (g := gb472) (o := .cells #[.int .i64 a0_0, .bool a0_1, .slice A0_2 l0_2.length c0_2] 29 (0, 0)) (by (with_reducible repeat (first | apply kn_ | apply kd_ | apply ka_)); exact BK472.out) hb); have n3_ := A0_ (bt_ (by repeat (first | exact HB.out | apply ba_ | apply bn_ | apply bd_ | refine bs_ ?_ GE472.out)) hb); clear HO478 BK472 HB; have HO478 := n0_; have HO481 := n1_; have BK472 := n2_; have HB := n3_; clear n0_ n1_ n2_ n3_; (try clear hb); (try clear ho0); have hcz20_0 : w19.cell? ⟨gb472, 0, none⟩ = some (.int .i64 a0_0) := (kc_ BK472.out 0).trans rfl; have hcz20_1 : w19.cell? ⟨gb472, 1, none⟩ = some (.bool a0_1) := (kc_ BK472.out 1).trans rfl; have hcz20_2 : w19.cell? ⟨gb472, 2, none⟩ = some (.slice A0_2 l0_2.length c0_2) := (kc_ BK472.out 2).trans rfl; have hfz20_0 := kf_ BK472.out 0; have hfz20_1 := kf_ BK472.out 1; have hfz20_2 := kf_ BK472.out 2) | ((with_reducible refine gc_ (f := 20) rfl ?_); refine goesL_ (some 29) rfl rfl Try.func20 (by kernel_rfl) rfl #[.agg #[.int .i64 a0_0, .bool a0_1, .slice A0_2 l0_2.length c0_2]] rfl (by (try simp only [ma_, mc_, mn_]); first | done | rfl | (simp only [ld_, lt_]; rfl)) ?_; (with_reducible refine (laws_toRow.calls k a0_0 a0_1 _ _ l0_2 t483 t484 t485 _ ?side1 ?side2 A10.out).mono ?_); (case side1 => repeat (first | exact (cb_ HR0_2.out HB.out) | (with_reducible refine ca_ ?_ _) | (with_reducible refine cn_ ?_ _) | (with_reducible refine cd_ ?_))); (case side2 => exact HC0_2.out); rintro e w21 ⟨v486, rfl, ho0, hb⟩; refine ⟨_, rfl, ?_⟩; have n0_ := A0_ (Kd.R_elder' (by (with_reducible repeat (first | apply ra_ | apply rn_ | apply rd_)); exact HO478.out) (Kd.R_base ho0) hb); have n1_ := A0_ (Kd.R_elder' (by (with_reducible repeat (first | apply ra_ | apply rn_ | apply rd_)); exact HO481.out) (Kd.R_base ho0) hb); have n2_ := A0_ (Kd.R_lower (Kd.R_new' (Kd.R_new' ho0 (Kd.R_lt (by (with_reducible repeat (first | apply ra_ | apply rn_ | apply rd_)); exact HO478.out))) (Kd.R_lt (by (with_reducible repeat (first | apply ra_ | apply rn_ | apply rd_)); exact HO481.out))) (bz_ (by repeat (first | exact HB.out | apply ba_ | apply bn_ | apply bd_ | refine bs_ ?_ GE472.out)))); have n3_ := A0_ (kb_ (g := gb472) (o := .cells #[.int .i64 a0_0, .bool a0_1, .slice A0_2 l0_2.length c0_2] 29 (0, 0)) (by (with_reducible repeat (first | apply kn_ | apply kd_ | apply ka_)); exact BK472.out) hb); have n4_ := A0_ (bt_ (by repeat (first | exact HB.out | apply ba_ | apply bn_ | apply bd_ | refine bs_ ?_ GE472.out)) hb); clear HO478 HO481 BK472 HB; have HO478 := n0_; have HO481 := n1_; have HO487 := n2_; have BK472 := n3_; have HB := n4_; clear n0_ n1_ n2_ n3_ n4_; (try clear hb); (try clear ho0)) | ((with_reducible refine gd_ (N := 8) rfl ?_); refine be_ ?hg (N := 8) ?hd (cs := #[.int .i64 0, .bool false, .slice none 0 0]) (t := 32) ?hr ?_; (case hd => rfl); (case hg => rfl); (case hr => go_simp; first | done | rfl); intro gb488 hg w22 hbox hb; have n0_ := A0_ (Kd.R_below (by (with_reducible repeat (first | apply ra_ | apply rn_ | apply rd_)); exact HO478.out) hb); have n1_ := A0_ (Kd.R_below (by (with_reducible repeat (first | apply ra_ | apply rn_ | apply rd_)); exact HO481.out) hb); have n2_ := A0_ (Kd.R_below (by (with_reducible repeat (first | apply ra_ | apply rn_ | apply rd_)); exact HO487.out) hb); have n3_ := A0_ (kb_ (g := gb472) (o := .cells #[.int .i64 a0_0, .bool a0_1, .slice A0_2 l0_2.length c0_2] 29 (0, 0)) (by (with_reducible repeat (first | apply kn_ | apply kd_ | apply ka_)); exact BK472.out) hb); have n4_ := A0_ (bt_ (by repeat (first | exact HB.out | apply ba_ | apply bn_ | apply bd_ | refine bs_ ?_ GE472.out)) hb); have n5_ := A0_ (hbox); have n6_ := A0_ ((by rw [hg]; exact (bz_ (by repeat (first | exact HB.out | apply ba_ | apply bn_ | apply bd_ | refine bs_ ?_ GE472.out))) : w.heap.size ≤ gb488)); have n7_ := A0_ ((by rw [hg]; exact (bz_ (by repeat (first | exact HB.out | apply ba_ | apply bn_ | apply bd_ | refine bs_ ?_ GE472.out))) : w.heap.size ≤ gb488)); have n8_ := A0_ ((by rw [hg]; exact Nat.ne_of_lt (blk_lt (g := gb472) (o := .cells #[.int .i64 a0_0, .bool a0_1, .slice A0_2 l0_2.length c0_2] 29 (0, 0)) (by (with_reducible repeat (first | apply kn_ | apply kd_ | apply ka_)); exact BK472.out)) : gb472 ≠ gb488)); have n9_ := A0_ ((by rw [hg]; exact Nat.ne_of_gt (blk_lt (g := gb472) (o := .cells #[.int .i64 a0_0, .bool a0_1, .slice A0_2 l0_2.length c0_2] 29 (0, 0)) (by (with_reducible repeat (first | apply kn_ | apply kd_ | apply ka_)); exact BK472.out)) : gb488 ≠ gb472)); clear HO478 HO481 HO487 BK472 HB; have HO478 := n0_; have HO481 := n1_; have HO487 := n2_; have BK472 := n3_; have HB := n4_; have BK488 := n5_; have GW488 := n6_; have GE488 := n7_; have NB472_488 := n8_; have NB488_472 := n9_; clear n0_ n1_ n2_ n3_ n4_ n5_ n6_ n7_ n8_ n9_ hb hbox hg; have hnb23 := NB488_472.out; have hnc23 := NB472_488.out; have hcz24_0 : w22.cell? ⟨gb488, 0, none⟩ = some (.int .i64 0) := (kc_ BK488.out 0).trans rfl; have hcz24_1 : w22.cell? ⟨gb488, 1, none⟩ = some (.bool false) := (kc_ BK488.out 1).trans rfl; have hcz24_2 : w22.cell? ⟨gb488, 2, none⟩ = some (.slice none 0 0) := (kc_ BK488.out 2).trans rfl; have hfz24_0 := kf_ BK488.out 0; have hfz24_1 := kf_ BK488.out 1; have hfz24_2 := kf_ BK488.out 2; obtain ⟨Ao25, co25, eo25⟩ := Kd.R_slice HO487.out; subst eo25) | ((with_reducible refine gc_ (f := 37) rfl ?_); refine goesL_ (some 33) rfl rfl Try.func37 (by kernel_rfl) rfl #[.agg #[.int .i64 t483, .bool t484, .slice Ao25 t485.length co25], .int .i64 a1] rfl (by (try simp only [ma_, mc_, mn_]); first | done | rfl | (simp only [ld_, lt_]; rfl)) ?_; (with_reducible refine (impl_BestPlay.calls k t483 t484 _ _ t485 a1 t489 t492 _ ?side1 ?side2 A11.out).mono ?_); (case side1 => refine (rr_ (e := 3) (base := w.heap.size) (ok := fun k_ => ((True ∧ some k_ ≠ (.slice Ao18 t476.length co18 : Value).ownBlock) ∧ some k_ ≠ (v480 : Value).ownBlock)) (n := t485.length) (c := co25) ?_).2.2; exact (by (with_reducible repeat (first | apply ra_ | apply rn_ | apply rd_)); exact (Kd.R_mono (Kd.R_far (p := ⟨gb488, 2, none⟩) (Kd.R_far (p := ⟨gb488, 1, none⟩) (Kd.R_far (p := ⟨gb488, 0, none⟩) (Kd.R_types HO487.out BK488.out (by decide)) (fun _ hk => hk.2) (.int .i64 t483)) (fun _ hk => hk.2) (.bool t484)) (fun _ hk => hk.2) (.slice Ao25 t485.length co25)) (fun _ h_ => h_.1)))); (case side2 => exact (rr_ HO487.out).2.1); rintro e w26 ⟨v490, rfl, ho0, hb⟩; refine ⟨_, rfl, ?_⟩; have n0_ := A0_ (Kd.R_elder' (by (with_reducible repeat (first | apply ra_ | apply rn_ | apply rd_)); exact (Kd.R_mono (Kd.R_far (p := ⟨gb488, 2, none⟩) (Kd.R_far (p := ⟨gb488, 1, none⟩) (Kd.R_far (p := ⟨gb488, 0, none⟩) (Kd.R_types HO478.out BK488.out (by decide)) (fun _ hk => hk.2) (.int .i64 t483)) (fun _ hk => hk.2) (.bool t484)) (fun _ hk => hk.2) (.slice Ao25 t485.length co25)) (fun _ h_ => h_.1))) (Kd.R_base ho0) hb); have n1_ := A0_ (Kd.R_elder' (by (with_reducible repeat (first | apply ra_ | apply rn_ | apply rd_)); exact (Kd.R_mono (Kd.R_far (p := ⟨gb488, 2, none⟩) (Kd.R_far (p := ⟨gb488, 1, none⟩) (Kd.R_far (p := ⟨gb488, 0, none⟩) (Kd.R_types HO481.out BK488.out (by decide)) (fun _ hk => hk.2) (.int .i64 t483)) (fun _ hk => hk.2) (.bool t484)) (fun _ hk => hk.2) (.slice Ao25 t485.length co25)) (fun _ h_ => h_.1))) (Kd.R_base ho0) hb); have n2_ := A0_ (Kd.R_elder' (by (with_reducible repeat (first | apply ra_ | apply rn_ | apply rd_)); exact (Kd.R_mono (Kd.R_far (p := ⟨gb488, 2, none⟩) (Kd.R_far (p := ⟨gb488, 1, none⟩) (Kd.R_far (p := ⟨gb488, 0, none⟩) (Kd.R_types HO487.out BK488.out (by decide)) (fun _ hk => hk.2) (.int .i64 t483)) (fun _ hk => hk.2) (.bool t484)) (fun _ hk => hk.2) (.slice Ao25 t485.length co25)) (fun _ h_ => h_.1))) (Kd.R_base ho0) hb); have n3_ := A0_ (Kd.R_lower (Kd.R_new' (Kd.R_new' (Kd.R_new' ho0 (Kd.R_lt (by (with_reducible repeat (first | apply ra_ | apply rn_ | apply rd_)); exact (Kd.R_mono (Kd.R_far (p := ⟨gb488, 2, none⟩) (Kd.R_far (p := ⟨gb488, 1, none⟩) (Kd.R_far (p := ⟨gb488, 0, none⟩) (Kd.R_types HO478.out BK488.out (by decide)) (fun _ hk => hk.2) (.int .i64 t483)) (fun _ hk => hk.2) (.bool t484)) (fun _ hk => hk.2) (.slice Ao25 t485.length co25)) (fun _ h_ => h_.1))))) (Kd.R_lt (by (with_reducible repeat (first | apply ra_ | apply rn_ | apply rd_)); exact (Kd.R_mono (Kd.R_far (p := ⟨gb488, 2, none⟩) (Kd.R_far (p := ⟨gb488, 1, none⟩) (Kd.R_far (p := ⟨gb488, 0, none⟩) (Kd.R_types HO481.out BK488.out (by decide)) (fun _ hk => hk.2) (.int .i64 t483)) (fun _ hk => hk.2) (.bool t484)) (fun _ hk => hk.2) (.slice Ao25 t485.length co25)) (fun _ h_ => h_.1))))) (Kd.R_lt (by (with_reducible repeat (first | apply ra_ | apply rn_ | apply rd_)); exact (Kd.R_mono (Kd.R_far (p := ⟨gb488, 2, none⟩) (Kd.R_far (p := ⟨gb488, 1, none⟩) (Kd.R_far (p := ⟨gb488, 0, none⟩) (Kd.R_types HO487.out BK488.out (by decide)) (fun _ hk => hk.2) (.int .i64 t483)) (fun _ hk => hk.2) (.bool t484)) (fun _ hk => hk.2) (.slice Ao25 t485.length co25)) (fun _ h_ => h_.1))))) (bz_ (by repeat (first | exact HB.out | apply ba_ | apply bn_ | apply bd_ | refine bs_ ?_ GE472.out | refine bs_ ?_ GE488.out)))); have n4_ := A0_ (kb_ (g := gb472) (o := .cells #[.int .i64 a0_0, .bool a0_1, .slice A0_2 l0_2.length c0_2] 29 (0, 0)) (by (with_reducible repeat (first | apply kn_ | apply kd_ | apply ka_)); refine blk_far ?_ NB472_488.out _; (with_reducible repeat (first | apply kn_ | apply kd_ | apply ka_)); refine blk_far ?_ NB472_488.out _; (with_reducible repeat (first | apply kn_ | apply kd_ | apply ka_)); refine blk_far ?_ NB472_488.out _; (with_reducible repeat (first | apply kn_ | apply kd_ | apply ka_)); exact BK472.out) hb); have n5_ := A0_ (kb_ (g := gb488) (o := .cells #[.int .i64 t483, .bool t484, .slice Ao25 t485.length co25] 32 (0, 0)) (by (with_reducible repeat (first | apply kn_ | apply kd_ | apply ka_)); refine blk_put (cs := #[.int .i64 t483, .bool t484, .slice none 0 0]) ?_ 2 _ rfl; (with_reducible repeat (first | apply kn_ | apply kd_ | apply ka_)); refine blk_put (cs := #[.int .i64 t483, .bool false, .slice none 0 0]) ?_ 1 _ rfl; (with_reducible repeat (first | apply kn_ | apply kd_ | apply ka_)); refine blk_put (cs := #[.int .i64 0, .bool false, .slice none 0 0]) ?_ 0 _ rfl; (with_reducible repeat (first | apply kn_ | apply kd_ | apply ka_)); exact BK488.out) hb); have n6_ := A0_ (bt_ (by repeat (first | exact HB.out | apply ba_ | apply bn_ | apply bd_ | refine bs_ ?_ GE472.out | refine bs_ ?_ GE488.out)) hb); clear HO478 HO481 HO487 BK472 BK488 HB; have HO478 := n0_; have HO481 := n1_; have HO487 := n2_; have HO491 := n3_; have BK472 := n4_; have BK488 := n5_; have HB := n6_; clear n0_ n1_ n2_ n3_ n4_ n5_ n6_; (try clear hb); (try clear ho0)))
  (try simp only [Act.put, sa_, sz_, ss_])
  go_cut [44] (fun v44 wc => ∃ (kq : Nat) (x44_11 : Bool), v44 = .bool x44_11 ∧ Aside0 (laws_FnExactBestPlay.j0 kq a1 t479 t482 t489 t492 x44_11 a0_0 a0_1 l0_2 t483 t484 t485 = some r) ∧ Aside0 (kq ≤ k) ∧ Aside0 (Kd.R (Kd.int .i64) 3 wc w.heap.size (fun k_ => some k_ ≠ (v490 : Value).ownBlock ∧ some k_ ≠ ((.slice Ao25 t485.length co25) : Value).ownBlock) v480 t479) ∧ Aside0 (Kd.R (Kd.int .i64) 3 wc w.heap.size (fun k_ => some k_ ≠ (v480 : Value).ownBlock ∧ some k_ ≠ ((.slice Ao25 t485.length co25) : Value).ownBlock) v490 t489) ∧ Aside0 (Kd.R (Kd.int .i64) 3 wc w.heap.size (fun k_ => some k_ ≠ (v480 : Value).ownBlock ∧ some k_ ≠ (v490 : Value).ownBlock) (.slice Ao25 t485.length co25) t485) ∧ Aside0 (wc.heap[gb472]? = some (.cells #[.int .i64 a0_0, .bool a0_1, (.slice A0_2 l0_2.length c0_2)] 29 (0, 0))) ∧ Aside0 (wc.heap[gb488]? = some (.cells #[.int .i64 t483, .bool t484, (.slice Ao25 t485.length co25)] 32 (0, 0))) ∧ Aside0 (Below w.heap.size w wc))
  case first =>
   have H := HC12.out
   clear HC12
   replace H := ob_.mp H
   obtain ⟨t493, A270, H⟩ := H
   have A27 := A0_ A270
   clear A270
   by_cases c28 : t493 = true
   ·subst c28
    rw [if_pos rfl] at H
    have H' := A0_ H
    clear H
    obtain ⟨Ao29, co29, eo29⟩ := Kd.R_slice HO491.out
    subst eo29
    obtain ⟨Ao30, co30, eo30⟩ := Kd.R_slice HO481.out
    subst eo30
    go_wp2_with (first | ((with_reducible refine gc_ (f := 15) rfl ?_); refine goesL_ (some 38) rfl rfl Try.func15 (by kernel_rfl) rfl #[.slice Ao29 t489.length co29, .slice Ao30 t479.length co30] rfl (by (try simp only [ma_, mc_, mn_]); first | done | rfl | (simp only [ld_, lt_]; rfl)) ?_; (with_reducible refine (laws_eqIntS.calls k _ _ t489 _ _ t479 true _ ?side1 ?side2 ?side3 ?side4 A27.out).mono ?_); (case side1 => repeat (first | exact (rr_ HO491.out).2.2 | (with_reducible refine ca_ ?_ _) | (with_reducible refine cn_ ?_ _) | (with_reducible refine cd_ ?_))); (case side2 => exact (rr_ HO491.out).2.1); (case side3 => repeat (first | exact (rr_ HO481.out).2.2 | (with_reducible refine ca_ ?_ _) | (with_reducible refine cn_ ?_ _) | (with_reducible refine cd_ ?_))); (case side4 => exact (rr_ HO481.out).2.1); rintro e w' ⟨rfl, ⟨nd, rfl⟩⟩; refine ⟨_, rfl, ?_⟩))
    go_meet
    case rel => exact ⟨_, ((t492 != t482)), (by first | rfl | (simp [*]; done)), H', ⟨by first | omega | exact Nat.le_refl _⟩, ⟨by (with_reducible repeat (first | apply ra_ | apply rn_ | apply rd_)); exact Kd.R_mono HO481.out (fun _ hk => ⟨hk.2, hk.1.2⟩)⟩, ⟨by (with_reducible repeat (first | apply ra_ | apply rn_ | apply rd_)); exact Kd.R_mono HO491.out (fun _ hk => ⟨hk.1.2, hk.2⟩)⟩, ⟨by (with_reducible repeat (first | apply ra_ | apply rn_ | apply rd_)); exact Kd.R_mono HO487.out (fun _ hk => ⟨hk.1.2, hk.2⟩)⟩, ⟨by (with_reducible repeat (first | apply kn_ | apply kd_ | apply ka_)); exact BK472.out⟩, ⟨by (with_reducible repeat (first | apply kn_ | apply kd_ | apply ka_)); exact BK488.out⟩, ⟨by repeat (first | exact HB.out | apply ba_ | apply bn_ | apply bd_ | refine bs_ ?_ GE472.out | refine bs_ ?_ GE488.out)⟩⟩
   ·replace c28 := bf_.mpr c28
    subst c28
    rw [if_neg (show ¬ (false = true) by decide)] at H
    have H' := A0_ H
    clear H
    obtain ⟨Ao31, co31, eo31⟩ := Kd.R_slice HO491.out
    subst eo31
    obtain ⟨Ao32, co32, eo32⟩ := Kd.R_slice HO481.out
    subst eo32
    go_wp2_with (first | ((with_reducible refine gc_ (f := 15) rfl ?_); refine goesL_ (some 38) rfl rfl Try.func15 (by kernel_rfl) rfl #[.slice Ao31 t489.length co31, .slice Ao32 t479.length co32] rfl (by (try simp only [ma_, mc_, mn_]); first | done | rfl | (simp only [ld_, lt_]; rfl)) ?_; (with_reducible refine (laws_eqIntS.calls k _ _ t489 _ _ t479 false _ ?side1 ?side2 ?side3 ?side4 A27.out).mono ?_); (case side1 => repeat (first | exact (rr_ HO491.out).2.2 | (with_reducible refine ca_ ?_ _) | (with_reducible refine cn_ ?_ _) | (with_reducible refine cd_ ?_))); (case side2 => exact (rr_ HO491.out).2.1); (case side3 => repeat (first | exact (rr_ HO481.out).2.2 | (with_reducible refine ca_ ?_ _) | (with_reducible refine cn_ ?_ _) | (with_reducible refine cd_ ?_))); (case side4 => exact (rr_ HO481.out).2.1); rintro e w' ⟨rfl, ⟨nd, rfl⟩⟩; refine ⟨_, rfl, ?_⟩))
    go_meet
    case rel => exact ⟨_, (true), (by first | rfl | (simp [*]; done)), H', ⟨by first | omega | exact Nat.le_refl _⟩, ⟨by (with_reducible repeat (first | apply ra_ | apply rn_ | apply rd_)); exact Kd.R_mono HO481.out (fun _ hk => ⟨hk.2, hk.1.2⟩)⟩, ⟨by (with_reducible repeat (first | apply ra_ | apply rn_ | apply rd_)); exact Kd.R_mono HO491.out (fun _ hk => ⟨hk.1.2, hk.2⟩)⟩, ⟨by (with_reducible repeat (first | apply ra_ | apply rn_ | apply rd_)); exact Kd.R_mono HO487.out (fun _ hk => ⟨hk.1.2, hk.2⟩)⟩, ⟨by (with_reducible repeat (first | apply kn_ | apply kd_ | apply ka_)); exact BK472.out⟩, ⟨by (with_reducible repeat (first | apply kn_ | apply kd_ | apply ka_)); exact BK488.out⟩, ⟨by repeat (first | exact HB.out | apply ba_ | apply bn_ | apply bd_ | refine bs_ ?_ GE472.out | refine bs_ ?_ GE488.out)⟩⟩
  case rest =>
   clear HC12
   try clear c1
   try clear c2
   try clear p2
   try clear c3
   try clear c4
   try clear c4b0
   try clear c11
   try clear c15
   try clear c18
   try clear c20
   try clear c23
   try clear c28
   try clear hcz14_0
   try clear hcz14_1
   try clear hcz14_2
   try clear hcz16_0
   try clear hcz16_1
   try clear hcz16_2
   try clear hcz20_0
   try clear hcz20_1
   try clear hcz20_2
   try clear hcz24_0
   try clear hcz24_1
   try clear hcz24_2
   try clear hcz6_0
   try clear hcz6_1
   try clear hcz6_2
   try clear hfz14_0
   try clear hfz14_1
   try clear hfz14_2
   try clear hfz16_0
   try clear hfz16_1
   try clear hfz16_2
   try clear hfz20_0
   try clear hfz20_1
   try clear hfz20_2
   try clear hfz24_0
   try clear hfz24_1
   try clear hfz24_2
   try clear hfz6_0
   try clear hfz6_1
   try clear hfz6_2
   obtain ⟨kq, x44_11, rfl, HA, HJ11, HO_6, HO_9, HO_489002, BK472, BK488, HB⟩ := hcut
   cases kq with
   | zero => exact absurd HA.out (by simp [laws_FnExactBestPlay.j0])
   | succ kj11 =>
    have H := HA.out
    clear HA
    simp only [laws_FnExactBestPlay.j0] at H
    by_cases c33 : x44_11 = true
    ·subst c33
     rw [if_pos rfl] at H
     obtain rfl := si_ H
     go_wp2
     go_ret
     exact ⟨by first | rfl | (simp [*, errW_none, errW_some] <;> rfl), by repeat (first | exact HB.out | apply ba_ | apply bn_ | apply bd_ | refine bs_ ?_ GE472.out | refine bs_ ?_ GE488.out)⟩
    ·replace c33 := bf_.mpr c33
     subst c33
     rw [if_neg (show ¬ (false = true) by decide)] at H
     replace H := ob_.mp H
     obtain ⟨⟨t494, t495, t496⟩, A340, H⟩ := H
     have A34 := A0_ A340
     clear A340
     replace H := ob_.mp H
     obtain ⟨t499, A350, H⟩ := H
     have A35 := A0_ A350
     clear A350
     by_cases c36 : t499 = true
     ·subst c36
      rw [if_pos rfl] at H
      replace H := ob_.mp H
      obtain ⟨⟨t500, t501⟩, A370, H⟩ := H
      have A37 := A0_ A370
      clear A370
      have HC38 := A0_ H
      clear H
      try go_wp2
      have n0_ := A0_ (rd_ HO_6.out)
      have n1_ := A0_ (rd_ HO_9.out)
      have n2_ := A0_ (rd_ HO_489002.out)
      have n3_ := A0_ (kd_ BK472.out)
      have n4_ := A0_ (kd_ BK488.out)
      have n5_ := A0_ (bd_ HB.out)
      clear HO_6
      clear HO_9
      clear HO_489002
      clear BK472
      clear BK488
      clear HB
      have HO_6 := n0_
      have HO_9 := n1_
      have HO_489002 := n2_
      have BK472 := n3_
      have BK488 := n4_
      have HB := n5_
      clear n0_ n1_ n2_ n3_ n4_ n5_
      refine start_ (n := 5) (S := fun w' => w'.cell? ⟨gb488, 0, none⟩ = some (.int .i64 t483) ∧ w'.cell? ⟨gb488, 1, none⟩ = some (.bool t484) ∧ w'.cell? ⟨gb488, 2, none⟩ = some (.slice Ao25 t485.length co25) ∧ w'.cell? ⟨gb472, 0, none⟩ = some (.int .i64 a0_0) ∧ w'.cell? ⟨gb472, 1, none⟩ = some (.bool a0_1) ∧ w'.cell? ⟨gb472, 2, none⟩ = some (.slice A0_2 l0_2.length c0_2)) (ds := []) #[false, false, false, false, false] (by kernel_rfl) rfl rfl ⟨(kc_ BK488.out 0).trans rfl, (kc_ BK488.out 1).trans rfl, (kc_ BK488.out 2).trans rfl, (kc_ BK472.out 0).trans rfl, (kc_ BK472.out 1).trans rfl, (kc_ BK472.out 2).trans rfl⟩ (fun hHeld => ?_)
      generalize wc.drew = w39 at HO_6 HO_9 HO_489002 BK472 BK488 HB hHeld ⊢
      refine take_ (i := 0) (N := some 45) (v := ?_) (a' := ?_) #[true, false, false, false, false] rfl rfl (by kernel_rfl) (fun _ _ _ h => h) (Or.inl ⟨by rfl, ?_⟩) hHeld ?_ ?_
      rotate_left
      ·rintro w' ⟨s0, s1, s2, s3, s4, s5⟩
       go_simp
       with_reducible rfl
      rotate_left
      ·simp only [Act.put, sa_, sz_, ss_, i64_w, i32_w]
       rfl
      refine take_ (i := 1) (N := some 46) (v := ?_) (a' := ?_) #[true, true, false, false, false] rfl rfl (by kernel_rfl) (fun _ _ _ h => h) (Or.inl ⟨by rfl, ?_⟩) hHeld ?_ ?_
      rotate_left
      ·rintro w' ⟨s0, s1, s2, s3, s4, s5⟩
       go_simp
       with_reducible rfl
      rotate_left
      ·simp only [Act.put, sa_, sz_, ss_, i64_w, i32_w]
       rfl
      refine one_ (i := 2) (N := some 47) #[true, true, true, false, false] rfl rfl (by kernel_rfl) (by decide) (fun K hK => ?_)
      refine goes_ Try.func20 (by kernel_rfl) rfl #[.agg #[.int .i64 a0_0, .bool a0_1, .slice A0_2 l0_2.length c0_2]] (by rfl) rfl rfl (by (try simp only [ma_, mc_, mn_]); first | done | rfl | (simp only [ld_, lt_]; rfl)) ?_
      with_reducible refine (laws_toRow.calls kj11 a0_0 a0_1 _ _ l0_2 t494 t495 t496 _ ?side1 ?side2 A34.out).mono ?_
      (case side1 => repeat (first | exact (cb_ HR0_2.out HB.out) | (with_reducible refine ca_ ?_ _) | (with_reducible refine cn_ ?_ _) | (with_reducible refine cd_ ?_)))
      (case side2 => exact HC0_2.out)
      rintro e w40 ⟨v497, rfl, ho0, hb⟩
      refine ⟨_, rfl, ?_⟩
      have n0_ := A0_ (Kd.R_elder' (by (with_reducible repeat (first | apply ra_ | apply rn_ | apply rd_)); exact HO_6.out) (Kd.R_base ho0) hb)
      have n1_ := A0_ (Kd.R_elder' (by (with_reducible repeat (first | apply ra_ | apply rn_ | apply rd_)); exact HO_9.out) (Kd.R_base ho0) hb)
      have n2_ := A0_ (Kd.R_elder' (by (with_reducible repeat (first | apply ra_ | apply rn_ | apply rd_)); exact HO_489002.out) (Kd.R_base ho0) hb)
      have n3_ := A0_ (Kd.R_lower (Kd.R_new' (Kd.R_new' (Kd.R_new' ho0 (Kd.R_lt (by (with_reducible repeat (first | apply ra_ | apply rn_ | apply rd_)); exact HO_6.out))) (Kd.R_lt (by (with_reducible repeat (first | apply ra_ | apply rn_ | apply rd_)); exact HO_9.out))) (Kd.R_lt (by (with_reducible repeat (first | apply ra_ | apply rn_ | apply rd_)); exact HO_489002.out))) (bz_ (by repeat (first | exact HB.out | apply ba_ | apply bn_ | apply bd_ | refine bs_ ?_ GE472.out | refine bs_ ?_ GE488.out))))
      have n4_ := A0_ (kb_ (g := gb472) (o := .cells #[.int .i64 a0_0, .bool a0_1, .slice A0_2 l0_2.length c0_2] 29 (0, 0)) (by (with_reducible repeat (first | apply kn_ | apply kd_ | apply ka_)); exact BK472.out) hb)
      have n5_ := A0_ (kb_ (g := gb488) (o := .cells #[.int .i64 t483, .bool t484, .slice Ao25 t485.length co25] 32 (0, 0)) (by (with_reducible repeat (first | apply kn_ | apply kd_ | apply ka_)); exact BK488.out) hb)
      have n6_ := A0_ (bt_ (by repeat (first | exact HB.out | apply ba_ | apply bn_ | apply bd_ | refine bs_ ?_ GE472.out | refine bs_ ?_ GE488.out)) hb)
      clear HO_6
      clear HO_9
      clear HO_489002
      clear BK472
      clear BK488
      clear HB
      have HO_6 := n0_
      have HO_9 := n1_
      have HO_489002 := n2_
      have HO498 := n3_
      have BK472 := n4_
      have BK488 := n5_
      have HB := n6_
      clear n0_ n1_ n2_ n3_ n4_ n5_ n6_
      (try clear hb)
      (try clear hb2)
      (try clear hk)
      (try clear hi)
      (try clear ho0)
      obtain ⟨Ao41, co41, eo41⟩ := Kd.R_slice HO498.out
      (first | subst eo41 | (injection eo41 with f1_ f2_ f3_; have f4_ := f1_.symm; have f5_ := f3_.symm; clear f1_ f2_ f3_; subst f4_; subst f5_))
      refine hK.out _ _ ⟨(kc_ BK488.out 0).trans rfl, (kc_ BK488.out 1).trans rfl, (kc_ BK488.out 2).trans rfl, (kc_ BK472.out 0).trans rfl, (kc_ BK472.out 1).trans rfl, (kc_ BK472.out 2).trans rfl⟩ (fun hHeld => ?_)
      clear hK K
      refine norm_ (a' := ?_) ?_ ?_
      rotate_left
      ·show Act.put _ (some 47) _ = _
       simp only [Act.put, sa_, sz_, ss_, i64_w, i32_w]
       rfl
      refine one_ (i := 3) (N := some 48) #[true, true, true, true, false] rfl rfl (by kernel_rfl) (by decide) (fun K hK => ?_)
      refine goes_ Try.func22 (by kernel_rfl) rfl #[.agg #[.int .i64 t483, .bool t484, .slice Ao25 t485.length co25], .agg #[.int .i64 t494, .bool t495, .slice Ao41 t496.length co41]] (by rfl) rfl rfl (by (try simp only [ma_, mc_, mn_]); first | done | rfl | (simp only [ld_, lt_]; rfl)) ?_
      with_reducible refine (laws_eqRow.calls kj11 t483 t484 _ _ t485 t494 t495 _ _ t496 true _ ?side1 ?side2 ?side3 ?side4 A35.out).mono ?_
      (case side1 => repeat (first | exact (rr_ HO_489002.out).2.2 | (with_reducible refine ca_ ?_ _) | (with_reducible refine cn_ ?_ _) | (with_reducible refine cd_ ?_)))
      (case side2 => exact (rr_ HO_489002.out).2.1)
      (case side3 => repeat (first | exact (rr_ HO498.out).2.2 | (with_reducible refine ca_ ?_ _) | (with_reducible refine cn_ ?_ _) | (with_reducible refine cd_ ?_)))
      (case side4 => exact (rr_ HO498.out).2.1)
      rintro e w42 ⟨rfl, hb⟩
      refine ⟨_, rfl, ?_⟩
      have n0_ := A0_ (Kd.R_below (by (with_reducible repeat (first | apply ra_ | apply rn_ | apply rd_)); exact HO_6.out) hb)
      have n1_ := A0_ (Kd.R_below (by (with_reducible repeat (first | apply ra_ | apply rn_ | apply rd_)); exact HO_9.out) hb)
      have n2_ := A0_ (Kd.R_below (by (with_reducible repeat (first | apply ra_ | apply rn_ | apply rd_)); exact HO_489002.out) hb)
      have n3_ := A0_ (Kd.R_below (by (with_reducible repeat (first | apply ra_ | apply rn_ | apply rd_)); exact HO498.out) hb)
      have n4_ := A0_ (kb_ (g := gb472) (o := .cells #[.int .i64 a0_0, .bool a0_1, .slice A0_2 l0_2.length c0_2] 29 (0, 0)) (by (with_reducible repeat (first | apply kn_ | apply kd_ | apply ka_)); exact BK472.out) hb)
      have n5_ := A0_ (kb_ (g := gb488) (o := .cells #[.int .i64 t483, .bool t484, .slice Ao25 t485.length co25] 32 (0, 0)) (by (with_reducible repeat (first | apply kn_ | apply kd_ | apply ka_)); exact BK488.out) hb)
      have n6_ := A0_ (bt_ (by repeat (first | exact HB.out | apply ba_ | apply bn_ | apply bd_ | refine bs_ ?_ GE472.out | refine bs_ ?_ GE488.out)) hb)
      clear HO_6
      clear HO_9
      clear HO_489002
      clear HO498
      clear BK472
      clear BK488
      clear HB
      have HO_6 := n0_
      have HO_9 := n1_
      have HO_489002 := n2_
      have HO498 := n3_
      have BK472 := n4_
      have BK488 := n5_
      have HB := n6_
      clear n0_ n1_ n2_ n3_ n4_ n5_ n6_
      (try clear hb)
      (try clear hb2)
      (try clear hk)
      (try clear hi)
      refine hK.out _ _ ⟨(kc_ BK488.out 0).trans rfl, (kc_ BK488.out 1).trans rfl, (kc_ BK488.out 2).trans rfl, (kc_ BK472.out 0).trans rfl, (kc_ BK472.out 1).trans rfl, (kc_ BK472.out 2).trans rfl⟩ (fun hHeld => ?_)
      clear hK K
      refine norm_ (a' := ?_) ?_ ?_
      rotate_left
      ·show Act.put _ (some 48) _ = _
       simp only [Act.put, sa_, sz_, ss_, i64_w, i32_w]
       rfl
      refine pure_ (i := 4) (N := some 49) (v := ?_) (a' := ?_) #[true, true, true, true, true] rfl rfl (by kernel_rfl) (fun _ _ _ h => h) (Or.inl ⟨by rfl, ?_⟩) ?_ ?_
      rotate_left
      ·intro w'
       go_simp
       with_reducible rfl
      rotate_left
      ·simp only [Act.put, sa_, sz_, ss_, i64_w, i32_w]
       rfl
      refine done_ (by kernel_rfl) ?_
      have hnb43 := NB488_472.out
      have hnc43 := NB472_488.out
      have hcz44_0 : w42.cell? ⟨gb488, 0, none⟩ = some (.int .i64 t483) := (kc_ BK488.out 0).trans rfl
      have hcz44_1 : w42.cell? ⟨gb488, 1, none⟩ = some (.bool t484) := (kc_ BK488.out 1).trans rfl
      have hcz44_2 : w42.cell? ⟨gb488, 2, none⟩ = some (.slice Ao25 t485.length co25) := (kc_ BK488.out 2).trans rfl
      have hfz44_0 := kf_ BK488.out 0
      have hfz44_1 := kf_ BK488.out 1
      have hfz44_2 := kf_ BK488.out 2
      go_upto_region 14 with (first | ((with_reducible refine gc_ (f := 23) rfl ?_); refine goesL_ (some 52) rfl rfl Try.func23 (by kernel_rfl) rfl #[.agg #[.int .i64 t483, .bool t484, .slice Ao25 t485.length co25], .int .i64 1] rfl (by (try simp only [ma_, mc_, mn_]); first | done | rfl | (simp only [ld_, lt_]; rfl)) ?_; (with_reducible refine (laws_markRow.calls kj11 t483 t484 (fun k_ => some k_ = (.slice Ao25 t485.length co25 : Value).ownBlock) (.slice Ao25 t485.length co25) t485 1 t500 t501 w _ ?side1 ?side2 A37.out).mono ?_); (case side1 => repeat (first | exact HB.out | apply ba_ | apply bn_ | apply bd_ | refine bs_ ?_ GE472.out | refine bs_ ?_ GE488.out)); (case side2 => exact Kd.R_tight rfl HO_489002.out); rintro e w45 ⟨rfl, hy0, hb, hkp⟩; refine ⟨_, rfl, ?_⟩; have n0_ := A0_ (Kd.R_mono (ok' := fun k_ => some k_ ≠ (v490 : Value).ownBlock ∧ some k_ ≠ (.slice Ao25 t485.length co25 : Value).ownBlock ∧ some k_ ≠ (.slice Ao41 t496.length co41 : Value).ownBlock) (Kd.R_keptB (HO_6.out) hkp (fun k_ hk_ hs_ => (hk_.1.2) hs_)) (fun k_ hk_ => ⟨hk_.1.1.1, hk_.1.1.2, hk_.1.2⟩)); have n1_ := A0_ (Kd.R_mono (ok' := fun k_ => some k_ ≠ (v480 : Value).ownBlock ∧ some k_ ≠ (.slice Ao25 t485.length co25 : Value).ownBlock ∧ some k_ ≠ (.slice Ao41 t496.length co41 : Value).ownBlock) (Kd.R_keptB (HO_9.out) hkp (fun k_ hk_ hs_ => (hk_.1.2) hs_)) (fun k_ hk_ => ⟨hk_.1.1.1, hk_.1.1.2, hk_.1.2⟩)); have n2_ := A0_ (Kd.R_reok rfl hy0 (fun k_ e_ => HO_489002.out.1 k_ e_)); have n3_ := A0_ (blk_kept (by (with_reducible repeat (first | apply kn_ | apply kd_ | apply ka_)); exact BK472.out) hkp (fun hs_ => (fun e_ => (Kd.R_ne HO_489002.out BK472.out (by decide)) e_) hs_)); have n4_ := A0_ (blk_kept (by (with_reducible repeat (first | apply kn_ | apply kd_ | apply ka_)); exact BK488.out) hkp (fun hs_ => (fun e_ => (Kd.R_ne HO_489002.out BK488.out (by decide)) e_) hs_)); have n5_ := A0_ (Kd.R_mono (ok' := fun k_ => some k_ ≠ (v480 : Value).ownBlock ∧ some k_ ≠ (v490 : Value).ownBlock ∧ some k_ ≠ (.slice Ao25 t485.length co25 : Value).ownBlock) (Kd.R_keptB (HO498.out) hkp (fun k_ hk_ hs_ => (hk_.2) hs_)) (fun k_ hk_ => ⟨hk_.1.1.1.2, hk_.1.1.2, hk_.1.2⟩)); have n6_ := A0_ (hb); clear HO_6 HO_9 HO_489002 BK472 BK488 HO498 HB; have HO_6 := n0_; have HO_9 := n1_; have HO_489002 := n2_; have BK472 := n3_; have BK488 := n4_; have HO498 := n5_; have HB := n6_; clear n0_ n1_ n2_ n3_ n4_ n5_ n6_; (try clear hb); (try clear hkp); (try clear hy0)))
      (try simp only [Act.put, sa_, sz_, ss_])
      go_cut [65] (fun v65 wc => ∃ (kq : Nat) (x65_37 : Bool), v65 = .bool x65_37 ∧ Aside0 (laws_FnExactBestPlay.j1 kq a1 t479 t482 t489 x65_37 a0_0 a0_1 l0_2 = some r) ∧ Aside0 (kq ≤ kj11) ∧ Aside0 (Kd.R (Kd.int .i64) 3 wc w.heap.size (fun k_ => some k_ ≠ (v490 : Value).ownBlock ∧ some k_ ≠ ((.slice Ao25 t485.length co25) : Value).ownBlock) v480 t479) ∧ Aside0 (Kd.R (Kd.int .i64) 3 wc w.heap.size (fun k_ => some k_ ≠ (v480 : Value).ownBlock ∧ some k_ ≠ ((.slice Ao25 t485.length co25) : Value).ownBlock) v490 t489) ∧ Aside0 (Kd.R (Kd.int .i64) 3 wc w.heap.size (fun k_ => some k_ ≠ (v480 : Value).ownBlock ∧ some k_ ≠ (v490 : Value).ownBlock) (.slice Ao25 t485.length co25) t501) ∧ Aside0 (wc.heap[gb472]? = some (.cells #[.int .i64 a0_0, .bool a0_1, (.slice A0_2 l0_2.length c0_2)] 29 (0, 0))) ∧ Aside0 (wc.heap[gb488]? = some (.cells #[.int .i64 t483, .bool t484, (.slice Ao25 t485.length co25)] 32 (0, 0))) ∧ Aside0 (Below w.heap.size w wc))
      case first =>
       have H := HC38.out
       clear HC38
       by_cases c46 : t500 < 0
       ·rw [if_pos c46] at H
        have c46b0 : decide (t500 < 0) = true := dt_ c46
        clear c46
        (first | rw [c46b0] | (simp only [i64_w, i32_w]; rw [c46b0]) | skip)
        have H' := A0_ H
        clear H
        go_wp2
        go_meet
        case rel => exact ⟨_, (true), (by first | rfl | (simp [*]; done)), H', ⟨by have := HJ11.out; first | omega | exact Nat.le_refl _⟩, ⟨by (with_reducible repeat (first | apply ra_ | apply rn_ | apply rd_)); exact Kd.R_mono HO_6.out (fun _ hk => ⟨hk.1, hk.2.1⟩)⟩, ⟨by (with_reducible repeat (first | apply ra_ | apply rn_ | apply rd_)); exact Kd.R_mono HO_9.out (fun _ hk => ⟨hk.1, hk.2.1⟩)⟩, ⟨by (with_reducible repeat (first | apply ra_ | apply rn_ | apply rd_)); exact Kd.R_mono HO_489002.out (fun _ hk => ⟨hk.1.1, hk.1.2⟩)⟩, ⟨by (with_reducible repeat (first | apply kn_ | apply kd_ | apply ka_)); exact BK472.out⟩, ⟨by (with_reducible repeat (first | apply kn_ | apply kd_ | apply ka_)); exact BK488.out⟩, ⟨by repeat (first | exact HB.out | apply ba_ | apply bn_ | apply bd_ | refine bs_ ?_ GE472.out | refine bs_ ?_ GE488.out)⟩⟩
       ·rw [if_neg c46] at H
        have c46b0 : decide (t500 < 0) = false := decide_eq_false c46
        clear c46
        (first | rw [c46b0] | (simp only [i64_w, i32_w]; rw [c46b0]) | skip)
        replace H := ob_.mp H
        obtain ⟨t502, A470, H⟩ := H
        have A47 := A0_ A470
        clear A470
        by_cases c48 : t502 = true
        ·subst c48
         rw [if_pos rfl] at H
         have H' := A0_ H
         clear H
         obtain ⟨Ao49, co49, eo49⟩ := Kd.R_slice HO_9.out
         subst eo49
         obtain ⟨Ao50, co50, eo50⟩ := Kd.R_slice HO_6.out
         subst eo50
         go_wp2_with (first | (go_at_call 15; (with_reducible refine (laws_eqIntS.calls kj11 _ _ t489 _ _ t479 true _ ?side1 ?side2 ?side3 ?side4 A47.out).mono ?_); (case side1 => repeat (first | exact (rr_ HO_9.out).2.2 | (with_reducible refine ca_ ?_ _) | (with_reducible refine cn_ ?_ _) | (with_reducible refine cd_ ?_))); (case side2 => exact (rr_ HO_9.out).2.1); (case side3 => repeat (first | exact (rr_ HO_6.out).2.2 | (with_reducible refine ca_ ?_ _) | (with_reducible refine cn_ ?_ _) | (with_reducible refine cd_ ?_))); (case side4 => exact (rr_ HO_6.out).2.1); rintro e w' ⟨rfl, ⟨nd, rfl⟩⟩))
         go_meet
         case rel => exact ⟨_, ((t492 != t482)), (by first | rfl | (simp [*]; done)), H', ⟨by have := HJ11.out; first | omega | exact Nat.le_refl _⟩, ⟨by (with_reducible repeat (first | apply ra_ | apply rn_ | apply rd_)); exact Kd.R_mono HO_6.out (fun _ hk => ⟨hk.1, hk.2.1⟩)⟩, ⟨by (with_reducible repeat (first | apply ra_ | apply rn_ | apply rd_)); exact Kd.R_mono HO_9.out (fun _ hk => ⟨hk.1, hk.2.1⟩)⟩, ⟨by (with_reducible repeat (first | apply ra_ | apply rn_ | apply rd_)); exact Kd.R_mono HO_489002.out (fun _ hk => ⟨hk.1.1, hk.1.2⟩)⟩, ⟨by (with_reducible repeat (first | apply kn_ | apply kd_ | apply ka_)); exact BK472.out⟩, ⟨by (with_reducible repeat (first | apply kn_ | apply kd_ | apply ka_)); exact BK488.out⟩, ⟨by repeat (first | exact HB.out | apply ba_ | apply bn_ | apply bd_ | refine bs_ ?_ GE472.out | refine bs_ ?_ GE488.out)⟩⟩
        ·replace c48 := bf_.mpr c48
         subst c48
         rw [if_neg (show ¬ (false = true) by decide)] at H
         have H' := A0_ H
         clear H
         obtain ⟨Ao51, co51, eo51⟩ := Kd.R_slice HO_9.out
         subst eo51
         obtain ⟨Ao52, co52, eo52⟩ := Kd.R_slice HO_6.out
         subst eo52
         go_wp2_with (first | (go_at_call 15; (with_reducible refine (laws_eqIntS.calls kj11 _ _ t489 _ _ t479 false _ ?side1 ?side2 ?side3 ?side4 A47.out).mono ?_); (case side1 => repeat (first | exact (rr_ HO_9.out).2.2 | (with_reducible refine ca_ ?_ _) | (with_reducible refine cn_ ?_ _) | (with_reducible refine cd_ ?_))); (case side2 => exact (rr_ HO_9.out).2.1); (case side3 => repeat (first | exact (rr_ HO_6.out).2.2 | (with_reducible refine ca_ ?_ _) | (with_reducible refine cn_ ?_ _) | (with_reducible refine cd_ ?_))); (case side4 => exact (rr_ HO_6.out).2.1); rintro e w' ⟨rfl, ⟨nd, rfl⟩⟩))
         go_meet
         case rel => exact ⟨_, (true), (by first | rfl | (simp [*]; done)), H', ⟨by have := HJ11.out; first | omega | exact Nat.le_refl _⟩, ⟨by (with_reducible repeat (first | apply ra_ | apply rn_ | apply rd_)); exact Kd.R_mono HO_6.out (fun _ hk => ⟨hk.1, hk.2.1⟩)⟩, ⟨by (with_reducible repeat (first | apply ra_ | apply rn_ | apply rd_)); exact Kd.R_mono HO_9.out (fun _ hk => ⟨hk.1, hk.2.1⟩)⟩, ⟨by (with_reducible repeat (first | apply ra_ | apply rn_ | apply rd_)); exact Kd.R_mono HO_489002.out (fun _ hk => ⟨hk.1.1, hk.1.2⟩)⟩, ⟨by (with_reducible repeat (first | apply kn_ | apply kd_ | apply ka_)); exact BK472.out⟩, ⟨by (with_reducible repeat (first | apply kn_ | apply kd_ | apply ka_)); exact BK488.out⟩, ⟨by repeat (first | exact HB.out | apply ba_ | apply bn_ | apply bd_ | refine bs_ ?_ GE472.out | refine bs_ ?_ GE488.out)⟩⟩
      case rest =>
       clear HC38
       try clear c1
       try clear c2
       try clear p2
       try clear c3
       try clear c4
       try clear c4b0
       try clear c11
       try clear c15
       try clear c18
       try clear c20
       try clear c22
       try clear c23
       try clear c28
       try clear c33
       try clear c36
       try clear c37
       try clear c43
       try clear c46
       try clear c46b0
       try clear c48
       try clear hcz14_0
       try clear hcz14_1
       try clear hcz14_2
       try clear hcz16_0
       try clear hcz16_1
       try clear hcz16_2
       try clear hcz20_0
       try clear hcz20_1
       try clear hcz20_2
       try clear hcz24_0
       try clear hcz24_1
       try clear hcz24_2
       try clear hcz44_0
       try clear hcz44_1
       try clear hcz44_2
       try clear hcz6_0
       try clear hcz6_1
       try clear hcz6_2
       try clear hfz14_0
       try clear hfz14_1
       try clear hfz14_2
       try clear hfz16_0
       try clear hfz16_1
       try clear hfz16_2
       try clear hfz20_0
       try clear hfz20_1
       try clear hfz20_2
       try clear hfz24_0
       try clear hfz24_1
       try clear hfz24_2
       try clear hfz44_0
       try clear hfz44_1
       try clear hfz44_2
       try clear hfz6_0
       try clear hfz6_1
       try clear hfz6_2
       try clear p2
       obtain ⟨kq, x65_37, rfl, HA, HJ37, HO_6, HO_9, HO_489002, BK472, BK488, HB⟩ := hcut
       have hl489002_37 := (rr_ HO_489002.out).1
       rw [hl489002_37] at HO_489002
       (try simp only [hl489002_37])
       (try simp only [hl489002_37] at BK472)
       (try simp only [hl489002_37] at BK488)
       (try simp only [hl489002_37] at HO_6)
       (try simp only [hl489002_37] at HO_9)
       cases kq with
       | zero => exact absurd HA.out (by simp [laws_FnExactBestPlay.j1])
       | succ kj37 =>
        have H := HA.out
        clear HA
        simp only [laws_FnExactBestPlay.j1] at H
        by_cases c53 : x65_37 = true
        ·subst c53
         rw [if_pos rfl] at H
         obtain rfl := si_ H
         go_wp2
         go_ret
         exact ⟨by first | rfl | (simp [*, errW_none, errW_some] <;> rfl), by repeat (first | exact HB.out | apply ba_ | apply bn_ | apply bd_ | refine bs_ ?_ GE472.out | refine bs_ ?_ GE488.out)⟩
        ·replace c53 := bf_.mpr c53
         subst c53
         rw [if_neg (show ¬ (false = true) by decide)] at H
         replace H := ob_.mp H
         obtain ⟨⟨t503, t504⟩, A540, H⟩ := H
         have A54 := A0_ A540
         clear A540
         replace H := ob_.mp H
         obtain ⟨t505, A550, H⟩ := H
         have A55 := A0_ A550
         clear A550
         by_cases c56 : t505 < 0
         ·rw [if_pos c56] at H
          have c56b0 : decide (t505 < 0) = true := dt_ c56
          clear c56
          obtain rfl := si_ H
          obtain ⟨Ao57, co57, eo57⟩ := Kd.R_slice HO_9.out
          subst eo57
          go_wp2_with (first | ((with_reducible refine gc_ (f := 16) rfl ?_); refine goesL_ (some 68) rfl rfl Try.func16 (by kernel_rfl) rfl #[.slice Ao57 t489.length co57, .int .i64 1] rfl (by (try simp only [ma_, mc_, mn_]); first | done | rfl | (simp only [ld_, lt_]; rfl)) ?_; (with_reducible refine (laws_markIntS.calls kj37 (fun k_ => some k_ = (.slice Ao57 t489.length co57 : Value).ownBlock) (.slice Ao57 t489.length co57) t489 1 t503 t504 w _ ?side1 ?side2 A54.out).mono ?_); (case side1 => repeat (first | exact HB.out | apply ba_ | apply bn_ | apply bd_ | refine bs_ ?_ GE472.out | refine bs_ ?_ GE488.out)); (case side2 => exact Kd.R_tight rfl HO_9.out); rintro e w58 ⟨rfl, hy0, hb, hkp⟩; refine ⟨_, rfl, ?_⟩; have n0_ := A0_ (Kd.R_mono (ok' := fun k_ => some k_ ≠ (.slice Ao57 t489.length co57 : Value).ownBlock ∧ some k_ ≠ (.slice Ao25 t501.length co25 : Value).ownBlock) (Kd.R_keptB (HO_6.out) hkp (fun k_ hk_ hs_ => (hk_.1) hs_)) (fun k_ hk_ => ⟨hk_.1.1, hk_.1.2⟩)); have n1_ := A0_ (Kd.R_reok rfl hy0 (fun k_ e_ => HO_9.out.1 k_ e_)); have n2_ := A0_ (Kd.R_mono (ok' := fun k_ => some k_ ≠ (v480 : Value).ownBlock ∧ some k_ ≠ (.slice Ao57 t489.length co57 : Value).ownBlock) (Kd.R_keptB (HO_489002.out) hkp (fun k_ hk_ hs_ => (hk_.2) hs_)) (fun k_ hk_ => ⟨hk_.1.1, hk_.1.2⟩)); have n3_ := A0_ (blk_kept (by (with_reducible repeat (first | apply kn_ | apply kd_ | apply ka_)); exact BK472.out) hkp (fun hs_ => (fun e_ => (Kd.R_ne HO_9.out BK472.out (by decide)) e_) hs_)); have n4_ := A0_ (blk_kept (by (with_reducible repeat (first | apply kn_ | apply kd_ | apply ka_)); exact BK488.out) hkp (fun hs_ => (fun e_ => (Kd.R_ne HO_9.out BK488.out (by decide)) e_) hs_)); have n5_ := A0_ (hb); clear HO_6 HO_9 HO_489002 BK472 BK488 HB; have HO_6 := n0_; have HO_9 := n1_; have HO_489002 := n2_; have BK472 := n3_; have BK488 := n4_; have HB := n5_; clear n0_ n1_ n2_ n3_ n4_ n5_; (try clear hb); (try clear hkp); (try clear hy0)) | ((with_reducible refine gc_ (f := 17) rfl ?_); refine goesL_ (some 71) rfl rfl Try.func17 (by kernel_rfl) rfl #[.slice Ao57 t504.length co57, .int .i64 1] rfl (by (try simp only [ma_, mc_, mn_]); first | done | (rw [show t504.length = t489.length from (rr_ HO_9.out).1.symm] <;> rfl) | rfl | (simp only [ld_, lt_]; rfl)) ?_; (with_reducible refine (laws_heldIntS.calls kj37 _ _ t504 1 t505 _ ?side1 ?side2 A55.out).mono ?_); (case side1 => repeat (first | exact (rr_ HO_9.out).2.2 | (with_reducible refine ca_ ?_ _) | (with_reducible refine cn_ ?_ _) | (with_reducible refine cd_ ?_))); (case side2 => rw [show t504.length = t489.length from (rr_ HO_9.out).1.symm]; exact (rr_ HO_9.out).2.1); rintro e w' ⟨rfl, ⟨nd, rfl⟩⟩; refine ⟨_, rfl, ?_⟩))
          go_ret
          exact ⟨by first | rfl | (simp [*, errW_none, errW_some] <;> rfl), by repeat (first | exact HB.out | apply ba_ | apply bn_ | apply bd_ | refine bs_ ?_ GE472.out | refine bs_ ?_ GE488.out)⟩
         ·rw [if_neg c56] at H
          have c56b0 : decide (t505 < 0) = false := decide_eq_false c56
          clear c56
          by_cases c59 : t505 = t503
          ·rw [if_pos c59] at H
           have c59b0 : (t505 == t503) = true := beq_iff_eq.mpr c59
           have c59b1 : (t505 != t503) = false := bne_eq_false_iff_eq.mpr c59
           clear c59
           replace H := ob_.mp H
           obtain ⟨⟨t506, t507, t508⟩, A600, H⟩ := H
           have A60 := A0_ A600
           clear A600
           replace H := ob_.mp H
           obtain ⟨⟨t511, t514⟩, A610, H⟩ := H
           have A61 := A0_ A610
           clear A610
           have HC62 := A0_ H
           clear H
           obtain ⟨Ao63, co63, eo63⟩ := Kd.R_slice HO_9.out
           subst eo63
           go_upto_region 25 with (first | ((with_reducible refine gc_ (f := 16) rfl ?_); refine goesL_ (some 68) rfl rfl Try.func16 (by kernel_rfl) rfl #[.slice Ao63 t489.length co63, .int .i64 1] rfl (by (try simp only [ma_, mc_, mn_]); first | done | rfl | (simp only [ld_, lt_]; rfl)) ?_; (with_reducible refine (laws_markIntS.calls kj37 (fun k_ => some k_ = (.slice Ao63 t489.length co63 : Value).ownBlock) (.slice Ao63 t489.length co63) t489 1 t503 t504 w _ ?side1 ?side2 A54.out).mono ?_); (case side1 => repeat (first | exact HB.out | apply ba_ | apply bn_ | apply bd_ | refine bs_ ?_ GE472.out | refine bs_ ?_ GE488.out)); (case side2 => exact Kd.R_tight rfl HO_9.out); rintro e w64 ⟨rfl, hy0, hb, hkp⟩; refine ⟨_, rfl, ?_⟩; have n0_ := A0_ (Kd.R_mono (ok' := fun k_ => some k_ ≠ (.slice Ao63 t489.length co63 : Value).ownBlock ∧ some k_ ≠ (.slice Ao25 t501.length co25 : Value).ownBlock) (Kd.R_keptB (HO_6.out) hkp (fun k_ hk_ hs_ => (hk_.1) hs_)) (fun k_ hk_ => ⟨hk_.1.1, hk_.1.2⟩)); have n1_ := A0_ (Kd.R_reok rfl hy0 (fun k_ e_ => HO_9.out.1 k_ e_)); have n2_ := A0_ (Kd.R_mono (ok' := fun k_ => some k_ ≠ (v480 : Value).ownBlock ∧ some k_ ≠ (.slice Ao63 t489.length co63 : Value).ownBlock) (Kd.R_keptB (HO_489002.out) hkp (fun k_ hk_ hs_ => (hk_.2) hs_)) (fun k_ hk_ => ⟨hk_.1.1, hk_.1.2⟩)); have n3_ := A0_ (blk_kept (by (with_reducible repeat (first | apply kn_ | apply kd_ | apply ka_)); exact BK472.out) hkp (fun hs_ => (fun e_ => (Kd.R_ne HO_9.out BK472.out (by decide)) e_) hs_)); have n4_ := A0_ (blk_kept (by (with_reducible repeat (first | apply kn_ | apply kd_ | apply ka_)); exact BK488.out) hkp (fun hs_ => (fun e_ => (Kd.R_ne HO_9.out BK488.out (by decide)) e_) hs_)); have n5_ := A0_ (hb); clear HO_6 HO_9 HO_489002 BK472 BK488 HB; have HO_6 := n0_; have HO_9 := n1_; have HO_489002 := n2_; have BK472 := n3_; have BK488 := n4_; have HB := n5_; clear n0_ n1_ n2_ n3_ n4_ n5_; (try clear hb); (try clear hkp); (try clear hy0)) | ((with_reducible refine gc_ (f := 17) rfl ?_); refine goesL_ (some 71) rfl rfl Try.func17 (by kernel_rfl) rfl #[.slice Ao63 t504.length co63, .int .i64 1] rfl (by (try simp only [ma_, mc_, mn_]); first | done | (rw [show t504.length = t489.length from (rr_ HO_9.out).1.symm] <;> rfl) | rfl | (simp only [ld_, lt_]; rfl)) ?_; (with_reducible refine (laws_heldIntS.calls kj37 _ _ t504 1 t505 _ ?side1 ?side2 A55.out).mono ?_); (case side1 => repeat (first | exact (rr_ HO_9.out).2.2 | (with_reducible refine ca_ ?_ _) | (with_reducible refine cn_ ?_ _) | (with_reducible refine cd_ ?_))); (case side2 => rw [show t504.length = t489.length from (rr_ HO_9.out).1.symm]; exact (rr_ HO_9.out).2.1); rintro e w' ⟨rfl, ⟨nd, rfl⟩⟩; refine ⟨_, rfl, ?_⟩; have hnb65 := NB472_488.out; have hnc65 := NB488_472.out; have hcz66_0 : w64.cell? ⟨gb472, 0, none⟩ = some (.int .i64 a0_0) := (kc_ BK472.out 0).trans rfl; have hcz66_1 : w64.cell? ⟨gb472, 1, none⟩ = some (.bool a0_1) := (kc_ BK472.out 1).trans rfl; have hcz66_2 : w64.cell? ⟨gb472, 2, none⟩ = some (.slice A0_2 l0_2.length c0_2) := (kc_ BK472.out 2).trans rfl; have hfz66_0 := kf_ BK472.out 0; have hfz66_1 := kf_ BK472.out 1; have hfz66_2 := kf_ BK472.out 2) | ((with_reducible refine gc_ (f := 20) rfl ?_); refine goesL_ (some 79) rfl rfl Try.func20 (by kernel_rfl) rfl #[.agg #[.int .i64 a0_0, .bool a0_1, .slice A0_2 l0_2.length c0_2]] rfl (by (try simp only [ma_, mc_, mn_]); first | done | rfl | (simp only [ld_, lt_]; rfl)) ?_; (with_reducible refine (laws_toRow.calls kj37 a0_0 a0_1 _ _ l0_2 t506 t507 t508 _ ?side1 ?side2 A60.out).mono ?_); (case side1 => repeat (first | exact (cb_ HR0_2.out (by repeat (first | exact HB.out | apply ba_ | apply bn_ | apply bd_ | refine bs_ ?_ GE472.out | refine bs_ ?_ GE488.out))) | (with_reducible refine ca_ ?_ _) | (with_reducible refine cn_ ?_ _) | (with_reducible refine cd_ ?_))); (case side2 => exact HC0_2.out); rintro e w67 ⟨v509, rfl, ho0, hb⟩; refine ⟨_, rfl, ?_⟩; have n0_ := A0_ (Kd.R_elder' (by (with_reducible repeat (first | apply ra_ | apply rn_ | apply rd_)); exact HO_6.out) (Kd.R_base ho0) hb); have n1_ := A0_ (Kd.R_elder' (by (with_reducible repeat (first | apply ra_ | apply rn_ | apply rd_)); exact HO_9.out) (Kd.R_base ho0) hb); have n2_ := A0_ (Kd.R_elder' (by (with_reducible repeat (first | apply ra_ | apply rn_ | apply rd_)); exact HO_489002.out) (Kd.R_base ho0) hb); have n3_ := A0_ (Kd.R_lower (Kd.R_new' (Kd.R_new' (Kd.R_new' ho0 (Kd.R_lt (by (with_reducible repeat (first | apply ra_ | apply rn_ | apply rd_)); exact HO_6.out))) (Kd.R_lt (by (with_reducible repeat (first | apply ra_ | apply rn_ | apply rd_)); exact HO_9.out))) (Kd.R_lt (by (with_reducible repeat (first | apply ra_ | apply rn_ | apply rd_)); exact HO_489002.out))) (bz_ (by repeat (first | exact HB.out | apply ba_ | apply bn_ | apply bd_ | refine bs_ ?_ GE472.out | refine bs_ ?_ GE488.out)))); have n4_ := A0_ (kb_ (g := gb472) (o := .cells #[.int .i64 a0_0, .bool a0_1, .slice A0_2 l0_2.length c0_2] 29 (0, 0)) (by (with_reducible repeat (first | apply kn_ | apply kd_ | apply ka_)); exact BK472.out) hb); have n5_ := A0_ (kb_ (g := gb488) (o := .cells #[.int .i64 t483, .bool t484, .slice Ao25 t501.length co25] 32 (0, 0)) (by (with_reducible repeat (first | apply kn_ | apply kd_ | apply ka_)); exact BK488.out) hb); have n6_ := A0_ (bt_ (by repeat (first | exact HB.out | apply ba_ | apply bn_ | apply bd_ | refine bs_ ?_ GE472.out | refine bs_ ?_ GE488.out)) hb); clear HO_6 HO_9 HO_489002 BK472 BK488 HB; have HO_6 := n0_; have HO_9 := n1_; have HO_489002 := n2_; have HO510 := n3_; have BK472 := n4_; have BK488 := n5_; have HB := n6_; clear n0_ n1_ n2_ n3_ n4_ n5_ n6_; (try clear hb); (try clear ho0); obtain ⟨Ao68, co68, eo68⟩ := Kd.R_slice HO510.out; subst eo68) | ((with_reducible refine gc_ (f := 37) rfl ?_); refine goesL_ (some 81) rfl rfl Try.func37 (by kernel_rfl) rfl #[.agg #[.int .i64 t506, .bool t507, .slice Ao68 t508.length co68], .int .i64 a1] rfl (by (try simp only [ma_, mc_, mn_]); first | done | rfl | (simp only [ld_, lt_]; rfl)) ?_; (with_reducible refine (impl_BestPlay.calls kj37 t506 t507 _ _ t508 a1 t511 t514 _ ?side1 ?side2 A61.out).mono ?_); (case side1 => repeat (first | exact (rr_ HO510.out).2.2 | (with_reducible refine ca_ ?_ _) | (with_reducible refine cn_ ?_ _) | (with_reducible refine cd_ ?_))); (case side2 => exact (rr_ HO510.out).2.1); rintro e w69 ⟨v512, rfl, ho0, hb⟩; refine ⟨_, rfl, ?_⟩; have n0_ := A0_ (Kd.R_elder' (by (with_reducible repeat (first | apply ra_ | apply rn_ | apply rd_)); exact HO_6.out) (Kd.R_base ho0) hb); have n1_ := A0_ (Kd.R_elder' (by (with_reducible repeat (first | apply ra_ | apply rn_ | apply rd_)); exact HO_9.out) (Kd.R_base ho0) hb); have n2_ := A0_ (Kd.R_elder' (by (with_reducible repeat (first | apply ra_ | apply rn_ | apply rd_)); exact HO_489002.out) (Kd.R_base ho0) hb); have n3_ := A0_ (Kd.R_elder' (by (with_reducible repeat (first | apply ra_ | apply rn_ | apply rd_)); exact HO510.out) (Kd.R_base ho0) hb); have n4_ := A0_ (Kd.R_lower (Kd.R_new' (Kd.R_new' (Kd.R_new' (Kd.R_new' ho0 (Kd.R_lt (by (with_reducible repeat (first | apply ra_ | apply rn_ | apply rd_)); exact HO_6.out))) (Kd.R_lt (by (with_reducible repeat (first | apply ra_ | apply rn_ | apply rd_)); exact HO_9.out))) (Kd.R_lt (by (with_reducible repeat (first | apply ra_ | apply rn_ | apply rd_)); exact HO_489002.out))) (Kd.R_lt (by (with_reducible repeat (first | apply ra_ | apply rn_ | apply rd_)); exact HO510.out))) (bz_ (by repeat (first | exact HB.out | apply ba_ | apply bn_ | apply bd_ | refine bs_ ?_ GE472.out | refine bs_ ?_ GE488.out)))); have n5_ := A0_ (kb_ (g := gb472) (o := .cells #[.int .i64 a0_0, .bool a0_1, .slice A0_2 l0_2.length c0_2] 29 (0, 0)) (by (with_reducible repeat (first | apply kn_ | apply kd_ | apply ka_)); exact BK472.out) hb); have n6_ := A0_ (kb_ (g := gb488) (o := .cells #[.int .i64 t483, .bool t484, .slice Ao25 t501.length co25] 32 (0, 0)) (by (with_reducible repeat (first | apply kn_ | apply kd_ | apply ka_)); exact BK488.out) hb); have n7_ := A0_ (bt_ (by repeat (first | exact HB.out | apply ba_ | apply bn_ | apply bd_ | refine bs_ ?_ GE472.out | refine bs_ ?_ GE488.out)) hb); clear HO_6 HO_9 HO_489002 HO510 BK472 BK488 HB; have HO_6 := n0_; have HO_9 := n1_; have HO_489002 := n2_; have HO510 := n3_; have HO513 := n4_; have BK472 := n5_; have BK488 := n6_; have HB := n7_; clear n0_ n1_ n2_ n3_ n4_ n5_ n6_ n7_; (try clear hb); (try clear ho0)))
           (try simp only [Act.put, sa_, sz_, ss_])
           go_cut [92] (fun v92 wc => ∃ (kq : Nat) (x92_61 : Bool), v92 = .bool x92_61 ∧ Aside0 (laws_FnExactBestPlay.j2 kq t504 t503 x92_61 = some r) ∧ Aside0 (kq ≤ kj37) ∧ Aside0 (Kd.R (Kd.int .i64) 3 wc w.heap.size (fun k_ => some k_ ≠ ((.slice Ao25 t501.length co25) : Value).ownBlock) (.slice Ao63 t489.length co63) t504) ∧ Aside0 (Kd.R (Kd.int .i64) 3 wc w.heap.size (fun k_ => some k_ ≠ ((.slice Ao63 t489.length co63) : Value).ownBlock) (.slice Ao25 t501.length co25) t501) ∧ Aside0 (wc.heap[gb472]? = some (.cells #[.int .i64 a0_0, .bool a0_1, (.slice A0_2 l0_2.length c0_2)] 29 (0, 0))) ∧ Aside0 (wc.heap[gb488]? = some (.cells #[.int .i64 t483, .bool t484, (.slice Ao25 t501.length co25)] 32 (0, 0))) ∧ Aside0 (Below w.heap.size w wc))
           case first =>
            have H := HC62.out
            clear HC62
            replace H := ob_.mp H
            obtain ⟨t515, A700, H⟩ := H
            have A70 := A0_ A700
            clear A700
            by_cases c71 : t515 = true
            ·subst c71
             rw [if_pos rfl] at H
             have H' := A0_ H
             clear H
             obtain ⟨Ao72, co72, eo72⟩ := Kd.R_slice HO513.out
             subst eo72
             obtain ⟨Ao73, co73, eo73⟩ := Kd.R_slice HO_6.out
             subst eo73
             go_wp2_with (first | ((with_reducible refine gc_ (f := 15) rfl ?_); refine goesL_ (some 86) rfl rfl Try.func15 (by kernel_rfl) rfl #[.slice Ao72 t511.length co72, .slice Ao73 t479.length co73] rfl (by (try simp only [ma_, mc_, mn_]); first | done | rfl | (simp only [ld_, lt_]; rfl)) ?_; (with_reducible refine (laws_eqIntS.calls kj37 _ _ t511 _ _ t479 true _ ?side1 ?side2 ?side3 ?side4 A70.out).mono ?_); (case side1 => repeat (first | exact (rr_ HO513.out).2.2 | (with_reducible refine ca_ ?_ _) | (with_reducible refine cn_ ?_ _) | (with_reducible refine cd_ ?_))); (case side2 => exact (rr_ HO513.out).2.1); (case side3 => repeat (first | exact (rr_ HO_6.out).2.2 | (with_reducible refine ca_ ?_ _) | (with_reducible refine cn_ ?_ _) | (with_reducible refine cd_ ?_))); (case side4 => exact (rr_ HO_6.out).2.1); rintro e w' ⟨rfl, ⟨nd, rfl⟩⟩; refine ⟨_, rfl, ?_⟩))
             go_meet
             case rel => exact ⟨_, ((t514 != t482)), (by first | rfl | (simp [*]; done)), H', ⟨by have := HJ11.out; have := HJ37.out; first | omega | exact Nat.le_refl _⟩, ⟨by (try simp only [hl489002_37]); (with_reducible repeat (first | apply ra_ | apply rn_ | apply rd_)); exact Kd.R_mono HO_9.out (fun _ hk => hk.1.1.2)⟩, ⟨by (try simp only [hl489002_37]); (with_reducible repeat (first | apply ra_ | apply rn_ | apply rd_)); exact Kd.R_mono HO_489002.out (fun _ hk => hk.1.1.2)⟩, ⟨by (try simp only [hl489002_37]); (with_reducible repeat (first | apply kn_ | apply kd_ | apply ka_)); exact BK472.out⟩, ⟨by (try simp only [hl489002_37]); (with_reducible repeat (first | apply kn_ | apply kd_ | apply ka_)); exact BK488.out⟩, ⟨by repeat (first | exact HB.out | apply ba_ | apply bn_ | apply bd_ | refine bs_ ?_ GE472.out | refine bs_ ?_ GE488.out)⟩⟩
            ·replace c71 := bf_.mpr c71
             subst c71
             rw [if_neg (show ¬ (false = true) by decide)] at H
             have H' := A0_ H
             clear H
             obtain ⟨Ao74, co74, eo74⟩ := Kd.R_slice HO513.out
             subst eo74
             obtain ⟨Ao75, co75, eo75⟩ := Kd.R_slice HO_6.out
             subst eo75
             go_wp2_with (first | ((with_reducible refine gc_ (f := 15) rfl ?_); refine goesL_ (some 86) rfl rfl Try.func15 (by kernel_rfl) rfl #[.slice Ao74 t511.length co74, .slice Ao75 t479.length co75] rfl (by (try simp only [ma_, mc_, mn_]); first | done | rfl | (simp only [ld_, lt_]; rfl)) ?_; (with_reducible refine (laws_eqIntS.calls kj37 _ _ t511 _ _ t479 false _ ?side1 ?side2 ?side3 ?side4 A70.out).mono ?_); (case side1 => repeat (first | exact (rr_ HO513.out).2.2 | (with_reducible refine ca_ ?_ _) | (with_reducible refine cn_ ?_ _) | (with_reducible refine cd_ ?_))); (case side2 => exact (rr_ HO513.out).2.1); (case side3 => repeat (first | exact (rr_ HO_6.out).2.2 | (with_reducible refine ca_ ?_ _) | (with_reducible refine cn_ ?_ _) | (with_reducible refine cd_ ?_))); (case side4 => exact (rr_ HO_6.out).2.1); rintro e w' ⟨rfl, ⟨nd, rfl⟩⟩; refine ⟨_, rfl, ?_⟩))
             go_meet
             case rel => exact ⟨_, (true), (by first | rfl | (simp [*]; done)), H', ⟨by have := HJ11.out; have := HJ37.out; first | omega | exact Nat.le_refl _⟩, ⟨by (try simp only [hl489002_37]); (with_reducible repeat (first | apply ra_ | apply rn_ | apply rd_)); exact Kd.R_mono HO_9.out (fun _ hk => hk.1.1.2)⟩, ⟨by (try simp only [hl489002_37]); (with_reducible repeat (first | apply ra_ | apply rn_ | apply rd_)); exact Kd.R_mono HO_489002.out (fun _ hk => hk.1.1.2)⟩, ⟨by (try simp only [hl489002_37]); (with_reducible repeat (first | apply kn_ | apply kd_ | apply ka_)); exact BK472.out⟩, ⟨by (try simp only [hl489002_37]); (with_reducible repeat (first | apply kn_ | apply kd_ | apply ka_)); exact BK488.out⟩, ⟨by repeat (first | exact HB.out | apply ba_ | apply bn_ | apply bd_ | refine bs_ ?_ GE472.out | refine bs_ ?_ GE488.out)⟩⟩
           case rest =>
            clear HC62
            try clear c1
            try clear c2
            try clear p2
            try clear c3
            try clear c4
            try clear c4b0
            try clear c5
            try clear c6
            try clear c7
            try clear c11
            try clear c15
            try clear c16
            try clear c17
            try clear c18
            try clear c20
            try clear c22
            try clear c23
            try clear c28
            try clear c33
            try clear c36
            try clear c37
            try clear c43
            try clear c46
            try clear c46b0
            try clear c48
            try clear c53
            try clear c56
            try clear c56b0
            try clear c59
            try clear c59b0
            try clear c59b1
            try clear c65
            try clear c71
            try clear hcz14_0
            try clear hcz14_1
            try clear hcz14_2
            try clear hcz16_0
            try clear hcz16_1
            try clear hcz16_2
            try clear hcz20_0
            try clear hcz20_1
            try clear hcz20_2
            try clear hcz24_0
            try clear hcz24_1
            try clear hcz24_2
            try clear hcz44_0
            try clear hcz44_1
            try clear hcz44_2
            try clear hcz66_0
            try clear hcz66_1
            try clear hcz66_2
            try clear hcz6_0
            try clear hcz6_1
            try clear hcz6_2
            try clear hfz14_0
            try clear hfz14_1
            try clear hfz14_2
            try clear hfz16_0
            try clear hfz16_1
            try clear hfz16_2
            try clear hfz20_0
            try clear hfz20_1
            try clear hfz20_2
            try clear hfz24_0
            try clear hfz24_1
            try clear hfz24_2
            try clear hfz44_0
            try clear hfz44_1
            try clear hfz44_2
            try clear hfz66_0
            try clear hfz66_1
            try clear hfz66_2
            try clear hfz6_0
            try clear hfz6_1
            try clear hfz6_2
            try clear p2
            obtain ⟨kq, x92_61, rfl, HA, HJ61, HO_9, HO_489002, BK472, BK488, HB⟩ := hcut
            have hl9_61 := (rr_ HO_9.out).1
            rw [hl9_61] at HO_9
            (try simp only [hl9_61])
            (try simp only [hl9_61] at BK472)
            (try simp only [hl9_61] at BK488)
            (try simp only [hl9_61] at HO_489002)
            cases kq with
            | zero => exact absurd HA.out (by simp [laws_FnExactBestPlay.j2])
            | succ kj61 =>
             have H := HA.out
             clear HA
             simp only [laws_FnExactBestPlay.j2] at H
             by_cases c76 : x92_61 = true
             ·subst c76
              rw [if_pos rfl] at H
              obtain rfl := si_ H
              go_wp2
              go_ret
              exact ⟨by first | rfl | (simp [*, errW_none, errW_some] <;> rfl), by repeat (first | exact HB.out | apply ba_ | apply bn_ | apply bd_ | refine bs_ ?_ GE472.out | refine bs_ ?_ GE488.out)⟩
             ·replace c76 := bf_.mpr c76
              subst c76
              rw [if_neg (show ¬ (false = true) by decide)] at H
              replace H := ob_.mp H
              obtain ⟨t516, A770, H⟩ := H
              have A77 := A0_ A770
              clear A770
              by_cases c78 : t516 < 0
              ·rw [if_pos c78] at H
               have c78b0 : decide (t516 < 0) = true := dt_ c78
               clear c78
               obtain rfl := si_ H
               go_wp2_with (first | ((with_reducible refine gc_ (f := 17) rfl ?_); refine goesL_ (some 95) rfl rfl Try.func17 (by kernel_rfl) rfl #[.slice Ao63 t504.length co63, .int .i64 1] rfl (by (try simp only [ma_, mc_, mn_]); first | done | rfl | (simp only [ld_, lt_]; rfl)) ?_; (with_reducible refine (laws_heldIntS.calls kj61 _ _ t504 1 t516 _ ?side1 ?side2 A77.out).mono ?_); (case side1 => repeat (first | exact (rr_ HO_9.out).2.2 | (with_reducible refine ca_ ?_ _) | (with_reducible refine cn_ ?_ _) | (with_reducible refine cd_ ?_))); (case side2 => exact (rr_ HO_9.out).2.1); rintro e w' ⟨rfl, ⟨nd, rfl⟩⟩; refine ⟨_, rfl, ?_⟩))
               go_ret
               exact ⟨by first | rfl | (simp [*, errW_none, errW_some] <;> rfl), by repeat (first | exact HB.out | apply ba_ | apply bn_ | apply bd_ | refine bs_ ?_ GE472.out | refine bs_ ?_ GE488.out)⟩
              ·rw [if_neg c78] at H
               have c78b0 : decide (t516 < 0) = false := decide_eq_false c78
               clear c78
               by_cases c79 : t516 = t503
               ·rw [if_pos c79] at H
                have c79b0 : (t516 == t503) = true := beq_iff_eq.mpr c79
                have c79b1 : (t516 != t503) = false := bne_eq_false_iff_eq.mpr c79
                clear c79
                obtain rfl := si_ H
                go_wp2_with (first | ((with_reducible refine gc_ (f := 17) rfl ?_); refine goesL_ (some 95) rfl rfl Try.func17 (by kernel_rfl) rfl #[.slice Ao63 t504.length co63, .int .i64 1] rfl (by (try simp only [ma_, mc_, mn_]); first | done | rfl | (simp only [ld_, lt_]; rfl)) ?_; (with_reducible refine (laws_heldIntS.calls kj61 _ _ t504 1 t516 _ ?side1 ?side2 A77.out).mono ?_); (case side1 => repeat (first | exact (rr_ HO_9.out).2.2 | (with_reducible refine ca_ ?_ _) | (with_reducible refine cn_ ?_ _) | (with_reducible refine cd_ ?_))); (case side2 => exact (rr_ HO_9.out).2.1); rintro e w' ⟨rfl, ⟨nd, rfl⟩⟩; refine ⟨_, rfl, ?_⟩))
                go_ret
                exact ⟨by first | rfl | (simp [*, errW_none, errW_some] <;> rfl), by repeat (first | exact HB.out | apply ba_ | apply bn_ | apply bd_ | refine bs_ ?_ GE472.out | refine bs_ ?_ GE488.out)⟩
               ·rw [if_neg c79] at H
                have c79b0 : (t516 == t503) = false := beq_eq_false_iff_ne.mpr c79
                have c79b1 : (t516 != t503) = true := bne_iff_ne.mpr c79
                obtain rfl := si_ H
                go_wp2_with (first | ((with_reducible refine gc_ (f := 17) rfl ?_); refine goesL_ (some 95) rfl rfl Try.func17 (by kernel_rfl) rfl #[.slice Ao63 t504.length co63, .int .i64 1] rfl (by (try simp only [ma_, mc_, mn_]); first | done | rfl | (simp only [ld_, lt_]; rfl)) ?_; (with_reducible refine (laws_heldIntS.calls kj61 _ _ t504 1 t516 _ ?side1 ?side2 A77.out).mono ?_); (case side1 => repeat (first | exact (rr_ HO_9.out).2.2 | (with_reducible refine ca_ ?_ _) | (with_reducible refine cn_ ?_ _) | (with_reducible refine cd_ ?_))); (case side2 => exact (rr_ HO_9.out).2.1); rintro e w' ⟨rfl, ⟨nd, rfl⟩⟩; refine ⟨_, rfl, ?_⟩))
                go_ret
                exact ⟨by first | rfl | (simp [*, errW_none, errW_some] <;> rfl), by repeat (first | exact HB.out | apply ba_ | apply bn_ | apply bd_ | refine bs_ ?_ GE472.out | refine bs_ ?_ GE488.out)⟩
          ·rw [if_neg c59] at H
           have c59b0 : (t505 == t503) = false := beq_eq_false_iff_ne.mpr c59
           have c59b1 : (t505 != t503) = true := bne_iff_ne.mpr c59
           obtain rfl := si_ H
           obtain ⟨Ao80, co80, eo80⟩ := Kd.R_slice HO_9.out
           subst eo80
           go_wp2_with (first | ((with_reducible refine gc_ (f := 16) rfl ?_); refine goesL_ (some 68) rfl rfl Try.func16 (by kernel_rfl) rfl #[.slice Ao80 t489.length co80, .int .i64 1] rfl (by (try simp only [ma_, mc_, mn_]); first | done | rfl | (simp only [ld_, lt_]; rfl)) ?_; (with_reducible refine (laws_markIntS.calls kj37 (fun k_ => some k_ = (.slice Ao80 t489.length co80 : Value).ownBlock) (.slice Ao80 t489.length co80) t489 1 t503 t504 w _ ?side1 ?side2 A54.out).mono ?_); (case side1 => repeat (first | exact HB.out | apply ba_ | apply bn_ | apply bd_ | refine bs_ ?_ GE472.out | refine bs_ ?_ GE488.out)); (case side2 => exact Kd.R_tight rfl HO_9.out); rintro e w81 ⟨rfl, hy0, hb, hkp⟩; refine ⟨_, rfl, ?_⟩; have n0_ := A0_ (Kd.R_mono (ok' := fun k_ => some k_ ≠ (.slice Ao80 t489.length co80 : Value).ownBlock ∧ some k_ ≠ (.slice Ao25 t501.length co25 : Value).ownBlock) (Kd.R_keptB (HO_6.out) hkp (fun k_ hk_ hs_ => (hk_.1) hs_)) (fun k_ hk_ => ⟨hk_.1.1, hk_.1.2⟩)); have n1_ := A0_ (Kd.R_reok rfl hy0 (fun k_ e_ => HO_9.out.1 k_ e_)); have n2_ := A0_ (Kd.R_mono (ok' := fun k_ => some k_ ≠ (v480 : Value).ownBlock ∧ some k_ ≠ (.slice Ao80 t489.length co80 : Value).ownBlock) (Kd.R_keptB (HO_489002.out) hkp (fun k_ hk_ hs_ => (hk_.2) hs_)) (fun k_ hk_ => ⟨hk_.1.1, hk_.1.2⟩)); have n3_ := A0_ (blk_kept (by (with_reducible repeat (first | apply kn_ | apply kd_ | apply ka_)); exact BK472.out) hkp (fun hs_ => (fun e_ => (Kd.R_ne HO_9.out BK472.out (by decide)) e_) hs_)); have n4_ := A0_ (blk_kept (by (with_reducible repeat (first | apply kn_ | apply kd_ | apply ka_)); exact BK488.out) hkp (fun hs_ => (fun e_ => (Kd.R_ne HO_9.out BK488.out (by decide)) e_) hs_)); have n5_ := A0_ (hb); clear HO_6 HO_9 HO_489002 BK472 BK488 HB; have HO_6 := n0_; have HO_9 := n1_; have HO_489002 := n2_; have BK472 := n3_; have BK488 := n4_; have HB := n5_; clear n0_ n1_ n2_ n3_ n4_ n5_; (try clear hb); (try clear hkp); (try clear hy0)) | ((with_reducible refine gc_ (f := 17) rfl ?_); refine goesL_ (some 71) rfl rfl Try.func17 (by kernel_rfl) rfl #[.slice Ao80 t504.length co80, .int .i64 1] rfl (by (try simp only [ma_, mc_, mn_]); first | done | (rw [show t504.length = t489.length from (rr_ HO_9.out).1.symm] <;> rfl) | rfl | (simp only [ld_, lt_]; rfl)) ?_; (with_reducible refine (laws_heldIntS.calls kj37 _ _ t504 1 t505 _ ?side1 ?side2 A55.out).mono ?_); (case side1 => repeat (first | exact (rr_ HO_9.out).2.2 | (with_reducible refine ca_ ?_ _) | (with_reducible refine cn_ ?_ _) | (with_reducible refine cd_ ?_))); (case side2 => rw [show t504.length = t489.length from (rr_ HO_9.out).1.symm]; exact (rr_ HO_9.out).2.1); rintro e w' ⟨rfl, ⟨nd, rfl⟩⟩; refine ⟨_, rfl, ?_⟩))
           go_ret
           exact ⟨by first | rfl | (simp [*, errW_none, errW_some] <;> rfl), by repeat (first | exact HB.out | apply ba_ | apply bn_ | apply bd_ | refine bs_ ?_ GE472.out | refine bs_ ?_ GE488.out)⟩
     ·replace c36 := bf_.mpr c36
      subst c36
      rw [if_neg (show ¬ (false = true) by decide)] at H
      obtain rfl := si_ H
      try go_wp2
      have n0_ := A0_ (rd_ HO_6.out)
      have n1_ := A0_ (rd_ HO_9.out)
      have n2_ := A0_ (rd_ HO_489002.out)
      have n3_ := A0_ (kd_ BK472.out)
      have n4_ := A0_ (kd_ BK488.out)
      have n5_ := A0_ (bd_ HB.out)
      clear HO_6
      clear HO_9
      clear HO_489002
      clear BK472
      clear BK488
      clear HB
      have HO_6 := n0_
      have HO_9 := n1_
      have HO_489002 := n2_
      have BK472 := n3_
      have BK488 := n4_
      have HB := n5_
      clear n0_ n1_ n2_ n3_ n4_ n5_
      refine start_ (n := 5) (S := fun w' => w'.cell? ⟨gb488, 0, none⟩ = some (.int .i64 t483) ∧ w'.cell? ⟨gb488, 1, none⟩ = some (.bool t484) ∧ w'.cell? ⟨gb488, 2, none⟩ = some (.slice Ao25 t485.length co25) ∧ w'.cell? ⟨gb472, 0, none⟩ = some (.int .i64 a0_0) ∧ w'.cell? ⟨gb472, 1, none⟩ = some (.bool a0_1) ∧ w'.cell? ⟨gb472, 2, none⟩ = some (.slice A0_2 l0_2.length c0_2)) (ds := []) #[false, false, false, false, false] (by kernel_rfl) rfl rfl ⟨(kc_ BK488.out 0).trans rfl, (kc_ BK488.out 1).trans rfl, (kc_ BK488.out 2).trans rfl, (kc_ BK472.out 0).trans rfl, (kc_ BK472.out 1).trans rfl, (kc_ BK472.out 2).trans rfl⟩ (fun hHeld => ?_)
      generalize wc.drew = w82 at HO_6 HO_9 HO_489002 BK472 BK488 HB hHeld ⊢
      refine take_ (i := 0) (N := some 45) (v := ?_) (a' := ?_) #[true, false, false, false, false] rfl rfl (by kernel_rfl) (fun _ _ _ h => h) (Or.inl ⟨by rfl, ?_⟩) hHeld ?_ ?_
      rotate_left
      ·rintro w' ⟨s0, s1, s2, s3, s4, s5⟩
       go_simp
       with_reducible rfl
      rotate_left
      ·simp only [Act.put, sa_, sz_, ss_, i64_w, i32_w]
       rfl
      refine take_ (i := 1) (N := some 46) (v := ?_) (a' := ?_) #[true, true, false, false, false] rfl rfl (by kernel_rfl) (fun _ _ _ h => h) (Or.inl ⟨by rfl, ?_⟩) hHeld ?_ ?_
      rotate_left
      ·rintro w' ⟨s0, s1, s2, s3, s4, s5⟩
       go_simp
       with_reducible rfl
      rotate_left
      ·simp only [Act.put, sa_, sz_, ss_, i64_w, i32_w]
       rfl
      refine one_ (i := 2) (N := some 47) #[true, true, true, false, false] rfl rfl (by kernel_rfl) (by decide) (fun K hK => ?_)
      refine goes_ Try.func20 (by kernel_rfl) rfl #[.agg #[.int .i64 a0_0, .bool a0_1, .slice A0_2 l0_2.length c0_2]] (by rfl) rfl rfl (by (try simp only [ma_, mc_, mn_]); first | done | rfl | (simp only [ld_, lt_]; rfl)) ?_
      with_reducible refine (laws_toRow.calls kj11 a0_0 a0_1 _ _ l0_2 t494 t495 t496 _ ?side1 ?side2 A34.out).mono ?_
      (case side1 => repeat (first | exact (cb_ HR0_2.out HB.out) | (with_reducible refine ca_ ?_ _) | (with_reducible refine cn_ ?_ _) | (with_reducible refine cd_ ?_)))
      (case side2 => exact HC0_2.out)
      rintro e w83 ⟨v497, rfl, ho0, hb⟩
      refine ⟨_, rfl, ?_⟩
      have n0_ := A0_ (Kd.R_elder' (by (with_reducible repeat (first | apply ra_ | apply rn_ | apply rd_)); exact HO_6.out) (Kd.R_base ho0) hb)
      have n1_ := A0_ (Kd.R_elder' (by (with_reducible repeat (first | apply ra_ | apply rn_ | apply rd_)); exact HO_9.out) (Kd.R_base ho0) hb)
      have n2_ := A0_ (Kd.R_elder' (by (with_reducible repeat (first | apply ra_ | apply rn_ | apply rd_)); exact HO_489002.out) (Kd.R_base ho0) hb)
      have n3_ := A0_ (Kd.R_lower (Kd.R_new' (Kd.R_new' (Kd.R_new' ho0 (Kd.R_lt (by (with_reducible repeat (first | apply ra_ | apply rn_ | apply rd_)); exact HO_6.out))) (Kd.R_lt (by (with_reducible repeat (first | apply ra_ | apply rn_ | apply rd_)); exact HO_9.out))) (Kd.R_lt (by (with_reducible repeat (first | apply ra_ | apply rn_ | apply rd_)); exact HO_489002.out))) (bz_ (by repeat (first | exact HB.out | apply ba_ | apply bn_ | apply bd_ | refine bs_ ?_ GE472.out | refine bs_ ?_ GE488.out))))
      have n4_ := A0_ (kb_ (g := gb472) (o := .cells #[.int .i64 a0_0, .bool a0_1, .slice A0_2 l0_2.length c0_2] 29 (0, 0)) (by (with_reducible repeat (first | apply kn_ | apply kd_ | apply ka_)); exact BK472.out) hb)
      have n5_ := A0_ (kb_ (g := gb488) (o := .cells #[.int .i64 t483, .bool t484, .slice Ao25 t485.length co25] 32 (0, 0)) (by (with_reducible repeat (first | apply kn_ | apply kd_ | apply ka_)); exact BK488.out) hb)
      have n6_ := A0_ (bt_ (by repeat (first | exact HB.out | apply ba_ | apply bn_ | apply bd_ | refine bs_ ?_ GE472.out | refine bs_ ?_ GE488.out)) hb)
      clear HO_6
      clear HO_9
      clear HO_489002
      clear BK472
      clear BK488
      clear HB
      have HO_6 := n0_
      have HO_9 := n1_
      have HO_489002 := n2_
      have HO498 := n3_
      have BK472 := n4_
      have BK488 := n5_
      have HB := n6_
      clear n0_ n1_ n2_ n3_ n4_ n5_ n6_
      (try clear hb)
      (try clear hb2)
      (try clear hk)
      (try clear hi)
      (try clear ho0)
      obtain ⟨Ao84, co84, eo84⟩ := Kd.R_slice HO498.out
      (first | subst eo84 | (injection eo84 with f1_ f2_ f3_; have f4_ := f1_.symm; have f5_ := f3_.symm; clear f1_ f2_ f3_; subst f4_; subst f5_))
      refine hK.out _ _ ⟨(kc_ BK488.out 0).trans rfl, (kc_ BK488.out 1).trans rfl, (kc_ BK488.out 2).trans rfl, (kc_ BK472.out 0).trans rfl, (kc_ BK472.out 1).trans rfl, (kc_ BK472.out 2).trans rfl⟩ (fun hHeld => ?_)
      clear hK K
      refine norm_ (a' := ?_) ?_ ?_
      rotate_left
      ·show Act.put _ (some 47) _ = _
       simp only [Act.put, sa_, sz_, ss_, i64_w, i32_w]
       rfl
      refine one_ (i := 3) (N := some 48) #[true, true, true, true, false] rfl rfl (by kernel_rfl) (by decide) (fun K hK => ?_)
      refine goes_ Try.func22 (by kernel_rfl) rfl #[.agg #[.int .i64 t483, .bool t484, .slice Ao25 t485.length co25], .agg #[.int .i64 t494, .bool t495, .slice Ao84 t496.length co84]] (by rfl) rfl rfl (by (try simp only [ma_, mc_, mn_]); first | done | rfl | (simp only [ld_, lt_]; rfl)) ?_
      with_reducible refine (laws_eqRow.calls kj11 t483 t484 _ _ t485 t494 t495 _ _ t496 false _ ?side1 ?side2 ?side3 ?side4 A35.out).mono ?_
      (case side1 => repeat (first | exact (rr_ HO_489002.out).2.2 | (with_reducible refine ca_ ?_ _) | (with_reducible refine cn_ ?_ _) | (with_reducible refine cd_ ?_)))
      (case side2 => exact (rr_ HO_489002.out).2.1)
      (case side3 => repeat (first | exact (rr_ HO498.out).2.2 | (with_reducible refine ca_ ?_ _) | (with_reducible refine cn_ ?_ _) | (with_reducible refine cd_ ?_)))
      (case side4 => exact (rr_ HO498.out).2.1)
      rintro e w85 ⟨rfl, hb⟩
      refine ⟨_, rfl, ?_⟩
      have n0_ := A0_ (Kd.R_below (by (with_reducible repeat (first | apply ra_ | apply rn_ | apply rd_)); exact HO_6.out) hb)
      have n1_ := A0_ (Kd.R_below (by (with_reducible repeat (first | apply ra_ | apply rn_ | apply rd_)); exact HO_9.out) hb)
      have n2_ := A0_ (Kd.R_below (by (with_reducible repeat (first | apply ra_ | apply rn_ | apply rd_)); exact HO_489002.out) hb)
      have n3_ := A0_ (Kd.R_below (by (with_reducible repeat (first | apply ra_ | apply rn_ | apply rd_)); exact HO498.out) hb)
      have n4_ := A0_ (kb_ (g := gb472) (o := .cells #[.int .i64 a0_0, .bool a0_1, .slice A0_2 l0_2.length c0_2] 29 (0, 0)) (by (with_reducible repeat (first | apply kn_ | apply kd_ | apply ka_)); exact BK472.out) hb)
      have n5_ := A0_ (kb_ (g := gb488) (o := .cells #[.int .i64 t483, .bool t484, .slice Ao25 t485.length co25] 32 (0, 0)) (by (with_reducible repeat (first | apply kn_ | apply kd_ | apply ka_)); exact BK488.out) hb)
      have n6_ := A0_ (bt_ (by repeat (first | exact HB.out | apply ba_ | apply bn_ | apply bd_ | refine bs_ ?_ GE472.out | refine bs_ ?_ GE488.out)) hb)
      clear HO_6
      clear HO_9
      clear HO_489002
      clear HO498
      clear BK472
      clear BK488
      clear HB
      have HO_6 := n0_
      have HO_9 := n1_
      have HO_489002 := n2_
      have HO498 := n3_
      have BK472 := n4_
      have BK488 := n5_
      have HB := n6_
      clear n0_ n1_ n2_ n3_ n4_ n5_ n6_
      (try clear hb)
      (try clear hb2)
      (try clear hk)
      (try clear hi)
      refine hK.out _ _ ⟨(kc_ BK488.out 0).trans rfl, (kc_ BK488.out 1).trans rfl, (kc_ BK488.out 2).trans rfl, (kc_ BK472.out 0).trans rfl, (kc_ BK472.out 1).trans rfl, (kc_ BK472.out 2).trans rfl⟩ (fun hHeld => ?_)
      clear hK K
      refine norm_ (a' := ?_) ?_ ?_
      rotate_left
      ·show Act.put _ (some 48) _ = _
       simp only [Act.put, sa_, sz_, ss_, i64_w, i32_w]
       rfl
      refine pure_ (i := 4) (N := some 49) (v := ?_) (a' := ?_) #[true, true, true, true, true] rfl rfl (by kernel_rfl) (fun _ _ _ h => h) (Or.inl ⟨by rfl, ?_⟩) ?_ ?_
      rotate_left
      ·intro w'
       go_simp
       with_reducible rfl
      rotate_left
      ·simp only [Act.put, sa_, sz_, ss_, i64_w, i32_w]
       rfl
      refine done_ (by kernel_rfl) ?_
      try go_wp2
      go_ret
      exact ⟨by first | rfl | (simp [*, errW_none, errW_some] <;> rfl), by repeat (first | exact HB.out | apply ba_ | apply bn_ | apply bd_ | refine bs_ ?_ GE472.out | refine bs_ ?_ GE488.out)⟩

end Go.Proofs.Ytgcgmlbjklkkjaa.QFnExactBestPlay
-- squeezed
