-- Written by px.py, a program of this session, over the kit's printer: some functions have a definition and a proof of this session's own.
import Derived.Test.YtgcgmlbjklkkjaaQFnExactBestPlayx0
import Derived.Test.YtgcgmlbjklkkjaaQFnExactBestPlayx4
import Derived.Test.YtgcgmlbjklkkjaaQFnExactBestPlayx5
import Derived.Test.YtgcgmlbjklkkjaaQFnExactBestPlayx6
namespace Go.Proofs.Ytgcgmlbjklkkjaa.QFnExactBestPlay
open Go.RowKit Go.Proofs.YtgcgmlbjklkkjaaW.PrintWords Go.Proofs.YtgcgmlbjklkkjaaW.PrintLast Go.Proofs.YtgcgmlbjklkkjaaW.PrintMore
attribute [local go_sem] max2_int min2_int max_two min_two max_three min_three max_four min_four   -- for this text's walks alone
set_option linter.unusedVariables false
set_option linter.unusedSimpArgs false
set_option maxHeartbeats 8000000
set_option maxRecDepth 100000

mutual
def spec_l11Number.j0 : Nat → Int → List Int → List (S70) → Int → Bool → List Int → Option (Int)
 | 0, _, _, _, _, _, _ => none
 | k + 1, x1, x5, x6, x225000, x225001, x225002 => spec_l11Number.l0 k x1 x5 x6 0 0 x225000 x225001 x225002
def spec_l11Number.l0 : Nat → Int → List Int → List (S70) → Int → Int → Int → Bool → List Int → Option (Int)
 | 0, _, _, _, _, _, _, _, _ => none
 | k + 1, x1, x5, x6, x7, x8, x225000, x225001, x225002 => if x8 < (x6.length : Int) then (if 0 ≤ x8 then (if 0 ≤ ((rd_T70 x6 x8).f1) then (if ((rd_T70 x6 x8).f1) < (x5.length : Int) then (if x225001 = true then (spec_l11Number.j2 k x1 x5 x6 x7 x8 (rd x5 ((rd_T70 x6 x8).f1)) (((rd_T70 x6 x8).f1) == x225000) x225000 x225001 x225002) else (spec_l11Number.j2 k x1 x5 x6 x7 x8 (rd x5 ((rd_T70 x6 x8).f1)) false x225000 x225001 x225002)) else (none)) else (none)) else (none)) else (some x7)
def spec_l11Number.j2 : Nat → Int → List Int → List (S70) → Int → Int → Int → Bool → Int → Bool → List Int → Option (Int)
 | 0, _, _, _, _, _, _, _, _, _, _ => none
 | k + 1, x1, x5, x6, x7, x8, x9, x44, x225000, x225001, x225002 => if x44 = true then (if x1 = 2 then (if 0 ≤ (wrap64 (x225000 - 2)) then (if (wrap64 (x225000 - 2)) < (x5.length : Int) then ((spec_l11Least.f k (([rd x5 (wrap64 (x225000 - 2))] : List Int))).bind fun t241 => (spec_l11Number.l0 k x1 x5 x6 (Go.bits .xor .i64 x7 t241) (wrap64 (x8 + 1)) x225000 x225001 x225002)) else (none)) else (none)) else (if 0 ≤ (wrap64 (x225000 - 3)) then (if (wrap64 (x225000 - 3)) < (x5.length : Int) then ((spec_l11Least.f k (([rd x5 (wrap64 (x225000 - 3))] : List Int))).bind fun t246 => (spec_l11Number.l0 k x1 x5 x6 (Go.bits .xor .i64 x7 t246) (wrap64 (x8 + 1)) x225000 x225001 x225002)) else (none)) else (none))) else (spec_l11Number.l0 k x1 x5 x6 (Go.bits .xor .i64 x7 x9) (wrap64 (x8 + 1)) x225000 x225001 x225002)
end
def spec_l11Number.f (k : Nat) (a0_0 : Int) (a0_1 : Bool) (l0_2 : List Int) (a1 : Int) : Option (Int) := (spec_l11Lines.f k a1).bind fun t225 => ((spec_l2Runs.f k a0_0 a0_1 l0_2).bind fun t228 => (if a1 = 1 then ((spec_l4Blocks.f k a0_0 a0_1 l0_2).bind fun t231 => (spec_l11Number.j0 k a1 t225 t231 a0_0 a0_1 l0_2)) else (spec_l11Number.j0 k a1 t225 t228 a0_0 a0_1 l0_2)))
theorem spec_l11Number.mono_l : ∀ k, (∀ y0 y1 y2 y3 y4 y5, LeO (spec_l11Number.j0 k y0 y1 y2 y3 y4 y5) (spec_l11Number.j0 (k + 1) y0 y1 y2 y3 y4 y5)) ∧ (∀ y0 y1 y2 y3 y4 y5 y6 y7, LeO (spec_l11Number.l0 k y0 y1 y2 y3 y4 y5 y6 y7) (spec_l11Number.l0 (k + 1) y0 y1 y2 y3 y4 y5 y6 y7)) ∧ (∀ y0 y1 y2 y3 y4 y5 y6 y7 y8 y9, LeO (spec_l11Number.j2 k y0 y1 y2 y3 y4 y5 y6 y7 y8 y9) (spec_l11Number.j2 (k + 1) y0 y1 y2 y3 y4 y5 y6 y7 y8 y9))
 | 0 => ⟨fun _ _ _ _ _ _ r h => by simp [spec_l11Number.j0] at h, fun _ _ _ _ _ _ _ _ r h => by simp [spec_l11Number.l0] at h, fun _ _ _ _ _ _ _ _ _ _ r h => by simp [spec_l11Number.j2] at h⟩
 | k + 1 => by
  obtain ⟨ih0, ih1, ih2⟩ := spec_l11Number.mono_l k
  refine ⟨?_, ?_, ?_⟩
  ·intro y0 y1 y2 y3 y4 y5
   unfold spec_l11Number.j0
   repeat' first
   | (with_reducible exact ih0 _ _ _ _ _ _)
   | (with_reducible exact ih1 _ _ _ _ _ _ _ _)
   | (with_reducible exact ih2 _ _ _ _ _ _ _ _ _ _)
   | (with_reducible exact spec_l11Least.mono _ _)
   | (with_reducible exact spec_l11Lines.mono _ _)
   | (with_reducible exact spec_l2Runs.mono _ _ _ _)
   | (with_reducible exact spec_l4Blocks.mono _ _ _ _)
   | (with_reducible exact LeO.refl _)
   | (with_reducible exact LeO.none _)
   | (with_reducible refine LeO.ite ?_ ?_)
   | (with_reducible refine LeO.bind ?_ (fun _ => ?_))
  ·intro y0 y1 y2 y3 y4 y5 y6 y7
   unfold spec_l11Number.l0
   repeat' first
   | (with_reducible exact ih0 _ _ _ _ _ _)
   | (with_reducible exact ih1 _ _ _ _ _ _ _ _)
   | (with_reducible exact ih2 _ _ _ _ _ _ _ _ _ _)
   | (with_reducible exact spec_l11Least.mono _ _)
   | (with_reducible exact spec_l11Lines.mono _ _)
   | (with_reducible exact spec_l2Runs.mono _ _ _ _)
   | (with_reducible exact spec_l4Blocks.mono _ _ _ _)
   | (with_reducible exact LeO.refl _)
   | (with_reducible exact LeO.none _)
   | (with_reducible refine LeO.ite ?_ ?_)
   | (with_reducible refine LeO.bind ?_ (fun _ => ?_))
  ·intro y0 y1 y2 y3 y4 y5 y6 y7 y8 y9
   unfold spec_l11Number.j2
   repeat' first
   | (with_reducible exact ih0 _ _ _ _ _ _)
   | (with_reducible exact ih1 _ _ _ _ _ _ _ _)
   | (with_reducible exact ih2 _ _ _ _ _ _ _ _ _ _)
   | (with_reducible exact spec_l11Least.mono _ _)
   | (with_reducible exact spec_l11Lines.mono _ _)
   | (with_reducible exact spec_l2Runs.mono _ _ _ _)
   | (with_reducible exact spec_l4Blocks.mono _ _ _ _)
   | (with_reducible exact LeO.refl _)
   | (with_reducible exact LeO.none _)
   | (with_reducible refine LeO.ite ?_ ?_)
   | (with_reducible refine LeO.bind ?_ (fun _ => ?_))
theorem spec_l11Number.mono : ∀ a0 a1 a2 a3 k, LeO (spec_l11Number.f k a0 a1 a2 a3) (spec_l11Number.f (k + 1) a0 a1 a2 a3) := by
 intro a0 a1 a2 a3 k
 obtain ⟨ih0, ih1, ih2⟩ := spec_l11Number.mono_l k
 unfold spec_l11Number.f
 repeat' first
   | (with_reducible exact ih0 _ _ _ _ _ _)
   | (with_reducible exact ih1 _ _ _ _ _ _ _ _)
   | (with_reducible exact ih2 _ _ _ _ _ _ _ _ _ _)
   | (with_reducible exact spec_l11Least.mono _ _)
   | (with_reducible exact spec_l11Lines.mono _ _)
   | (with_reducible exact spec_l2Runs.mono _ _ _ _)
   | (with_reducible exact spec_l4Blocks.mono _ _ _ _)
   | (with_reducible exact LeO.refl _)
   | (with_reducible exact LeO.none _)
   | (with_reducible refine LeO.ite ?_ ?_)
   | (with_reducible refine LeO.bind ?_ (fun _ => ?_))
def spec_l11Number.T9 : Bool × List (List Nat × List Nat) := (true, [([], []), ([0], [0]), ([1], [1]), ([2], [2]), ([2], [2]), ([3, 4, 2], [2, 3, 4]), ([5, 2], [2, 5]), ([6, 2], [2, 6]), ([2], [2]), ([8, 2], [2, 8]), ([7, 9, 2], [2, 7, 9]), ([2, 10], [2, 10])])
def spec_l11Number.B9 : List Nat := [0, 1, 3, 7, 7, 31, 63, 127, 7, 263, 1023, 2047]
theorem spec_l11Number.tab9 : rtab .any (opsOf Try.f55 9) = spec_l11Number.T9 := by kernel_rfl
theorem spec_l11Number.bits9 : waitsOk spec_l11Number.T9.2 spec_l11Number.B9 = true := by kernel_rfl
theorem spec_l11Number.calls (k : Nat) (a0_0 : Int) (a0_1 : Bool) (A0_2 : Option Addr) (c0_2 : Nat) (l0_2 : List Int) (a1 : Int) (r : Int) (w : World) (hr0_2 : Kd.C (Kd.int .i64) w A0_2 l0_2.length l0_2) (hc0_2 : l0_2.length ≤ c0_2) (h : spec_l11Number.f k a0_0 a0_1 l0_2 a1 = some r) :
  Calls Try.prog 55 #[.agg #[.int .i64 a0_0, .bool a0_1, .slice A0_2 l0_2.length c0_2], .int .i64 a1] w fun e w' => e = .returned (.int .i64 r) ∧ Below w.heap.size w w' := by
 have hu32 := Try.underlying32
 have HR0_2 := A0_ hr0_2
 have HC0_2 := A0_ hc0_2
 clear hr0_2 hc0_2
 have HB := A0_ (Below.refl w.heap.size w)
 have H : ((spec_l11Lines.f k a1).bind fun t225 => ((spec_l2Runs.f k a0_0 a0_1 l0_2).bind fun t228 => (if a1 = 1 then ((spec_l4Blocks.f k a0_0 a0_1 l0_2).bind fun t231 => (spec_l11Number.j0 k a1 t225 t231 a0_0 a0_1 l0_2)) else (spec_l11Number.j0 k a1 t225 t228 a0_0 a0_1 l0_2)))) = some r := h
 clear h
 replace H := ob_.mp H
 obtain ⟨t225, A30, H⟩ := H
 have A3 := A0_ A30
 clear A30
 replace H := ob_.mp H
 obtain ⟨t228, A40, H⟩ := H
 have A4 := A0_ A40
 clear A40
 have HC5 := A0_ H
 clear H
 go_enter Try.func55, Try.ntmps55
 try go_wp2_with (first | ((with_reducible refine gd_ (N := 2) rfl ?_); refine be_ ?hg (N := 2) ?hd (cs := #[.int .i64 a0_0, .bool a0_1, .slice A0_2 l0_2.length c0_2]) (t := 32) ?hr ?_; (case hd => rfl); (case hg => rfl); (case hr => go_simp; first | done | rfl); intro gb224 hg w6 hbox hb; have n0_ := A0_ (bt_ (by repeat (first | exact HB.out | apply ba_ | apply bn_ | apply bd_)) hb); have n1_ := A0_ (hbox); have n2_ := A0_ ((by rw [hg]; exact (bz_ (by repeat (first | exact HB.out | apply ba_ | apply bn_ | apply bd_))) : w.heap.size ≤ gb224)); have n3_ := A0_ ((by rw [hg]; exact (bz_ (by repeat (first | exact HB.out | apply ba_ | apply bn_ | apply bd_))) : w.heap.size ≤ gb224)); clear HB; have HB := n0_; have BK224 := n1_; have GW224 := n2_; have GE224 := n3_; clear n0_ n1_ n2_ n3_ hb hbox hg))
 have n0_ := A0_ (kd_ BK224.out)
 have n1_ := A0_ (bd_ HB.out)
 clear BK224
 clear HB
 have BK224 := n0_
 have HB := n1_
 clear n0_ n1_
 refine start_ (n := 6) (S := fun w' => w'.cell? ⟨gb224, 0, none⟩ = some (.int .i64 a0_0) ∧ w'.cell? ⟨gb224, 1, none⟩ = some (.bool a0_1) ∧ w'.cell? ⟨gb224, 2, none⟩ = some (.slice A0_2 l0_2.length c0_2)) (ds := []) #[false, false, false, false, false, false] (by kernel_rfl) rfl rfl ⟨(kc_ BK224.out 0).trans rfl, (kc_ BK224.out 1).trans rfl, (kc_ BK224.out 2).trans rfl⟩ (fun hHeld => ?_)
 generalize w6.drew = w7 at BK224 HB hHeld ⊢
 refine pure_ (i := 0) (N := some 11) (v := ?_) (a' := ?_) #[true, false, false, false, false, false] rfl rfl (by kernel_rfl) (fun _ _ _ h => h) (Or.inl ⟨by rfl, ?_⟩) ?_ ?_
 rotate_left
 ·intro w'
  go_simp
  with_reducible rfl
 rotate_left
 ·simp only [Act.put, sa_, sz_, ss_, i64_w, i32_w]
  rfl
 refine take_ (i := 2) (N := some 13) (v := ?_) (a' := ?_) #[true, false, true, false, false, false] rfl rfl (by kernel_rfl) (fun _ _ _ h => h) (Or.inl ⟨by rfl, ?_⟩) hHeld ?_ ?_
 rotate_left
 ·rintro w' ⟨s0, s1, s2⟩
  go_simp
  with_reducible rfl
 rotate_left
 ·simp only [Act.put, sa_, sz_, ss_, i64_w, i32_w]
  rfl
 refine one_ (i := 1) (N := some 12) #[true, true, true, false, false, false] rfl rfl (by kernel_rfl) (by decide) (fun K hK => ?_)
 refine goes_ Try.func43 (by kernel_rfl) rfl #[.int .i64 a1] (by rfl) rfl rfl (by (try simp only [ma_, mc_, mn_]); first | done | rfl | (simp only [ld_, lt_]; rfl)) ?_
 with_reducible refine (spec_l11Lines.calls k a1 t225 _ A3.out).mono ?_
 rintro e w8 ⟨v226, rfl, ho0, hb⟩
 refine ⟨_, rfl, ?_⟩
 have n0_ := A0_ (Kd.R_lower ho0 (bz_ (by repeat (first | exact HB.out | apply ba_ | apply bn_ | apply bd_ | refine bs_ ?_ GE224.out))))
 have n1_ := A0_ (kb_ (g := gb224) (o := .cells #[.int .i64 a0_0, .bool a0_1, .slice A0_2 l0_2.length c0_2] 32 (0, 0)) (by (with_reducible repeat (first | apply kn_ | apply kd_ | apply ka_)); exact BK224.out) hb)
 have n2_ := A0_ (bt_ (by repeat (first | exact HB.out | apply ba_ | apply bn_ | apply bd_ | refine bs_ ?_ GE224.out)) hb)
 clear BK224
 clear HB
 have HO227 := n0_
 have BK224 := n1_
 have HB := n2_
 clear n0_ n1_ n2_
 (try clear hb)
 (try clear hb2)
 (try clear hk)
 (try clear hi)
 (try clear ho0)
 refine hK.out _ _ ⟨(kc_ BK224.out 0).trans rfl, (kc_ BK224.out 1).trans rfl, (kc_ BK224.out 2).trans rfl⟩ (fun hHeld => ?_)
 clear hK K
 refine norm_ (a' := ?_) ?_ ?_
 rotate_left
 ·show Act.put _ (some 12) _ = _
  simp only [Act.put, sa_, sz_, ss_, i64_w, i32_w]
  rfl
 refine one_ (i := 3) (N := some 14) #[true, true, true, true, false, false] rfl rfl (by kernel_rfl) (by decide) (fun K hK => ?_)
 refine goes_ Try.func62 (by kernel_rfl) rfl #[.agg #[.int .i64 a0_0, .bool a0_1, .slice A0_2 l0_2.length c0_2]] (by rfl) rfl rfl (by (try simp only [ma_, mc_, mn_]); first | done | rfl | (simp only [ld_, lt_]; rfl)) ?_
 with_reducible refine (spec_l2Runs.calls k a0_0 a0_1 _ _ l0_2 t228 _ ?side1 ?side2 A4.out).mono ?_
 (case side1 => repeat (first | exact (cb_ HR0_2.out HB.out) | (with_reducible refine ca_ ?_ _) | (with_reducible refine cn_ ?_ _) | (with_reducible refine cd_ ?_)))
 (case side2 => exact HC0_2.out)
 rintro e w9 ⟨v229, rfl, ho0, hb⟩
 refine ⟨_, rfl, ?_⟩
 have n0_ := A0_ (Kd.R_below (by (with_reducible repeat (first | apply ra_ | apply rn_ | apply rd_)); exact HO227.out) hb)
 have n1_ := A0_ (Kd.R_lower ho0 (bz_ (by repeat (first | exact HB.out | apply ba_ | apply bn_ | apply bd_ | refine bs_ ?_ GE224.out))))
 have n2_ := A0_ (kb_ (g := gb224) (o := .cells #[.int .i64 a0_0, .bool a0_1, .slice A0_2 l0_2.length c0_2] 32 (0, 0)) (by (with_reducible repeat (first | apply kn_ | apply kd_ | apply ka_)); exact BK224.out) hb)
 have n3_ := A0_ (bt_ (by repeat (first | exact HB.out | apply ba_ | apply bn_ | apply bd_ | refine bs_ ?_ GE224.out)) hb)
 clear HO227
 clear BK224
 clear HB
 have HO227 := n0_
 have HO230 := n1_
 have BK224 := n2_
 have HB := n3_
 clear n0_ n1_ n2_ n3_
 (try clear hb)
 (try clear hb2)
 (try clear hk)
 (try clear hi)
 (try clear ho0)
 refine hK.out _ _ ⟨(kc_ BK224.out 0).trans rfl, (kc_ BK224.out 1).trans rfl, (kc_ BK224.out 2).trans rfl⟩ (fun hHeld => ?_)
 clear hK K
 refine norm_ (a' := ?_) ?_ ?_
 rotate_left
 ·show Act.put _ (some 14) _ = _
  simp only [Act.put, sa_, sz_, ss_, i64_w, i32_w]
  rfl
 refine pure_ (i := 4) (N := some 5) (v := ?_) (a' := ?_) #[true, true, true, true, true, false] rfl rfl (by kernel_rfl) (fun _ _ _ h => h) (Or.inl ⟨by rfl, ?_⟩) ?_ ?_
 rotate_left
 ·intro w'
  go_simp
  with_reducible rfl
 rotate_left
 ·simp only [Act.put, sa_, sz_, ss_, i64_w, i32_w]
  rfl
 refine pure_ (i := 5) (N := some 6) (v := ?_) (a' := ?_) #[true, true, true, true, true, true] rfl rfl (by kernel_rfl) (fun _ _ _ h => h) (Or.inl ⟨by rfl, ?_⟩) ?_ ?_
 rotate_left
 ·intro w'
  go_simp
  with_reducible rfl
 rotate_left
 ·simp only [Act.put, sa_, sz_, ss_, i64_w, i32_w]
  rfl
 refine done_ (by kernel_rfl) ?_
 go_upto_if 16 with (fail)
 go_cut [6] (fun v6 wc => ∃ (kq : Nat) (x6_4 : List (S70)), Aside0 (spec_l11Number.j0 kq a1 t225 x6_4 a0_0 a0_1 l0_2 = some r) ∧ Aside0 (kq ≤ k) ∧ Aside0 (Kd.R (Kd.int .i64) 3 wc w.heap.size (fun _ => True) v226 t225) ∧ Aside0 (Kd.R k70 70 wc w.heap.size (fun _ => True) v6 x6_4) ∧ Aside0 (wc.heap[gb224]? = some (.cells #[.int .i64 a0_0, .bool a0_1, (.slice A0_2 l0_2.length c0_2)] 32 (0, 0))) ∧ Aside0 (Below w.heap.size w wc))
 case first =>
  have H := HC5.out
  clear HC5
  by_cases c10 : a1 = 1
  ·rw [if_pos c10] at H
   have c10b0 : (a1 == 1) = true := beq_iff_eq.mpr c10
   have c10b1 : (a1 != 1) = false := bne_eq_false_iff_eq.mpr c10
   clear c10
   (first | rw [c10b0] | (simp only [i64_w, i32_w]; rw [c10b0]) | skip)
   replace H := ob_.mp H
   obtain ⟨t231, A110, H⟩ := H
   have A11 := A0_ A110
   clear A110
   have H' := A0_ H
   clear H
   have hcz12_0 : w9.cell? ⟨gb224, 0, none⟩ = some (.int .i64 a0_0) := (kc_ BK224.out 0).trans rfl
   have hcz12_1 : w9.cell? ⟨gb224, 1, none⟩ = some (.bool a0_1) := (kc_ BK224.out 1).trans rfl
   have hcz12_2 : w9.cell? ⟨gb224, 2, none⟩ = some (.slice A0_2 l0_2.length c0_2) := (kc_ BK224.out 2).trans rfl
   go_wp2_with (first | ((with_reducible refine gc_ (f := 63) rfl ?_); refine goesL_ (some 18) rfl rfl Try.func63 (by kernel_rfl) rfl #[.agg #[.int .i64 a0_0, .bool a0_1, .slice A0_2 l0_2.length c0_2]] rfl (by (try simp only [ma_, mc_, mn_]); first | done | rfl | (simp only [ld_, lt_]; rfl)) ?_; (with_reducible refine (spec_l4Blocks.calls k a0_0 a0_1 _ _ l0_2 t231 _ ?side1 ?side2 A11.out).mono ?_); (case side1 => repeat (first | exact (cb_ HR0_2.out HB.out) | (with_reducible refine ca_ ?_ _) | (with_reducible refine cn_ ?_ _) | (with_reducible refine cd_ ?_))); (case side2 => exact HC0_2.out); rintro e w13 ⟨v232, rfl, ho0, hb⟩; refine ⟨_, rfl, ?_⟩; have n0_ := A0_ (Kd.R_below (by (with_reducible repeat (first | apply ra_ | apply rn_ | apply rd_)); exact HO227.out) hb); have n1_ := A0_ (Kd.R_elder' (by (with_reducible repeat (first | apply ra_ | apply rn_ | apply rd_)); exact HO230.out) (Kd.R_base ho0) hb); have n2_ := A0_ (Kd.R_lower (Kd.R_new' ho0 (Kd.R_lt (by (with_reducible repeat (first | apply ra_ | apply rn_ | apply rd_)); exact HO230.out))) (bz_ (by repeat (first | exact HB.out | apply ba_ | apply bn_ | apply bd_ | refine bs_ ?_ GE224.out)))); have n3_ := A0_ (kb_ (g := gb224) (o := .cells #[.int .i64 a0_0, .bool a0_1, .slice A0_2 l0_2.length c0_2] 32 (0, 0)) (by (with_reducible repeat (first | apply kn_ | apply kd_ | apply ka_)); exact BK224.out) hb); have n4_ := A0_ (bt_ (by repeat (first | exact HB.out | apply ba_ | apply bn_ | apply bd_ | refine bs_ ?_ GE224.out)) hb); clear HO227 HO230 BK224 HB; have HO227 := n0_; have HO230 := n1_; have HO233 := n2_; have BK224 := n3_; have HB := n4_; clear n0_ n1_ n2_ n3_ n4_; (try clear hb); (try clear ho0)))
   go_meet
   case rel => exact ⟨_, (t231), H', ⟨by first | omega | exact Nat.le_refl _⟩, ⟨by (with_reducible repeat (first | apply ra_ | apply rn_ | apply rd_)); exact HO227.out⟩, ⟨by (with_reducible repeat (first | apply ra_ | apply rn_ | apply rd_)); exact Kd.R_mono HO233.out (fun _ hk => trivial)⟩, ⟨by (with_reducible repeat (first | apply kn_ | apply kd_ | apply ka_)); exact BK224.out⟩, ⟨by repeat (first | exact HB.out | apply ba_ | apply bn_ | apply bd_ | refine bs_ ?_ GE224.out)⟩⟩
  ·rw [if_neg c10] at H
   have c10b0 : (a1 == 1) = false := beq_eq_false_iff_ne.mpr c10
   have c10b1 : (a1 != 1) = true := bne_iff_ne.mpr c10
   (first | rw [c10b0] | (simp only [i64_w, i32_w]; rw [c10b0]) | skip)
   have H' := A0_ H
   clear H
   go_wp2
   go_meet
   case rel => exact ⟨_, (t228), H', ⟨by first | omega | exact Nat.le_refl _⟩, ⟨by (with_reducible repeat (first | apply ra_ | apply rn_ | apply rd_)); exact HO227.out⟩, ⟨by (with_reducible repeat (first | apply ra_ | apply rn_ | apply rd_)); exact HO230.out⟩, ⟨by (with_reducible repeat (first | apply kn_ | apply kd_ | apply ka_)); exact BK224.out⟩, ⟨by repeat (first | exact HB.out | apply ba_ | apply bn_ | apply bd_ | refine bs_ ?_ GE224.out)⟩⟩
 case rest =>
  clear HC5
  try clear c1
  try clear p2
  try clear c4
  try clear c5
  try clear c6
  try clear c10
  try clear c10b0
  try clear c10b1
  try clear hcz12_0
  try clear hcz12_1
  try clear hcz12_2
  obtain ⟨kq, x6_4, HA, HJ4, HO_5, HO_6, BK224, HB⟩ := hcut
  cases kq with
  | zero => exact absurd HA.out (by simp [spec_l11Number.j0])
  | succ kj4 =>
   have H := HA.out
   clear HA
   simp only [spec_l11Number.j0] at H
   have H' := A0_ H
   clear H
   go_wp2
   go_loopg [7, 8] kj4 (fun kq v7 v8 w' => ∃ (x7_2 : Int) (x8_2 : Int), v7 = .int .i64 x7_2 ∧ v8 = .int .i64 x8_2 ∧ Aside0 (spec_l11Number.l0 kq a1 t225 x6_4 x7_2 x8_2 a0_0 a0_1 l0_2 = some r) ∧ Aside0 (kq ≤ kj4) ∧ Aside0 (Kd.R (Kd.int .i64) 3 w' w.heap.size (fun _ => True) v226 t225) ∧ Aside0 (Kd.R k70 70 w' w.heap.size (fun _ => True) u6 x6_4) ∧ Aside0 (w'.heap[gb224]? = some (.cells #[.int .i64 a0_0, .bool a0_1, (.slice A0_2 l0_2.length c0_2)] 32 (0, 0))) ∧ Aside0 (Below w.heap.size w w'))
   case atStart => exact ⟨(0), (0), (by first | rfl | (simp [*]; done)), (by first | rfl | (simp [*]; done)), H', ⟨Nat.le_refl _⟩, ⟨by (with_reducible repeat (first | apply ra_ | apply rn_ | apply rd_)); exact HO_5.out⟩, ⟨by (with_reducible repeat (first | apply ra_ | apply rn_ | apply rd_)); exact HO_6.out⟩, ⟨by (with_reducible repeat (first | apply kn_ | apply kd_ | apply ka_)); exact BK224.out⟩, ⟨by repeat (first | exact HB.out | apply ba_ | apply bn_ | apply bd_ | refine bs_ ?_ GE224.out)⟩⟩
   case round =>
    clear H'
    try clear c1
    try clear p2
    try clear c4
    try clear c5
    try clear c6
    try clear c10
    try clear c10b0
    try clear c10b1
    try clear hcz12_0
    try clear hcz12_1
    try clear hcz12_2
    try clear p2
    obtain ⟨x7_2, x8_2, rfl, rfl, HA, HK2, HO_5, HO_6, BK224, HB⟩ := hrel
    cases gk with
    | zero => exact absurd HA.out (by simp [spec_l11Number.l0])
    | succ k2 =>
     have H := HA.out
     clear HA
     simp only [spec_l11Number.l0] at H
     by_cases c14 : x8_2 < (x6_4.length : Int)
     ·rw [if_pos c14] at H
      have c14b0 : decide (x8_2 < (x6_4.length : Int)) = true := dt_ c14
      clear c14
      by_cases c15 : 0 ≤ x8_2
      ·rw [if_pos c15] at H
       have c15b0 : decide (0 ≤ x8_2) = true := dt_ c15
       clear c15
       by_cases c16 : 0 ≤ ((rd_T70 x6_4 x8_2).f1)
       ·rw [if_pos c16] at H
        have c16b0 : decide (0 ≤ ((rd_T70 x6_4 x8_2).f1)) = true := dt_ c16
        clear c16
        by_cases c17 : ((rd_T70 x6_4 x8_2).f1) < (t225.length : Int)
        ·rw [if_pos c17] at H
         have c17b0 : decide (((rd_T70 x6_4 x8_2).f1) < (t225.length : Int)) = true := dt_ c17
         clear c17
         have HC18 := A0_ H
         clear H
         obtain ⟨Ao19, co19, eo19⟩ := Kd.R_slice HO_6.out
         subst eo19
         have p234 : 0 ≤ (x8_2 : Int) := od_ (by first | (with_reducible assumption) | assumption)
         have q234 : x8_2 < (x6_4.length : Int) := od_ (by first | (with_reducible assumption) | assumption)
         obtain ⟨ad234, e234, hx234_0, hx234_1⟩ := at_T70 (rr_ HO_6.out).2.2 x8_2 p234 q234
         cases e234
         replace p234 := eq_true p234
         replace q234 := eq_true q234
         obtain ⟨Ao20, co20, eo20⟩ := Kd.R_slice HO_5.out
         subst eo20
         have p235 : 0 ≤ (((rd_T70 x6_4 x8_2).f1) : Int) := od_ (by first | (with_reducible assumption) | assumption)
         have q235 : ((rd_T70 x6_4 x8_2).f1) < (t225.length : Int) := od_ (by first | (with_reducible assumption) | assumption)
         obtain ⟨ad235, e235, hx235_0⟩ := Kd.at_int (rr_ HO_5.out).2.2 ((rd_T70 x6_4 x8_2).f1) p235 q235
         cases e235
         replace p235 := eq_true p235
         replace q235 := eq_true q235
         go_upto_region 9 with (fail)
         go_cut [44] (fun v44 wc => ∃ (kq : Nat) (x44_17 : Bool), v44 = .bool x44_17 ∧ Aside0 (spec_l11Number.j2 kq a1 t225 x6_4 x7_2 x8_2 (rd t225 ((rd_T70 x6_4 x8_2).f1)) x44_17 a0_0 a0_1 l0_2 = some r) ∧ Aside0 (kq ≤ k2) ∧ Aside0 (Kd.R (Kd.int .i64) 3 wc w.heap.size (fun _ => True) (.slice (some ad235) t225.length co20) t225) ∧ Aside0 (Kd.R k70 70 wc w.heap.size (fun _ => True) (.slice (some ad234) x6_4.length co19) x6_4) ∧ Aside0 (wc.heap[gb224]? = some (.cells #[.int .i64 a0_0, .bool a0_1, (.slice A0_2 l0_2.length c0_2)] 32 (0, 0))) ∧ Aside0 (Below w.heap.size w wc))
         case first =>
          have H := HC18.out
          clear HC18
          by_cases c21 : a0_1 = true
          ·subst c21
           rw [if_pos rfl] at H
           have H' := A0_ H
           clear H
           try go_wp2
           have n0_ := A0_ (rd_ HO_5.out)
           have n1_ := A0_ (rd_ HO_6.out)
           have n2_ := A0_ (kd_ BK224.out)
           have n3_ := A0_ (bd_ HB.out)
           clear HO_5
           clear HO_6
           clear BK224
           clear HB
           have HO_5 := n0_
           have HO_6 := n1_
           have BK224 := n2_
           have HB := n3_
           clear n0_ n1_ n2_ n3_
           have p236 : 0 ≤ (x8_2 : Int) := od_ (by first | (with_reducible assumption) | assumption)
           have q236 : x8_2 < (x6_4.length : Int) := od_ (by first | (with_reducible assumption) | assumption)
           obtain ⟨ad236, e236, hx236_0, hx236_1⟩ := at_T70 (rr_ HO_6.out).2.2 x8_2 p236 q236
           obtain rfl : ad234 = ad236 := (by injection e236)
           replace p236 := eq_true p236
           replace q236 := eq_true q236
           refine start_ (n := 12) (S := fun w' => w'.cell? ⟨gb224, 0, none⟩ = some (.int .i64 a0_0) ∧ w'.cell? ⟨gb224, 1, none⟩ = some (.bool true) ∧ w'.cell? ⟨gb224, 2, none⟩ = some (.slice A0_2 l0_2.length c0_2) ∧ w'.cell? (ad234.add ((x8_2).toNat * 2)) = some (.int .i64 ((rd_T70 x6_4 x8_2).f0)) ∧ w'.cell? ⟨(ad234.add ((x8_2).toNat * 2)).block, (ad234.add ((x8_2).toNat * 2)).off + 1, none⟩ = some (.int .i64 ((rd_T70 x6_4 x8_2).f1))) (ds := []) #[false, false, false, false, false, false, false, false, false, false, false, false] (by kernel_rfl) rfl rfl ⟨(kc_ BK224.out 0).trans rfl, (kc_ BK224.out 1).trans rfl, (kc_ BK224.out 2).trans rfl, hx236_0, hx236_1⟩ (fun hHeld => ?_); refine with_tabW spec_l11Number.tab9 spec_l11Number.bits9 (fun HT_ HW_ => ?_)
           generalize wr.drew = w22 at HO_5 HO_6 BK224 HB hx236_0 hx236_1 hHeld ⊢
           refine pure_ (i := 0) (N := some 33) (v := ?_) (a' := ?_) #[true, false, false, false, false, false, false, false, false, false, false, false] rfl rfl (any_of HT_.out (by kernel_rfl)) (fun _ _ _ h => h) (Or.inl ⟨by rfl, ?_⟩) ?_ ?_
           rotate_left
           ·intro w'
            go_simp
            with_reducible rfl
           rotate_left
           ·simp only [Act.put, sa_, sz_, ss_, i64_w, i32_w]
            rfl
           refine take_ (i := 1) (N := some 34) (v := ?_) (a' := ?_) #[true, true, false, false, false, false, false, false, false, false, false, false] rfl rfl (take_ofW HT_.out HW_.out (by kernel_rfl)) (fun _ _ _ h => h) (Or.inl ⟨by rfl, ?_⟩) hHeld ?_ ?_
           rotate_left
           ·rintro w' ⟨s0, s1, s2, s3, s4⟩
            go_simp
            with_reducible rfl
           rotate_left
           ·simp only [Act.put, sa_, sz_, ss_, i64_w, i32_w]
            rfl
           refine pure_ (i := 2) (N := some 35) (v := ?_) (a' := ?_) #[true, true, true, false, false, false, false, false, false, false, false, false] rfl rfl (any_of HT_.out (by kernel_rfl)) (fun _ _ _ h => h) (Or.inl ⟨by rfl, ?_⟩) ?_ ?_
           rotate_left
           ·intro w'
            go_simp
            with_reducible rfl
           rotate_left
           ·simp only [Act.put, sa_, sz_, ss_, i64_w, i32_w]
            rfl
           refine pure_ (i := 3) (N := some 36) (v := ?_) (a' := ?_) #[true, true, true, true, false, false, false, false, false, false, false, false] rfl rfl (any_of HT_.out (by kernel_rfl)) (fun _ _ _ h => h) (Or.inl ⟨by rfl, ?_⟩) ?_ ?_
           rotate_left
           ·intro w'
            go_simp
            with_reducible rfl
           rotate_left
           ·simp only [Act.put, sa_, sz_, ss_, i64_w, i32_w]
            rfl
           refine pure_ (i := 4) (N := some 37) (v := ?_) (a' := ?_) #[true, true, true, true, true, false, false, false, false, false, false, false] rfl rfl (any_of HT_.out (by kernel_rfl)) (fun _ _ _ h => h) (Or.inl ⟨by rfl, ?_⟩) ?_ ?_
           rotate_left
           ·intro w'
            go_simp
            with_reducible rfl
           rotate_left
           ·simp only [Act.put, sa_, sz_, ss_, i64_w, i32_w]
            rfl
           refine pure_ (i := 5) (N := some 38) (v := ?_) (a' := ?_) #[true, true, true, true, true, true, false, false, false, false, false, false] rfl rfl (any_of HT_.out (by kernel_rfl)) (fun _ _ _ h => h) (Or.inl ⟨by rfl, ?_⟩) ?_ ?_
           rotate_left
           ·intro w'
            go_simp
            with_reducible rfl
           rotate_left
           ·simp only [Act.put, sa_, sz_, ss_, i64_w, i32_w]
            rfl
           refine pure_ (i := 6) (N := some 39) (v := ?_) (a' := ?_) #[true, true, true, true, true, true, true, false, false, false, false, false] rfl rfl (any_of HT_.out (by kernel_rfl)) (fun _ _ _ h => h) (Or.inl ⟨by rfl, ?_⟩) ?_ ?_
           rotate_left
           ·intro w'
            go_simp
            with_reducible rfl
           rotate_left
           ·simp only [Act.put, sa_, sz_, ss_, i64_w, i32_w]
            rfl
           refine pure_ (i := 8) (N := some 41) (v := ?_) (a' := ?_) #[true, true, true, true, true, true, true, false, true, false, false, false] rfl rfl (any_of HT_.out (by kernel_rfl)) (fun _ _ _ h => h) (Or.inl ⟨by rfl, ?_⟩) ?_ ?_
           rotate_left
           ·intro w'
            go_simp
            with_reducible rfl
           rotate_left
           ·simp only [Act.put, sa_, sz_, ss_, i64_w, i32_w]
            rfl
           refine take_ (i := 7) (N := some 40) (v := ?_) (a' := ?_) #[true, true, true, true, true, true, true, true, true, false, false, false] rfl rfl (take_ofW HT_.out HW_.out (by kernel_rfl)) (fun _ _ _ h => h) (Or.inl ⟨by rfl, ?_⟩) hHeld ?_ ?_
           rotate_left
           ·rintro w' ⟨s0, s1, s2, s3, s4⟩
            go_simp
            with_reducible rfl
           rotate_left
           ·simp only [Act.put, sa_, sz_, ss_, i64_w, i32_w]
            rfl
           refine take_ (i := 9) (N := some 42) (v := ?_) (a' := ?_) #[true, true, true, true, true, true, true, true, true, true, false, false] rfl rfl (take_ofW HT_.out HW_.out (by kernel_rfl)) (fun _ _ _ h => h) (Or.inl ⟨by rfl, ?_⟩) hHeld ?_ ?_
           rotate_left
           ·rintro w' ⟨s0, s1, s2, s3, s4⟩
            go_simp
            with_reducible rfl
           rotate_left
           ·simp only [Act.put, sa_, sz_, ss_, i64_w, i32_w]
            rfl
           refine pure_ (i := 10) (N := some 43) (v := ?_) (a' := ?_) #[true, true, true, true, true, true, true, true, true, true, true, false] rfl rfl (any_of HT_.out (by kernel_rfl)) (fun _ _ _ h => h) (Or.inl ⟨by rfl, ?_⟩) ?_ ?_
           rotate_left
           ·intro w'
            go_simp
            with_reducible rfl
           rotate_left
           ·simp only [Act.put, sa_, sz_, ss_, i64_w, i32_w]
            rfl
           refine pure_ (i := 11) (N := some 44) (v := ?_) (a' := ?_) #[true, true, true, true, true, true, true, true, true, true, true, true] rfl rfl (any_of HT_.out (by kernel_rfl)) (fun _ _ _ h => h) (Or.inl ⟨by rfl, ?_⟩) ?_ ?_
           rotate_left
           ·intro w'
            go_simp
            with_reducible rfl
           rotate_left
           ·simp only [Act.put, sa_, sz_, ss_, i64_w, i32_w]
            rfl
           refine done_ (done_of HT_.out (by kernel_rfl)) ?_
           try go_wp2
           go_meet
           case rel => exact ⟨_, ((((rd_T70 x6_4 x8_2).f1) == a0_0)), (by first | rfl | (simp [*]; done)), H', ⟨by have := HJ4.out; have := HK2.out; first | omega | exact Nat.le_refl _⟩, ⟨by (with_reducible repeat (first | apply ra_ | apply rn_ | apply rd_)); exact HO_5.out⟩, ⟨by (with_reducible repeat (first | apply ra_ | apply rn_ | apply rd_)); exact HO_6.out⟩, ⟨by (with_reducible repeat (first | apply kn_ | apply kd_ | apply ka_)); exact BK224.out⟩, ⟨by repeat (first | exact HB.out | apply ba_ | apply bn_ | apply bd_ | refine bs_ ?_ GE224.out)⟩⟩
          ·replace c21 := bf_.mpr c21
           subst c21
           rw [if_neg (show ¬ (false = true) by decide)] at H
           have H' := A0_ H
           clear H
           try go_wp2
           have n0_ := A0_ (rd_ HO_5.out)
           have n1_ := A0_ (rd_ HO_6.out)
           have n2_ := A0_ (kd_ BK224.out)
           have n3_ := A0_ (bd_ HB.out)
           clear HO_5
           clear HO_6
           clear BK224
           clear HB
           have HO_5 := n0_
           have HO_6 := n1_
           have BK224 := n2_
           have HB := n3_
           clear n0_ n1_ n2_ n3_
           refine start_ (n := 12) (S := fun w' => w'.cell? ⟨gb224, 0, none⟩ = some (.int .i64 a0_0) ∧ w'.cell? ⟨gb224, 1, none⟩ = some (.bool false) ∧ w'.cell? ⟨gb224, 2, none⟩ = some (.slice A0_2 l0_2.length c0_2)) (ds := []) #[false, false, false, false, false, false, false, false, false, false, false, false] (by kernel_rfl) rfl rfl ⟨(kc_ BK224.out 0).trans rfl, (kc_ BK224.out 1).trans rfl, (kc_ BK224.out 2).trans rfl⟩ (fun hHeld => ?_); refine with_tabW spec_l11Number.tab9 spec_l11Number.bits9 (fun HT_ HW_ => ?_)
           generalize wr.drew = w23 at HO_5 HO_6 BK224 HB hHeld ⊢
           refine pure_ (i := 0) (N := some 33) (v := ?_) (a' := ?_) #[true, false, false, false, false, false, false, false, false, false, false, false] rfl rfl (any_of HT_.out (by kernel_rfl)) (fun _ _ _ h => h) (Or.inl ⟨by rfl, ?_⟩) ?_ ?_
           rotate_left
           ·intro w'
            go_simp
            with_reducible rfl
           rotate_left
           ·simp only [Act.put, sa_, sz_, ss_, i64_w, i32_w]
            rfl
           refine take_ (i := 1) (N := some 34) (v := ?_) (a' := ?_) #[true, true, false, false, false, false, false, false, false, false, false, false] rfl rfl (take_ofW HT_.out HW_.out (by kernel_rfl)) (fun _ _ _ h => h) (Or.inl ⟨by rfl, ?_⟩) hHeld ?_ ?_
           rotate_left
           ·rintro w' ⟨s0, s1, s2⟩
            go_simp
            with_reducible rfl
           rotate_left
           ·simp only [Act.put, sa_, sz_, ss_, i64_w, i32_w]
            rfl
           refine pure_ (i := 2) (N := some 35) (v := ?_) (a' := ?_) #[true, true, true, false, false, false, false, false, false, false, false, false] rfl rfl (any_of HT_.out (by kernel_rfl)) (fun _ _ _ h => h) (Or.inl ⟨by rfl, ?_⟩) ?_ ?_
           rotate_left
           ·intro w'
            go_simp
            with_reducible rfl
           rotate_left
           ·simp only [Act.put, sa_, sz_, ss_, i64_w, i32_w]
            rfl
           refine pure_ (i := 3) (N := some 36) (v := undef) (a' := ?_) #[true, true, true, true, false, false, false, false, false, false, false, false] rfl rfl (any_of HT_.out (by kernel_rfl)) (fun _ _ _ h => h) (Or.inr ⟨by rfl, rfl⟩) ?_ ?_
           rotate_left
           ·simp only [Act.put, sa_, sz_, ss_, i64_w, i32_w]
            rfl
           refine pure_ (i := 4) (N := some 37) (v := undef) (a' := ?_) #[true, true, true, true, true, false, false, false, false, false, false, false] rfl rfl (any_of HT_.out (by kernel_rfl)) (fun _ _ _ h => h) (Or.inr ⟨by rfl, rfl⟩) ?_ ?_
           rotate_left
           ·simp only [Act.put, sa_, sz_, ss_, i64_w, i32_w]
            rfl
           refine pure_ (i := 5) (N := some 38) (v := undef) (a' := ?_) #[true, true, true, true, true, true, false, false, false, false, false, false] rfl rfl (any_of HT_.out (by kernel_rfl)) (fun _ _ _ h => h) (Or.inr ⟨by rfl, rfl⟩) ?_ ?_
           rotate_left
           ·simp only [Act.put, sa_, sz_, ss_, i64_w, i32_w]
            rfl
           refine pure_ (i := 6) (N := some 39) (v := undef) (a' := ?_) #[true, true, true, true, true, true, true, false, false, false, false, false] rfl rfl (any_of HT_.out (by kernel_rfl)) (fun _ _ _ h => h) (Or.inr ⟨by rfl, rfl⟩) ?_ ?_
           rotate_left
           ·simp only [Act.put, sa_, sz_, ss_, i64_w, i32_w]
            rfl
           refine pure_ (i := 7) (N := some 40) (v := undef) (a' := ?_) #[true, true, true, true, true, true, true, true, false, false, false, false] rfl rfl (any_of HT_.out (by kernel_rfl)) (fun _ _ _ h => h) (Or.inr ⟨by rfl, rfl⟩) ?_ ?_
           rotate_left
           ·simp only [Act.put, sa_, sz_, ss_, i64_w, i32_w]
            rfl
           refine pure_ (i := 8) (N := some 41) (v := undef) (a' := ?_) #[true, true, true, true, true, true, true, true, true, false, false, false] rfl rfl (any_of HT_.out (by kernel_rfl)) (fun _ _ _ h => h) (Or.inr ⟨by rfl, rfl⟩) ?_ ?_
           rotate_left
           ·simp only [Act.put, sa_, sz_, ss_, i64_w, i32_w]
            rfl
           refine pure_ (i := 9) (N := some 42) (v := undef) (a' := ?_) #[true, true, true, true, true, true, true, true, true, true, false, false] rfl rfl (any_of HT_.out (by kernel_rfl)) (fun _ _ _ h => h) (Or.inr ⟨by rfl, rfl⟩) ?_ ?_
           rotate_left
           ·simp only [Act.put, sa_, sz_, ss_, i64_w, i32_w]
            rfl
           refine pure_ (i := 10) (N := some 43) (v := undef) (a' := ?_) #[true, true, true, true, true, true, true, true, true, true, true, false] rfl rfl (any_of HT_.out (by kernel_rfl)) (fun _ _ _ h => h) (Or.inr ⟨by rfl, rfl⟩) ?_ ?_
           rotate_left
           ·simp only [Act.put, sa_, sz_, ss_, i64_w, i32_w]
            rfl
           refine pure_ (i := 11) (N := some 44) (v := ?_) (a' := ?_) #[true, true, true, true, true, true, true, true, true, true, true, true] rfl rfl (any_of HT_.out (by kernel_rfl)) (fun _ _ _ h => h) (Or.inl ⟨by rfl, ?_⟩) ?_ ?_
           rotate_left
           ·intro w'
            go_simp
            with_reducible rfl
           rotate_left
           ·simp only [Act.put, sa_, sz_, ss_, i64_w, i32_w]
            rfl
           refine done_ (done_of HT_.out (by kernel_rfl)) ?_
           try go_wp2
           go_meet
           case rel => exact ⟨_, (false), (by first | rfl | (simp [*]; done)), H', ⟨by have := HJ4.out; have := HK2.out; first | omega | exact Nat.le_refl _⟩, ⟨by (with_reducible repeat (first | apply ra_ | apply rn_ | apply rd_)); exact HO_5.out⟩, ⟨by (with_reducible repeat (first | apply ra_ | apply rn_ | apply rd_)); exact HO_6.out⟩, ⟨by (with_reducible repeat (first | apply kn_ | apply kd_ | apply ka_)); exact BK224.out⟩, ⟨by repeat (first | exact HB.out | apply ba_ | apply bn_ | apply bd_ | refine bs_ ?_ GE224.out)⟩⟩
         case rest =>
          clear HC18
          try clear c1
          try clear c2
          try clear p2
          try clear q2
          try clear hx2
          try clear c4
          try clear c5
          try clear c6
          try clear c10
          try clear c10b0
          try clear c10b1
          try clear c14
          try clear c14b0
          try clear c15
          try clear c15b0
          try clear c16
          try clear c16b0
          try clear c17
          try clear c17b0
          try clear c21
          try clear p23
          try clear q23
          try clear hx23
          try clear hcz12_0
          try clear hcz12_1
          try clear hcz12_2
          try clear hx234_0
          try clear hx234_1
          try clear hx235_0
          try clear hx236_0
          try clear hx236_1
          try clear p2
          try clear p234
          try clear p235
          try clear p236
          try clear q234
          try clear q235
          try clear q236
          obtain ⟨kq, x44_17, rfl, HA, HJ17, HO_5, HO_6, BK224, HB⟩ := hcut
          cases kq with
          | zero => exact absurd HA.out (by simp [spec_l11Number.j2])
          | succ kj17 =>
           have H := HA.out
           clear HA
           simp only [spec_l11Number.j2] at H
           by_cases c24 : x44_17 = true
           ·subst c24
            rw [if_pos rfl] at H
            by_cases c25 : a1 = 2
            ·rw [if_pos c25] at H
             have c25b0 : (a1 == 2) = true := beq_iff_eq.mpr c25
             have c25b1 : (a1 != 2) = false := bne_eq_false_iff_eq.mpr c25
             clear c25
             obtain ⟨ji26, hji26⟩ : ∃ j_ : Int, (wrap64 (a0_0 - 2)) = j_ := ⟨_, rfl⟩
             replace H : (if 0 ≤ (ji26) then (if (ji26) < (t225.length : Int) then ((spec_l11Least.f kj17 (([rd t225 (ji26)] : List Int))).bind fun t241 => (spec_l11Number.l0 kj17 a1 t225 x6_4 (Go.bits .xor .i64 x7_2 t241) (wrap64 (x8_2 + 1)) a0_0 a0_1 l0_2)) else (none)) else (none)) = some r := by first | (rw [hji26] at H; exact H) | (simp only [hji26] at H ⊢; exact H)
             have hji26w : (IntKind.i64.wrap (a0_0 - 2)) = ji26 := (i64_w _).trans hji26
             by_cases c27 : 0 ≤ (ji26)
             ·rw [if_pos c27] at H
              have c27b0 : decide (0 ≤ (ji26)) = true := dt_ c27
              clear c27
              by_cases c28 : (ji26) < (t225.length : Int)
              ·rw [if_pos c28] at H
               have c28b0 : decide ((ji26) < (t225.length : Int)) = true := dt_ c28
               clear c28
               obtain ⟨y238, hy238⟩ : ∃ y_ : List Int, y_ = (([rd t225 (ji26)] : List Int)) := ⟨_, rfl⟩
               replace H : ((spec_l11Least.f kj17 y238).bind fun t241 => (spec_l11Number.l0 kj17 a1 t225 x6_4 (Go.bits .xor .i64 x7_2 t241) (wrap64 (x8_2 + 1)) a0_0 a0_1 l0_2)) = some r := by first | (rw [hy238]; with_reducible exact H) | (have H2_ := (Option.bind_some _ _).symm.trans H; rw [hy238]; with_reducible exact H2_) | (have H2_ := (Option.bind_some _ _).symm.trans H; with_reducible exact H2_) | with_reducible exact H | (rw [hy238]; exact H) | exact H
               have Ny238 := A0_ hy238
               clear hy238
               replace H := ob_.mp H
               obtain ⟨t241, A290, H⟩ := H
               have A29 := A0_ A290
               clear A290
               have H' := A0_ H
               clear H
               have hcz30_0 : wc.cell? ⟨gb224, 0, none⟩ = some (.int .i64 a0_0) := (kc_ BK224.out 0).trans rfl
               have hcz30_1 : wc.cell? ⟨gb224, 1, none⟩ = some (.bool a0_1) := (kc_ BK224.out 1).trans rfl
               have hcz30_2 : wc.cell? ⟨gb224, 2, none⟩ = some (.slice A0_2 l0_2.length c0_2) := (kc_ BK224.out 2).trans rfl
               have p237 : 0 ≤ ((ji26) : Int) := od_ (by first | (with_reducible assumption) | assumption)
               have q237 : (ji26) < (t225.length : Int) := od_ (by first | (with_reducible assumption) | assumption)
               obtain ⟨ad237, e237, hx237_0⟩ := Kd.at_int (rr_ HO_5.out).2.2 (ji26) p237 q237
               obtain rfl : ad235 = ad237 := (by injection e237)
               replace p237 := eq_true p237
               replace q237 := eq_true q237
               go_wp2_with (first | ((with_reducible refine gd_ (N := 54) rfl ?_); refine Kd.R_lit (Kd.int .i64) _ 3 ?hg (N := 54) ?hd (xs := ([rd t225 (ji26)] : List Int)) (inner := [.int .i64 (rd t225 (ji26))]) (ok := fun _ => True) (okp := fun _ => True) ?hr ?hp (fun _ hk => hk) trivial (Below.refl _ _) (Nat.le_refl _) (by simp) ?_; (case hd => rfl); (case hg => rfl); (case hr => go_simp; first | done | rfl); (case hp => exact (Reps.one (show Kd.M (Kd.int .i64) _ _ _ (rd t225 (ji26)) [.int .i64 (rd t225 (ji26))] from rfl) (Reps.none _ _))); intro v239 w31 ho32 hb hg_ hnew_; clear hg_ hnew_; (first | rw [← Ny238.out] at ho32 | (simp only [Int.reduceToNat] at ho32; rw [← Ny238.out] at ho32)); have n0_ := A0_ (Kd.R_elder' (by (with_reducible repeat (first | apply ra_ | apply rn_ | apply rd_)); exact HO_5.out) (Kd.R_base ho32) hb); have n1_ := A0_ (Kd.R_below (by (with_reducible repeat (first | apply ra_ | apply rn_ | apply rd_)); exact HO_6.out) hb); have n2_ := A0_ (Kd.R_lower (Kd.R_new' ho32 (Kd.R_lt (by (with_reducible repeat (first | apply ra_ | apply rn_ | apply rd_)); exact HO_5.out))) (bz_ (by repeat (first | exact HB.out | apply ba_ | apply bn_ | apply bd_ | refine bs_ ?_ GE224.out)))); have n3_ := A0_ (kb_ (g := gb224) (o := .cells #[.int .i64 a0_0, .bool a0_1, .slice A0_2 l0_2.length c0_2] 32 (0, 0)) (by (with_reducible repeat (first | apply kn_ | apply kd_ | apply ka_)); exact BK224.out) hb); have n4_ := A0_ (bt_ (by repeat (first | exact HB.out | apply ba_ | apply bn_ | apply bd_ | refine bs_ ?_ GE224.out)) hb); clear HO_5 HO_6 BK224 HB; have HO_5 := n0_; have HO_6 := n1_; have HO240 := n2_; have BK224 := n3_; have HB := n4_; clear n0_ n1_ n2_ n3_ n4_ hb ho32; obtain ⟨Ao33, co33, eo33⟩ := Kd.R_slice HO240.out; subst eo33) | ((with_reducible refine gc_ (f := 72) rfl ?_); refine goesL_ (some 55) rfl rfl Try.func72 (by kernel_rfl) rfl #[.slice Ao33 y238.length co33] rfl (by (try simp only [ma_, mc_, mn_]); first | done | rfl | (simp only [ld_, lt_]; rfl)) ?_; (with_reducible refine (spec_l11Least.calls kj17 _ _ y238 t241 _ ?side1 ?side2 A29.out).mono ?_); (case side1 => repeat (first | exact (rr_ HO240.out).2.2 | (with_reducible refine ca_ ?_ _) | (with_reducible refine cn_ ?_ _) | (with_reducible refine cd_ ?_))); (case side2 => exact (rr_ HO240.out).2.1); rintro e w' ⟨rfl, ⟨nd, rfl⟩⟩; refine ⟨_, rfl, ?_⟩))
               go_roundg kj17
               case measure => have := HJ4.out; have := HK2.out; have := HJ17.out; omega
               case rel => exact ⟨(Go.bits .xor .i64 x7_2 t241), (wrap64 (x8_2 + 1)), (by first | rfl | (simp [*]; done)), (by first | rfl | (simp [*]; done)), H', ⟨by have := HJ4.out; have := HK2.out; have := HJ17.out; omega⟩, ⟨by (with_reducible repeat (first | apply ra_ | apply rn_ | apply rd_)); exact Kd.R_mono HO_5.out (fun _ hk => trivial)⟩, ⟨by (with_reducible repeat (first | apply ra_ | apply rn_ | apply rd_)); exact HO_6.out⟩, ⟨by (with_reducible repeat (first | apply kn_ | apply kd_ | apply ka_)); exact BK224.out⟩, ⟨by repeat (first | exact HB.out | apply ba_ | apply bn_ | apply bd_ | refine bs_ ?_ GE224.out)⟩⟩
              ·rw [if_neg c28] at H
               exact absurd H (by simp)
             ·rw [if_neg c27] at H
              exact absurd H (by simp)
            ·rw [if_neg c25] at H
             have c25b0 : (a1 == 2) = false := beq_eq_false_iff_ne.mpr c25
             have c25b1 : (a1 != 2) = true := bne_iff_ne.mpr c25
             obtain ⟨ji34, hji34⟩ : ∃ j_ : Int, (wrap64 (a0_0 - 3)) = j_ := ⟨_, rfl⟩
             replace H : (if 0 ≤ (ji34) then (if (ji34) < (t225.length : Int) then ((spec_l11Least.f kj17 (([rd t225 (ji34)] : List Int))).bind fun t246 => (spec_l11Number.l0 kj17 a1 t225 x6_4 (Go.bits .xor .i64 x7_2 t246) (wrap64 (x8_2 + 1)) a0_0 a0_1 l0_2)) else (none)) else (none)) = some r := by first | (rw [hji34] at H; exact H) | (simp only [hji34] at H ⊢; exact H)
             have hji34w : (IntKind.i64.wrap (a0_0 - 3)) = ji34 := (i64_w _).trans hji34
             by_cases c35 : 0 ≤ (ji34)
             ·rw [if_pos c35] at H
              have c35b0 : decide (0 ≤ (ji34)) = true := dt_ c35
              clear c35
              by_cases c36 : (ji34) < (t225.length : Int)
              ·rw [if_pos c36] at H
               have c36b0 : decide ((ji34) < (t225.length : Int)) = true := dt_ c36
               clear c36
               obtain ⟨y243, hy243⟩ : ∃ y_ : List Int, y_ = (([rd t225 (ji34)] : List Int)) := ⟨_, rfl⟩
               replace H : ((spec_l11Least.f kj17 y243).bind fun t246 => (spec_l11Number.l0 kj17 a1 t225 x6_4 (Go.bits .xor .i64 x7_2 t246) (wrap64 (x8_2 + 1)) a0_0 a0_1 l0_2)) = some r := by first | (rw [hy243]; with_reducible exact H) | (have H2_ := (Option.bind_some _ _).symm.trans H; rw [hy243]; with_reducible exact H2_) | (have H2_ := (Option.bind_some _ _).symm.trans H; with_reducible exact H2_) | with_reducible exact H | (rw [hy243]; exact H) | exact H
               have Ny243 := A0_ hy243
               clear hy243
               replace H := ob_.mp H
               obtain ⟨t246, A370, H⟩ := H
               have A37 := A0_ A370
               clear A370
               have H' := A0_ H
               clear H
               have hcz38_0 : wc.cell? ⟨gb224, 0, none⟩ = some (.int .i64 a0_0) := (kc_ BK224.out 0).trans rfl
               have hcz38_1 : wc.cell? ⟨gb224, 1, none⟩ = some (.bool a0_1) := (kc_ BK224.out 1).trans rfl
               have hcz38_2 : wc.cell? ⟨gb224, 2, none⟩ = some (.slice A0_2 l0_2.length c0_2) := (kc_ BK224.out 2).trans rfl
               have p242 : 0 ≤ ((ji34) : Int) := od_ (by first | (with_reducible assumption) | assumption)
               have q242 : (ji34) < (t225.length : Int) := od_ (by first | (with_reducible assumption) | assumption)
               obtain ⟨ad242, e242, hx242_0⟩ := Kd.at_int (rr_ HO_5.out).2.2 (ji34) p242 q242
               obtain rfl : ad235 = ad242 := (by injection e242)
               replace p242 := eq_true p242
               replace q242 := eq_true q242
               go_wp2_with (first | ((with_reducible refine gd_ (N := 54) rfl ?_); refine Kd.R_lit (Kd.int .i64) _ 3 ?hg (N := 54) ?hd (xs := ([rd t225 (ji34)] : List Int)) (inner := [.int .i64 (rd t225 (ji34))]) (ok := fun _ => True) (okp := fun _ => True) ?hr ?hp (fun _ hk => hk) trivial (Below.refl _ _) (Nat.le_refl _) (by simp) ?_; (case hd => rfl); (case hg => rfl); (case hr => go_simp; first | done | rfl); (case hp => exact (Reps.one (show Kd.M (Kd.int .i64) _ _ _ (rd t225 (ji34)) [.int .i64 (rd t225 (ji34))] from rfl) (Reps.none _ _))); intro v244 w39 ho40 hb hg_ hnew_; clear hg_ hnew_; (first | rw [← Ny243.out] at ho40 | (simp only [Int.reduceToNat] at ho40; rw [← Ny243.out] at ho40)); have n0_ := A0_ (Kd.R_elder' (by (with_reducible repeat (first | apply ra_ | apply rn_ | apply rd_)); exact HO_5.out) (Kd.R_base ho40) hb); have n1_ := A0_ (Kd.R_below (by (with_reducible repeat (first | apply ra_ | apply rn_ | apply rd_)); exact HO_6.out) hb); have n2_ := A0_ (Kd.R_lower (Kd.R_new' ho40 (Kd.R_lt (by (with_reducible repeat (first | apply ra_ | apply rn_ | apply rd_)); exact HO_5.out))) (bz_ (by repeat (first | exact HB.out | apply ba_ | apply bn_ | apply bd_ | refine bs_ ?_ GE224.out)))); have n3_ := A0_ (kb_ (g := gb224) (o := .cells #[.int .i64 a0_0, .bool a0_1, .slice A0_2 l0_2.length c0_2] 32 (0, 0)) (by (with_reducible repeat (first | apply kn_ | apply kd_ | apply ka_)); exact BK224.out) hb); have n4_ := A0_ (bt_ (by repeat (first | exact HB.out | apply ba_ | apply bn_ | apply bd_ | refine bs_ ?_ GE224.out)) hb); clear HO_5 HO_6 BK224 HB; have HO_5 := n0_; have HO_6 := n1_; have HO245 := n2_; have BK224 := n3_; have HB := n4_; clear n0_ n1_ n2_ n3_ n4_ hb ho40; obtain ⟨Ao41, co41, eo41⟩ := Kd.R_slice HO245.out; subst eo41) | ((with_reducible refine gc_ (f := 72) rfl ?_); refine goesL_ (some 55) rfl rfl Try.func72 (by kernel_rfl) rfl #[.slice Ao41 y243.length co41] rfl (by (try simp only [ma_, mc_, mn_]); first | done | rfl | (simp only [ld_, lt_]; rfl)) ?_; (with_reducible refine (spec_l11Least.calls kj17 _ _ y243 t246 _ ?side1 ?side2 A37.out).mono ?_); (case side1 => repeat (first | exact (rr_ HO245.out).2.2 | (with_reducible refine ca_ ?_ _) | (with_reducible refine cn_ ?_ _) | (with_reducible refine cd_ ?_))); (case side2 => exact (rr_ HO245.out).2.1); rintro e w' ⟨rfl, ⟨nd, rfl⟩⟩; refine ⟨_, rfl, ?_⟩))
               go_roundg kj17
               case measure => have := HJ4.out; have := HK2.out; have := HJ17.out; omega
               case rel => exact ⟨(Go.bits .xor .i64 x7_2 t246), (wrap64 (x8_2 + 1)), (by first | rfl | (simp [*]; done)), (by first | rfl | (simp [*]; done)), H', ⟨by have := HJ4.out; have := HK2.out; have := HJ17.out; omega⟩, ⟨by (with_reducible repeat (first | apply ra_ | apply rn_ | apply rd_)); exact Kd.R_mono HO_5.out (fun _ hk => trivial)⟩, ⟨by (with_reducible repeat (first | apply ra_ | apply rn_ | apply rd_)); exact HO_6.out⟩, ⟨by (with_reducible repeat (first | apply kn_ | apply kd_ | apply ka_)); exact BK224.out⟩, ⟨by repeat (first | exact HB.out | apply ba_ | apply bn_ | apply bd_ | refine bs_ ?_ GE224.out)⟩⟩
              ·rw [if_neg c36] at H
               exact absurd H (by simp)
             ·rw [if_neg c35] at H
              exact absurd H (by simp)
           ·replace c24 := bf_.mpr c24
            subst c24
            rw [if_neg (show ¬ (false = true) by decide)] at H
            have H' := A0_ H
            clear H
            go_wp2
            go_roundg kj17
            case measure => have := HJ4.out; have := HK2.out; have := HJ17.out; omega
            case rel => exact ⟨(Go.bits .xor .i64 x7_2 (rd t225 ((rd_T70 x6_4 x8_2).f1))), (wrap64 (x8_2 + 1)), (by first | rfl | (simp [*]; done)), (by first | rfl | (simp [*]; done)), H', ⟨by have := HJ4.out; have := HK2.out; have := HJ17.out; omega⟩, ⟨by (with_reducible repeat (first | apply ra_ | apply rn_ | apply rd_)); exact HO_5.out⟩, ⟨by (with_reducible repeat (first | apply ra_ | apply rn_ | apply rd_)); exact HO_6.out⟩, ⟨by (with_reducible repeat (first | apply kn_ | apply kd_ | apply ka_)); exact BK224.out⟩, ⟨by repeat (first | exact HB.out | apply ba_ | apply bn_ | apply bd_ | refine bs_ ?_ GE224.out)⟩⟩
        ·rw [if_neg c17] at H
         exact absurd H (by simp)
       ·rw [if_neg c16] at H
        exact absurd H (by simp)
      ·rw [if_neg c15] at H
       exact absurd H (by simp)
     ·rw [if_neg c14] at H
      have c14b0 : decide (x8_2 < (x6_4.length : Int)) = false := decide_eq_false c14
      clear c14
      obtain rfl := si_ H
      obtain ⟨Ao42, co42, eo42⟩ := Kd.R_slice HO_6.out
      subst eo42
      go_wp2
      go_ret
      exact ⟨by first | rfl | (simp [*, errW_none, errW_some] <;> rfl), by repeat (first | exact HB.out | apply ba_ | apply bn_ | apply bd_ | refine bs_ ?_ GE224.out)⟩

end Go.Proofs.Ytgcgmlbjklkkjaa.QFnExactBestPlay
-- squeezed
