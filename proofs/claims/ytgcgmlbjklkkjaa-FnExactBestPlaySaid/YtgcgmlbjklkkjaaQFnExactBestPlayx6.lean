-- Written by px.py, a program of this session, over the kit's printer: some functions have a definition and a proof of this session's own.
import Derived.Test.YtgcgmlbjklkkjaaQFnExactBestPlayx0
import Derived.Test.YtgcgmlbjklkkjaaQFnExactBestPlayx2
import Derived.Test.YtgcgmlbjklkkjaaQFnExactBestPlayx3
import Derived.Test.YtgcgmlbjklkkjaaQFnExactBestPlayx5
namespace Go.Proofs.Ytgcgmlbjklkkjaa.QFnExactBestPlay
open Go.RowKit Go.Proofs.YtgcgmlbjklkkjaaW.PrintWords Go.Proofs.YtgcgmlbjklkkjaaW.PrintLast Go.Proofs.YtgcgmlbjklkkjaaW.PrintMore
attribute [local go_sem] max2_int min2_int max_two min_two max_three min_three max_four min_four   -- for this text's walks alone
set_option linter.unusedVariables false
set_option linter.unusedSimpArgs false
set_option maxHeartbeats 8000000
set_option maxRecDepth 100000

def spec_l2Made.f (a0_0 : Int) (a0_1 : Bool) (l0_2 : List Int) (l1 : List Int) : Option (Int × Bool × List Int) := some (a0_0, a0_1, l1)
theorem spec_l2Made.calls (a0_0 : Int) (a0_1 : Bool) (A0_2 : Option Addr) (c0_2 : Nat) (l0_2 : List Int) (P1_ : Nat → Prop) (u9000_ : Value) (l1 : List Int) (r1 : Int) (r2 : Bool) (r3 : List Int) (w0 w : World) (hB : Below w0.heap.size w0 w) (hr0_2 : ∀ W_, Kept w W_ (fun k_ => P1_ k_) → Kd.C (Kd.int .i64) W_ A0_2 l0_2.length l0_2) (hc0_2 : l0_2.length ≤ c0_2) (ho1 : Kd.R (Kd.int .i64) 3 w w0.heap.size P1_ u9000_ l1) (h : spec_l2Made.f a0_0 a0_1 l0_2 l1 = some (r1, r2, r3)) :
  Calls Try.prog 80 #[.agg #[.int .i64 a0_0, .bool a0_1, .slice A0_2 l0_2.length c0_2], u9000_] w fun e w' => ∃ v2_ : Value, e = .returned (.agg #[.int .i64 r1, .bool r2, v2_]) ∧ Kd.R (Kd.int .i64) 3 w' w0.heap.size (fun k_ => (P1_ k_ ∨ w.heap.size ≤ k_)) v2_ r3 ∧ Below w0.heap.size w0 w' ∧ Kept w w' (fun k_ => P1_ k_) := by
 have hu32 := Try.underlying32
 have HR0_2 := A0_ hr0_2
 have HC0_2 := A0_ hc0_2
 clear hr0_2 hc0_2
 have HO1 := A0_ (show Kd.R (Kd.int .i64) 3 w w0.heap.size (fun k_ => (P1_ k_ ∨ w.heap.size ≤ k_)) u9000_ l1 from Kd.R_mono ho1 (fun k_ hk => (.inl hk)))
 have HK := A0_ (Kept.refl w (fun k_ => P1_ k_))
 have HW0 := A0_ hB.size
 have HB := A0_ hB
 clear hB
 have H : (some (a0_0, a0_1, l1)) = some (r1, r2, r3) := h
 clear h
 simp only [sj_, pj_] at H
 obtain ⟨rfl, rfl, rfl⟩ := H
 go_enter Try.func80, Try.ntmps80
 go_wp2_with (first | ((with_reducible refine gd_ (N := 2) rfl ?_); refine be_ ?hg (N := 2) ?hd (cs := #[.int .i64 a0_0, .bool a0_1, .slice A0_2 l0_2.length c0_2]) (t := 32) ?hr ?_; (case hd => rfl); (case hg => rfl); (case hr => go_simp; first | done | rfl); intro gb203 hg w3 hbox hb; have n0_ := A0_ (Kd.R_below (by (with_reducible repeat (first | apply ra_ | apply rn_ | apply rd_)); exact HO1.out) hb); have n1_ := A0_ (Kept.below (S := (fun k_ => P1_ k_)) (by repeat (first | exact HK.out | apply Kept.alloc | apply Kept.drewN | apply Kept.drew)) hb); have n2_ := A0_ (bt_ (by repeat (first | exact HB.out | apply ba_ | apply bn_ | apply bd_)) hb); have n3_ := A0_ (hbox); have n4_ := A0_ ((by rw [hg]; exact (by first | exact HK.out.1 | exact (show Kept w _ (fun k_ => P1_ k_) from by repeat (first | exact HK.out | apply Kept.alloc | apply Kept.drewN | apply Kept.drew)).1) : w.heap.size ≤ gb203)); have n5_ := A0_ ((by rw [hg]; exact (bz_ (by repeat (first | exact HB.out | apply ba_ | apply bn_ | apply bd_))) : w0.heap.size ≤ gb203)); clear HO1 HK HB; have HO1 := n0_; have HK := n1_; have HB := n2_; have BK203 := n3_; have GW203 := n4_; have GE203 := n5_; clear n0_ n1_ n2_ n3_ n4_ n5_ hb hbox hg) | ((with_reducible refine gd_ (N := 4) rfl ?_); refine be_ ?hg (N := 4) ?hd (cs := #[.int .i64 0, .bool false, .slice none 0 0]) (t := 32) ?hr ?_; (case hd => rfl); (case hg => rfl); (case hr => go_simp; first | done | rfl); intro gb204 hg w4 hbox hb; have n0_ := A0_ (Kd.R_below (by (with_reducible repeat (first | apply ra_ | apply rn_ | apply rd_)); exact HO1.out) hb); have n1_ := A0_ (kb_ (g := gb203) (o := .cells #[.int .i64 a0_0, .bool a0_1, .slice A0_2 l0_2.length c0_2] 32 (0, 0)) (by (with_reducible repeat (first | apply kn_ | apply kd_ | apply ka_)); exact BK203.out) hb); have n2_ := A0_ (Kept.below (S := (fun k_ => P1_ k_)) (by repeat (first | exact HK.out | apply Kept.alloc | apply Kept.drewN | apply Kept.drew | refine Kept.setCell ?_ (.inr GW203.out) _)) hb); have n3_ := A0_ (bt_ (by repeat (first | exact HB.out | apply ba_ | apply bn_ | apply bd_ | refine bs_ ?_ GE203.out)) hb); have n4_ := A0_ (hbox); have n5_ := A0_ ((by rw [hg]; exact (by first | exact HK.out.1 | exact (show Kept w _ (fun k_ => P1_ k_) from by repeat (first | exact HK.out | apply Kept.alloc | apply Kept.drewN | apply Kept.drew | refine Kept.setCell ?_ (.inr GW203.out) _)).1) : w.heap.size ≤ gb204)); have n6_ := A0_ ((by rw [hg]; exact (bz_ (by repeat (first | exact HB.out | apply ba_ | apply bn_ | apply bd_ | refine bs_ ?_ GE203.out))) : w0.heap.size ≤ gb204)); have n7_ := A0_ ((by rw [hg]; exact Nat.ne_of_lt (blk_lt (g := gb203) (o := .cells #[.int .i64 a0_0, .bool a0_1, .slice A0_2 l0_2.length c0_2] 32 (0, 0)) (by (with_reducible repeat (first | apply kn_ | apply kd_ | apply ka_)); exact BK203.out)) : gb203 ≠ gb204)); have n8_ := A0_ ((by rw [hg]; exact Nat.ne_of_gt (blk_lt (g := gb203) (o := .cells #[.int .i64 a0_0, .bool a0_1, .slice A0_2 l0_2.length c0_2] 32 (0, 0)) (by (with_reducible repeat (first | apply kn_ | apply kd_ | apply ka_)); exact BK203.out)) : gb204 ≠ gb203)); clear HO1 BK203 HK HB; have HO1 := n0_; have BK203 := n1_; have HK := n2_; have HB := n3_; have BK204 := n4_; have GW204 := n5_; have GE204 := n6_; have NB203_204 := n7_; have NB204_203 := n8_; clear n0_ n1_ n2_ n3_ n4_ n5_ n6_ n7_ n8_ hb hbox hg; have hnb5 := NB203_204.out; have hnc5 := NB204_203.out; have hcz6_0 : w4.cell? ⟨gb203, 0, none⟩ = some (.int .i64 a0_0) := (kc_ BK203.out 0).trans rfl; have hcz6_1 : w4.cell? ⟨gb203, 1, none⟩ = some (.bool a0_1) := (kc_ BK203.out 1).trans rfl; have hcz6_2 : w4.cell? ⟨gb203, 2, none⟩ = some (.slice A0_2 l0_2.length c0_2) := (kc_ BK203.out 2).trans rfl; have hfz6_0 := kf_ BK203.out 0; have hfz6_1 := kf_ BK203.out 1; have hfz6_2 := kf_ BK203.out 2; obtain ⟨Ao7, co7, eo7⟩ := Kd.R_slice HO1.out; subst eo7; have hcz8_0 : w4.cell? ⟨gb204, 0, none⟩ = some (.int .i64 0) := (kc_ BK204.out 0).trans rfl; have hcz8_1 : w4.cell? ⟨gb204, 1, none⟩ = some (.bool false) := (kc_ BK204.out 1).trans rfl; have hcz8_2 : w4.cell? ⟨gb204, 2, none⟩ = some (.slice none 0 0) := (kc_ BK204.out 2).trans rfl; have hfz8_0 := kf_ BK204.out 0; have hfz8_1 := kf_ BK204.out 1; have hfz8_2 := kf_ BK204.out 2))
 refine bodyPost_ret (results_cell_row rfl _ _ gb204 32 #[.int .i64 a0_0, .bool a0_1, .slice Ao7 l1.length co7] (0, 0) _ rfl (by (with_reducible repeat (first | apply kn_ | apply kd_ | apply ka_)); refine blk_put (cs := #[.int .i64 a0_0, .bool a0_1, .slice none 0 0]) ?_ 2 _ rfl; (with_reducible repeat (first | apply kn_ | apply kd_ | apply ka_)); refine blk_put (cs := #[.int .i64 a0_0, .bool false, .slice none 0 0]) ?_ 1 _ rfl; (with_reducible repeat (first | apply kn_ | apply kd_ | apply ka_)); refine blk_put (cs := #[.int .i64 0, .bool false, .slice none 0 0]) ?_ 0 _ rfl; (with_reducible repeat (first | apply kn_ | apply kd_ | apply ka_)); exact BK204.out) Try.underlying32 rfl (by kernel_rfl)) rfl ?_
 exact ⟨_, by first | rfl | (simp [*, errW_none, errW_some] <;> rfl), by (with_reducible repeat (first | apply ra_ | apply rn_ | apply rd_)); exact Kd.R_mono (Kd.R_far (p := ⟨gb204, 2, none⟩) (Kd.R_far (p := ⟨gb204, 1, none⟩) (Kd.R_far (p := ⟨gb204, 0, none⟩) (Kd.R_types HO1.out BK204.out (by decide)) (fun _ hk => hk.2) (.int .i64 a0_0)) (fun _ hk => hk.2) (.bool a0_1)) (fun _ hk => hk.2) (.slice Ao7 l1.length co7)) (fun _ hk => hk.1), by repeat (first | exact HB.out | apply ba_ | apply bn_ | apply bd_ | refine bs_ ?_ GE203.out | refine bs_ ?_ GE204.out), by repeat (first | exact HK.out | apply Kept.alloc | apply Kept.drewN | apply Kept.drew | refine Kept.setCell ?_ (.inr GW203.out) _ | refine Kept.setCell ?_ (.inr GW204.out) _)⟩

def spec_l4Blocks.l0 : Nat → List Int → List Int → Int → Int → Bool → List Int → Option ((List (S70)))
 | 0, _, _, _, _, _, _ => none
 | k + 1, x3, x4, x5, x206000, x206001, x206002 => if x5 < x206000 then ((spec_l1Has.f k x4 x5).bind fun t212 => (if t212 = true then (spec_l4Blocks.l0 k x3 x4 (wrap64 (x5 + 1)) x206000 x206001 x206002) else (if x3.length < 17592186044416 then (spec_l4Blocks.l0 k (x3 ++ [x5]) x4 (wrap64 (x5 + 1)) x206000 x206001 x206002) else (none)))) else ((spec_l2Made.f x206000 x206001 x206002 x3).bind fun bt216 => ((spec_l2Runs.f k bt216.1 bt216.2.1 bt216.2.2).bind fun t221 => (some t221)))
def spec_l4Blocks.f (k : Nat) (a0_0 : Int) (a0_1 : Bool) (l0_2 : List Int) : Option ((List (S70))) := (spec_l2Lonely.f k a0_0 a0_1 l0_2).bind fun t209 => (spec_l4Blocks.l0 k (([] : List Int)) t209 0 a0_0 a0_1 l0_2)
theorem spec_l4Blocks.mono_l : ∀ k, (∀ y0 y1 y2 y3 y4 y5, LeO (spec_l4Blocks.l0 k y0 y1 y2 y3 y4 y5) (spec_l4Blocks.l0 (k + 1) y0 y1 y2 y3 y4 y5))
 | 0 => fun _ _ _ _ _ _ r h => by simp [spec_l4Blocks.l0] at h
 | k + 1 => by
  have ih0 := spec_l4Blocks.mono_l k
  ·intro y0 y1 y2 y3 y4 y5
   unfold spec_l4Blocks.l0
   repeat' first
   | (with_reducible exact ih0 _ _ _ _ _ _)
   | (with_reducible exact spec_l1Has.mono _ _ _)
   | (with_reducible exact spec_l2Lonely.mono _ _ _ _)
   | (with_reducible exact spec_l2Runs.mono _ _ _ _)
   | (with_reducible exact LeO.refl _)
   | (with_reducible exact LeO.none _)
   | (with_reducible refine LeO.ite ?_ ?_)
   | (with_reducible refine LeO.bind ?_ (fun _ => ?_))
theorem spec_l4Blocks.mono : ∀ a0 a1 a2 k, LeO (spec_l4Blocks.f k a0 a1 a2) (spec_l4Blocks.f (k + 1) a0 a1 a2) := by
 intro a0 a1 a2 k
 have ih0 := spec_l4Blocks.mono_l k
 unfold spec_l4Blocks.f
 repeat' first
   | (with_reducible exact ih0 _ _ _ _ _ _)
   | (with_reducible exact spec_l1Has.mono _ _ _)
   | (with_reducible exact spec_l2Lonely.mono _ _ _ _)
   | (with_reducible exact spec_l2Runs.mono _ _ _ _)
   | (with_reducible exact LeO.refl _)
   | (with_reducible exact LeO.none _)
   | (with_reducible refine LeO.ite ?_ ?_)
   | (with_reducible refine LeO.bind ?_ (fun _ => ?_))
theorem spec_l4Blocks.calls (k : Nat) (a0_0 : Int) (a0_1 : Bool) (A0_2 : Option Addr) (c0_2 : Nat) (l0_2 : List Int) (r : List (S70)) (w : World) (hr0_2 : Kd.C (Kd.int .i64) w A0_2 l0_2.length l0_2) (hc0_2 : l0_2.length ≤ c0_2) (h : spec_l4Blocks.f k a0_0 a0_1 l0_2 = some r) :
  Calls Try.prog 63 #[.agg #[.int .i64 a0_0, .bool a0_1, .slice A0_2 l0_2.length c0_2]] w fun e w' => ∃ v0_ : Value, e = .returned (v0_) ∧ Kd.R k70 70 w' w.heap.size (fun _ => True) v0_ r ∧ Below w.heap.size w w' := by
 have hu32 := Try.underlying32
 have HR0_2 := A0_ hr0_2
 have HC0_2 := A0_ hc0_2
 clear hr0_2 hc0_2
 have HB := A0_ (Below.refl w.heap.size w)
 have H : ((spec_l2Lonely.f k a0_0 a0_1 l0_2).bind fun t209 => (spec_l4Blocks.l0 k (([] : List Int)) t209 0 a0_0 a0_1 l0_2)) = some r := h
 clear h
 obtain ⟨y206, hy206⟩ : ∃ y_ : List Int, y_ = (([] : List Int)) := ⟨_, rfl⟩
 replace H : ((spec_l2Lonely.f k a0_0 a0_1 l0_2).bind fun t209 => (spec_l4Blocks.l0 k y206 t209 0 a0_0 a0_1 l0_2)) = some r := by first | (rw [hy206]; with_reducible exact H) | (have H2_ := (Option.bind_some _ _).symm.trans H; rw [hy206]; with_reducible exact H2_) | (have H2_ := (Option.bind_some _ _).symm.trans H; with_reducible exact H2_) | with_reducible exact H | (rw [hy206]; exact H) | exact H
 have Ny206 := A0_ hy206
 clear hy206
 replace H := ob_.mp H
 obtain ⟨t209, A20, H⟩ := H
 have A2 := A0_ A20
 clear A20
 have H' := A0_ H
 clear H
 go_enter Try.func63, Try.ntmps63
 go_wp2_with (first | ((with_reducible refine gd_ (N := 1) rfl ?_); refine be_ ?hg (N := 1) ?hd (cs := #[.int .i64 a0_0, .bool a0_1, .slice A0_2 l0_2.length c0_2]) (t := 32) ?hr ?_; (case hd => rfl); (case hg => rfl); (case hr => go_simp; first | done | rfl); intro gb205 hg w3 hbox hb; have n0_ := A0_ (bt_ (by repeat (first | exact HB.out | apply ba_ | apply bn_ | apply bd_)) hb); have n1_ := A0_ (hbox); have n2_ := A0_ ((by rw [hg]; exact (bz_ (by repeat (first | exact HB.out | apply ba_ | apply bn_ | apply bd_))) : w.heap.size ≤ gb205)); have n3_ := A0_ ((by rw [hg]; exact (bz_ (by repeat (first | exact HB.out | apply ba_ | apply bn_ | apply bd_))) : w.heap.size ≤ gb205)); clear HB; have HB := n0_; have BK205 := n1_; have GW205 := n2_; have GE205 := n3_; clear n0_ n1_ n2_ n3_ hb hbox hg) | ((with_reducible refine gd_ (N := 6) rfl ?_); refine Kd.R_lit (Kd.int .i64) _ 3 ?hg (N := 6) ?hd (xs := ([] : List Int)) (inner := []) (ok := fun _ => True) (okp := fun _ => True) ?hr ?hp (fun _ hk => hk) trivial (Below.refl _ _) (Nat.le_refl _) (by simp) ?_; (case hd => rfl); (case hg => rfl); (case hr => go_simp; first | done | rfl); (case hp => exact (Reps.none _ _)); intro v207 w4 ho5 hb hg_ hnew_; clear hg_ hnew_; (first | rw [← Ny206.out] at ho5 | (simp only [Int.reduceToNat] at ho5; rw [← Ny206.out] at ho5)); have n0_ := A0_ (Kd.R_lower ho5 (bz_ (by repeat (first | exact HB.out | apply ba_ | apply bn_ | apply bd_ | refine bs_ ?_ GE205.out)))); have n1_ := A0_ (kb_ (g := gb205) (o := .cells #[.int .i64 a0_0, .bool a0_1, .slice A0_2 l0_2.length c0_2] 32 (0, 0)) (by (with_reducible repeat (first | apply kn_ | apply kd_ | apply ka_)); exact BK205.out) hb); have n2_ := A0_ (bt_ (by repeat (first | exact HB.out | apply ba_ | apply bn_ | apply bd_ | refine bs_ ?_ GE205.out)) hb); clear BK205 HB; have HO208 := n0_; have BK205 := n1_; have HB := n2_; clear n0_ n1_ n2_ hb ho5; have hcz6_0 : w4.cell? ⟨gb205, 0, none⟩ = some (.int .i64 a0_0) := (kc_ BK205.out 0).trans rfl; have hcz6_1 : w4.cell? ⟨gb205, 1, none⟩ = some (.bool a0_1) := (kc_ BK205.out 1).trans rfl; have hcz6_2 : w4.cell? ⟨gb205, 2, none⟩ = some (.slice A0_2 l0_2.length c0_2) := (kc_ BK205.out 2).trans rfl) | ((with_reducible refine gc_ (f := 75) rfl ?_); refine goesL_ (some 8) rfl rfl Try.func75 (by kernel_rfl) rfl #[.agg #[.int .i64 a0_0, .bool a0_1, .slice A0_2 l0_2.length c0_2]] rfl (by (try simp only [ma_, mc_, mn_]); first | done | rfl | (simp only [ld_, lt_]; rfl)) ?_; (with_reducible refine (spec_l2Lonely.calls k a0_0 a0_1 _ _ l0_2 t209 _ ?side1 ?side2 A2.out).mono ?_); (case side1 => repeat (first | exact (cb_ HR0_2.out HB.out) | (with_reducible refine ca_ ?_ _) | (with_reducible refine cn_ ?_ _) | (with_reducible refine cd_ ?_))); (case side2 => exact HC0_2.out); rintro e w7 ⟨v210, rfl, ho0, hb⟩; refine ⟨_, rfl, ?_⟩; have n0_ := A0_ (Kd.R_elder' (by (with_reducible repeat (first | apply ra_ | apply rn_ | apply rd_)); exact HO208.out) (Kd.R_base ho0) hb); have n1_ := A0_ (Kd.R_lower (Kd.R_new' ho0 (Kd.R_lt (by (with_reducible repeat (first | apply ra_ | apply rn_ | apply rd_)); exact HO208.out))) (bz_ (by repeat (first | exact HB.out | apply ba_ | apply bn_ | apply bd_ | refine bs_ ?_ GE205.out)))); have n2_ := A0_ (kb_ (g := gb205) (o := .cells #[.int .i64 a0_0, .bool a0_1, .slice A0_2 l0_2.length c0_2] 32 (0, 0)) (by (with_reducible repeat (first | apply kn_ | apply kd_ | apply ka_)); exact BK205.out) hb); have n3_ := A0_ (bt_ (by repeat (first | exact HB.out | apply ba_ | apply bn_ | apply bd_ | refine bs_ ?_ GE205.out)) hb); clear HO208 BK205 HB; have HO208 := n0_; have HO211 := n1_; have BK205 := n2_; have HB := n3_; clear n0_ n1_ n2_ n3_; (try clear hb); (try clear ho0)))
 go_loopg [3, 5] k (fun kq v3 v5 w' => ∃ (x3_1 : List Int) (x5_1 : Int), v5 = .int .i64 x5_1 ∧ Aside0 (spec_l4Blocks.l0 kq x3_1 t209 x5_1 a0_0 a0_1 l0_2 = some r) ∧ Aside0 (kq ≤ k) ∧ Aside0 (Kd.R (Kd.int .i64) 3 w' w.heap.size (fun k_ => some k_ ≠ (v210 : Value).ownBlock) v3 x3_1) ∧ Aside0 (Kd.R (Kd.int .i64) 3 w' w.heap.size (fun k_ => some k_ ≠ (v3 : Value).ownBlock) v210 t209) ∧ Aside0 (w'.heap[gb205]? = some (.cells #[.int .i64 a0_0, .bool a0_1, (.slice A0_2 l0_2.length c0_2)] 32 (0, 0))) ∧ Aside0 (Below w.heap.size w w'))
 case atStart => exact ⟨(y206), (0), (by first | rfl | (simp [*]; done)), H', ⟨Nat.le_refl _⟩, ⟨by (with_reducible repeat (first | apply ra_ | apply rn_ | apply rd_)); exact Kd.R_mono HO208.out (fun _ hk => hk.2)⟩, ⟨by (with_reducible repeat (first | apply ra_ | apply rn_ | apply rd_)); exact Kd.R_mono HO211.out (fun _ hk => hk.2)⟩, ⟨by (with_reducible repeat (first | apply kn_ | apply kd_ | apply ka_)); exact BK205.out⟩, ⟨by repeat (first | exact HB.out | apply ba_ | apply bn_ | apply bd_ | refine bs_ ?_ GE205.out)⟩⟩
 case round =>
  clear H'
  try clear p2
  try clear c6
  try clear c7
  try clear hcz6_0
  try clear hcz6_1
  try clear hcz6_2
  obtain ⟨x3_1, x5_1, rfl, HA, HK1, HO_3, HO_4, BK205, HB⟩ := hrel
  cases gk with
  | zero => exact absurd HA.out (by simp [spec_l4Blocks.l0])
  | succ k1 =>
   have H := HA.out
   clear HA
   simp only [spec_l4Blocks.l0] at H
   by_cases c8 : x5_1 < a0_0
   ·rw [if_pos c8] at H
    have c8b0 : decide (x5_1 < a0_0) = true := dt_ c8
    clear c8
    replace H := ob_.mp H
    obtain ⟨t212, A90, H⟩ := H
    have A9 := A0_ A90
    clear A90
    by_cases c10 : t212 = true
    ·subst c10
     rw [if_pos rfl] at H
     have H' := A0_ H
     clear H
     have hcz11_0 : wr.cell? ⟨gb205, 0, none⟩ = some (.int .i64 a0_0) := (kc_ BK205.out 0).trans rfl
     have hcz11_1 : wr.cell? ⟨gb205, 1, none⟩ = some (.bool a0_1) := (kc_ BK205.out 1).trans rfl
     have hcz11_2 : wr.cell? ⟨gb205, 2, none⟩ = some (.slice A0_2 l0_2.length c0_2) := (kc_ BK205.out 2).trans rfl
     obtain ⟨Ao12, co12, eo12⟩ := Kd.R_slice HO_4.out
     subst eo12
     go_wp2_with (first | ((with_reducible refine gc_ (f := 81) rfl ?_); refine goesL_ (some 17) rfl rfl Try.func81 (by kernel_rfl) rfl #[.slice Ao12 t209.length co12, .int .i64 x5_1] rfl (by (try simp only [ma_, mc_, mn_]); first | done | rfl | (simp only [ld_, lt_]; rfl)) ?_; (with_reducible refine (spec_l1Has.calls k1 _ _ t209 x5_1 true _ ?side1 ?side2 A9.out).mono ?_); (case side1 => repeat (first | exact (rr_ HO_4.out).2.2 | (with_reducible refine ca_ ?_ _) | (with_reducible refine cn_ ?_ _) | (with_reducible refine cd_ ?_))); (case side2 => exact (rr_ HO_4.out).2.1); rintro e w' ⟨rfl, ⟨nd, rfl⟩⟩; refine ⟨_, rfl, ?_⟩))
     go_roundg k1
     case measure => have := HK1.out; omega
     case rel => exact ⟨(x3_1), (wrap64 (x5_1 + 1)), (by first | rfl | (simp [*]; done)), H', ⟨by have := HK1.out; omega⟩, ⟨by (with_reducible repeat (first | apply ra_ | apply rn_ | apply rd_)); exact HO_3.out⟩, ⟨by (with_reducible repeat (first | apply ra_ | apply rn_ | apply rd_)); exact HO_4.out⟩, ⟨by (with_reducible repeat (first | apply kn_ | apply kd_ | apply ka_)); exact BK205.out⟩, ⟨by repeat (first | exact HB.out | apply ba_ | apply bn_ | apply bd_ | refine bs_ ?_ GE205.out)⟩⟩
    ·replace c10 := bf_.mpr c10
     subst c10
     rw [if_neg (show ¬ (false = true) by decide)] at H
     by_cases c13 : x3_1.length < 17592186044416
     ·rw [if_pos c13] at H
      have LMc13 := A0_ c13
      clear c13
      obtain ⟨y213, hy213⟩ : ∃ y_ : List Int, y_ = (x3_1 ++ [x5_1]) := ⟨_, rfl⟩
      replace H : (spec_l4Blocks.l0 k1 y213 t209 (wrap64 (x5_1 + 1)) a0_0 a0_1 l0_2) = some r := by first | (rw [hy213]; with_reducible exact H) | (have H2_ := (Option.bind_some _ _).symm.trans H; rw [hy213]; with_reducible exact H2_) | (have H2_ := (Option.bind_some _ _).symm.trans H; with_reducible exact H2_) | with_reducible exact H | (rw [hy213]; exact H) | exact H
      have Ny213 := A0_ hy213
      clear hy213
      have H' := A0_ H
      clear H
      have hcz14_0 : wr.cell? ⟨gb205, 0, none⟩ = some (.int .i64 a0_0) := (kc_ BK205.out 0).trans rfl
      have hcz14_1 : wr.cell? ⟨gb205, 1, none⟩ = some (.bool a0_1) := (kc_ BK205.out 1).trans rfl
      have hcz14_2 : wr.cell? ⟨gb205, 2, none⟩ = some (.slice A0_2 l0_2.length c0_2) := (kc_ BK205.out 2).trans rfl
      obtain ⟨Ao15, co15, eo15⟩ := Kd.R_slice HO_4.out
      subst eo15
      go_wp2_with (first | ((with_reducible refine gc_ (f := 81) rfl ?_); refine goesL_ (some 17) rfl rfl Try.func81 (by kernel_rfl) rfl #[.slice Ao15 t209.length co15, .int .i64 x5_1] rfl (by (try simp only [ma_, mc_, mn_]); first | done | rfl | (simp only [ld_, lt_]; rfl)) ?_; (with_reducible refine (spec_l1Has.calls k1 _ _ t209 x5_1 false _ ?side1 ?side2 A9.out).mono ?_); (case side1 => repeat (first | exact (rr_ HO_4.out).2.2 | (with_reducible refine ca_ ?_ _) | (with_reducible refine cn_ ?_ _) | (with_reducible refine cd_ ?_))); (case side2 => exact (rr_ HO_4.out).2.1); rintro e w' ⟨rfl, ⟨nd, rfl⟩⟩; refine ⟨_, rfl, ?_⟩) | ((with_reducible refine gate_builtin (b := .append) (xs := #[.tmp 19, .tmp 21]) rfl ?_); at_builtin; refine Kd.R_append (Kd.int .i64) (w0 := w) w.heap.size rfl (.tmp 19) (.tmp 21) 22 3 (.int .i64 0) 8 rfl Try.underlying22 info3 rfl (by decide) (by omega) u3 x3_1 x5_1 [.int .i64 x5_1] (fun k_ => some k_ ≠ (.slice Ao15 t209.length co15 : Value).ownBlock) (fun _ => False) rfl rfl ?aP (fun _ hk => hk.elim) ?aF ?aO ?aB ?aS ?aL ?_; (case aP => exact rfl); (case aB => exact (by repeat (first | exact HB.out | apply ba_ | apply bn_ | apply bd_ | refine bs_ ?_ GE205.out))); (case aF => exact (fun k_ hk => Kd.fresh' (Kd.R_lt (by (with_reducible repeat (first | apply ra_ | apply rn_ | apply rd_)); exact HO_4.out)) k_ hk)); (case aO => exact (by (with_reducible repeat (first | apply ra_ | apply rn_ | apply rd_)); exact HO_3.out)); (case aS => exact (bz_ (by repeat (first | exact HB.out | apply ba_ | apply bn_ | apply bd_ | refine bs_ ?_ GE205.out)))); (case aL => have := LMc13.out; omega); intro v214 w16 ho hb hg hat; rw [← Ny213.out] at ho; have n0_ := A0_ (Kd.R_after (ok := (fun _ => True)) (by (with_reducible repeat (first | apply ra_ | apply rn_ | apply rd_)); exact Kd.R_mono HO_4.out (fun _ hk => ⟨trivial, hk⟩)) hg hat); have n1_ := A0_ (blk_grown (g := gb205) (o := .cells #[.int .i64 a0_0, .bool a0_1, .slice A0_2 l0_2.length c0_2] 32 (0, 0)) (by (with_reducible repeat (first | apply kn_ | apply kd_ | apply ka_)); exact BK205.out) hg (Kd.R_ne HO_3.out BK205.out (by decide))); have n2_ := A0_ (hb); have n3_ := A0_ (ho); clear HO_4 BK205 HB HO_3; have HO_4 := n0_; have BK205 := n1_; have HB := n2_; have HO215 := n3_; clear n0_ n1_ n2_ n3_ ho hb hg hat))
      go_roundg k1
      case measure => have := HK1.out; omega
      case rel => exact ⟨(y213), (wrap64 (x5_1 + 1)), (by first | rfl | (simp [*]; done)), H', ⟨by have := HK1.out; omega⟩, ⟨by (with_reducible repeat (first | apply ra_ | apply rn_ | apply rd_)); exact HO215.out⟩, ⟨by (with_reducible repeat (first | apply ra_ | apply rn_ | apply rd_)); exact Kd.R_mono HO_4.out (fun _ hk => hk.2)⟩, ⟨by (with_reducible repeat (first | apply kn_ | apply kd_ | apply ka_)); exact BK205.out⟩, ⟨by repeat (first | exact HB.out | apply ba_ | apply bn_ | apply bd_ | refine bs_ ?_ GE205.out)⟩⟩
     ·rw [if_neg c13] at H
      exact absurd H (by simp)
   ·rw [if_neg c8] at H
    have c8b0 : decide (x5_1 < a0_0) = false := decide_eq_false c8
    clear c8
    replace H := ob_.mp H
    obtain ⟨⟨t216, t217, t218⟩, A170, H⟩ := H
    have A17 := A0_ A170
    clear A170
    replace H := ob_.mp H
    obtain ⟨t221, A180, H⟩ := H
    replace H : (some t221) = some r := H
    have A18 := A0_ A180
    clear A180
    obtain rfl := si_ H
    have hcz19_0 : wr.cell? ⟨gb205, 0, none⟩ = some (.int .i64 a0_0) := (kc_ BK205.out 0).trans rfl
    have hcz19_1 : wr.cell? ⟨gb205, 1, none⟩ = some (.bool a0_1) := (kc_ BK205.out 1).trans rfl
    have hcz19_2 : wr.cell? ⟨gb205, 2, none⟩ = some (.slice A0_2 l0_2.length c0_2) := (kc_ BK205.out 2).trans rfl
    obtain ⟨Ao20, co20, eo20⟩ := Kd.R_slice HO_3.out
    subst eo20
    go_wp2_with (first | ((with_reducible refine gc_ (f := 80) rfl ?_); refine goesL_ (some 25) rfl rfl Try.func80 (by kernel_rfl) rfl #[.agg #[.int .i64 a0_0, .bool a0_1, .slice A0_2 l0_2.length c0_2], .slice Ao20 x3_1.length co20] rfl (by (try simp only [ma_, mc_, mn_]); first | done | rfl | (simp only [ld_, lt_]; rfl)) ?_; (with_reducible refine (spec_l2Made.calls a0_0 a0_1 _ _ l0_2 (fun k_ => some k_ = (.slice Ao20 x3_1.length co20 : Value).ownBlock) (.slice Ao20 x3_1.length co20) x3_1 t216 t217 t218 w _ ?side1 ?side2 ?side3 ?side4 A17.out).mono ?_); (case side1 => repeat (first | exact HB.out | apply ba_ | apply bn_ | apply bd_ | refine bs_ ?_ GE205.out)); (case side2 => exact Kd.C_kept_came (Kd.heap_int .i64) HR0_2.out (by repeat (first | exact HB.out | apply ba_ | apply bn_ | apply bd_ | refine bs_ ?_ GE205.out)) (fun k_ hs_ => (fun e_ => Kd.R_base HO_3.out k_ e_.symm) hs_)); (case side3 => exact HC0_2.out); (case side4 => exact Kd.R_tight rfl HO_3.out); rintro e w21 ⟨v219, rfl, ho0, hb, hkp⟩; refine ⟨_, rfl, ?_⟩; have n0_ := A0_ (Kd.R_mono (ok' := fun k_ => some k_ ≠ (v219 : Value).ownBlock) (Kd.R_keptB (HO_4.out) hkp (fun k_ hk_ hs_ => (hk_) hs_)) (fun k_ hk_ => fun e_ => Or.elim (ho0.1 k_ e_.symm) (fun hs_ => hk_.2.1 hs_) (fun hn_ => Nat.not_le.2 hk_.2.2 hn_))); have n1_ := A0_ (blk_kept (by (with_reducible repeat (first | apply kn_ | apply kd_ | apply ka_)); exact BK205.out) hkp (fun hs_ => (fun e_ => (Kd.R_ne HO_3.out BK205.out (by decide)) e_) hs_)); have n2_ := A0_ (Kd.R_mono (ok' := fun k_ => some k_ ≠ (v210 : Value).ownBlock) ho0 (fun k_ hk_ => Or.elim hk_ (fun hs_ => fun e_ => (((HO_4.out).1 k_ e_.symm)) hs_) (fun hn_ => (Kd.fresh' (Kd.R_lt (by (with_reducible repeat (first | apply ra_ | apply rn_ | apply rd_)); exact HO_4.out)) k_ hn_)))); have n3_ := A0_ (hb); clear HO_4 BK205 HB HO_3; have HO_4 := n0_; have BK205 := n1_; have HO220 := n2_; have HB := n3_; clear n0_ n1_ n2_ n3_; (try clear hb); (try clear hkp); (try clear ho0); obtain ⟨Ao22, co22, eo22⟩ := Kd.R_slice HO220.out; subst eo22) | ((with_reducible refine gc_ (f := 62) rfl ?_); refine goesL_ (some 26) rfl rfl Try.func62 (by kernel_rfl) rfl #[.agg #[.int .i64 t216, .bool t217, .slice Ao22 t218.length co22]] rfl (by (try simp only [ma_, mc_, mn_]); first | done | rfl | (simp only [ld_, lt_]; rfl)) ?_; (with_reducible refine (spec_l2Runs.calls k1 t216 t217 _ _ t218 t221 _ ?side1 ?side2 A18.out).mono ?_); (case side1 => repeat (first | exact (rr_ HO220.out).2.2 | (with_reducible refine ca_ ?_ _) | (with_reducible refine cn_ ?_ _) | (with_reducible refine cd_ ?_))); (case side2 => exact (rr_ HO220.out).2.1); rintro e w23 ⟨v222, rfl, ho0, hb⟩; refine ⟨_, rfl, ?_⟩; have n0_ := A0_ (Kd.R_below (by (with_reducible repeat (first | apply ra_ | apply rn_ | apply rd_)); exact HO_4.out) hb); have n1_ := A0_ (Kd.R_below (by (with_reducible repeat (first | apply ra_ | apply rn_ | apply rd_)); exact HO220.out) hb); have n2_ := A0_ (Kd.R_lower ho0 (bz_ (by repeat (first | exact HB.out | apply ba_ | apply bn_ | apply bd_ | refine bs_ ?_ GE205.out)))); have n3_ := A0_ (kb_ (g := gb205) (o := .cells #[.int .i64 a0_0, .bool a0_1, .slice A0_2 l0_2.length c0_2] 32 (0, 0)) (by (with_reducible repeat (first | apply kn_ | apply kd_ | apply ka_)); exact BK205.out) hb); have n4_ := A0_ (bt_ (by repeat (first | exact HB.out | apply ba_ | apply bn_ | apply bd_ | refine bs_ ?_ GE205.out)) hb); clear HO_4 HO220 BK205 HB; have HO_4 := n0_; have HO220 := n1_; have HO223 := n2_; have BK205 := n3_; have HB := n4_; clear n0_ n1_ n2_ n3_ n4_; (try clear hb); (try clear ho0)))
    go_ret
    exact ⟨_, by first | rfl | (simp [*, errW_none, errW_some] <;> rfl), by (with_reducible repeat (first | apply ra_ | apply rn_ | apply rd_)); exact HO223.out, by repeat (first | exact HB.out | apply ba_ | apply bn_ | apply bd_ | refine bs_ ?_ GE205.out)⟩

end Go.Proofs.Ytgcgmlbjklkkjaa.QFnExactBestPlay
-- squeezed
