-- Written by px.py, a program of this session, over the kit's printer: some functions have a definition and a proof of this session's own.
import Derived.Test.YtgcgmlbjklkkjaaQFnExactBestPlayx0
import Derived.Test.YtgcgmlbjklkkjaaQFnExactBestPlayx6
import Derived.Test.YtgcgmlbjklkkjaaQFnExactBestPlayx8
namespace Go.Proofs.Ytgcgmlbjklkkjaa.QFnExactBestPlay
open Go.RowKit Go.Proofs.YtgcgmlbjklkkjaaW.PrintWords Go.Proofs.YtgcgmlbjklkkjaaW.PrintLast Go.Proofs.YtgcgmlbjklkkjaaW.PrintMore
attribute [local go_sem] max2_int min2_int max_two min_two max_three min_three max_four min_four   -- for this text's walks alone
set_option linter.unusedVariables false
set_option linter.unusedSimpArgs false
set_option maxHeartbeats 8000000
set_option maxRecDepth 100000

def spec_l1Own.f (l0 : List Int) : Option (List Int) := (some (([] : List Int) : List Int)).bind fun y247 => (if y247.length + l0.length < 17592186044416 then (some (y247 ++ l0)) else (none))
theorem spec_l1Own.calls (A0 : Option Addr) (c0 : Nat) (l0 : List Int) (r : List Int) (w : World) (hr0 : Kd.C (Kd.int .i64) w A0 l0.length l0) (hc0 : l0.length ≤ c0) (h : spec_l1Own.f l0 = some r) :
  Calls Try.prog 92 #[.slice A0 l0.length c0] w fun e w' => ∃ v0_ : Value, e = .returned (v0_) ∧ Kd.R (Kd.int .i64) 3 w' w.heap.size (fun _ => True) v0_ r ∧ Below w.heap.size w w' := by
 have HR0 := A0_ hr0
 have HC0 := A0_ hc0
 clear hr0 hc0
 have HB := A0_ (Below.refl w.heap.size w)
 have H : ((some (([] : List Int) : List Int)).bind fun y247 => (if y247.length + l0.length < 17592186044416 then (some (y247 ++ l0)) else (none))) = some r := h
 clear h
 obtain ⟨y247, hy247⟩ : ∃ y_ : List Int, y_ = (([] : List Int)) := ⟨_, rfl⟩
 replace H : (if y247.length + l0.length < 17592186044416 then (some (y247 ++ l0)) else (none)) = some r := by first | (rw [hy247]; with_reducible exact H) | (have H2_ := (Option.bind_some _ _).symm.trans H; rw [hy247]; with_reducible exact H2_) | (have H2_ := (Option.bind_some _ _).symm.trans H; with_reducible exact H2_) | with_reducible exact H | (rw [hy247]; exact H) | exact H
 have Ny247 := A0_ hy247
 clear hy247
 by_cases c2 : y247.length + l0.length < 17592186044416
 ·rw [if_pos c2] at H
  have LMc2 := A0_ c2
  clear c2
  obtain ⟨y250, hy250⟩ : ∃ y_ : List Int, y_ = (y247 ++ l0) := ⟨_, rfl⟩
  replace H : (some y250) = some r := by first | (rw [hy250]; with_reducible exact H) | (have H2_ := (Option.bind_some _ _).symm.trans H; rw [hy250]; with_reducible exact H2_) | (have H2_ := (Option.bind_some _ _).symm.trans H; with_reducible exact H2_) | with_reducible exact H | (rw [hy250]; exact H) | exact H
  have Ny250 := A0_ hy250
  clear hy250
  obtain rfl := si_ H
  go_enter Try.func92, Try.ntmps92
  go_wp2_with (first | ((with_reducible refine gd_ (N := 3) rfl ?_); refine Kd.R_lit (Kd.int .i64) _ 3 ?hg (N := 3) ?hd (xs := ([] : List Int)) (inner := []) (ok := fun _ => True) (okp := fun _ => True) ?hr ?hp (fun _ hk => hk) trivial (Below.refl _ _) (Nat.le_refl _) (by simp) ?_; (case hd => rfl); (case hg => rfl); (case hr => go_simp; first | done | rfl); (case hp => exact (Reps.none _ _)); intro v248 w3 ho4 hb hg_ hnew_; clear hg_ hnew_; (first | rw [← Ny247.out] at ho4 | (simp only [Int.reduceToNat] at ho4; rw [← Ny247.out] at ho4)); have n0_ := A0_ (Kd.R_lower ho4 (bz_ (by repeat (first | (with_reducible first | exact HB.out | apply ba_ | apply bn_ | apply bd_) | exact HB.out)))); have n1_ := A0_ (bt_ (by repeat (first | (with_reducible first | exact HB.out | apply ba_ | apply bn_ | apply bd_) | exact HB.out)) hb); clear HB; have HO249 := n0_; have HB := n1_; clear n0_ n1_ hb ho4) | ((with_reducible refine gate_builtin (b := .append) (xs := #[.tmp 3, .tmp 4]) rfl ?_); at_builtin; refine Kd.R_append_rows (Kd.int .i64) (w0 := w) w.heap.size rfl (.tmp 3) (.tmp 4) 22 3 (.int .i64 0) 8 rfl Try.underlying22 info3 rfl (by decide) (by omega) v248 y247 l0 _ _ _ (fun _ => True) (fun _ => False) rfl rfl ?aO ?aR (fun _ _ h => h) (fun _ h => h.elim) ?aF ?aB ?aS ?aL ?_; (case aR => repeat (first | exact (cb_ HR0.out HB.out) | (with_reducible refine ca_ ?_ _) | (with_reducible refine cn_ ?_ _) | (with_reducible refine cd_ ?_))); (case aB => exact (by repeat (first | (with_reducible first | exact HB.out | apply ba_ | apply bn_ | apply bd_) | exact HB.out))); (case aF => exact (fun _ _ => trivial)); (case aO => exact (by (with_reducible repeat (first | apply ra_ | apply rn_ | apply rd_)); exact HO249.out)); (case aS => exact (bz_ (by repeat (first | (with_reducible first | exact HB.out | apply ba_ | apply bn_ | apply bd_) | exact HB.out)))); (case aL => have := LMc2.out; omega); intro v251 w5 ho hb hg hat; rw [← Ny250.out] at ho; have n0_ := A0_ (hb); have n1_ := A0_ (ho); clear HB HO249; have HB := n0_; have HO252 := n1_; clear n0_ n1_ ho hb hg hat))
  go_ret
  exact ⟨_, by first | rfl | (simp [*, errW_none, errW_some] <;> rfl), by (with_reducible repeat (first | apply ra_ | apply rn_ | apply rd_)); exact HO252.out, by repeat (first | (with_reducible first | exact HB.out | apply ba_ | apply bn_ | apply bd_) | exact HB.out)⟩
 ·rw [if_neg c2] at H
  exact absurd H (by simp)

def spec_l2With.f (k : Nat) (a0_0 : Int) (a0_1 : Bool) (l0_2 : List Int) (a1 : Int) : Option (Int × Bool × List Int) := (spec_l1Own.f l0_2).bind fun t255 => ((spec_l1Put.f k t255 a1).bind fun t258 => ((spec_l2Made.f a0_0 a0_1 l0_2 t258).bind fun bt261 => (some (bt261.1, bt261.2.1, bt261.2.2))))
theorem spec_l2With.mono : ∀ a0 a1 a2 a3 k, LeO (spec_l2With.f k a0 a1 a2 a3) (spec_l2With.f (k + 1) a0 a1 a2 a3) := by
 intro a0 a1 a2 a3 k
 unfold spec_l2With.f
 repeat' first
   | (with_reducible exact spec_l1Put.mono _ _ _)
   | (with_reducible exact LeO.refl _)
   | (with_reducible exact LeO.none _)
   | (with_reducible refine LeO.ite ?_ ?_)
   | (with_reducible refine LeO.bind ?_ (fun _ => ?_))
def spec_l2With.T1 : Bool × List (List Nat × List Nat) := (true, [([], []), ([], []), ([1], [1]), ([2], [2]), ([], []), ([3, 4, 3], [3, 4]), ([0, 5, 5], [0, 5]), ([6, 6, 0, 1, 2, 3, 4, 5, 6], [6])])
def spec_l2With.B1 : List Nat := [0, 0, 2, 6, 0, 30, 63, 127]
theorem spec_l2With.tab1 : rtab .any (opsOf Try.f85 1) = spec_l2With.T1 := by kernel_rfl
theorem spec_l2With.bits1 : waitsOk spec_l2With.T1.2 spec_l2With.B1 = true := by kernel_rfl
theorem spec_l2With.calls (k : Nat) (a0_0 : Int) (a0_1 : Bool) (A0_2 : Option Addr) (c0_2 : Nat) (l0_2 : List Int) (a1 : Int) (r1 : Int) (r2 : Bool) (r3 : List Int) (w : World) (hr0_2 : Kd.C (Kd.int .i64) w A0_2 l0_2.length l0_2) (hc0_2 : l0_2.length ≤ c0_2) (h : spec_l2With.f k a0_0 a0_1 l0_2 a1 = some (r1, r2, r3)) :
  Calls Try.prog 85 #[.agg #[.int .i64 a0_0, .bool a0_1, .slice A0_2 l0_2.length c0_2], .int .i64 a1] w fun e w' => ∃ v2_ : Value, e = .returned (.agg #[.int .i64 r1, .bool r2, v2_]) ∧ Kd.R (Kd.int .i64) 3 w' w.heap.size (fun _ => True) v2_ r3 ∧ Below w.heap.size w w' := by
 have hu32 := Try.underlying32
 have HR0_2 := A0_ hr0_2
 have HC0_2 := A0_ hc0_2
 clear hr0_2 hc0_2
 have HB := A0_ (Below.refl w.heap.size w)
 have H : ((spec_l1Own.f l0_2).bind fun t255 => ((spec_l1Put.f k t255 a1).bind fun t258 => ((spec_l2Made.f a0_0 a0_1 l0_2 t258).bind fun bt261 => (some (bt261.1, bt261.2.1, bt261.2.2))))) = some (r1, r2, r3) := h
 clear h
 replace H := ob_.mp H
 obtain ⟨t255, A30, H⟩ := H
 have A3 := A0_ A30
 clear A30
 replace H := ob_.mp H
 obtain ⟨t258, A40, H⟩ := H
 have A4 := A0_ A40
 clear A40
 replace H := ob_.mp H
 obtain ⟨⟨t261, t262, t263⟩, A50, H⟩ := H
 replace H : (some (t261, t262, t263)) = some (r1, r2, r3) := H
 have A5 := A0_ A50
 clear A50
 simp only [sj_, pj_] at H
 obtain ⟨rfl, rfl, rfl⟩ := H
 go_enter Try.func85, Try.ntmps85
 try go_wp2_with (first | ((with_reducible refine gd_ (N := 2) rfl ?_); refine be_ ?hg (N := 2) ?hd (cs := #[.int .i64 a0_0, .bool a0_1, .slice A0_2 l0_2.length c0_2]) (t := 32) ?hr ?_; (case hd => rfl); (case hg => rfl); (case hr => go_simp; first | done | rfl); intro gb253 hg w6 hbox hb; have n0_ := A0_ (bt_ (by repeat (first | (with_reducible first | exact HB.out | apply ba_ | apply bn_ | apply bd_) | exact HB.out)) hb); have n1_ := A0_ (hbox); have n2_ := A0_ ((by rw [hg]; exact (bz_ (by repeat (first | (with_reducible first | exact HB.out | apply ba_ | apply bn_ | apply bd_) | exact HB.out))) : w.heap.size ≤ gb253)); have n3_ := A0_ ((by rw [hg]; exact (bz_ (by repeat (first | (with_reducible first | exact HB.out | apply ba_ | apply bn_ | apply bd_) | exact HB.out))) : w.heap.size ≤ gb253)); clear HB; have HB := n0_; have BK253 := n1_; have GW253 := n2_; have GE253 := n3_; clear n0_ n1_ n2_ n3_ hb hbox hg) | ((with_reducible refine gd_ (N := 4) rfl ?_); refine be_ ?hg (N := 4) ?hd (cs := #[.int .i64 0, .bool false, .slice none 0 0]) (t := 32) ?hr ?_; (case hd => rfl); (case hg => rfl); (case hr => go_simp; first | done | rfl); intro gb254 hg w7 hbox hb; have n0_ := A0_ (kb_ (g := gb253) (o := .cells #[.int .i64 a0_0, .bool a0_1, .slice A0_2 l0_2.length c0_2] 32 (0, 0)) (by (with_reducible repeat (first | apply kn_ | apply kd_ | apply ka_)); exact BK253.out) hb); have n1_ := A0_ (bt_ (by repeat (first | (with_reducible first | exact HB.out | apply ba_ | apply bn_ | apply bd_ | refine bs_ ?_ GE253.out) | exact HB.out)) hb); have n2_ := A0_ (hbox); have n3_ := A0_ ((by rw [hg]; exact (bz_ (by repeat (first | (with_reducible first | exact HB.out | apply ba_ | apply bn_ | apply bd_ | refine bs_ ?_ GE253.out) | exact HB.out))) : w.heap.size ≤ gb254)); have n4_ := A0_ ((by rw [hg]; exact (bz_ (by repeat (first | (with_reducible first | exact HB.out | apply ba_ | apply bn_ | apply bd_ | refine bs_ ?_ GE253.out) | exact HB.out))) : w.heap.size ≤ gb254)); have n5_ := A0_ ((by rw [hg]; exact Nat.ne_of_lt (blk_lt (g := gb253) (o := .cells #[.int .i64 a0_0, .bool a0_1, .slice A0_2 l0_2.length c0_2] 32 (0, 0)) (by (with_reducible repeat (first | apply kn_ | apply kd_ | apply ka_)); exact BK253.out)) : gb253 ≠ gb254)); have n6_ := A0_ ((by rw [hg]; exact Nat.ne_of_gt (blk_lt (g := gb253) (o := .cells #[.int .i64 a0_0, .bool a0_1, .slice A0_2 l0_2.length c0_2] 32 (0, 0)) (by (with_reducible repeat (first | apply kn_ | apply kd_ | apply ka_)); exact BK253.out)) : gb254 ≠ gb253)); clear BK253 HB; have BK253 := n0_; have HB := n1_; have BK254 := n2_; have GW254 := n3_; have GE254 := n4_; have NB253_254 := n5_; have NB254_253 := n6_; clear n0_ n1_ n2_ n3_ n4_ n5_ n6_ hb hbox hg))
 have n0_ := A0_ (kd_ BK253.out)
 have n1_ := A0_ (kd_ BK254.out)
 have n2_ := A0_ (bd_ HB.out)
 clear BK253
 clear BK254
 clear HB
 have BK253 := n0_
 have BK254 := n1_
 have HB := n2_
 clear n0_ n1_ n2_
 refine start_ (n := 8) (S := fun w' => w'.cell? ⟨gb253, 0, none⟩ = some (.int .i64 a0_0) ∧ w'.cell? ⟨gb253, 1, none⟩ = some (.bool a0_1) ∧ w'.cell? ⟨gb253, 2, none⟩ = some (.slice A0_2 l0_2.length c0_2)) (ds := []) #[false, false, false, false, false, false, false, false] (by kernel_rfl) rfl rfl ⟨(kc_ BK253.out 0).trans rfl, (kc_ BK253.out 1).trans rfl, (kc_ BK253.out 2).trans rfl⟩ (fun hHeld => ?_); refine with_tabW spec_l2With.tab1 spec_l2With.bits1 (fun HT_ HW_ => ?_)
 generalize w7.drew = w8 at BK253 BK254 HB hHeld ⊢
 refine pure_ (i := 1) (N := some 6) (v := ?_) (a' := ?_) #[false, true, false, false, false, false, false, false] rfl rfl (any_of HT_.out (by kernel_rfl)) (fun _ _ _ h => h) (Or.inl ⟨by rfl, ?_⟩) ?_ ?_
 rotate_left
 ·intro w'
  go_simp
  with_reducible rfl
 rotate_left
 ·simp only [Act.put, sa_, sz_, ss_, i64_w, i32_w]
  rfl
 refine pure_ (i := 4) (N := some 9) (v := ?_) (a' := ?_) #[false, true, false, false, true, false, false, false] rfl rfl (any_of HT_.out (by kernel_rfl)) (fun _ _ _ h => h) (Or.inl ⟨by rfl, ?_⟩) ?_ ?_
 rotate_left
 ·intro w'
  go_simp
  with_reducible rfl
 rotate_left
 ·simp only [Act.put, sa_, sz_, ss_, i64_w, i32_w]
  rfl
 refine take_ (i := 0) (N := some 5) (v := ?_) (a' := ?_) #[true, true, false, false, true, false, false, false] rfl rfl (take_ofW HT_.out HW_.out (by kernel_rfl)) (fun _ _ _ h => h) (Or.inl ⟨by rfl, ?_⟩) hHeld ?_ ?_
 rotate_left
 ·rintro w' ⟨s0, s1, s2⟩
  go_simp
  with_reducible rfl
 rotate_left
 ·simp only [Act.put, sa_, sz_, ss_, i64_w, i32_w]
  rfl
 refine take_ (i := 2) (N := some 7) (v := ?_) (a' := ?_) #[true, true, true, false, true, false, false, false] rfl rfl (take_ofW HT_.out HW_.out (by kernel_rfl)) (fun _ _ _ h => h) (Or.inl ⟨by rfl, ?_⟩) hHeld ?_ ?_
 rotate_left
 ·rintro w' ⟨s0, s1, s2⟩
  go_simp
  with_reducible rfl
 rotate_left
 ·simp only [Act.put, sa_, sz_, ss_, i64_w, i32_w]
  rfl
 refine one_ (i := 3) (N := some 8) #[true, true, true, true, true, false, false, false] rfl rfl (one_of HT_.out (by kernel_rfl)) (by decide) (fun K hK => ?_)
 refine goes_ Try.func92 (by kernel_rfl) rfl #[.slice A0_2 l0_2.length c0_2] (by rfl) rfl rfl (by (try simp only [ma_, mc_, mn_]); first | done | rfl | (simp only [ld_, lt_]; rfl)) ?_
 with_reducible refine (spec_l1Own.calls _ _ l0_2 t255 _ ?side1 ?side2 A3.out).mono ?_
 (case side1 => repeat (first | exact (cb_ HR0_2.out HB.out) | (with_reducible refine ca_ ?_ _) | (with_reducible refine cn_ ?_ _) | (with_reducible refine cd_ ?_)))
 (case side2 => exact HC0_2.out)
 rintro e w9 ⟨v256, rfl, ho0, hb⟩
 refine ⟨_, rfl, ?_⟩
 have n0_ := A0_ (Kd.R_lower ho0 (bz_ (by repeat (first | (with_reducible first | exact HB.out | apply ba_ | apply bn_ | apply bd_ | refine bs_ ?_ GE253.out | refine bs_ ?_ GE254.out) | exact HB.out))))
 have n1_ := A0_ (kb_ (g := gb253) (o := .cells #[.int .i64 a0_0, .bool a0_1, .slice A0_2 l0_2.length c0_2] 32 (0, 0)) (by (with_reducible repeat (first | apply kn_ | apply kd_ | apply ka_)); exact BK253.out) hb)
 have n2_ := A0_ (kb_ (g := gb254) (o := .cells #[.int .i64 0, .bool false, .slice none 0 0] 32 (0, 0)) (by (with_reducible repeat (first | apply kn_ | apply kd_ | apply ka_)); exact BK254.out) hb)
 have n3_ := A0_ (bt_ (by repeat (first | (with_reducible first | exact HB.out | apply ba_ | apply bn_ | apply bd_ | refine bs_ ?_ GE253.out | refine bs_ ?_ GE254.out) | exact HB.out)) hb)
 clear BK253
 clear BK254
 clear HB
 have HO257 := n0_
 have BK253 := n1_
 have BK254 := n2_
 have HB := n3_
 clear n0_ n1_ n2_ n3_
 (try clear hb)
 (try clear hb2)
 (try clear hk)
 (try clear hi)
 (try clear ho0)
 obtain ⟨Ao10, co10, eo10⟩ := Kd.R_slice HO257.out
 (first | subst eo10 | (injection eo10 with f1_ f2_ f3_; have f4_ := f1_.symm; have f5_ := f3_.symm; clear f1_ f2_ f3_; subst f4_; subst f5_))
 refine hK.out _ _ ⟨(kc_ BK253.out 0).trans rfl, (kc_ BK253.out 1).trans rfl, (kc_ BK253.out 2).trans rfl⟩ (fun hHeld => ?_)
 clear hK K
 refine norm_ (a' := ?_) ?_ ?_
 rotate_left
 ·show Act.put _ (some 8) _ = _
  simp only [Act.put, sa_, sz_, ss_, i64_w, i32_w]
  rfl
 refine one_ (i := 5) (N := some 10) #[true, true, true, true, true, true, false, false] rfl rfl (one_of HT_.out (by kernel_rfl)) (by decide) (fun K hK => ?_)
 refine goes_ Try.func91 (by kernel_rfl) rfl #[.slice Ao10 t255.length co10, .int .i64 a1] (by rfl) rfl rfl (by (try simp only [ma_, mc_, mn_]); first | done | rfl | (simp only [ld_, lt_]; rfl)) ?_
 with_reducible refine (spec_l1Put.calls k _ _ t255 a1 t258 _ ?side1 ?side2 A4.out).mono ?_
 (case side1 => repeat (first | exact (rr_ HO257.out).2.2 | (with_reducible refine ca_ ?_ _) | (with_reducible refine cn_ ?_ _) | (with_reducible refine cd_ ?_)))
 (case side2 => exact (rr_ HO257.out).2.1)
 rintro e w11 ⟨v259, rfl, ho0, hb⟩
 refine ⟨_, rfl, ?_⟩
 have n0_ := A0_ (Kd.R_elder' (by (with_reducible repeat (first | apply ra_ | apply rn_ | apply rd_)); exact HO257.out) (Kd.R_base ho0) hb)
 have n1_ := A0_ (Kd.R_lower (Kd.R_new' ho0 (Kd.R_lt (by (with_reducible repeat (first | apply ra_ | apply rn_ | apply rd_)); exact HO257.out))) (bz_ (by repeat (first | (with_reducible first | exact HB.out | apply ba_ | apply bn_ | apply bd_ | refine bs_ ?_ GE253.out | refine bs_ ?_ GE254.out) | exact HB.out))))
 have n2_ := A0_ (kb_ (g := gb253) (o := .cells #[.int .i64 a0_0, .bool a0_1, .slice A0_2 l0_2.length c0_2] 32 (0, 0)) (by (with_reducible repeat (first | apply kn_ | apply kd_ | apply ka_)); exact BK253.out) hb)
 have n3_ := A0_ (kb_ (g := gb254) (o := .cells #[.int .i64 0, .bool false, .slice none 0 0] 32 (0, 0)) (by (with_reducible repeat (first | apply kn_ | apply kd_ | apply ka_)); exact BK254.out) hb)
 have n4_ := A0_ (bt_ (by repeat (first | (with_reducible first | exact HB.out | apply ba_ | apply bn_ | apply bd_ | refine bs_ ?_ GE253.out | refine bs_ ?_ GE254.out) | exact HB.out)) hb)
 clear HO257
 clear BK253
 clear BK254
 clear HB
 have HO257 := n0_
 have HO260 := n1_
 have BK253 := n2_
 have BK254 := n3_
 have HB := n4_
 clear n0_ n1_ n2_ n3_ n4_
 (try clear hb)
 (try clear hb2)
 (try clear hk)
 (try clear hi)
 (try clear ho0)
 obtain ⟨Ao12, co12, eo12⟩ := Kd.R_slice HO260.out
 (first | subst eo12 | (injection eo12 with f1_ f2_ f3_; have f4_ := f1_.symm; have f5_ := f3_.symm; clear f1_ f2_ f3_; subst f4_; subst f5_))
 refine hK.out _ _ ⟨(kc_ BK253.out 0).trans rfl, (kc_ BK253.out 1).trans rfl, (kc_ BK253.out 2).trans rfl⟩ (fun hHeld => ?_)
 clear hK K
 refine norm_ (a' := ?_) ?_ ?_
 rotate_left
 ·show Act.put _ (some 10) _ = _
  simp only [Act.put, sa_, sz_, ss_, i64_w, i32_w]
  rfl
 refine one_ (i := 6) (N := some 11) #[true, true, true, true, true, true, true, false] rfl rfl (one_of HT_.out (by kernel_rfl)) (by decide) (fun K hK => ?_)
 refine goes_ Try.func80 (by kernel_rfl) rfl #[.agg #[.int .i64 a0_0, .bool a0_1, .slice A0_2 l0_2.length c0_2], .slice Ao12 t258.length co12] (by rfl) rfl rfl (by (try simp only [ma_, mc_, mn_]); first | done | rfl | (simp only [ld_, lt_]; rfl)) ?_
 with_reducible refine (spec_l2Made.calls a0_0 a0_1 _ _ l0_2 (fun k_ => some k_ = (.slice Ao12 t258.length co12 : Value).ownBlock) (.slice Ao12 t258.length co12) t258 t261 t262 t263 w _ ?side1 ?side2 ?side3 ?side4 A5.out).mono ?_
 (case side1 => repeat (first | (with_reducible first | exact HB.out | apply ba_ | apply bn_ | apply bd_ | refine bs_ ?_ GE253.out | refine bs_ ?_ GE254.out) | exact HB.out))
 (case side2 => exact Kd.C_kept_came (Kd.heap_int .i64) HR0_2.out (by repeat (first | (with_reducible first | exact HB.out | apply ba_ | apply bn_ | apply bd_ | refine bs_ ?_ GE253.out | refine bs_ ?_ GE254.out) | exact HB.out)) (fun k_ hs_ => (fun e_ => Kd.R_base HO260.out k_ e_.symm) hs_))
 (case side3 => exact HC0_2.out)
 (case side4 => exact Kd.R_tight rfl HO260.out)
 rintro e w13 ⟨v264, rfl, ho0, hb, hkp⟩
 refine ⟨_, rfl, ?_⟩
 have n0_ := A0_ (blk_kept (by (with_reducible repeat (first | apply kn_ | apply kd_ | apply ka_)); exact BK253.out) hkp (fun hs_ => (fun e_ => (Kd.R_ne HO260.out BK253.out (by decide)) e_) hs_))
 have n1_ := A0_ (blk_kept (by (with_reducible repeat (first | apply kn_ | apply kd_ | apply ka_)); exact BK254.out) hkp (fun hs_ => (fun e_ => (Kd.R_ne HO260.out BK254.out (by decide)) e_) hs_))
 have n2_ := A0_ (Kd.R_mono (ok' := fun k_ => some k_ ≠ (v264 : Value).ownBlock) (Kd.R_keptB (HO257.out) hkp (fun k_ hk_ hs_ => (hk_.2) hs_)) (fun k_ hk_ => fun e_ => Or.elim (ho0.1 k_ e_.symm) (fun hs_ => hk_.2.1 hs_) (fun hn_ => Nat.not_le.2 hk_.2.2 hn_)))
 have n3_ := A0_ (Kd.R_mono (ok' := fun k_ => some k_ ≠ (.slice Ao10 t255.length co10 : Value).ownBlock) ho0 (fun k_ hk_ => Or.elim hk_ (fun hs_ => fun e_ => (((HO257.out).1 k_ e_.symm).2) hs_) (fun hn_ => (Kd.fresh' (Kd.R_lt (by (with_reducible repeat (first | apply ra_ | apply rn_ | apply rd_)); exact HO257.out)) k_ hn_))))
 have n4_ := A0_ (hb)
 clear BK253
 clear BK254
 clear HO257
 clear HB
 clear HO260
 have BK253 := n0_
 have BK254 := n1_
 have HO257 := n2_
 have HO265 := n3_
 have HB := n4_
 clear n0_ n1_ n2_ n3_ n4_
 (try clear hb)
 (try clear hkp)
 (try clear ho0)
 obtain ⟨Ao16, co16, eo16⟩ := Kd.R_slice HO265.out
 (first | subst eo16 | (injection eo16 with f1_ f2_ f3_; have f4_ := f1_.symm; have f5_ := f3_.symm; clear f1_ f2_ f3_; subst f4_; subst f5_))
 refine hK.out _ _ ⟨(kc_ BK253.out 0).trans rfl, (kc_ BK253.out 1).trans rfl, (kc_ BK253.out 2).trans rfl⟩ (fun hHeld => ?_)
 clear hK K
 refine norm_ (a' := ?_) ?_ ?_
 rotate_left
 ·show Act.put _ (some 11) _ = _
  simp only [Act.put, sa_, sz_, ss_, i64_w, i32_w]
  rfl
 refine one_ (i := 7) (N := none) #[true, true, true, true, true, true, true, true] rfl rfl (one_of HT_.out (by kernel_rfl)) (by decide) (fun K hK => ?_)
 have hs14 : w13.cell? ⟨gb254, 0, none⟩ = some (.int .i64 0) := (kc_ BK254.out 0).trans rfl
 have hfs14 := kf_ BK254.out 0
 have hns14_0 := NB253_254.out
 have hms14_0 := NB254_253.out
 have hs15 : w13.cell? ⟨gb254, 1, none⟩ = some (.bool false) := (kc_ BK254.out 1).trans rfl
 have hfs15 := kf_ BK254.out 1
 have hns15_0 := NB253_254.out
 have hms15_0 := NB254_253.out
 have hs17 : w13.cell? ⟨gb254, 2, none⟩ = some (.slice none 0 0) := (kc_ BK254.out 2).trans rfl
 have hfs17 := kf_ BK254.out 2
 have hns17_0 := NB253_254.out
 have hms17_0 := NB254_253.out
 refine skip_ (w1 := ?_) (by rfl) rfl ?_ ?_
 rotate_left
 ·go_simp
  rfl
 refine hK.out _ _ ⟨((cell_far (p := ⟨gb254, _, none⟩) NB253_254.out _).trans (((cell_far (p := ⟨gb254, _, none⟩) NB253_254.out _).trans (((cell_far (p := ⟨gb254, _, none⟩) NB253_254.out _).trans (hHeld.1)))))), ((cell_far (p := ⟨gb254, _, none⟩) NB253_254.out _).trans (((cell_far (p := ⟨gb254, _, none⟩) NB253_254.out _).trans (((cell_far (p := ⟨gb254, _, none⟩) NB253_254.out _).trans (hHeld.2.1)))))), ((cell_far (p := ⟨gb254, _, none⟩) NB253_254.out _).trans (((cell_far (p := ⟨gb254, _, none⟩) NB253_254.out _).trans (((cell_far (p := ⟨gb254, _, none⟩) NB253_254.out _).trans (hHeld.2.2))))))⟩ (fun hHeld => ?_)
 clear hK K
 refine done_ (done_of HT_.out (by kernel_rfl)) ?_
 try go_wp2
 refine bodyPost_ret (results_cell_row rfl _ _ gb254 32 #[.int .i64 t261, .bool t262, .slice Ao16 t263.length co16] (0, 0) _ rfl (by (with_reducible repeat (first | apply kn_ | apply kd_ | apply ka_)); refine blk_put (cs := #[.int .i64 t261, .bool t262, .slice none 0 0]) ?_ 2 _ rfl; (with_reducible repeat (first | apply kn_ | apply kd_ | apply ka_)); refine blk_put (cs := #[.int .i64 t261, .bool false, .slice none 0 0]) ?_ 1 _ rfl; (with_reducible repeat (first | apply kn_ | apply kd_ | apply ka_)); refine blk_put (cs := #[.int .i64 0, .bool false, .slice none 0 0]) ?_ 0 _ rfl; (with_reducible repeat (first | apply kn_ | apply kd_ | apply ka_)); exact BK254.out) Try.underlying32 rfl (by kernel_rfl)) rfl ?_
 exact ⟨_, by first | rfl | (simp [*, errW_none, errW_some] <;> rfl), by (with_reducible repeat (first | apply ra_ | apply rn_ | apply rd_)); exact Kd.R_mono (Kd.R_far (p := ⟨gb254, 2, none⟩) (Kd.R_far (p := ⟨gb254, 1, none⟩) (Kd.R_far (p := ⟨gb254, 0, none⟩) (Kd.R_types HO265.out BK254.out (by decide)) (fun _ hk => hk.2) (.int .i64 t261)) (fun _ hk => hk.2) (.bool t262)) (fun _ hk => hk.2) (.slice Ao16 t263.length co16)) (fun _ hk => trivial), by repeat (first | (with_reducible first | exact HB.out | apply ba_ | apply bn_ | apply bd_ | refine bs_ ?_ GE253.out | refine bs_ ?_ GE254.out) | exact HB.out)⟩

def spec_l11Made.f (k : Nat) (a0_0 : Int) (a0_1 : Bool) (l0_2 : List Int) (a1 : Int) (a2 : Int) : Option (Int × Bool × List Int) := (spec_l2With.f k a0_0 a0_1 l0_2 a2).bind fun bt268 => (if a1 = 2 then (if a0_0 = 0 then (none) else ((spec_l2With.f k bt268.1 bt268.2.1 bt268.2.2 (Int.tmod (wrap64 (a2 + 1)) a0_0)).bind fun bt274 => (some (bt274.1, bt274.2.1, bt274.2.2)))) else (some (bt268.1, bt268.2.1, bt268.2.2)))
theorem spec_l11Made.mono : ∀ a0 a1 a2 a3 a4 k, LeO (spec_l11Made.f k a0 a1 a2 a3 a4) (spec_l11Made.f (k + 1) a0 a1 a2 a3 a4) := by
 intro a0 a1 a2 a3 a4 k
 unfold spec_l11Made.f
 repeat' first
   | (with_reducible exact spec_l2With.mono _ _ _ _ _)
   | (with_reducible exact LeO.refl _)
   | (with_reducible exact LeO.none _)
   | (with_reducible refine LeO.ite ?_ ?_)
   | (with_reducible refine LeO.bind ?_ (fun _ => ?_))
def spec_l11Made.T3 : Bool × List (List Nat × List Nat) := (true, [([], []), ([], []), ([1], [1]), ([], []), ([3], [3]), ([2, 4], [2, 4]), ([0, 5], [0, 5]), ([6, 6, 0, 1, 2, 3, 4, 5, 6], [6])])
def spec_l11Made.B3 : List Nat := [0, 0, 2, 0, 8, 30, 63, 127]
theorem spec_l11Made.tab3 : rtab .any (opsOf Try.f67 3) = spec_l11Made.T3 := by kernel_rfl
theorem spec_l11Made.bits3 : waitsOk spec_l11Made.T3.2 spec_l11Made.B3 = true := by kernel_rfl
theorem spec_l11Made.calls (k : Nat) (a0_0 : Int) (a0_1 : Bool) (A0_2 : Option Addr) (c0_2 : Nat) (l0_2 : List Int) (a1 : Int) (a2 : Int) (r1 : Int) (r2 : Bool) (r3 : List Int) (w : World) (hr0_2 : Kd.C (Kd.int .i64) w A0_2 l0_2.length l0_2) (hc0_2 : l0_2.length ≤ c0_2) (h : spec_l11Made.f k a0_0 a0_1 l0_2 a1 a2 = some (r1, r2, r3)) :
  Calls Try.prog 67 #[.agg #[.int .i64 a0_0, .bool a0_1, .slice A0_2 l0_2.length c0_2], .int .i64 a1, .int .i64 a2] w fun e w' => ∃ v2_ : Value, e = .returned (.agg #[.int .i64 r1, .bool r2, v2_]) ∧ Kd.R (Kd.int .i64) 3 w' w.heap.size (fun _ => True) v2_ r3 ∧ Below w.heap.size w w' := by
 have hu32 := Try.underlying32
 have HR0_2 := A0_ hr0_2
 have HC0_2 := A0_ hc0_2
 clear hr0_2 hc0_2
 have HB := A0_ (Below.refl w.heap.size w)
 have H : ((spec_l2With.f k a0_0 a0_1 l0_2 a2).bind fun bt268 => (if a1 = 2 then (if a0_0 = 0 then (none) else ((spec_l2With.f k bt268.1 bt268.2.1 bt268.2.2 (Int.tmod (wrap64 (a2 + 1)) a0_0)).bind fun bt274 => (some (bt274.1, bt274.2.1, bt274.2.2)))) else (some (bt268.1, bt268.2.1, bt268.2.2)))) = some (r1, r2, r3) := h
 clear h
 replace H := ob_.mp H
 obtain ⟨⟨t268, t269, t270⟩, A40, H⟩ := H
 have A4 := A0_ A40
 clear A40
 by_cases c5 : a1 = 2
 ·rw [if_pos c5] at H
  have c5b0 : (a1 == 2) = true := beq_iff_eq.mpr c5
  have c5b1 : (a1 != 2) = false := bne_eq_false_iff_eq.mpr c5
  clear c5
  by_cases c6 : a0_0 = 0
  ·rw [if_pos c6] at H
   exact absurd H (by simp)
  ·rw [if_neg c6] at H
   have c6b0 : (a0_0 == 0) = false := beq_eq_false_iff_ne.mpr c6
   have c6b1 : (a0_0 != 0) = true := bne_iff_ne.mpr c6
   replace H := ob_.mp H
   obtain ⟨⟨t274, t275, t276⟩, A70, H⟩ := H
   replace H : (some (t274, t275, t276)) = some (r1, r2, r3) := H
   have A7 := A0_ A70
   clear A70
   simp only [sj_, pj_] at H
   obtain ⟨rfl, rfl, rfl⟩ := H
   go_enter Try.func67, Try.ntmps67
   try go_wp2_with (first | ((with_reducible refine gd_ (N := 3) rfl ?_); refine be_ ?hg (N := 3) ?hd (cs := #[.int .i64 a0_0, .bool a0_1, .slice A0_2 l0_2.length c0_2]) (t := 32) ?hr ?_; (case hd => rfl); (case hg => rfl); (case hr => go_simp; first | done | rfl); intro gb266 hg w8 hbox hb; have n0_ := A0_ (bt_ (by repeat (first | (with_reducible first | exact HB.out | apply ba_ | apply bn_ | apply bd_) | exact HB.out)) hb); have n1_ := A0_ (hbox); have n2_ := A0_ ((by rw [hg]; exact (bz_ (by repeat (first | (with_reducible first | exact HB.out | apply ba_ | apply bn_ | apply bd_) | exact HB.out))) : w.heap.size ≤ gb266)); have n3_ := A0_ ((by rw [hg]; exact (bz_ (by repeat (first | (with_reducible first | exact HB.out | apply ba_ | apply bn_ | apply bd_) | exact HB.out))) : w.heap.size ≤ gb266)); clear HB; have HB := n0_; have BK266 := n1_; have GW266 := n2_; have GE266 := n3_; clear n0_ n1_ n2_ n3_ hb hbox hg) | ((with_reducible refine gd_ (N := 6) rfl ?_); refine be_ ?hg (N := 6) ?hd (cs := #[.int .i64 0, .bool false, .slice none 0 0]) (t := 32) ?hr ?_; (case hd => rfl); (case hg => rfl); (case hr => go_simp; first | done | rfl); intro gb267 hg w9 hbox hb; have n0_ := A0_ (kb_ (g := gb266) (o := .cells #[.int .i64 a0_0, .bool a0_1, .slice A0_2 l0_2.length c0_2] 32 (0, 0)) (by (with_reducible repeat (first | apply kn_ | apply kd_ | apply ka_)); exact BK266.out) hb); have n1_ := A0_ (bt_ (by repeat (first | (with_reducible first | exact HB.out | apply ba_ | apply bn_ | apply bd_ | refine bs_ ?_ GE266.out) | exact HB.out)) hb); have n2_ := A0_ (hbox); have n3_ := A0_ ((by rw [hg]; exact (bz_ (by repeat (first | (with_reducible first | exact HB.out | apply ba_ | apply bn_ | apply bd_ | refine bs_ ?_ GE266.out) | exact HB.out))) : w.heap.size ≤ gb267)); have n4_ := A0_ ((by rw [hg]; exact (bz_ (by repeat (first | (with_reducible first | exact HB.out | apply ba_ | apply bn_ | apply bd_ | refine bs_ ?_ GE266.out) | exact HB.out))) : w.heap.size ≤ gb267)); have n5_ := A0_ ((by rw [hg]; exact Nat.ne_of_lt (blk_lt (g := gb266) (o := .cells #[.int .i64 a0_0, .bool a0_1, .slice A0_2 l0_2.length c0_2] 32 (0, 0)) (by (with_reducible repeat (first | apply kn_ | apply kd_ | apply ka_)); exact BK266.out)) : gb266 ≠ gb267)); have n6_ := A0_ ((by rw [hg]; exact Nat.ne_of_gt (blk_lt (g := gb266) (o := .cells #[.int .i64 a0_0, .bool a0_1, .slice A0_2 l0_2.length c0_2] 32 (0, 0)) (by (with_reducible repeat (first | apply kn_ | apply kd_ | apply ka_)); exact BK266.out)) : gb267 ≠ gb266)); clear BK266 HB; have BK266 := n0_; have HB := n1_; have BK267 := n2_; have GW267 := n3_; have GE267 := n4_; have NB266_267 := n5_; have NB267_266 := n6_; clear n0_ n1_ n2_ n3_ n4_ n5_ n6_ hb hbox hg; have hnb10 := NB266_267.out; have hnc10 := NB267_266.out; have hcz11_0 : w9.cell? ⟨gb266, 0, none⟩ = some (.int .i64 a0_0) := (kc_ BK266.out 0).trans rfl; have hcz11_1 : w9.cell? ⟨gb266, 1, none⟩ = some (.bool a0_1) := (kc_ BK266.out 1).trans rfl; have hcz11_2 : w9.cell? ⟨gb266, 2, none⟩ = some (.slice A0_2 l0_2.length c0_2) := (kc_ BK266.out 2).trans rfl; have hfz11_0 := kf_ BK266.out 0; have hfz11_1 := kf_ BK266.out 1; have hfz11_2 := kf_ BK266.out 2) | ((with_reducible refine gc_ (f := 85) rfl ?_); refine goesL_ (some 10) rfl rfl Try.func85 (by kernel_rfl) rfl #[.agg #[.int .i64 a0_0, .bool a0_1, .slice A0_2 l0_2.length c0_2], .int .i64 a2] rfl (by (try simp only [ma_, mc_, mn_]); first | done | rfl | (simp only [ld_, lt_]; rfl)) ?_; (with_reducible refine (spec_l2With.calls k a0_0 a0_1 _ _ l0_2 a2 t268 t269 t270 _ ?side1 ?side2 A4.out).mono ?_); (case side1 => repeat (first | exact (cb_ HR0_2.out HB.out) | (with_reducible refine ca_ ?_ _) | (with_reducible refine cn_ ?_ _) | (with_reducible refine cd_ ?_))); (case side2 => exact HC0_2.out); rintro e w12 ⟨v271, rfl, ho0, hb⟩; refine ⟨_, rfl, ?_⟩; have n0_ := A0_ (Kd.R_lower ho0 (bz_ (by repeat (first | (with_reducible first | exact HB.out | apply ba_ | apply bn_ | apply bd_ | refine bs_ ?_ GE266.out | refine bs_ ?_ GE267.out) | exact HB.out)))); have n1_ := A0_ (kb_ (g := gb266) (o := .cells #[.int .i64 a0_0, .bool a0_1, .slice A0_2 l0_2.length c0_2] 32 (0, 0)) (by (with_reducible repeat (first | apply kn_ | apply kd_ | apply ka_)); exact BK266.out) hb); have n2_ := A0_ (kb_ (g := gb267) (o := .cells #[.int .i64 0, .bool false, .slice none 0 0] 32 (0, 0)) (by (with_reducible repeat (first | apply kn_ | apply kd_ | apply ka_)); exact BK267.out) hb); have n3_ := A0_ (bt_ (by repeat (first | (with_reducible first | exact HB.out | apply ba_ | apply bn_ | apply bd_ | refine bs_ ?_ GE266.out | refine bs_ ?_ GE267.out) | exact HB.out)) hb); clear BK266 BK267 HB; have HO272 := n0_; have BK266 := n1_; have BK267 := n2_; have HB := n3_; clear n0_ n1_ n2_ n3_; (try clear hb); (try clear ho0)) | ((with_reducible refine gd_ (N := 7) rfl ?_); refine be_ ?hg (N := 7) ?hd (cs := #[.int .i64 0, .bool false, .slice none 0 0]) (t := 32) ?hr ?_; (case hd => rfl); (case hg => rfl); (case hr => go_simp; first | done | rfl); intro gb273 hg w13 hbox hb; have n0_ := A0_ (Kd.R_below (by (with_reducible repeat (first | apply ra_ | apply rn_ | apply rd_)); exact HO272.out) hb); have n1_ := A0_ (kb_ (g := gb266) (o := .cells #[.int .i64 a0_0, .bool a0_1, .slice A0_2 l0_2.length c0_2] 32 (0, 0)) (by (with_reducible repeat (first | apply kn_ | apply kd_ | apply ka_)); exact BK266.out) hb); have n2_ := A0_ (kb_ (g := gb267) (o := .cells #[.int .i64 0, .bool false, .slice none 0 0] 32 (0, 0)) (by (with_reducible repeat (first | apply kn_ | apply kd_ | apply ka_)); exact BK267.out) hb); have n3_ := A0_ (bt_ (by repeat (first | (with_reducible first | exact HB.out | apply ba_ | apply bn_ | apply bd_ | refine bs_ ?_ GE266.out | refine bs_ ?_ GE267.out) | exact HB.out)) hb); have n4_ := A0_ (hbox); have n5_ := A0_ ((by rw [hg]; exact (bz_ (by repeat (first | (with_reducible first | exact HB.out | apply ba_ | apply bn_ | apply bd_ | refine bs_ ?_ GE266.out | refine bs_ ?_ GE267.out) | exact HB.out))) : w.heap.size ≤ gb273)); have n6_ := A0_ ((by rw [hg]; exact (bz_ (by repeat (first | (with_reducible first | exact HB.out | apply ba_ | apply bn_ | apply bd_ | refine bs_ ?_ GE266.out | refine bs_ ?_ GE267.out) | exact HB.out))) : w.heap.size ≤ gb273)); have n7_ := A0_ ((by rw [hg]; exact Nat.ne_of_lt (blk_lt (g := gb266) (o := .cells #[.int .i64 a0_0, .bool a0_1, .slice A0_2 l0_2.length c0_2] 32 (0, 0)) (by (with_reducible repeat (first | apply kn_ | apply kd_ | apply ka_)); exact BK266.out)) : gb266 ≠ gb273)); have n8_ := A0_ ((by rw [hg]; exact Nat.ne_of_gt (blk_lt (g := gb266) (o := .cells #[.int .i64 a0_0, .bool a0_1, .slice A0_2 l0_2.length c0_2] 32 (0, 0)) (by (with_reducible repeat (first | apply kn_ | apply kd_ | apply ka_)); exact BK266.out)) : gb273 ≠ gb266)); have n9_ := A0_ ((by rw [hg]; exact Nat.ne_of_lt (blk_lt (g := gb267) (o := .cells #[.int .i64 0, .bool false, .slice none 0 0] 32 (0, 0)) (by (with_reducible repeat (first | apply kn_ | apply kd_ | apply ka_)); exact BK267.out)) : gb267 ≠ gb273)); have n10_ := A0_ ((by rw [hg]; exact Nat.ne_of_gt (blk_lt (g := gb267) (o := .cells #[.int .i64 0, .bool false, .slice none 0 0] 32 (0, 0)) (by (with_reducible repeat (first | apply kn_ | apply kd_ | apply ka_)); exact BK267.out)) : gb273 ≠ gb267)); clear HO272 BK266 BK267 HB; have HO272 := n0_; have BK266 := n1_; have BK267 := n2_; have HB := n3_; have BK273 := n4_; have GW273 := n5_; have GE273 := n6_; have NB266_273 := n7_; have NB273_266 := n8_; have NB267_273 := n9_; have NB273_267 := n10_; clear n0_ n1_ n2_ n3_ n4_ n5_ n6_ n7_ n8_ n9_ n10_ hb hbox hg; have hnb14 := NB273_266.out; have hnc14 := NB266_273.out; have hnb15 := NB273_267.out; have hnc15 := NB267_273.out; have hcz16_0 : w13.cell? ⟨gb273, 0, none⟩ = some (.int .i64 0) := (kc_ BK273.out 0).trans rfl; have hcz16_1 : w13.cell? ⟨gb273, 1, none⟩ = some (.bool false) := (kc_ BK273.out 1).trans rfl; have hcz16_2 : w13.cell? ⟨gb273, 2, none⟩ = some (.slice none 0 0) := (kc_ BK273.out 2).trans rfl; have hfz16_0 := kf_ BK273.out 0; have hfz16_1 := kf_ BK273.out 1; have hfz16_2 := kf_ BK273.out 2; obtain ⟨Ao17, co17, eo17⟩ := Kd.R_slice HO272.out; subst eo17))
   have n0_ : Aside0 (Kd.R (Kd.int .i64) 3 (((w13.setCell ⟨gb273, 0, none⟩ (.int .i64 t268)).setCell ⟨gb273, 1, none⟩ (.bool t269)).setCell ⟨gb273, 2, none⟩ (.slice Ao17 t270.length co17)) w.heap.size (fun _ => True) (.slice Ao17 t270.length co17) t270) := ⟨by (with_reducible repeat (first | apply ra_ | apply rn_ | apply rd_)); exact Kd.R_mono (Kd.R_far (p := ⟨gb273, 2, none⟩) (Kd.R_far (p := ⟨gb273, 1, none⟩) (Kd.R_far (p := ⟨gb273, 0, none⟩) (Kd.R_types HO272.out BK273.out (by decide)) (fun _ hk => hk.2) (.int .i64 t268)) (fun _ hk => hk.2) (.bool t269)) (fun _ hk => hk.2) (.slice Ao17 t270.length co17)) (fun _ hk => trivial)⟩
   have n1_ : Aside0 ((((w13.setCell ⟨gb273, 0, none⟩ (.int .i64 t268)).setCell ⟨gb273, 1, none⟩ (.bool t269)).setCell ⟨gb273, 2, none⟩ (.slice Ao17 t270.length co17)).heap[gb266]? = some (.cells #[.int .i64 a0_0, .bool a0_1, .slice A0_2 l0_2.length c0_2] 32 (0, 0))) := ⟨by (with_reducible repeat (first | apply kn_ | apply kd_ | apply ka_)); refine blk_far ?_ NB266_273.out _; (with_reducible repeat (first | apply kn_ | apply kd_ | apply ka_)); refine blk_far ?_ NB266_273.out _; (with_reducible repeat (first | apply kn_ | apply kd_ | apply ka_)); refine blk_far ?_ NB266_273.out _; (with_reducible repeat (first | apply kn_ | apply kd_ | apply ka_)); exact BK266.out⟩
   have n2_ : Aside0 ((((w13.setCell ⟨gb273, 0, none⟩ (.int .i64 t268)).setCell ⟨gb273, 1, none⟩ (.bool t269)).setCell ⟨gb273, 2, none⟩ (.slice Ao17 t270.length co17)).heap[gb267]? = some (.cells #[.int .i64 0, .bool false, .slice none 0 0] 32 (0, 0))) := ⟨by (with_reducible repeat (first | apply kn_ | apply kd_ | apply ka_)); refine blk_far ?_ NB267_273.out _; (with_reducible repeat (first | apply kn_ | apply kd_ | apply ka_)); refine blk_far ?_ NB267_273.out _; (with_reducible repeat (first | apply kn_ | apply kd_ | apply ka_)); refine blk_far ?_ NB267_273.out _; (with_reducible repeat (first | apply kn_ | apply kd_ | apply ka_)); exact BK267.out⟩
   have n3_ : Aside0 ((((w13.setCell ⟨gb273, 0, none⟩ (.int .i64 t268)).setCell ⟨gb273, 1, none⟩ (.bool t269)).setCell ⟨gb273, 2, none⟩ (.slice Ao17 t270.length co17)).heap[gb273]? = some (.cells #[.int .i64 t268, .bool t269, .slice Ao17 t270.length co17] 32 (0, 0))) := ⟨by (with_reducible repeat (first | apply kn_ | apply kd_ | apply ka_)); refine blk_put (cs := #[.int .i64 t268, .bool t269, .slice none 0 0]) ?_ 2 _ rfl; (with_reducible repeat (first | apply kn_ | apply kd_ | apply ka_)); refine blk_put (cs := #[.int .i64 t268, .bool false, .slice none 0 0]) ?_ 1 _ rfl; (with_reducible repeat (first | apply kn_ | apply kd_ | apply ka_)); refine blk_put (cs := #[.int .i64 0, .bool false, .slice none 0 0]) ?_ 0 _ rfl; (with_reducible repeat (first | apply kn_ | apply kd_ | apply ka_)); exact BK273.out⟩
   have n4_ : Aside0 (Below w.heap.size w (((w13.setCell ⟨gb273, 0, none⟩ (.int .i64 t268)).setCell ⟨gb273, 1, none⟩ (.bool t269)).setCell ⟨gb273, 2, none⟩ (.slice Ao17 t270.length co17))) := ⟨by repeat (first | (with_reducible first | exact HB.out | apply ba_ | apply bn_ | apply bd_ | refine bs_ ?_ GE266.out | refine bs_ ?_ GE267.out | refine bs_ ?_ GE273.out) | exact HB.out)⟩
   (try clear HO272)
   (try clear BK266)
   (try clear BK267)
   (try clear BK273)
   (try clear HB)
   generalize (((w13.setCell ⟨gb273, 0, none⟩ (.int .i64 t268)).setCell ⟨gb273, 1, none⟩ (.bool t269)).setCell ⟨gb273, 2, none⟩ (.slice Ao17 t270.length co17)) = w18 at n0_ n1_ n2_ n3_ n4_ ⊢
   have HO272 := n0_
   have BK266 := n1_
   have BK267 := n2_
   have BK273 := n3_
   have HB := n4_
   clear n0_ n1_ n2_ n3_ n4_
   have n0_ := A0_ (rd_ HO272.out)
   have n1_ := A0_ (kd_ BK266.out)
   have n2_ := A0_ (kd_ BK267.out)
   have n3_ := A0_ (kd_ BK273.out)
   have n4_ := A0_ (bd_ HB.out)
   clear HO272
   clear BK266
   clear BK267
   clear BK273
   clear HB
   have HO272 := n0_
   have BK266 := n1_
   have BK267 := n2_
   have BK273 := n3_
   have HB := n4_
   clear n0_ n1_ n2_ n3_ n4_
   refine start_ (n := 8) (S := fun w' => w'.cell? ⟨gb273, 0, none⟩ = some (.int .i64 t268) ∧ w'.cell? ⟨gb273, 1, none⟩ = some (.bool t269) ∧ w'.cell? ⟨gb273, 2, none⟩ = some (.slice Ao17 t270.length co17) ∧ w'.cell? ⟨gb266, 0, none⟩ = some (.int .i64 a0_0) ∧ w'.cell? ⟨gb266, 1, none⟩ = some (.bool a0_1) ∧ w'.cell? ⟨gb266, 2, none⟩ = some (.slice A0_2 l0_2.length c0_2)) (ds := [7]) #[false, false, false, false, false, false, false, false] (by kernel_rfl) rfl rfl ⟨(kc_ BK273.out 0).trans rfl, (kc_ BK273.out 1).trans rfl, (kc_ BK273.out 2).trans rfl, (kc_ BK266.out 0).trans rfl, (kc_ BK266.out 1).trans rfl, (kc_ BK266.out 2).trans rfl⟩ (fun hHeld => ?_); refine with_tabW spec_l11Made.tab3 spec_l11Made.bits3 (fun HT_ HW_ => ?_)
   generalize w18.drew = w19 at HO272 BK266 BK267 BK273 HB hHeld ⊢
   refine pure_ (i := 1) (N := some 14) (v := ?_) (a' := ?_) #[false, true, false, false, false, false, false, false] rfl rfl (any_of HT_.out (by kernel_rfl)) (fun _ _ _ h => h) (Or.inl ⟨by rfl, ?_⟩) ?_ ?_
   rotate_left
   ·intro w'
    go_simp
    with_reducible rfl
   rotate_left
   ·simp only [Act.put, sa_, sz_, ss_, i64_w, i32_w]
    rfl
   refine pure_ (i := 2) (N := some 15) (v := ?_) (a' := ?_) #[false, true, true, false, false, false, false, false] rfl rfl (any_of HT_.out (by kernel_rfl)) (fun _ _ _ h => h) (Or.inl ⟨by rfl, ?_⟩) ?_ ?_
   rotate_left
   ·intro w'
    go_simp
    with_reducible rfl
   rotate_left
   ·simp only [Act.put, sa_, sz_, ss_, i64_w, i32_w]
    rfl
   refine pure_ (i := 3) (N := some 16) (v := ?_) (a' := ?_) #[false, true, true, true, false, false, false, false] rfl rfl (any_of HT_.out (by kernel_rfl)) (fun _ _ _ h => h) (Or.inl ⟨by rfl, ?_⟩) ?_ ?_
   rotate_left
   ·intro w'
    go_simp
    with_reducible rfl
   rotate_left
   ·simp only [Act.put, sa_, sz_, ss_, i64_w, i32_w]
    rfl
   refine take_ (i := 0) (N := some 13) (v := ?_) (a' := ?_) #[true, true, true, true, false, false, false, false] rfl rfl (take_ofW HT_.out HW_.out (by kernel_rfl)) (fun _ _ _ h => h) (Or.inl ⟨by rfl, ?_⟩) hHeld ?_ ?_
   rotate_left
   ·rintro w' ⟨s0, s1, s2, s3, s4, s5⟩
    go_simp
    with_reducible rfl
   rotate_left
   ·simp only [Act.put, sa_, sz_, ss_, i64_w, i32_w]
    rfl
   refine take_ (i := 4) (N := some 17) (v := ?_) (a' := ?_) #[true, true, true, true, true, false, false, false] rfl rfl (take_ofW HT_.out HW_.out (by kernel_rfl)) (fun _ _ _ h => h) (Or.inl ⟨by rfl, ?_⟩) hHeld ?_ ?_
   rotate_left
   ·rintro w' ⟨s0, s1, s2, s3, s4, s5⟩
    go_simp
    with_reducible rfl
   rotate_left
   ·simp only [Act.put, sa_, sz_, ss_, i64_w, i32_w]
    rfl
   refine pure_ (i := 5) (N := some 18) (v := ?_) (a' := ?_) #[true, true, true, true, true, true, false, false] rfl rfl (any_of HT_.out (by kernel_rfl)) (fun _ _ _ h => h) (Or.inl ⟨by rfl, ?_⟩) ?_ ?_
   rotate_left
   ·intro w'
    go_simp
    with_reducible rfl
   rotate_left
   ·simp only [Act.put, sa_, sz_, ss_, i64_w, i32_w]
    rfl
   refine one_ (i := 6) (N := some 19) #[true, true, true, true, true, true, true, false] rfl rfl (one_of HT_.out (by kernel_rfl)) (by decide) (fun K hK => ?_)
   refine goes_ Try.func85 (by kernel_rfl) rfl #[.agg #[.int .i64 t268, .bool t269, .slice Ao17 t270.length co17], .int .i64 (Int.tmod (wrap64 (a2 + 1)) a0_0)] (by rfl) rfl rfl (by (try simp only [ma_, mc_, mn_]); first | done | rfl | (simp only [ld_, lt_]; rfl)) ?_
   with_reducible refine (spec_l2With.calls k t268 t269 _ _ t270 (Int.tmod (wrap64 (a2 + 1)) a0_0) t274 t275 t276 _ ?side1 ?side2 A7.out).mono ?_
   (case side1 => repeat (first | exact (rr_ HO272.out).2.2 | (with_reducible refine ca_ ?_ _) | (with_reducible refine cn_ ?_ _) | (with_reducible refine cd_ ?_)))
   (case side2 => exact (rr_ HO272.out).2.1)
   rintro e w20 ⟨v277, rfl, ho0, hb⟩
   refine ⟨_, rfl, ?_⟩
   have n0_ := A0_ (Kd.R_elder' (by (with_reducible repeat (first | apply ra_ | apply rn_ | apply rd_)); exact HO272.out) (Kd.R_base ho0) hb)
   have n1_ := A0_ (Kd.R_lower (Kd.R_new' ho0 (Kd.R_lt (by (with_reducible repeat (first | apply ra_ | apply rn_ | apply rd_)); exact HO272.out))) (bz_ (by repeat (first | (with_reducible first | exact HB.out | apply ba_ | apply bn_ | apply bd_ | refine bs_ ?_ GE266.out | refine bs_ ?_ GE267.out | refine bs_ ?_ GE273.out) | exact HB.out))))
   have n2_ := A0_ (kb_ (g := gb266) (o := .cells #[.int .i64 a0_0, .bool a0_1, .slice A0_2 l0_2.length c0_2] 32 (0, 0)) (by (with_reducible repeat (first | apply kn_ | apply kd_ | apply ka_)); exact BK266.out) hb)
   have n3_ := A0_ (kb_ (g := gb267) (o := .cells #[.int .i64 0, .bool false, .slice none 0 0] 32 (0, 0)) (by (with_reducible repeat (first | apply kn_ | apply kd_ | apply ka_)); exact BK267.out) hb)
   have n4_ := A0_ (kb_ (g := gb273) (o := .cells #[.int .i64 t268, .bool t269, .slice Ao17 t270.length co17] 32 (0, 0)) (by (with_reducible repeat (first | apply kn_ | apply kd_ | apply ka_)); exact BK273.out) hb)
   have n5_ := A0_ (bt_ (by repeat (first | (with_reducible first | exact HB.out | apply ba_ | apply bn_ | apply bd_ | refine bs_ ?_ GE266.out | refine bs_ ?_ GE267.out | refine bs_ ?_ GE273.out) | exact HB.out)) hb)
   clear HO272
   clear BK266
   clear BK267
   clear BK273
   clear HB
   have HO272 := n0_
   have HO278 := n1_
   have BK266 := n2_
   have BK267 := n3_
   have BK273 := n4_
   have HB := n5_
   clear n0_ n1_ n2_ n3_ n4_ n5_
   (try clear hb)
   (try clear hb2)
   (try clear hk)
   (try clear hi)
   (try clear ho0)
   obtain ⟨Ao23, co23, eo23⟩ := Kd.R_slice HO278.out
   (first | subst eo23 | (injection eo23 with f1_ f2_ f3_; have f4_ := f1_.symm; have f5_ := f3_.symm; clear f1_ f2_ f3_; subst f4_; subst f5_))
   refine hK.out _ _ ⟨(kc_ BK273.out 0).trans rfl, (kc_ BK273.out 1).trans rfl, (kc_ BK273.out 2).trans rfl, (kc_ BK266.out 0).trans rfl, (kc_ BK266.out 1).trans rfl, (kc_ BK266.out 2).trans rfl⟩ (fun hHeld => ?_)
   clear hK K
   refine norm_ (a' := ?_) ?_ ?_
   rotate_left
   ·show Act.put _ (some 19) _ = _
    simp only [Act.put, sa_, sz_, ss_, i64_w, i32_w]
    rfl
   refine last_ (i := 7) (N := none) #[true, true, true, true, true, true, true, true] rfl rfl (one_of HT_.out (by kernel_rfl)) (by decide) (fun K hK => ?_)
   have hs21 : w20.cell? ⟨gb273, 0, none⟩ = some (.int .i64 t268) := (kc_ BK273.out 0).trans rfl
   have hfs21 := kf_ BK273.out 0
   have hns21_0 := NB266_273.out
   have hns21_1 := NB267_273.out
   have hms21_0 := NB273_266.out
   have hms21_1 := NB273_267.out
   have hs22 : w20.cell? ⟨gb273, 1, none⟩ = some (.bool t269) := (kc_ BK273.out 1).trans rfl
   have hfs22 := kf_ BK273.out 1
   have hns22_0 := NB266_273.out
   have hns22_1 := NB267_273.out
   have hms22_0 := NB273_266.out
   have hms22_1 := NB273_267.out
   have hs24 : w20.cell? ⟨gb273, 2, none⟩ = some (.slice Ao17 t270.length co17) := (kc_ BK273.out 2).trans rfl
   have hfs24 := kf_ BK273.out 2
   have hns24_0 := NB266_273.out
   have hns24_1 := NB267_273.out
   have hms24_0 := NB273_266.out
   have hms24_1 := NB273_267.out
   refine skip_ (w1 := ?_) (by rfl) rfl ?_ ?_
   rotate_left
   ·go_simp
    rfl
   refine hK.out _ _ ?_
   clear hK K
   refine done_ (done_of HT_.out (by kernel_rfl)) ?_
   have hcz25_0 : w20.cell? ⟨gb273, 0, none⟩ = some (.int .i64 t268) := (kc_ BK273.out 0).trans rfl
   have hcz25_1 : w20.cell? ⟨gb273, 1, none⟩ = some (.bool t269) := (kc_ BK273.out 1).trans rfl
   have hcz25_2 : w20.cell? ⟨gb273, 2, none⟩ = some (.slice Ao17 t270.length co17) := (kc_ BK273.out 2).trans rfl
   have hfz25_0 := kf_ BK273.out 0
   have hfz25_1 := kf_ BK273.out 1
   have hfz25_2 := kf_ BK273.out 2
   have hcz26_0 : w20.cell? ⟨gb267, 0, none⟩ = some (.int .i64 0) := (kc_ BK267.out 0).trans rfl
   have hcz26_1 : w20.cell? ⟨gb267, 1, none⟩ = some (.bool false) := (kc_ BK267.out 1).trans rfl
   have hcz26_2 : w20.cell? ⟨gb267, 2, none⟩ = some (.slice none 0 0) := (kc_ BK267.out 2).trans rfl
   have hfz26_0 := kf_ BK267.out 0
   have hfz26_1 := kf_ BK267.out 1
   have hfz26_2 := kf_ BK267.out 2
   try go_wp2
   refine bodyPost_ret (results_cell_row rfl _ _ gb267 32 #[.int .i64 t274, .bool t275, .slice Ao23 t276.length co23] (0, 0) _ rfl (by (with_reducible repeat (first | apply kn_ | apply kd_ | apply ka_)); refine blk_put (cs := #[.int .i64 t274, .bool t275, .slice none 0 0]) ?_ 2 _ rfl; (with_reducible repeat (first | apply kn_ | apply kd_ | apply ka_)); refine blk_put (cs := #[.int .i64 t274, .bool false, .slice none 0 0]) ?_ 1 _ rfl; (with_reducible repeat (first | apply kn_ | apply kd_ | apply ka_)); refine blk_put (cs := #[.int .i64 0, .bool false, .slice none 0 0]) ?_ 0 _ rfl; (with_reducible repeat (first | apply kn_ | apply kd_ | apply ka_)); refine blk_far ?_ NB267_273.out _; (with_reducible repeat (first | apply kn_ | apply kd_ | apply ka_)); refine blk_far ?_ NB267_273.out _; (with_reducible repeat (first | apply kn_ | apply kd_ | apply ka_)); refine blk_far ?_ NB267_273.out _; (with_reducible repeat (first | apply kn_ | apply kd_ | apply ka_)); exact BK267.out) Try.underlying32 rfl (by kernel_rfl)) rfl ?_
   exact ⟨_, by first | rfl | (simp [*, errW_none, errW_some] <;> rfl), by (with_reducible repeat (first | apply ra_ | apply rn_ | apply rd_)); exact Kd.R_mono (Kd.R_far (p := ⟨gb267, 2, none⟩) (Kd.R_far (p := ⟨gb267, 1, none⟩) (Kd.R_far (p := ⟨gb267, 0, none⟩) (Kd.R_far (p := ⟨gb273, 2, none⟩) (Kd.R_far (p := ⟨gb273, 1, none⟩) (Kd.R_far (p := ⟨gb273, 0, none⟩) (Kd.R_types (Kd.R_types HO278.out BK273.out (by decide)) BK267.out (by decide)) (fun _ hk => hk.1.2) (.int .i64 t274)) (fun _ hk => hk.1.2) (.bool t275)) (fun _ hk => hk.1.2) (.slice Ao23 t276.length co23)) (fun _ hk => hk.2) (.int .i64 t274)) (fun _ hk => hk.2) (.bool t275)) (fun _ hk => hk.2) (.slice Ao23 t276.length co23)) (fun _ hk => trivial), by repeat (first | (with_reducible first | exact HB.out | apply ba_ | apply bn_ | apply bd_ | refine bs_ ?_ GE266.out | refine bs_ ?_ GE267.out | refine bs_ ?_ GE273.out) | exact HB.out)⟩
 ·rw [if_neg c5] at H
  have c5b0 : (a1 == 2) = false := beq_eq_false_iff_ne.mpr c5
  have c5b1 : (a1 != 2) = true := bne_iff_ne.mpr c5
  simp only [sj_, pj_] at H
  obtain ⟨rfl, rfl, rfl⟩ := H
  go_enter Try.func67, Try.ntmps67
  go_wp2_with (first | ((with_reducible refine gd_ (N := 3) rfl ?_); refine be_ ?hg (N := 3) ?hd (cs := #[.int .i64 a0_0, .bool a0_1, .slice A0_2 l0_2.length c0_2]) (t := 32) ?hr ?_; (case hd => rfl); (case hg => rfl); (case hr => go_simp; first | done | rfl); intro gb266 hg w27 hbox hb; have n0_ := A0_ (bt_ (by repeat (first | (with_reducible first | exact HB.out | apply ba_ | apply bn_ | apply bd_) | exact HB.out)) hb); have n1_ := A0_ (hbox); have n2_ := A0_ ((by rw [hg]; exact (bz_ (by repeat (first | (with_reducible first | exact HB.out | apply ba_ | apply bn_ | apply bd_) | exact HB.out))) : w.heap.size ≤ gb266)); have n3_ := A0_ ((by rw [hg]; exact (bz_ (by repeat (first | (with_reducible first | exact HB.out | apply ba_ | apply bn_ | apply bd_) | exact HB.out))) : w.heap.size ≤ gb266)); clear HB; have HB := n0_; have BK266 := n1_; have GW266 := n2_; have GE266 := n3_; clear n0_ n1_ n2_ n3_ hb hbox hg) | ((with_reducible refine gd_ (N := 6) rfl ?_); refine be_ ?hg (N := 6) ?hd (cs := #[.int .i64 0, .bool false, .slice none 0 0]) (t := 32) ?hr ?_; (case hd => rfl); (case hg => rfl); (case hr => go_simp; first | done | rfl); intro gb267 hg w28 hbox hb; have n0_ := A0_ (kb_ (g := gb266) (o := .cells #[.int .i64 a0_0, .bool a0_1, .slice A0_2 l0_2.length c0_2] 32 (0, 0)) (by (with_reducible repeat (first | apply kn_ | apply kd_ | apply ka_)); exact BK266.out) hb); have n1_ := A0_ (bt_ (by repeat (first | (with_reducible first | exact HB.out | apply ba_ | apply bn_ | apply bd_ | refine bs_ ?_ GE266.out) | exact HB.out)) hb); have n2_ := A0_ (hbox); have n3_ := A0_ ((by rw [hg]; exact (bz_ (by repeat (first | (with_reducible first | exact HB.out | apply ba_ | apply bn_ | apply bd_ | refine bs_ ?_ GE266.out) | exact HB.out))) : w.heap.size ≤ gb267)); have n4_ := A0_ ((by rw [hg]; exact (bz_ (by repeat (first | (with_reducible first | exact HB.out | apply ba_ | apply bn_ | apply bd_ | refine bs_ ?_ GE266.out) | exact HB.out))) : w.heap.size ≤ gb267)); have n5_ := A0_ ((by rw [hg]; exact Nat.ne_of_lt (blk_lt (g := gb266) (o := .cells #[.int .i64 a0_0, .bool a0_1, .slice A0_2 l0_2.length c0_2] 32 (0, 0)) (by (with_reducible repeat (first | apply kn_ | apply kd_ | apply ka_)); exact BK266.out)) : gb266 ≠ gb267)); have n6_ := A0_ ((by rw [hg]; exact Nat.ne_of_gt (blk_lt (g := gb266) (o := .cells #[.int .i64 a0_0, .bool a0_1, .slice A0_2 l0_2.length c0_2] 32 (0, 0)) (by (with_reducible repeat (first | apply kn_ | apply kd_ | apply ka_)); exact BK266.out)) : gb267 ≠ gb266)); clear BK266 HB; have BK266 := n0_; have HB := n1_; have BK267 := n2_; have GW267 := n3_; have GE267 := n4_; have NB266_267 := n5_; have NB267_266 := n6_; clear n0_ n1_ n2_ n3_ n4_ n5_ n6_ hb hbox hg; have hnb29 := NB266_267.out; have hnc29 := NB267_266.out; have hcz30_0 : w28.cell? ⟨gb266, 0, none⟩ = some (.int .i64 a0_0) := (kc_ BK266.out 0).trans rfl; have hcz30_1 : w28.cell? ⟨gb266, 1, none⟩ = some (.bool a0_1) := (kc_ BK266.out 1).trans rfl; have hcz30_2 : w28.cell? ⟨gb266, 2, none⟩ = some (.slice A0_2 l0_2.length c0_2) := (kc_ BK266.out 2).trans rfl; have hfz30_0 := kf_ BK266.out 0; have hfz30_1 := kf_ BK266.out 1; have hfz30_2 := kf_ BK266.out 2) | ((with_reducible refine gc_ (f := 85) rfl ?_); refine goesL_ (some 10) rfl rfl Try.func85 (by kernel_rfl) rfl #[.agg #[.int .i64 a0_0, .bool a0_1, .slice A0_2 l0_2.length c0_2], .int .i64 a2] rfl (by (try simp only [ma_, mc_, mn_]); first | done | rfl | (simp only [ld_, lt_]; rfl)) ?_; (with_reducible refine (spec_l2With.calls k a0_0 a0_1 _ _ l0_2 a2 t268 t269 t270 _ ?side1 ?side2 A4.out).mono ?_); (case side1 => repeat (first | exact (cb_ HR0_2.out HB.out) | (with_reducible refine ca_ ?_ _) | (with_reducible refine cn_ ?_ _) | (with_reducible refine cd_ ?_))); (case side2 => exact HC0_2.out); rintro e w31 ⟨v271, rfl, ho0, hb⟩; refine ⟨_, rfl, ?_⟩; have n0_ := A0_ (Kd.R_lower ho0 (bz_ (by repeat (first | (with_reducible first | exact HB.out | apply ba_ | apply bn_ | apply bd_ | refine bs_ ?_ GE266.out | refine bs_ ?_ GE267.out) | exact HB.out)))); have n1_ := A0_ (kb_ (g := gb266) (o := .cells #[.int .i64 a0_0, .bool a0_1, .slice A0_2 l0_2.length c0_2] 32 (0, 0)) (by (with_reducible repeat (first | apply kn_ | apply kd_ | apply ka_)); exact BK266.out) hb); have n2_ := A0_ (kb_ (g := gb267) (o := .cells #[.int .i64 0, .bool false, .slice none 0 0] 32 (0, 0)) (by (with_reducible repeat (first | apply kn_ | apply kd_ | apply ka_)); exact BK267.out) hb); have n3_ := A0_ (bt_ (by repeat (first | (with_reducible first | exact HB.out | apply ba_ | apply bn_ | apply bd_ | refine bs_ ?_ GE266.out | refine bs_ ?_ GE267.out) | exact HB.out)) hb); clear BK266 BK267 HB; have HO272 := n0_; have BK266 := n1_; have BK267 := n2_; have HB := n3_; clear n0_ n1_ n2_ n3_; (try clear hb); (try clear ho0)) | ((with_reducible refine gd_ (N := 7) rfl ?_); refine be_ ?hg (N := 7) ?hd (cs := #[.int .i64 0, .bool false, .slice none 0 0]) (t := 32) ?hr ?_; (case hd => rfl); (case hg => rfl); (case hr => go_simp; first | done | rfl); intro gb273 hg w32 hbox hb; have n0_ := A0_ (Kd.R_below (by (with_reducible repeat (first | apply ra_ | apply rn_ | apply rd_)); exact HO272.out) hb); have n1_ := A0_ (kb_ (g := gb266) (o := .cells #[.int .i64 a0_0, .bool a0_1, .slice A0_2 l0_2.length c0_2] 32 (0, 0)) (by (with_reducible repeat (first | apply kn_ | apply kd_ | apply ka_)); exact BK266.out) hb); have n2_ := A0_ (kb_ (g := gb267) (o := .cells #[.int .i64 0, .bool false, .slice none 0 0] 32 (0, 0)) (by (with_reducible repeat (first | apply kn_ | apply kd_ | apply ka_)); exact BK267.out) hb); have n3_ := A0_ (bt_ (by repeat (first | (with_reducible first | exact HB.out | apply ba_ | apply bn_ | apply bd_ | refine bs_ ?_ GE266.out | refine bs_ ?_ GE267.out) | exact HB.out)) hb); have n4_ := A0_ (hbox); have n5_ := A0_ ((by rw [hg]; exact (bz_ (by repeat (first | (with_reducible first | exact HB.out | apply ba_ | apply bn_ | apply bd_ | refine bs_ ?_ GE266.out | refine bs_ ?_ GE267.out) | exact HB.out))) : w.heap.size ≤ gb273)); have n6_ := A0_ ((by rw [hg]; exact (bz_ (by repeat (first | (with_reducible first | exact HB.out | apply ba_ | apply bn_ | apply bd_ | refine bs_ ?_ GE266.out | refine bs_ ?_ GE267.out) | exact HB.out))) : w.heap.size ≤ gb273)); have n7_ := A0_ ((by rw [hg]; exact Nat.ne_of_lt (blk_lt (g := gb266) (o := .cells #[.int .i64 a0_0, .bool a0_1, .slice A0_2 l0_2.length c0_2] 32 (0, 0)) (by (with_reducible repeat (first | apply kn_ | apply kd_ | apply ka_)); exact BK266.out)) : gb266 ≠ gb273)); have n8_ := A0_ ((by rw [hg]; exact Nat.ne_of_gt (blk_lt (g := gb266) (o := .cells #[.int .i64 a0_0, .bool a0_1, .slice A0_2 l0_2.length c0_2] 32 (0, 0)) (by (with_reducible repeat (first | apply kn_ | apply kd_ | apply ka_)); exact BK266.out)) : gb273 ≠ gb266)); have n9_ := A0_ ((by rw [hg]; exact Nat.ne_of_lt (blk_lt (g := gb267) (o := .cells #[.int .i64 0, .bool false, .slice none 0 0] 32 (0, 0)) (by (with_reducible repeat (first | apply kn_ | apply kd_ | apply ka_)); exact BK267.out)) : gb267 ≠ gb273)); have n10_ := A0_ ((by rw [hg]; exact Nat.ne_of_gt (blk_lt (g := gb267) (o := .cells #[.int .i64 0, .bool false, .slice none 0 0] 32 (0, 0)) (by (with_reducible repeat (first | apply kn_ | apply kd_ | apply ka_)); exact BK267.out)) : gb273 ≠ gb267)); clear HO272 BK266 BK267 HB; have HO272 := n0_; have BK266 := n1_; have BK267 := n2_; have HB := n3_; have BK273 := n4_; have GW273 := n5_; have GE273 := n6_; have NB266_273 := n7_; have NB273_266 := n8_; have NB267_273 := n9_; have NB273_267 := n10_; clear n0_ n1_ n2_ n3_ n4_ n5_ n6_ n7_ n8_ n9_ n10_ hb hbox hg; have hnb33 := NB273_266.out; have hnc33 := NB266_273.out; have hnb34 := NB273_267.out; have hnc34 := NB267_273.out; have hcz35_0 : w32.cell? ⟨gb273, 0, none⟩ = some (.int .i64 0) := (kc_ BK273.out 0).trans rfl; have hcz35_1 : w32.cell? ⟨gb273, 1, none⟩ = some (.bool false) := (kc_ BK273.out 1).trans rfl; have hcz35_2 : w32.cell? ⟨gb273, 2, none⟩ = some (.slice none 0 0) := (kc_ BK273.out 2).trans rfl; have hfz35_0 := kf_ BK273.out 0; have hfz35_1 := kf_ BK273.out 1; have hfz35_2 := kf_ BK273.out 2; obtain ⟨Ao36, co36, eo36⟩ := Kd.R_slice HO272.out; subst eo36; have hcz37_0 : w32.cell? ⟨gb267, 0, none⟩ = some (.int .i64 0) := (kc_ BK267.out 0).trans rfl; have hcz37_1 : w32.cell? ⟨gb267, 1, none⟩ = some (.bool false) := (kc_ BK267.out 1).trans rfl; have hcz37_2 : w32.cell? ⟨gb267, 2, none⟩ = some (.slice none 0 0) := (kc_ BK267.out 2).trans rfl; have hfz37_0 := kf_ BK267.out 0; have hfz37_1 := kf_ BK267.out 1; have hfz37_2 := kf_ BK267.out 2))
  refine bodyPost_ret (results_cell_row rfl _ _ gb267 32 #[.int .i64 t268, .bool t269, .slice Ao36 t270.length co36] (0, 0) _ rfl (by (with_reducible repeat (first | apply kn_ | apply kd_ | apply ka_)); refine blk_put (cs := #[.int .i64 t268, .bool t269, .slice none 0 0]) ?_ 2 _ rfl; (with_reducible repeat (first | apply kn_ | apply kd_ | apply ka_)); refine blk_put (cs := #[.int .i64 t268, .bool false, .slice none 0 0]) ?_ 1 _ rfl; (with_reducible repeat (first | apply kn_ | apply kd_ | apply ka_)); refine blk_put (cs := #[.int .i64 0, .bool false, .slice none 0 0]) ?_ 0 _ rfl; (with_reducible repeat (first | apply kn_ | apply kd_ | apply ka_)); refine blk_far ?_ NB267_273.out _; (with_reducible repeat (first | apply kn_ | apply kd_ | apply ka_)); refine blk_far ?_ NB267_273.out _; (with_reducible repeat (first | apply kn_ | apply kd_ | apply ka_)); refine blk_far ?_ NB267_273.out _; (with_reducible repeat (first | apply kn_ | apply kd_ | apply ka_)); exact BK267.out) Try.underlying32 rfl (by kernel_rfl)) rfl ?_
  exact ⟨_, by first | rfl | (simp [*, errW_none, errW_some] <;> rfl), by (with_reducible repeat (first | apply ra_ | apply rn_ | apply rd_)); exact Kd.R_mono (Kd.R_far (p := ⟨gb267, 2, none⟩) (Kd.R_far (p := ⟨gb267, 1, none⟩) (Kd.R_far (p := ⟨gb267, 0, none⟩) (Kd.R_far (p := ⟨gb273, 2, none⟩) (Kd.R_far (p := ⟨gb273, 1, none⟩) (Kd.R_far (p := ⟨gb273, 0, none⟩) (Kd.R_types (Kd.R_types HO272.out BK273.out (by decide)) BK267.out (by decide)) (fun _ hk => hk.1.2) (.int .i64 t268)) (fun _ hk => hk.1.2) (.bool t269)) (fun _ hk => hk.1.2) (.slice Ao36 t270.length co36)) (fun _ hk => hk.2) (.int .i64 t268)) (fun _ hk => hk.2) (.bool t269)) (fun _ hk => hk.2) (.slice Ao36 t270.length co36)) (fun _ hk => trivial), by repeat (first | (with_reducible first | exact HB.out | apply ba_ | apply bn_ | apply bd_ | refine bs_ ?_ GE266.out | refine bs_ ?_ GE267.out | refine bs_ ?_ GE273.out) | exact HB.out)⟩

end Go.Proofs.Ytgcgmlbjklkkjaa.QFnExactBestPlay
-- squeezed
