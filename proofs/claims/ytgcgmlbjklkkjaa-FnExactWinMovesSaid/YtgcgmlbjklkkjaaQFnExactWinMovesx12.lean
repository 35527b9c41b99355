-- Written by px.py, a program of this session, over the kit's printer: some functions have a definition and a proof of this session's own.
import Derived.Test.YtgcgmlbjklkkjaaQFnExactWinMovesx0
import Derived.Test.YtgcgmlbjklkkjaaQFnExactWinMovesx10
import Derived.Test.YtgcgmlbjklkkjaaQFnExactWinMovesx11
namespace Go.Proofs.Ytgcgmlbjklkkjaa.QFnExactWinMoves
open Go.RowKit Go.Proofs.YtgcgmlbjklkkjaaW.PrintWords Go.Proofs.YtgcgmlbjklkkjaaW.PrintLast Go.Proofs.YtgcgmlbjklkkjaaW.PrintMore
attribute [local go_sem] max2_int min2_int max_two min_two max_three min_three max_four min_four   -- for this text's walks alone
set_option linter.unusedVariables false
set_option linter.unusedSimpArgs false

/-! ### impl_bench_taking: function 78 -/
def impl_bench_taking.j0 : Nat → Int → Int → Int → Int → Bool → Option (Int × Bool)
 | 0, _, _, _, _, _ => none
 | k + 1, x1, x3, x10, x342000, x342001 => if x10 = x342000 then (some (0, false)) else ((impl_set_has.f x1 x3).bind fun t348 => (if t348 = true then (some (0, false)) else ((impl_set_has.f x1 x10).bind fun t349 => (if t349 = true then (some (0, false)) else (if 0 ≤ x3 then (if 0 ≤ x10 then (some (Go.bits .or .u32 (shl .u32 1 x3) (shl .u32 1 x10), true)) else (none)) else (none))))))
def impl_bench_taking.f (k : Nat) (a0_0 : Int) (a0_1 : Bool) (a1 : Int) (a2 : Int) (a3 : Int) : Option (Int × Bool) := (impl_bench_has.f k a0_0 a0_1 (([a3] : List Int))).bind fun t345 => (if t345 = true then (if a2 = 1 then (if 0 ≤ a3 then ((impl_bench_lonely.f k a0_0 a0_1 a1).bind fun t346 => ((impl_set_has.f t346 a3).bind fun t347 => (some (shl .u32 1 a3, t347)))) else (none)) else (if a0_1 = true then (if a0_0 = 0 then (none) else (impl_bench_taking.j0 k a1 a3 (Int.tmod (wrap64 (a3 + 1)) a0_0) a0_0 a0_1)) else (impl_bench_taking.j0 k a1 a3 (wrap64 (a3 + 1)) a0_0 a0_1))) else (some (0, false)))
theorem impl_bench_taking.mono_l : ∀ k, (∀ y0 y1 y2 y3 y4, LeO (impl_bench_taking.j0 k y0 y1 y2 y3 y4) (impl_bench_taking.j0 (k + 1) y0 y1 y2 y3 y4))
 | 0 => fun _ _ _ _ _ r h => by simp [impl_bench_taking.j0] at h
 | k + 1 => by
  have ih0 := impl_bench_taking.mono_l k
  ·intro y0 y1 y2 y3 y4
   unfold impl_bench_taking.j0
   repeat' first
   | (with_reducible exact ih0 _ _ _ _ _)
   | (with_reducible exact impl_bench_has.mono _ _ _ _)
   | (with_reducible exact impl_bench_lonely.mono _ _ _ _)
   | (with_reducible exact LeO.refl _)
   | (with_reducible exact LeO.none _)
   | (with_reducible refine LeO.ite ?_ ?_)
   | (with_reducible refine LeO.bind ?_ (fun _ => ?_))
theorem impl_bench_taking.mono : ∀ a0 a1 a2 a3 a4 k, LeO (impl_bench_taking.f k a0 a1 a2 a3 a4) (impl_bench_taking.f (k + 1) a0 a1 a2 a3 a4) := by
 intro a0 a1 a2 a3 a4 k
 have ih0 := impl_bench_taking.mono_l k
 unfold impl_bench_taking.f
 repeat' first
   | (with_reducible exact ih0 _ _ _ _ _)
   | (with_reducible exact impl_bench_has.mono _ _ _ _)
   | (with_reducible exact impl_bench_lonely.mono _ _ _ _)
   | (with_reducible exact LeO.refl _)
   | (with_reducible exact LeO.none _)
   | (with_reducible refine LeO.ite ?_ ?_)
   | (with_reducible refine LeO.bind ?_ (fun _ => ?_))
def impl_bench_taking.T4 : Bool × List (List Nat × List Nat) := (true, [([], []), ([0], [0]), ([], []), ([], []), ([2, 3], [2, 3]), ([], []), ([4, 5, 4], [4, 5]), ([1, 6, 0, 1], [1]), ([6, 7, 0, 1, 2, 3, 4, 5, 6, 7], [6])])
def impl_bench_taking.B4 : List Nat := [0, 1, 0, 0, 12, 0, 60, 127, 255]
theorem impl_bench_taking.tab4 : rtab .any (opsOf Try.f78 4) = impl_bench_taking.T4 := by kernel_rfl
theorem impl_bench_taking.bits4 : waitsOk impl_bench_taking.T4.2 impl_bench_taking.B4 = true := by kernel_rfl
set_option maxHeartbeats 8000000 in
set_option maxRecDepth 100000 in
theorem impl_bench_taking.calls (k : Nat) (a0_0 : Int) (a0_1 : Bool) (a1 : Int) (a2 : Int) (a3 : Int) (r1 : Int) (r2 : Bool) (w : World) (h : impl_bench_taking.f k a0_0 a0_1 a1 a2 a3 = some (r1, r2)) :
  Calls Try.prog 78 #[.agg #[.int .i64 a0_0, .bool a0_1], .int .u32 a1, .int .i64 a2, .int .i64 a3] w fun e w' => e = .returned (.tuple #[.int .u32 r1, .bool r2]) ∧ Below w.heap.size w w' := by
 have hu57 := Try.underlying57
 have HB := A0_ (Below.refl w.heap.size w)
 have H : ((impl_bench_has.f k a0_0 a0_1 (([a3] : List Int))).bind fun t345 => (if t345 = true then (if a2 = 1 then (if 0 ≤ a3 then ((impl_bench_lonely.f k a0_0 a0_1 a1).bind fun t346 => ((impl_set_has.f t346 a3).bind fun t347 => (some (shl .u32 1 a3, t347)))) else (none)) else (if a0_1 = true then (if a0_0 = 0 then (none) else (impl_bench_taking.j0 k a1 a3 (Int.tmod (wrap64 (a3 + 1)) a0_0) a0_0 a0_1)) else (impl_bench_taking.j0 k a1 a3 (wrap64 (a3 + 1)) a0_0 a0_1))) else (some (0, false)))) = some (r1, r2) := h
 clear h
 obtain ⟨y342, hy342⟩ : ∃ y_ : List Int, y_ = (([a3] : List Int)) := ⟨_, rfl⟩
 replace H : ((impl_bench_has.f k a0_0 a0_1 y342).bind fun t345 => (if t345 = true then (if a2 = 1 then (if 0 ≤ a3 then ((impl_bench_lonely.f k a0_0 a0_1 a1).bind fun t346 => ((impl_set_has.f t346 a3).bind fun t347 => (some (shl .u32 1 a3, t347)))) else (none)) else (if a0_1 = true then (if a0_0 = 0 then (none) else (impl_bench_taking.j0 k a1 a3 (Int.tmod (wrap64 (a3 + 1)) a0_0) a0_0 a0_1)) else (impl_bench_taking.j0 k a1 a3 (wrap64 (a3 + 1)) a0_0 a0_1))) else (some (0, false)))) = some (r1, r2) := by first | (rw [hy342]; with_reducible exact H) | (have H2_ := (Option.bind_some _ _).symm.trans H; rw [hy342]; with_reducible exact H2_) | (have H2_ := (Option.bind_some _ _).symm.trans H; with_reducible exact H2_) | with_reducible exact H | (rw [hy342]; exact H) | exact H
 have Ny342 := A0_ hy342
 clear hy342
 replace H := ob_.mp H
 obtain ⟨t345, A50, H⟩ := H
 have A5 := A0_ A50
 clear A50
 by_cases c6 : t345 = true
 ·subst c6
  rw [if_pos rfl] at H
  by_cases c7 : a2 = 1
  ·rw [if_pos c7] at H
   have c7b0 : (a2 == 1) = true := beq_iff_eq.mpr c7
   have c7b1 : (a2 != 1) = false := bne_eq_false_iff_eq.mpr c7
   clear c7
   by_cases c8 : 0 ≤ a3
   ·rw [if_pos c8] at H
    have c8b0 := eq_true c8
    have c8b1 : decide (0 ≤ a3) = true := dt_ c8
    clear c8
    obtain ⟨ji9, hji9⟩ : ∃ j_ : Int, (shl .u32 1 a3) = j_ := ⟨_, rfl⟩
    replace H : ((impl_bench_lonely.f k a0_0 a0_1 a1).bind fun t346 => ((impl_set_has.f t346 a3).bind fun t347 => (some (ji9, t347)))) = some (r1, r2) := by first | (rw [hji9] at H; exact H) | (simp only [hji9] at H ⊢; exact H)
    (try rw [hji9] at A5)
    have hji9_ : (IntKind.u32.wrap (1 * 2 ^ min a3.toNat 32)) = ji9 := hji9
    have hji9z : a3 ≤ 32 → (IntKind.u32.wrap (1 * 2 ^ a3.toNat)) = ji9 := shl_small hji9
    have hji9u : (IntKind.u32.wrap (2 ^ min a3.toNat 32)) = ji9 := by have h_ := hji9_; rw [Int.one_mul] at h_; exact h_
    have hji9v : a3 ≤ 32 → (IntKind.u32.wrap (2 ^ a3.toNat)) = ji9 := fun hle_ => by have h_ := hji9z hle_; rw [Int.one_mul] at h_; exact h_
    replace H := ob_.mp H
    obtain ⟨t346, A100, H⟩ := H
    have A10 := A0_ A100
    clear A100
    replace H := ob_.mp H
    obtain ⟨t347, A110, H⟩ := H
    replace H : (some (ji9, t347)) = some (r1, r2) := H
    have A11 := A0_ A110
    clear A110
    simp only [Option.some.injEq, Prod.mk.injEq] at H
    obtain ⟨rfl, rfl⟩ := H
    go_enter Try.func78, Try.ntmps78
    try go_wp2_with (first | ((with_reducible refine gd_ (N := 4) rfl ?_); refine be_ ?hg (N := 4) ?hd (cs := #[.int .i64 a0_0, .bool a0_1]) (t := 57) ?hr ?_; (case hd => rfl); (case hg => rfl); (case hr => first | (go_simp; done) | (go_simp; rfl)); intro gb341 hg w12 hbox hb; have n0_ := A0_ (bt_ (by repeat (first | (with_reducible first | exact HB.out | apply ba_ | apply bn_ | apply bd_) | exact HB.out)) hb); have n1_ := A0_ (hbox); have n2_ := A0_ ((by rw [hg]; exact (bz_ (by repeat (first | (with_reducible first | exact HB.out | apply ba_ | apply bn_ | apply bd_) | exact HB.out))) : w.heap.size ≤ gb341)); have n3_ := A0_ ((by rw [hg]; exact (bz_ (by repeat (first | (with_reducible first | exact HB.out | apply ba_ | apply bn_ | apply bd_) | exact HB.out))) : w.heap.size ≤ gb341)); clear HB; have HB := n0_; have BK341 := n1_; have GW341 := n2_; have GE341 := n3_; clear n0_ n1_ n2_ n3_ hb hbox hg; have hcz13_0 : w12.cell? ⟨gb341, 0, none⟩ = some (.int .i64 a0_0) := (kc_ BK341.out 0).trans rfl; have hcz13_1 : w12.cell? ⟨gb341, 1, none⟩ = some (.bool a0_1) := (kc_ BK341.out 1).trans rfl; have hfz13_0 := kf_ BK341.out 0; have hfz13_1 := kf_ BK341.out 1) | ((with_reducible refine gd_ (N := 13) rfl ?_); refine Kd.R_lit (Kd.int .i64) _ 3 ?hg (N := 13) ?hd (xs := ([a3] : List Int)) (inner := [.int .i64 a3]) (ok := fun _ => True) (okp := fun _ => True) ?hr ?hp (fun _ hk => hk) trivial (Below.refl _ _) (Nat.le_refl _) (by simp) ?_; (case hd => rfl); (case hg => rfl); (case hr => first | (go_simp; done) | (go_simp; rfl)); (case hp => exact (Reps.one (show Kd.M (Kd.int .i64) _ _ _ a3 [.int .i64 a3] from rfl) (Reps.none _ _))); intro v343 w14 ho15 hb hg_ hnew_; clear hg_ hnew_; (first | rw [← Ny342.out] at ho15 | (simp only [Int.reduceToNat] at ho15; rw [← Ny342.out] at ho15)); have n0_ := A0_ (Kd.R_lower ho15 (bz_ (by repeat (first | (with_reducible first | exact HB.out | apply ba_ | apply bn_ | apply bd_ | refine bs_ ?_ GE341.out) | exact HB.out)))); have n1_ := A0_ (kb_ (g := gb341) (o := .cells #[.int .i64 a0_0, .bool a0_1] 57 (0, 0)) (by (with_reducible repeat (first | refine kn_ ?_ _ | refine kd_ ?_ | refine ka_ ?_ _)); exact BK341.out) hb); have n2_ := A0_ (bt_ (by repeat (first | (with_reducible first | exact HB.out | apply ba_ | apply bn_ | apply bd_ | refine bs_ ?_ GE341.out) | exact HB.out)) hb); clear BK341 HB; have HO344 := n0_; have BK341 := n1_; have HB := n2_; clear n0_ n1_ n2_ hb ho15; obtain ⟨Ao16, co16, eo16⟩ := Kd.R_slice HO344.out; subst eo16) | ((with_reducible refine gc_ (f := 89) rfl ?_); refine goesL_ (some 14) rfl rfl Try.func89 (by kernel_rfl) rfl #[.agg #[.int .i64 a0_0, .bool a0_1], .slice Ao16 y342.length co16] rfl (by (try simp only [List.map_toArray, List.map_cons, List.map_nil]); first | done | rfl) ?_; (with_reducible refine (impl_bench_has.calls k a0_0 a0_1 _ _ y342 true _ ?side1 ?side2 A5.out).mono ?_); (case side1 => repeat (first | exact (rr_ HO344.out).2.2 | (with_reducible refine ca_ ?_ _) | (with_reducible refine cn_ ?_ _) | (with_reducible refine cd_ ?_))); (case side2 => exact (rr_ HO344.out).2.1); rintro e w17 ⟨rfl, hb⟩; refine ⟨_, rfl, ?_⟩; have n0_ := A0_ (Kd.R_below (by (with_reducible repeat (first | apply ra_ | apply rn_ | apply rd_)); exact HO344.out) hb); have n1_ := A0_ (kb_ (g := gb341) (o := .cells #[.int .i64 a0_0, .bool a0_1] 57 (0, 0)) (by (with_reducible repeat (first | refine kn_ ?_ _ | refine kd_ ?_ | refine ka_ ?_ _)); exact BK341.out) hb); have n2_ := A0_ (bt_ (by repeat (first | (with_reducible first | exact HB.out | apply ba_ | apply bn_ | apply bd_ | refine bs_ ?_ GE341.out) | exact HB.out)) hb); clear HO344 BK341 HB; have HO344 := n0_; have BK341 := n1_; have HB := n2_; clear n0_ n1_ n2_; (try clear hb); (try clear hb2); (try clear hk); (try clear hi)))
    have n0_ := A0_ (rd_ HO344.out)
    have n1_ := A0_ (kd_ BK341.out)
    have n2_ := A0_ (bd_ HB.out)
    clear HO344
    clear BK341
    clear HB
    have HO344 := n0_
    have BK341 := n1_
    have HB := n2_
    clear n0_ n1_ n2_
    refine start_ (n := 9) (S := fun w' => w'.cell? ⟨gb341, 0, none⟩ = some (.int .i64 a0_0) ∧ w'.cell? ⟨gb341, 1, none⟩ = some (.bool a0_1)) (ds := []) #[false, false, false, false, false, false, false, false, false] (by kernel_rfl) rfl rfl ⟨(kc_ BK341.out 0).trans rfl, (kc_ BK341.out 1).trans rfl⟩ (fun hHeld => ?_); refine with_tabW impl_bench_taking.tab4 impl_bench_taking.bits4 (fun HT_ HW_ => ?_)
    generalize w17.drew = w18 at HO344 BK341 HB hHeld ⊢
    refine pure_ (i := 0) (N := some 18) (v := ?_) (a' := ?_) #[true, false, false, false, false, false, false, false, false] rfl rfl (any_of HT_.out (by kernel_rfl)) (fun _ _ _ h => h) (Or.inl ⟨by rfl, ?_⟩) ?_ ?_
    rotate_left
    ·intro w'
     go_simp
     with_reducible rfl
    rotate_left
    ·simp only [Act.put, List.setIfInBounds_toArray, List.set_cons_zero, List.set_cons_succ, i64_w, i32_w]
     rfl
    refine pure_ (i := 1) (N := some 19) (v := ?_) (a' := ?_) #[true, true, false, false, false, false, false, false, false] rfl rfl (any_of HT_.out (by kernel_rfl)) (fun _ _ _ h => h) (Or.inl ⟨by rfl, ?_⟩) ?_ ?_
    rotate_left
    ·intro w'
     go_simp
     with_reducible rfl
    rotate_left
    ·simp only [Act.put, List.setIfInBounds_toArray, List.set_cons_zero, List.set_cons_succ, i64_w, i32_w]
     rfl
    refine pure_ (i := 3) (N := some 21) (v := ?_) (a' := ?_) #[true, true, false, true, false, false, false, false, false] rfl rfl (any_of HT_.out (by kernel_rfl)) (fun _ _ _ h => h) (Or.inl ⟨by rfl, ?_⟩) ?_ ?_
    rotate_left
    ·intro w'
     go_simp
     with_reducible rfl
    rotate_left
    ·simp only [Act.put, List.setIfInBounds_toArray, List.set_cons_zero, List.set_cons_succ, i64_w, i32_w]
     rfl
    refine pure_ (i := 5) (N := some 23) (v := ?_) (a' := ?_) #[true, true, false, true, false, true, false, false, false] rfl rfl (any_of HT_.out (by kernel_rfl)) (fun _ _ _ h => h) (Or.inl ⟨by rfl, ?_⟩) ?_ ?_
    rotate_left
    ·intro w'
     go_simp
     with_reducible rfl
    rotate_left
    ·simp only [Act.put, List.setIfInBounds_toArray, List.set_cons_zero, List.set_cons_succ, i64_w, i32_w]
     rfl
    refine take_ (i := 2) (N := some 20) (v := ?_) (a' := ?_) #[true, true, true, true, false, true, false, false, false] rfl rfl (take_ofW HT_.out HW_.out (by kernel_rfl)) (fun _ _ _ h => h) (Or.inl ⟨by rfl, ?_⟩) hHeld ?_ ?_
    rotate_left
    ·rintro w' ⟨s0, s1⟩
     go_simp
     with_reducible rfl
    rotate_left
    ·simp only [Act.put, List.setIfInBounds_toArray, List.set_cons_zero, List.set_cons_succ, i64_w, i32_w]
     rfl
    refine one_ (i := 4) (N := some 22) #[true, true, true, true, true, true, false, false, false] rfl rfl (one_of HT_.out (by kernel_rfl)) (by decide) (fun K hK => ?_)
    refine goes_ Try.func83 (by kernel_rfl) rfl #[.agg #[.int .i64 a0_0, .bool a0_1], .int .u32 a1] (by rfl) rfl rfl (by (try simp only [List.map_toArray, List.map_cons, List.map_nil]); first | done | rfl) ?_
    with_reducible refine (impl_bench_lonely.calls k a0_0 a0_1 a1 t346 _ A10.out).mono ?_
    rintro e w19 ⟨rfl, hb⟩
    refine ⟨_, rfl, ?_⟩
    have n0_ := A0_ (Kd.R_below (by (with_reducible repeat (first | apply ra_ | apply rn_ | apply rd_)); exact HO344.out) hb)
    have n1_ := A0_ (kb_ (g := gb341) (o := .cells #[.int .i64 a0_0, .bool a0_1] 57 (0, 0)) (by (with_reducible repeat (first | refine kn_ ?_ _ | refine kd_ ?_ | refine ka_ ?_ _)); exact BK341.out) hb)
    have n2_ := A0_ (bt_ (by repeat (first | (with_reducible first | exact HB.out | apply ba_ | apply bn_ | apply bd_ | refine bs_ ?_ GE341.out) | exact HB.out)) hb)
    clear HO344
    clear BK341
    clear HB
    have HO344 := n0_
    have BK341 := n1_
    have HB := n2_
    clear n0_ n1_ n2_
    (try clear hb)
    (try clear hb2)
    (try clear hk)
    (try clear hi)
    refine hK.out _ _ ⟨(kc_ BK341.out 0).trans rfl, (kc_ BK341.out 1).trans rfl⟩ (fun hHeld => ?_)
    clear hK K
    refine norm_ (a' := ?_) ?_ ?_
    rotate_left
    ·show Act.put _ (some 22) _ = _
     simp only [Act.put, List.setIfInBounds_toArray, List.set_cons_zero, List.set_cons_succ, i64_w, i32_w]
     rfl
    refine one_ (i := 6) (N := some 24) #[true, true, true, true, true, true, true, false, false] rfl rfl (one_of HT_.out (by kernel_rfl)) (by decide) (fun K hK => ?_)
    refine goes_ Try.func73 (by kernel_rfl) rfl #[.int .u32 t346, .int .i64 a3] (by rfl) rfl rfl (by (try simp only [List.map_toArray, List.map_cons, List.map_nil]); first | done | rfl) ?_
    with_reducible refine (impl_set_has.calls t346 a3 t347 _ A11.out).mono ?_
    rintro e w' ⟨rfl, ⟨nd, rfl⟩⟩
    refine ⟨_, rfl, ?_⟩
    refine hK.out _ _ ⟨(kc_ BK341.out 0).trans rfl, (kc_ BK341.out 1).trans rfl⟩ (fun hHeld => ?_)
    clear hK K
    refine norm_ (a' := ?_) ?_ ?_
    rotate_left
    ·show Act.put _ (some 24) _ = _
     simp only [Act.put, List.setIfInBounds_toArray, List.set_cons_zero, List.set_cons_succ, i64_w, i32_w]
     rfl
    refine pure_ (i := 7) (N := some 8) (v := ?_) (a' := ?_) #[true, true, true, true, true, true, true, true, false] rfl rfl (any_of HT_.out (by kernel_rfl)) (fun _ _ _ h => h) (Or.inl ⟨by rfl, ?_⟩) ?_ ?_
    rotate_left
    ·intro w'
     go_simp
     with_reducible rfl
    rotate_left
    ·simp only [Act.put, List.setIfInBounds_toArray, List.set_cons_zero, List.set_cons_succ, i64_w, i32_w]
     rfl
    refine pure_ (i := 8) (N := some 9) (v := ?_) (a' := ?_) #[true, true, true, true, true, true, true, true, true] rfl rfl (any_of HT_.out (by kernel_rfl)) (fun _ _ _ h => h) (Or.inl ⟨by rfl, ?_⟩) ?_ ?_
    rotate_left
    ·intro w'
     go_simp
     with_reducible rfl
    rotate_left
    ·simp only [Act.put, List.setIfInBounds_toArray, List.set_cons_zero, List.set_cons_succ, i64_w, i32_w]
     rfl
    refine done_ (done_of HT_.out (by kernel_rfl)) ?_
    try go_wp2
    go_ret2
    exact ⟨by first | rfl | (simp [errW_none, errW_some] <;> rfl) | (simp only [← hji9]; first | rfl | (simp [errW_none, errW_some] <;> rfl)) | (simp [*, errW_none, errW_some] <;> rfl), by repeat (first | (with_reducible first | exact HB.out | apply ba_ | apply bn_ | apply bd_ | refine bs_ ?_ GE341.out) | exact HB.out)⟩
   ·rw [if_neg c8] at H
    exact absurd H (by simp)
  ·rw [if_neg c7] at H
   have c7b0 : (a2 == 1) = false := beq_eq_false_iff_ne.mpr c7
   have c7b1 : (a2 != 1) = true := bne_iff_ne.mpr c7
   have HC20 := A0_ H
   clear H
   go_enter Try.func78, Try.ntmps78
   go_upto_if 28 with (first | ((with_reducible refine gd_ (N := 4) rfl ?_); refine be_ ?hg (N := 4) ?hd (cs := #[.int .i64 a0_0, .bool a0_1]) (t := 57) ?hr ?_; (case hd => rfl); (case hg => rfl); (case hr => first | (go_simp; done) | (go_simp; rfl)); intro gb341 hg w21 hbox hb; have n0_ := A0_ (bt_ (by repeat (first | (with_reducible first | exact HB.out | apply ba_ | apply bn_ | apply bd_) | exact HB.out)) hb); have n1_ := A0_ (hbox); have n2_ := A0_ ((by rw [hg]; exact (bz_ (by repeat (first | (with_reducible first | exact HB.out | apply ba_ | apply bn_ | apply bd_) | exact HB.out))) : w.heap.size ≤ gb341)); have n3_ := A0_ ((by rw [hg]; exact (bz_ (by repeat (first | (with_reducible first | exact HB.out | apply ba_ | apply bn_ | apply bd_) | exact HB.out))) : w.heap.size ≤ gb341)); clear HB; have HB := n0_; have BK341 := n1_; have GW341 := n2_; have GE341 := n3_; clear n0_ n1_ n2_ n3_ hb hbox hg; have hcz22_0 : w21.cell? ⟨gb341, 0, none⟩ = some (.int .i64 a0_0) := (kc_ BK341.out 0).trans rfl; have hcz22_1 : w21.cell? ⟨gb341, 1, none⟩ = some (.bool a0_1) := (kc_ BK341.out 1).trans rfl; have hfz22_0 := kf_ BK341.out 0; have hfz22_1 := kf_ BK341.out 1) | ((with_reducible refine gd_ (N := 13) rfl ?_); refine Kd.R_lit (Kd.int .i64) _ 3 ?hg (N := 13) ?hd (xs := ([a3] : List Int)) (inner := [.int .i64 a3]) (ok := fun _ => True) (okp := fun _ => True) ?hr ?hp (fun _ hk => hk) trivial (Below.refl _ _) (Nat.le_refl _) (by simp) ?_; (case hd => rfl); (case hg => rfl); (case hr => first | (go_simp; done) | (go_simp; rfl)); (case hp => exact (Reps.one (show Kd.M (Kd.int .i64) _ _ _ a3 [.int .i64 a3] from rfl) (Reps.none _ _))); intro v343 w23 ho24 hb hg_ hnew_; clear hg_ hnew_; (first | rw [← Ny342.out] at ho24 | (simp only [Int.reduceToNat] at ho24; rw [← Ny342.out] at ho24)); have n0_ := A0_ (Kd.R_lower ho24 (bz_ (by repeat (first | (with_reducible first | exact HB.out | apply ba_ | apply bn_ | apply bd_ | refine bs_ ?_ GE341.out) | exact HB.out)))); have n1_ := A0_ (kb_ (g := gb341) (o := .cells #[.int .i64 a0_0, .bool a0_1] 57 (0, 0)) (by (with_reducible repeat (first | refine kn_ ?_ _ | refine kd_ ?_ | refine ka_ ?_ _)); exact BK341.out) hb); have n2_ := A0_ (bt_ (by repeat (first | (with_reducible first | exact HB.out | apply ba_ | apply bn_ | apply bd_ | refine bs_ ?_ GE341.out) | exact HB.out)) hb); clear BK341 HB; have HO344 := n0_; have BK341 := n1_; have HB := n2_; clear n0_ n1_ n2_ hb ho24; obtain ⟨Ao25, co25, eo25⟩ := Kd.R_slice HO344.out; subst eo25) | ((with_reducible refine gc_ (f := 89) rfl ?_); refine goesL_ (some 14) rfl rfl Try.func89 (by kernel_rfl) rfl #[.agg #[.int .i64 a0_0, .bool a0_1], .slice Ao25 y342.length co25] rfl (by (try simp only [List.map_toArray, List.map_cons, List.map_nil]); first | done | rfl) ?_; (with_reducible refine (impl_bench_has.calls k a0_0 a0_1 _ _ y342 true _ ?side1 ?side2 A5.out).mono ?_); (case side1 => repeat (first | exact (rr_ HO344.out).2.2 | (with_reducible refine ca_ ?_ _) | (with_reducible refine cn_ ?_ _) | (with_reducible refine cd_ ?_))); (case side2 => exact (rr_ HO344.out).2.1); rintro e w26 ⟨rfl, hb⟩; refine ⟨_, rfl, ?_⟩; have n0_ := A0_ (Kd.R_below (by (with_reducible repeat (first | apply ra_ | apply rn_ | apply rd_)); exact HO344.out) hb); have n1_ := A0_ (kb_ (g := gb341) (o := .cells #[.int .i64 a0_0, .bool a0_1] 57 (0, 0)) (by (with_reducible repeat (first | refine kn_ ?_ _ | refine kd_ ?_ | refine ka_ ?_ _)); exact BK341.out) hb); have n2_ := A0_ (bt_ (by repeat (first | (with_reducible first | exact HB.out | apply ba_ | apply bn_ | apply bd_ | refine bs_ ?_ GE341.out) | exact HB.out)) hb); clear HO344 BK341 HB; have HO344 := n0_; have BK341 := n1_; have HB := n2_; clear n0_ n1_ n2_; (try clear hb); (try clear hb2); (try clear hk); (try clear hi); have hcz27_0 : w26.cell? ⟨gb341, 0, none⟩ = some (.int .i64 a0_0) := (kc_ BK341.out 0).trans rfl; have hcz27_1 : w26.cell? ⟨gb341, 1, none⟩ = some (.bool a0_1) := (kc_ BK341.out 1).trans rfl; have hfz27_0 := kf_ BK341.out 0; have hfz27_1 := kf_ BK341.out 1))
   (try simp only [Act.put, List.setIfInBounds_toArray, List.set_cons_zero, List.set_cons_succ])
   go_cut [10] (fun v10 wc => ∃ (kq : Nat) (x10_19 : Int), v10 = .int .i64 x10_19 ∧ Aside0 (impl_bench_taking.j0 kq a1 a3 x10_19 a0_0 a0_1 = some (r1, r2)) ∧ Aside0 (kq ≤ k) ∧ Aside0 (wc.heap[gb341]? = some (.cells #[.int .i64 a0_0, .bool a0_1] 57 (0, 0))) ∧ Aside0 (Below w.heap.size w wc))
   case first =>
    have H := HC20.out
    clear HC20
    by_cases c28 : a0_1 = true
    ·subst c28
     rw [if_pos rfl] at H
     by_cases c29 : a0_0 = 0
     ·rw [if_pos c29] at H
      exact absurd H (by simp)
     ·rw [if_neg c29] at H
      have c29b0 : (a0_0 == 0) = false := beq_eq_false_iff_ne.mpr c29
      have c29b1 : (a0_0 != 0) = true := bne_iff_ne.mpr c29
      (first | rw [c29b0] | (simp only [i64_w, i32_w]; rw [c29b0]) | skip)
      have H' := A0_ H
      clear H
      have hcz30_0 : w26.cell? ⟨gb341, 0, none⟩ = some (.int .i64 a0_0) := (kc_ BK341.out 0).trans rfl
      have hcz30_1 : w26.cell? ⟨gb341, 1, none⟩ = some (.bool true) := (kc_ BK341.out 1).trans rfl
      have hfz30_0 := kf_ BK341.out 0
      have hfz30_1 := kf_ BK341.out 1
      go_wp2
      go_meet
      case rel => exact ⟨_, (Int.tmod (wrap64 (a3 + 1)) a0_0), (by first | rfl | (simp; done) | (simp [*]; done)), H', ⟨by first | omega | exact Nat.le_refl _⟩, ⟨by (with_reducible repeat (first | refine kn_ ?_ _ | refine kd_ ?_ | refine ka_ ?_ _)); exact BK341.out⟩, ⟨by repeat (first | (with_reducible first | exact HB.out | apply ba_ | apply bn_ | apply bd_ | refine bs_ ?_ GE341.out) | exact HB.out)⟩⟩
    ·replace c28 := bf_.mpr c28
     subst c28
     rw [if_neg (show ¬ (false = true) by decide)] at H
     have H' := A0_ H
     clear H
     go_wp2
     go_meet
     case rel => exact ⟨_, (wrap64 (a3 + 1)), (by first | rfl | (simp; done) | (simp [*]; done)), H', ⟨by first | omega | exact Nat.le_refl _⟩, ⟨by (with_reducible repeat (first | refine kn_ ?_ _ | refine kd_ ?_ | refine ka_ ?_ _)); exact BK341.out⟩, ⟨by repeat (first | (with_reducible first | exact HB.out | apply ba_ | apply bn_ | apply bd_ | refine bs_ ?_ GE341.out) | exact HB.out)⟩⟩
   case rest =>
    clear HC20
    try clear c2
    try clear p2
    try clear c6
    try clear p6
    try clear c7
    try clear c7b0
    try clear c7b1
    try clear c8
    try clear c8b0
    try clear c8b1
    try clear c28
    try clear c29
    try clear c29b0
    try clear c29b1
    try clear hcz13_0
    try clear hcz13_1
    try clear hcz22_0
    try clear hcz22_1
    try clear hcz27_0
    try clear hcz27_1
    try clear hcz30_0
    try clear hcz30_1
    try clear hfz13_0
    try clear hfz13_1
    try clear hfz22_0
    try clear hfz22_1
    try clear hfz27_0
    try clear hfz27_1
    try clear hfz30_0
    try clear hfz30_1
    obtain ⟨kq, x10_19, rfl, HA, HJ19, BK341, HB⟩ := hcut
    cases kq with
    | zero => exact absurd HA.out (by simp [impl_bench_taking.j0])
    | succ kj19 =>
     have H := HA.out
     clear HA
     simp only [impl_bench_taking.j0] at H
     by_cases c31 : x10_19 = a0_0
     ·rw [if_pos c31] at H
      have c31b0 : (x10_19 == a0_0) = true := beq_iff_eq.mpr c31
      have c31b1 : (x10_19 != a0_0) = false := bne_eq_false_iff_eq.mpr c31
      clear c31
      simp only [Option.some.injEq, Prod.mk.injEq] at H
      obtain ⟨rfl, rfl⟩ := H
      have hcz32_0 : wc.cell? ⟨gb341, 0, none⟩ = some (.int .i64 a0_0) := (kc_ BK341.out 0).trans rfl
      have hcz32_1 : wc.cell? ⟨gb341, 1, none⟩ = some (.bool a0_1) := (kc_ BK341.out 1).trans rfl
      have hfz32_0 := kf_ BK341.out 0
      have hfz32_1 := kf_ BK341.out 1
      go_wp2
      go_ret2
      exact ⟨by first | rfl | (simp [errW_none, errW_some] <;> rfl) | (simp [*, errW_none, errW_some] <;> rfl), by repeat (first | (with_reducible first | exact HB.out | apply ba_ | apply bn_ | apply bd_ | refine bs_ ?_ GE341.out) | exact HB.out)⟩
     ·rw [if_neg c31] at H
      have c31b0 : (x10_19 == a0_0) = false := beq_eq_false_iff_ne.mpr c31
      have c31b1 : (x10_19 != a0_0) = true := bne_iff_ne.mpr c31
      replace H := ob_.mp H
      obtain ⟨t348, A330, H⟩ := H
      have A33 := A0_ A330
      clear A330
      by_cases c34 : t348 = true
      ·subst c34
       rw [if_pos rfl] at H
       simp only [Option.some.injEq, Prod.mk.injEq] at H
       obtain ⟨rfl, rfl⟩ := H
       have hcz35_0 : wc.cell? ⟨gb341, 0, none⟩ = some (.int .i64 a0_0) := (kc_ BK341.out 0).trans rfl
       have hcz35_1 : wc.cell? ⟨gb341, 1, none⟩ = some (.bool a0_1) := (kc_ BK341.out 1).trans rfl
       have hfz35_0 := kf_ BK341.out 0
       have hfz35_1 := kf_ BK341.out 1
       go_wp2_with (first | (go_at_call 73; (with_reducible refine (impl_set_has.calls a1 a3 true _ A33.out).mono ?_); rintro e w' ⟨rfl, ⟨nd, rfl⟩⟩))
       go_ret2
       exact ⟨by first | rfl | (simp [errW_none, errW_some] <;> rfl) | (simp [*, errW_none, errW_some] <;> rfl), by repeat (first | (with_reducible first | exact HB.out | apply ba_ | apply bn_ | apply bd_ | refine bs_ ?_ GE341.out) | exact HB.out)⟩
      ·replace c34 := bf_.mpr c34
       subst c34
       rw [if_neg (show ¬ (false = true) by decide)] at H
       replace H := ob_.mp H
       obtain ⟨t349, A360, H⟩ := H
       have A36 := A0_ A360
       clear A360
       by_cases c37 : t349 = true
       ·subst c37
        rw [if_pos rfl] at H
        simp only [Option.some.injEq, Prod.mk.injEq] at H
        obtain ⟨rfl, rfl⟩ := H
        have hcz38_0 : wc.cell? ⟨gb341, 0, none⟩ = some (.int .i64 a0_0) := (kc_ BK341.out 0).trans rfl
        have hcz38_1 : wc.cell? ⟨gb341, 1, none⟩ = some (.bool a0_1) := (kc_ BK341.out 1).trans rfl
        have hfz38_0 := kf_ BK341.out 0
        have hfz38_1 := kf_ BK341.out 1
        go_wp2_with (first | (go_at_call 73; (with_reducible refine (impl_set_has.calls a1 a3 false _ A33.out).mono ?_); rintro e w' ⟨rfl, ⟨nd, rfl⟩⟩) | (go_at_call 73; (with_reducible refine (impl_set_has.calls a1 x10_19 true _ A36.out).mono ?_); rintro e w' ⟨rfl, ⟨nd, rfl⟩⟩))
        go_ret2
        exact ⟨by first | rfl | (simp [errW_none, errW_some] <;> rfl) | (simp [*, errW_none, errW_some] <;> rfl), by repeat (first | (with_reducible first | exact HB.out | apply ba_ | apply bn_ | apply bd_ | refine bs_ ?_ GE341.out) | exact HB.out)⟩
       ·replace c37 := bf_.mpr c37
        subst c37
        rw [if_neg (show ¬ (false = true) by decide)] at H
        by_cases c39 : 0 ≤ a3
        ·rw [if_pos c39] at H
         have c39b0 := eq_true c39
         have c39b1 : decide (0 ≤ a3) = true := dt_ c39
         clear c39
         obtain ⟨ji40, hji40⟩ : ∃ j_ : Int, (shl .u32 1 a3) = j_ := ⟨_, rfl⟩
         replace H : (if 0 ≤ x10_19 then (some (Go.bits .or .u32 (ji40) (shl .u32 1 x10_19), true)) else (none)) = some (r1, r2) := by first | (rw [hji40] at H; exact H) | (simp only [hji40] at H ⊢; exact H)
         (try rw [hji40] at A33)
         (try rw [hji40] at A36)
         have hji40_ : (IntKind.u32.wrap (1 * 2 ^ min a3.toNat 32)) = ji40 := hji40
         have hji40z : a3 ≤ 32 → (IntKind.u32.wrap (1 * 2 ^ a3.toNat)) = ji40 := shl_small hji40
         have hji40u : (IntKind.u32.wrap (2 ^ min a3.toNat 32)) = ji40 := by have h_ := hji40_; rw [Int.one_mul] at h_; exact h_
         have hji40v : a3 ≤ 32 → (IntKind.u32.wrap (2 ^ a3.toNat)) = ji40 := fun hle_ => by have h_ := hji40z hle_; rw [Int.one_mul] at h_; exact h_
         by_cases c41 : 0 ≤ x10_19
         ·rw [if_pos c41] at H
          have c41b0 := eq_true c41
          have c41b1 : decide (0 ≤ x10_19) = true := dt_ c41
          clear c41
          obtain ⟨ji42, hji42⟩ : ∃ j_ : Int, (shl .u32 1 x10_19) = j_ := ⟨_, rfl⟩
          replace H : (some (Go.bits .or .u32 (ji40) (ji42), true)) = some (r1, r2) := by first | (rw [hji42] at H; exact H) | (simp only [hji42] at H ⊢; exact H)
          (try rw [hji42] at A33)
          (try rw [hji42] at A36)
          have hji42_ : (IntKind.u32.wrap (1 * 2 ^ min x10_19.toNat 32)) = ji42 := hji42
          have hji42z : x10_19 ≤ 32 → (IntKind.u32.wrap (1 * 2 ^ x10_19.toNat)) = ji42 := shl_small hji42
          have hji42u : (IntKind.u32.wrap (2 ^ min x10_19.toNat 32)) = ji42 := by have h_ := hji42_; rw [Int.one_mul] at h_; exact h_
          have hji42v : x10_19 ≤ 32 → (IntKind.u32.wrap (2 ^ x10_19.toNat)) = ji42 := fun hle_ => by have h_ := hji42z hle_; rw [Int.one_mul] at h_; exact h_
          simp only [Option.some.injEq, Prod.mk.injEq] at H
          obtain ⟨rfl, rfl⟩ := H
          have hcz43_0 : wc.cell? ⟨gb341, 0, none⟩ = some (.int .i64 a0_0) := (kc_ BK341.out 0).trans rfl
          have hcz43_1 : wc.cell? ⟨gb341, 1, none⟩ = some (.bool a0_1) := (kc_ BK341.out 1).trans rfl
          have hfz43_0 := kf_ BK341.out 0
          have hfz43_1 := kf_ BK341.out 1
          try go_wp2_with (first | (go_at_call 73; (with_reducible refine (impl_set_has.calls a1 a3 false _ A33.out).mono ?_); rintro e w' ⟨rfl, ⟨nd, rfl⟩⟩) | (go_at_call 73; (with_reducible refine (impl_set_has.calls a1 x10_19 false _ A36.out).mono ?_); rintro e w' ⟨rfl, ⟨nd, rfl⟩⟩))
          (try (rw [drewN_self wc]; generalize hq_ : World.drewN wc _ = wc; have n0_ : Aside0 (wc.heap[gb341]? = some (.cells #[.int .i64 a0_0, .bool a0_1] 57 (0, 0))) := ⟨by rw [← hq_]; exact (by (with_reducible repeat (first | refine kn_ ?_ _ | refine kd_ ?_ | refine ka_ ?_ _)); exact BK341.out)⟩; have n1_ : Aside0 (Below w.heap.size w wc) := ⟨by rw [← hq_]; exact (by repeat (first | (with_reducible first | exact HB.out | apply ba_ | apply bn_ | apply bd_ | refine bs_ ?_ GE341.out) | exact HB.out))⟩; clear BK341 HB hq_; have BK341 := n0_; have HB := n1_; clear n0_ n1_))
          have n0_ := A0_ (kd_ BK341.out)
          have n1_ := A0_ (bd_ HB.out)
          clear BK341
          clear HB
          have BK341 := n0_
          have HB := n1_
          clear n0_ n1_
          refine start_ (n := 7) (S := fun w' => True) (ds := []) #[false, false, false, false, false, false, false] (by kernel_rfl) rfl rfl trivial (fun hHeld => ?_)
          generalize wc.drew = w44 at BK341 HB hHeld ⊢
          refine pure_ (i := 0) (N := some 47) (v := ?_) (a' := ?_) #[true, false, false, false, false, false, false] rfl rfl (by kernel_rfl) (fun _ _ _ h => h) (Or.inl ⟨by rfl, ?_⟩) ?_ ?_
          rotate_left
          ·intro w'
           go_simp
           with_reducible rfl
          rotate_left
          ·simp only [Act.put, List.setIfInBounds_toArray, List.set_cons_zero, List.set_cons_succ, i64_w, i32_w]
           rfl
          refine pure_ (i := 1) (N := some 48) (v := ?_) (a' := ?_) #[true, true, false, false, false, false, false] rfl rfl (by kernel_rfl) (fun _ _ _ h => h) (Or.inl ⟨by rfl, ?_⟩) ?_ ?_
          rotate_left
          ·intro w'
           go_simp
           with_reducible rfl
          rotate_left
          ·simp only [Act.put, List.setIfInBounds_toArray, List.set_cons_zero, List.set_cons_succ, i64_w, i32_w]
           rfl
          refine pure_ (i := 2) (N := some 49) (v := ?_) (a' := ?_) #[true, true, true, false, false, false, false] rfl rfl (by kernel_rfl) (fun _ _ _ h => h) (Or.inl ⟨by rfl, ?_⟩) ?_ ?_
          rotate_left
          ·intro w'
           go_simp
           with_reducible rfl
          rotate_left
          ·simp only [Act.put, List.setIfInBounds_toArray, List.set_cons_zero, List.set_cons_succ, i64_w, i32_w]
           rfl
          refine pure_ (i := 3) (N := some 50) (v := ?_) (a' := ?_) #[true, true, true, true, false, false, false] rfl rfl (by kernel_rfl) (fun _ _ _ h => h) (Or.inl ⟨by rfl, ?_⟩) ?_ ?_
          rotate_left
          ·intro w'
           go_simp
           with_reducible rfl
          rotate_left
          ·simp only [Act.put, List.setIfInBounds_toArray, List.set_cons_zero, List.set_cons_succ, i64_w, i32_w]
           rfl
          refine pure_ (i := 4) (N := some 51) (v := ?_) (a' := ?_) #[true, true, true, true, true, false, false] rfl rfl (by kernel_rfl) (fun _ _ _ h => h) (Or.inl ⟨by rfl, ?_⟩) ?_ ?_
          rotate_left
          ·intro w'
           go_simp
           with_reducible rfl
          rotate_left
          ·simp only [Act.put, List.setIfInBounds_toArray, List.set_cons_zero, List.set_cons_succ, i64_w, i32_w]
           rfl
          refine pure_ (i := 5) (N := some 8) (v := ?_) (a' := ?_) #[true, true, true, true, true, true, false] rfl rfl (by kernel_rfl) (fun _ _ _ h => h) (Or.inl ⟨by rfl, ?_⟩) ?_ ?_
          rotate_left
          ·intro w'
           go_simp
           with_reducible rfl
          rotate_left
          ·simp only [Act.put, List.setIfInBounds_toArray, List.set_cons_zero, List.set_cons_succ, i64_w, i32_w]
           rfl
          refine pure_ (i := 6) (N := some 9) (v := ?_) (a' := ?_) #[true, true, true, true, true, true, true] rfl rfl (by kernel_rfl) (fun _ _ _ h => h) (Or.inl ⟨by rfl, ?_⟩) ?_ ?_
          rotate_left
          ·intro w'
           go_simp
           with_reducible rfl
          rotate_left
          ·simp only [Act.put, List.setIfInBounds_toArray, List.set_cons_zero, List.set_cons_succ, i64_w, i32_w]
           rfl
          refine done_ (by kernel_rfl) ?_
          try go_wp2
          go_ret2
          exact ⟨by first | rfl | (simp [errW_none, errW_some] <;> rfl) | (simp only [← hji40, ← hji42]; first | rfl | (simp [errW_none, errW_some] <;> rfl)) | (simp [*, errW_none, errW_some] <;> rfl), by repeat (first | (with_reducible first | exact HB.out | apply ba_ | apply bn_ | apply bd_ | refine bs_ ?_ GE341.out) | exact HB.out)⟩
         ·rw [if_neg c41] at H
          exact absurd H (by simp)
        ·rw [if_neg c39] at H
         exact absurd H (by simp)
 ·replace c6 := bf_.mpr c6
  subst c6
  rw [if_neg (show ¬ (false = true) by decide)] at H
  simp only [Option.some.injEq, Prod.mk.injEq] at H
  obtain ⟨rfl, rfl⟩ := H
  go_enter Try.func78, Try.ntmps78
  go_wp2_with (first | ((with_reducible refine gd_ (N := 4) rfl ?_); refine be_ ?hg (N := 4) ?hd (cs := #[.int .i64 a0_0, .bool a0_1]) (t := 57) ?hr ?_; (case hd => rfl); (case hg => rfl); (case hr => first | (go_simp; done) | (go_simp; rfl)); intro gb341 hg w45 hbox hb; have n0_ := A0_ (bt_ (by repeat (first | (with_reducible first | exact HB.out | apply ba_ | apply bn_ | apply bd_) | exact HB.out)) hb); have n1_ := A0_ (hbox); have n2_ := A0_ ((by rw [hg]; exact (bz_ (by repeat (first | (with_reducible first | exact HB.out | apply ba_ | apply bn_ | apply bd_) | exact HB.out))) : w.heap.size ≤ gb341)); have n3_ := A0_ ((by rw [hg]; exact (bz_ (by repeat (first | (with_reducible first | exact HB.out | apply ba_ | apply bn_ | apply bd_) | exact HB.out))) : w.heap.size ≤ gb341)); clear HB; have HB := n0_; have BK341 := n1_; have GW341 := n2_; have GE341 := n3_; clear n0_ n1_ n2_ n3_ hb hbox hg; have hcz46_0 : w45.cell? ⟨gb341, 0, none⟩ = some (.int .i64 a0_0) := (kc_ BK341.out 0).trans rfl; have hcz46_1 : w45.cell? ⟨gb341, 1, none⟩ = some (.bool a0_1) := (kc_ BK341.out 1).trans rfl; have hfz46_0 := kf_ BK341.out 0; have hfz46_1 := kf_ BK341.out 1) | ((with_reducible refine gd_ (N := 13) rfl ?_); refine Kd.R_lit (Kd.int .i64) _ 3 ?hg (N := 13) ?hd (xs := ([a3] : List Int)) (inner := [.int .i64 a3]) (ok := fun _ => True) (okp := fun _ => True) ?hr ?hp (fun _ hk => hk) trivial (Below.refl _ _) (Nat.le_refl _) (by simp) ?_; (case hd => rfl); (case hg => rfl); (case hr => first | (go_simp; done) | (go_simp; rfl)); (case hp => exact (Reps.one (show Kd.M (Kd.int .i64) _ _ _ a3 [.int .i64 a3] from rfl) (Reps.none _ _))); intro v343 w47 ho48 hb hg_ hnew_; clear hg_ hnew_; (first | rw [← Ny342.out] at ho48 | (simp only [Int.reduceToNat] at ho48; rw [← Ny342.out] at ho48)); have n0_ := A0_ (Kd.R_lower ho48 (bz_ (by repeat (first | (with_reducible first | exact HB.out | apply ba_ | apply bn_ | apply bd_ | refine bs_ ?_ GE341.out) | exact HB.out)))); have n1_ := A0_ (kb_ (g := gb341) (o := .cells #[.int .i64 a0_0, .bool a0_1] 57 (0, 0)) (by (with_reducible repeat (first | refine kn_ ?_ _ | refine kd_ ?_ | refine ka_ ?_ _)); exact BK341.out) hb); have n2_ := A0_ (bt_ (by repeat (first | (with_reducible first | exact HB.out | apply ba_ | apply bn_ | apply bd_ | refine bs_ ?_ GE341.out) | exact HB.out)) hb); clear BK341 HB; have HO344 := n0_; have BK341 := n1_; have HB := n2_; clear n0_ n1_ n2_ hb ho48; obtain ⟨Ao49, co49, eo49⟩ := Kd.R_slice HO344.out; subst eo49) | ((with_reducible refine gc_ (f := 89) rfl ?_); refine goesL_ (some 14) rfl rfl Try.func89 (by kernel_rfl) rfl #[.agg #[.int .i64 a0_0, .bool a0_1], .slice Ao49 y342.length co49] rfl (by (try simp only [List.map_toArray, List.map_cons, List.map_nil]); first | done | rfl) ?_; (with_reducible refine (impl_bench_has.calls k a0_0 a0_1 _ _ y342 false _ ?side1 ?side2 A5.out).mono ?_); (case side1 => repeat (first | exact (rr_ HO344.out).2.2 | (with_reducible refine ca_ ?_ _) | (with_reducible refine cn_ ?_ _) | (with_reducible refine cd_ ?_))); (case side2 => exact (rr_ HO344.out).2.1); rintro e w50 ⟨rfl, hb⟩; refine ⟨_, rfl, ?_⟩; have n0_ := A0_ (Kd.R_below (by (with_reducible repeat (first | apply ra_ | apply rn_ | apply rd_)); exact HO344.out) hb); have n1_ := A0_ (kb_ (g := gb341) (o := .cells #[.int .i64 a0_0, .bool a0_1] 57 (0, 0)) (by (with_reducible repeat (first | refine kn_ ?_ _ | refine kd_ ?_ | refine ka_ ?_ _)); exact BK341.out) hb); have n2_ := A0_ (bt_ (by repeat (first | (with_reducible first | exact HB.out | apply ba_ | apply bn_ | apply bd_ | refine bs_ ?_ GE341.out) | exact HB.out)) hb); clear HO344 BK341 HB; have HO344 := n0_; have BK341 := n1_; have HB := n2_; clear n0_ n1_ n2_; (try clear hb); (try clear hb2); (try clear hk); (try clear hi)))
  go_ret2
  exact ⟨by first | rfl | (simp [errW_none, errW_some] <;> rfl) | (simp [*, errW_none, errW_some] <;> rfl), by repeat (first | (with_reducible first | exact HB.out | apply ba_ | apply bn_ | apply bd_ | refine bs_ ?_ GE341.out) | exact HB.out)⟩

/-! ### impl_bench_moves: function 52 -/
def impl_bench_moves.l0 : Nat → Int → Int → List Int → Int → Int → Int → Bool → Option (List Int)
 | 0, _, _, _, _, _, _, _ => none
 | k + 1, x1, x2, x7, x13, x14, x351000, x351001 => if x14 < x13 then ((impl_bench_taking.f k x351000 x351001 x1 x2 x14).bind fun bt354 => (if bt354.2 = true then (if x7.length < 17592186044416 then (impl_bench_moves.l0 k x1 x2 (x7 ++ [x14]) x13 (wrap64 (x14 + 1)) x351000 x351001) else (none)) else (impl_bench_moves.l0 k x1 x2 x7 x13 (wrap64 (x14 + 1)) x351000 x351001))) else (some x7)
def impl_bench_moves.f (k : Nat) (a0_0 : Int) (a0_1 : Bool) (a1 : Int) (a2 : Int) : Option (List Int) := impl_bench_moves.l0 k a1 a2 (([] : List Int)) a0_0 0 a0_0 a0_1
theorem impl_bench_moves.mono_l : ∀ k, (∀ y0 y1 y2 y3 y4 y5 y6, LeO (impl_bench_moves.l0 k y0 y1 y2 y3 y4 y5 y6) (impl_bench_moves.l0 (k + 1) y0 y1 y2 y3 y4 y5 y6))
 | 0 => fun _ _ _ _ _ _ _ r h => by simp [impl_bench_moves.l0] at h
 | k + 1 => by
  have ih0 := impl_bench_moves.mono_l k
  ·intro y0 y1 y2 y3 y4 y5 y6
   unfold impl_bench_moves.l0
   repeat' first
   | (with_reducible exact ih0 _ _ _ _ _ _ _)
   | (with_reducible exact impl_bench_taking.mono _ _ _ _ _ _)
   | (with_reducible exact LeO.refl _)
   | (with_reducible exact LeO.none _)
   | (with_reducible refine LeO.ite ?_ ?_)
   | (with_reducible refine LeO.bind ?_ (fun _ => ?_))
theorem impl_bench_moves.mono : ∀ a0 a1 a2 a3 k, LeO (impl_bench_moves.f k a0 a1 a2 a3) (impl_bench_moves.f (k + 1) a0 a1 a2 a3) := by
 intro a0 a1 a2 a3 k
 have ih0 := impl_bench_moves.mono_l k
 unfold impl_bench_moves.f
 repeat' first
   | (with_reducible exact ih0 _ _ _ _ _ _ _)
   | (with_reducible exact impl_bench_taking.mono _ _ _ _ _ _)
   | (with_reducible exact LeO.refl _)
   | (with_reducible exact LeO.none _)
   | (with_reducible refine LeO.ite ?_ ?_)
   | (with_reducible refine LeO.bind ?_ (fun _ => ?_))
set_option maxHeartbeats 8000000 in
set_option maxRecDepth 100000 in
theorem impl_bench_moves.calls (k : Nat) (a0_0 : Int) (a0_1 : Bool) (a1 : Int) (a2 : Int) (r : List Int) (w : World) (h : impl_bench_moves.f k a0_0 a0_1 a1 a2 = some r) :
  Calls Try.prog 52 #[.agg #[.int .i64 a0_0, .bool a0_1], .int .u32 a1, .int .i64 a2] w fun e w' => ∃ v0_ : Value, e = .returned (v0_) ∧ Kd.R (Kd.int .i64) 3 w' w.heap.size (fun _ => True) v0_ r ∧ Below w.heap.size w w' := by
 have hu57 := Try.underlying57
 have HB := A0_ (Below.refl w.heap.size w)
 have H : (impl_bench_moves.l0 k a1 a2 (([] : List Int)) a0_0 0 a0_0 a0_1) = some r := h
 clear h
 obtain ⟨y351, hy351⟩ : ∃ y_ : List Int, y_ = (([] : List Int)) := ⟨_, rfl⟩
 replace H : (impl_bench_moves.l0 k a1 a2 y351 a0_0 0 a0_0 a0_1) = some r := by first | (rw [hy351]; with_reducible exact H) | (have H2_ := (Option.bind_some _ _).symm.trans H; rw [hy351]; with_reducible exact H2_) | (have H2_ := (Option.bind_some _ _).symm.trans H; with_reducible exact H2_) | with_reducible exact H | (rw [hy351]; exact H) | exact H
 have Ny351 := A0_ hy351
 clear hy351
 have H' := A0_ H
 clear H
 go_enter Try.func52, Try.ntmps52
 go_wp2_with (first | ((with_reducible refine gd_ (N := 3) rfl ?_); refine be_ ?hg (N := 3) ?hd (cs := #[.int .i64 a0_0, .bool a0_1]) (t := 57) ?hr ?_; (case hd => rfl); (case hg => rfl); (case hr => first | (go_simp; done) | (go_simp; rfl)); intro gb350 hg w4 hbox hb; have n0_ := A0_ (bt_ (by repeat (first | (with_reducible first | exact HB.out | apply ba_ | apply bn_ | apply bd_) | exact HB.out)) hb); have n1_ := A0_ (hbox); have n2_ := A0_ ((by rw [hg]; exact (bz_ (by repeat (first | (with_reducible first | exact HB.out | apply ba_ | apply bn_ | apply bd_) | exact HB.out))) : w.heap.size ≤ gb350)); have n3_ := A0_ ((by rw [hg]; exact (bz_ (by repeat (first | (with_reducible first | exact HB.out | apply ba_ | apply bn_ | apply bd_) | exact HB.out))) : w.heap.size ≤ gb350)); clear HB; have HB := n0_; have BK350 := n1_; have GW350 := n2_; have GE350 := n3_; clear n0_ n1_ n2_ n3_ hb hbox hg) | ((with_reducible refine gd_ (N := 11) rfl ?_); refine Kd.R_lit (Kd.int .i64) _ 3 ?hg (N := 11) ?hd (xs := ([] : List Int)) (inner := []) (ok := fun _ => True) (okp := fun _ => True) ?hr ?hp (fun _ hk => hk) trivial (Below.refl _ _) (Nat.le_refl _) (by simp) ?_; (case hd => rfl); (case hg => rfl); (case hr => first | (go_simp; done) | (go_simp; rfl)); (case hp => exact (Reps.none _ _)); intro v352 w5 ho6 hb hg_ hnew_; clear hg_ hnew_; (first | rw [← Ny351.out] at ho6 | (simp only [Int.reduceToNat] at ho6; rw [← Ny351.out] at ho6)); have n0_ := A0_ (Kd.R_lower ho6 (bz_ (by repeat (first | (with_reducible first | exact HB.out | apply ba_ | apply bn_ | apply bd_ | refine bs_ ?_ GE350.out) | exact HB.out)))); have n1_ := A0_ (kb_ (g := gb350) (o := .cells #[.int .i64 a0_0, .bool a0_1] 57 (0, 0)) (by (with_reducible repeat (first | refine kn_ ?_ _ | refine kd_ ?_ | refine ka_ ?_ _)); exact BK350.out) hb); have n2_ := A0_ (bt_ (by repeat (first | (with_reducible first | exact HB.out | apply ba_ | apply bn_ | apply bd_ | refine bs_ ?_ GE350.out) | exact HB.out)) hb); clear BK350 HB; have HO353 := n0_; have BK350 := n1_; have HB := n2_; clear n0_ n1_ n2_ hb ho6; have hcz7_0 : w5.cell? ⟨gb350, 0, none⟩ = some (.int .i64 a0_0) := (kc_ BK350.out 0).trans rfl; have hcz7_1 : w5.cell? ⟨gb350, 1, none⟩ = some (.bool a0_1) := (kc_ BK350.out 1).trans rfl; have hfz7_0 := kf_ BK350.out 0; have hfz7_1 := kf_ BK350.out 1))
 go_loopg [7, 14] k (fun kq v7 v14 w' => ∃ (x7_1 : List Int) (x14_1 : Int), v14 = .int .i64 x14_1 ∧ Aside0 (impl_bench_moves.l0 kq a1 a2 x7_1 a0_0 x14_1 a0_0 a0_1 = some r) ∧ Aside0 (kq ≤ k) ∧ Aside0 (Kd.R (Kd.int .i64) 3 w' w.heap.size (fun _ => True) v7 x7_1) ∧ Aside0 (w'.heap[gb350]? = some (.cells #[.int .i64 a0_0, .bool a0_1] 57 (0, 0))) ∧ Aside0 (Below w.heap.size w w'))
 case atStart => exact ⟨(y351), (0), (by first | rfl | (simp; done) | (simp [*]; done)), H', ⟨Nat.le_refl _⟩, ⟨by (with_reducible repeat (first | apply ra_ | apply rn_ | apply rd_)); exact HO353.out⟩, ⟨by (with_reducible repeat (first | refine kn_ ?_ _ | refine kd_ ?_ | refine ka_ ?_ _)); exact BK350.out⟩, ⟨by repeat (first | (with_reducible first | exact HB.out | apply ba_ | apply bn_ | apply bd_ | refine bs_ ?_ GE350.out) | exact HB.out)⟩⟩
 case round =>
  clear H'
  try clear p2
  try clear c5
  try clear hcz7_0
  try clear hcz7_1
  try clear hfz7_0
  try clear hfz7_1
  obtain ⟨x7_1, x14_1, rfl, HA, HK1, HO_7, BK350, HB⟩ := hrel
  cases gk with
  | zero => exact absurd HA.out (by simp [impl_bench_moves.l0])
  | succ k1 =>
   have H := HA.out
   clear HA
   simp only [impl_bench_moves.l0] at H
   by_cases c8 : x14_1 < a0_0
   ·rw [if_pos c8] at H
    have c8b0 : decide (x14_1 < a0_0) = true := dt_ c8
    clear c8
    replace H := ob_.mp H
    obtain ⟨⟨t354, t355⟩, A90, H⟩ := H
    have A9 := A0_ A90
    clear A90
    by_cases c10 : t355 = true
    ·subst c10
     rw [if_pos rfl] at H
     by_cases c11 : x7_1.length < 17592186044416
     ·rw [if_pos c11] at H
      have LMc11 := A0_ c11
      clear c11
      obtain ⟨y356, hy356⟩ : ∃ y_ : List Int, y_ = (x7_1 ++ [x14_1]) := ⟨_, rfl⟩
      replace H : (impl_bench_moves.l0 k1 a1 a2 y356 a0_0 (wrap64 (x14_1 + 1)) a0_0 a0_1) = some r := by first | (rw [hy356]; with_reducible exact H) | (have H2_ := (Option.bind_some _ _).symm.trans H; rw [hy356]; with_reducible exact H2_) | (have H2_ := (Option.bind_some _ _).symm.trans H; with_reducible exact H2_) | with_reducible exact H | (rw [hy356]; exact H) | exact H
      have Ny356 := A0_ hy356
      clear hy356
      have H' := A0_ H
      clear H
      have hcz12_0 : wr.cell? ⟨gb350, 0, none⟩ = some (.int .i64 a0_0) := (kc_ BK350.out 0).trans rfl
      have hcz12_1 : wr.cell? ⟨gb350, 1, none⟩ = some (.bool a0_1) := (kc_ BK350.out 1).trans rfl
      have hfz12_0 := kf_ BK350.out 0
      have hfz12_1 := kf_ BK350.out 1
      go_wp2_with (first | ((with_reducible refine gc_ (f := 78) rfl ?_); refine goesL_ (some 22) rfl rfl Try.func78 (by kernel_rfl) rfl #[.agg #[.int .i64 a0_0, .bool a0_1], .int .u32 a1, .int .i64 a2, .int .i64 x14_1] rfl (by (try simp only [List.map_toArray, List.map_cons, List.map_nil]); first | done | rfl) ?_; (with_reducible refine (impl_bench_taking.calls k1 a0_0 a0_1 a1 a2 x14_1 t354 true _ A9.out).mono ?_); rintro e w13 ⟨rfl, hb⟩; refine ⟨_, rfl, ?_⟩; have n0_ := A0_ (Kd.R_below (by (with_reducible repeat (first | apply ra_ | apply rn_ | apply rd_)); exact HO_7.out) hb); have n1_ := A0_ (kb_ (g := gb350) (o := .cells #[.int .i64 a0_0, .bool a0_1] 57 (0, 0)) (by (with_reducible repeat (first | refine kn_ ?_ _ | refine kd_ ?_ | refine ka_ ?_ _)); exact BK350.out) hb); have n2_ := A0_ (bt_ (by repeat (first | (with_reducible first | exact HB.out | apply ba_ | apply bn_ | apply bd_ | refine bs_ ?_ GE350.out) | exact HB.out)) hb); clear HO_7 BK350 HB; have HO_7 := n0_; have BK350 := n1_; have HB := n2_; clear n0_ n1_ n2_; (try clear hb); (try clear hb2); (try clear hk); (try clear hi)) | ((with_reducible refine gate_builtin (b := .append) (xs := #[.tmp 26, .tmp 28]) rfl ?_); at_builtin; refine Kd.R_append (Kd.int .i64) (w0 := w) w.heap.size rfl (.tmp 26) (.tmp 28) 22 3 (.int .i64 0) 8 rfl Try.underlying22 info3 rfl (by decide) (by omega) u7 x7_1 x14_1 [.int .i64 x14_1] (fun _ => True) (fun _ => False) rfl rfl ?aP (fun _ hk => hk.elim) ?aF ?aO ?aB ?aS ?aL ?_; (case aP => exact rfl); (case aB => exact (by repeat (first | (with_reducible first | exact HB.out | apply ba_ | apply bn_ | apply bd_ | refine bs_ ?_ GE350.out) | exact HB.out))); (case aF => exact (fun _ _ => trivial)); (case aO => exact (by (with_reducible repeat (first | apply ra_ | apply rn_ | apply rd_)); exact HO_7.out)); (case aS => exact (bz_ (by repeat (first | (with_reducible first | exact HB.out | apply ba_ | apply bn_ | apply bd_ | refine bs_ ?_ GE350.out) | exact HB.out)))); (case aL => have := LMc11.out; omega); intro v357 w14 ho hb hg hat; rw [← Ny356.out] at ho; have n0_ := A0_ (blk_grown (g := gb350) (o := .cells #[.int .i64 a0_0, .bool a0_1] 57 (0, 0)) (by (with_reducible repeat (first | refine kn_ ?_ _ | refine kd_ ?_ | refine ka_ ?_ _)); exact BK350.out) hg (Kd.R_ne HO_7.out BK350.out (by decide))); have n1_ := A0_ (hb); have n2_ := A0_ (ho); clear BK350 HB HO_7; have BK350 := n0_; have HB := n1_; have HO358 := n2_; clear n0_ n1_ n2_ ho hb hg hat))
      go_roundg k1
      case measure => have := HK1.out; omega
      case rel => exact ⟨(y356), (wrap64 (x14_1 + 1)), (by first | rfl | (simp; done) | (simp [*]; done)), H', ⟨by have := HK1.out; omega⟩, ⟨by (with_reducible repeat (first | apply ra_ | apply rn_ | apply rd_)); exact HO358.out⟩, ⟨by (with_reducible repeat (first | refine kn_ ?_ _ | refine kd_ ?_ | refine ka_ ?_ _)); exact BK350.out⟩, ⟨by repeat (first | (with_reducible first | exact HB.out | apply ba_ | apply bn_ | apply bd_ | refine bs_ ?_ GE350.out) | exact HB.out)⟩⟩
     ·rw [if_neg c11] at H
      exact absurd H (by simp)
    ·replace c10 := bf_.mpr c10
     subst c10
     rw [if_neg (show ¬ (false = true) by decide)] at H
     have H' := A0_ H
     clear H
     have hcz15_0 : wr.cell? ⟨gb350, 0, none⟩ = some (.int .i64 a0_0) := (kc_ BK350.out 0).trans rfl
     have hcz15_1 : wr.cell? ⟨gb350, 1, none⟩ = some (.bool a0_1) := (kc_ BK350.out 1).trans rfl
     have hfz15_0 := kf_ BK350.out 0
     have hfz15_1 := kf_ BK350.out 1
     go_wp2_with (first | ((with_reducible refine gc_ (f := 78) rfl ?_); refine goesL_ (some 22) rfl rfl Try.func78 (by kernel_rfl) rfl #[.agg #[.int .i64 a0_0, .bool a0_1], .int .u32 a1, .int .i64 a2, .int .i64 x14_1] rfl (by (try simp only [List.map_toArray, List.map_cons, List.map_nil]); first | done | rfl) ?_; (with_reducible refine (impl_bench_taking.calls k1 a0_0 a0_1 a1 a2 x14_1 t354 false _ A9.out).mono ?_); rintro e w16 ⟨rfl, hb⟩; refine ⟨_, rfl, ?_⟩; have n0_ := A0_ (Kd.R_below (by (with_reducible repeat (first | apply ra_ | apply rn_ | apply rd_)); exact HO_7.out) hb); have n1_ := A0_ (kb_ (g := gb350) (o := .cells #[.int .i64 a0_0, .bool a0_1] 57 (0, 0)) (by (with_reducible repeat (first | refine kn_ ?_ _ | refine kd_ ?_ | refine ka_ ?_ _)); exact BK350.out) hb); have n2_ := A0_ (bt_ (by repeat (first | (with_reducible first | exact HB.out | apply ba_ | apply bn_ | apply bd_ | refine bs_ ?_ GE350.out) | exact HB.out)) hb); clear HO_7 BK350 HB; have HO_7 := n0_; have BK350 := n1_; have HB := n2_; clear n0_ n1_ n2_; (try clear hb); (try clear hb2); (try clear hk); (try clear hi)))
     go_roundg k1
     case measure => have := HK1.out; omega
     case rel => exact ⟨(x7_1), (wrap64 (x14_1 + 1)), (by first | rfl | (simp; done) | (simp [*]; done)), H', ⟨by have := HK1.out; omega⟩, ⟨by (with_reducible repeat (first | apply ra_ | apply rn_ | apply rd_)); exact HO_7.out⟩, ⟨by (with_reducible repeat (first | refine kn_ ?_ _ | refine kd_ ?_ | refine ka_ ?_ _)); exact BK350.out⟩, ⟨by repeat (first | (with_reducible first | exact HB.out | apply ba_ | apply bn_ | apply bd_ | refine bs_ ?_ GE350.out) | exact HB.out)⟩⟩
   ·rw [if_neg c8] at H
    have c8b0 : decide (x14_1 < a0_0) = false := decide_eq_false c8
    clear c8
    obtain rfl := si_ H
    go_wp2
    go_ret
    exact ⟨_, by first | rfl | (simp [errW_none, errW_some] <;> rfl) | (simp [*, errW_none, errW_some] <;> rfl), by (with_reducible repeat (first | apply ra_ | apply rn_ | apply rd_)); exact HO_7.out, by repeat (first | (with_reducible first | exact HB.out | apply ba_ | apply bn_ | apply bd_ | refine bs_ ?_ GE350.out) | exact HB.out)⟩

end Go.Proofs.Ytgcgmlbjklkkjaa.QFnExactWinMoves
-- squeezed
