-- Written by px.py, a program of this session, over the kit's printer: some functions have a definition and a proof of this session's own.
import Derived.Test.YtgcgmlbjklkkjaaQFnExactBestPlayx0
import Derived.Test.YtgcgmlbjklkkjaaQFnExactBestPlayx1
import Derived.Test.YtgcgmlbjklkkjaaQFnExactBestPlayx2
import Derived.Test.YtgcgmlbjklkkjaaQFnExactBestPlayx3
import Derived.Test.YtgcgmlbjklkkjaaQFnExactBestPlayx7
import Derived.Test.YtgcgmlbjklkkjaaQFnExactBestPlayx9
namespace Go.Proofs.Ytgcgmlbjklkkjaa.QFnExactBestPlay
open Go.RowKit Go.Proofs.YtgcgmlbjklkkjaaW.PrintWords Go.Proofs.YtgcgmlbjklkkjaaW.PrintLast Go.Proofs.YtgcgmlbjklkkjaaW.PrintMore
attribute [local go_sem] max2_int min2_int max_two min_two max_three min_three max_four min_four   -- for this text's walks alone
set_option linter.unusedVariables false
set_option linter.unusedSimpArgs false
set_option maxHeartbeats 8000000
set_option maxRecDepth 100000

def spec_l11Wins.l0 : Nat → Int → List Int → List Int → Int → Int → Bool → List Int → Option (List Int)
 | 0, _, _, _, _, _, _, _ => none
 | k + 1, x1, x5, x6, x7, x280000, x280001, x280002 => if x7 < (x6.length : Int) then (if 0 ≤ x7 then ((spec_l11Made.f k x280000 x280001 x280002 x1 (rd x6 x7)).bind fun bt287 => ((spec_l11Number.f k bt287.1 bt287.2.1 bt287.2.2 x1).bind fun t292 => (if t292 = 0 then (if x5.length < 17592186044416 then (spec_l11Wins.l0 k x1 (x5 ++ [rd x6 x7]) x6 (wrap64 (x7 + 1)) x280000 x280001 x280002) else (none)) else (spec_l11Wins.l0 k x1 x5 x6 (wrap64 (x7 + 1)) x280000 x280001 x280002)))) else (none)) else (some x5)
def spec_l11Wins.f (k : Nat) (a0_0 : Int) (a0_1 : Bool) (l0_2 : List Int) (a1 : Int) : Option (List Int) := (spec_l11Moves.f k a0_0 a0_1 l0_2 a1).bind fun t283 => (spec_l11Wins.l0 k a1 (([] : List Int)) t283 0 a0_0 a0_1 l0_2)
theorem spec_l11Wins.mono_l : ∀ k, (∀ y0 y1 y2 y3 y4 y5 y6, LeO (spec_l11Wins.l0 k y0 y1 y2 y3 y4 y5 y6) (spec_l11Wins.l0 (k + 1) y0 y1 y2 y3 y4 y5 y6))
 | 0 => fun _ _ _ _ _ _ _ r h => by simp [spec_l11Wins.l0] at h
 | k + 1 => by
  have ih0 := spec_l11Wins.mono_l k
  ·intro y0 y1 y2 y3 y4 y5 y6
   unfold spec_l11Wins.l0
   repeat' first
   | (with_reducible exact ih0 _ _ _ _ _ _ _)
   | (with_reducible exact spec_l11Made.mono _ _ _ _ _ _)
   | (with_reducible exact spec_l11Moves.mono _ _ _ _ _)
   | (with_reducible exact spec_l11Number.mono _ _ _ _ _)
   | (with_reducible exact LeO.refl _)
   | (with_reducible exact LeO.none _)
   | (with_reducible refine LeO.ite ?_ ?_)
   | (with_reducible refine LeO.bind ?_ (fun _ => ?_))
theorem spec_l11Wins.mono : ∀ a0 a1 a2 a3 k, LeO (spec_l11Wins.f k a0 a1 a2 a3) (spec_l11Wins.f (k + 1) a0 a1 a2 a3) := by
 intro a0 a1 a2 a3 k
 have ih0 := spec_l11Wins.mono_l k
 unfold spec_l11Wins.f
 repeat' first
   | (with_reducible exact ih0 _ _ _ _ _ _ _)
   | (with_reducible exact spec_l11Made.mono _ _ _ _ _ _)
   | (with_reducible exact spec_l11Moves.mono _ _ _ _ _)
   | (with_reducible exact spec_l11Number.mono _ _ _ _ _)
   | (with_reducible exact LeO.refl _)
   | (with_reducible exact LeO.none _)
   | (with_reducible refine LeO.ite ?_ ?_)
   | (with_reducible refine LeO.bind ?_ (fun _ => ?_))
def spec_l11Wins.T5 : Bool × List (List Nat × List Nat) := (true, [([], []), ([], []), ([], []), ([], []), ([2, 3], [2, 3]), ([4], [4]), ([0, 1, 5], [0, 1, 5]), ([], []), ([6, 7, 6], [6, 7]), ([8], [8])])
def spec_l11Wins.B5 : List Nat := [0, 0, 0, 0, 12, 28, 63, 0, 255, 511]
theorem spec_l11Wins.tab5 : rtab .any (opsOf Try.f65 5) = spec_l11Wins.T5 := by kernel_rfl
theorem spec_l11Wins.bits5 : waitsOk spec_l11Wins.T5.2 spec_l11Wins.B5 = true := by kernel_rfl
theorem spec_l11Wins.calls (k : Nat) (a0_0 : Int) (a0_1 : Bool) (A0_2 : Option Addr) (c0_2 : Nat) (l0_2 : List Int) (a1 : Int) (r : List Int) (w : World) (hr0_2 : Kd.C (Kd.int .i64) w A0_2 l0_2.length l0_2) (hc0_2 : l0_2.length ≤ c0_2) (h : spec_l11Wins.f k a0_0 a0_1 l0_2 a1 = some r) :
  Calls Try.prog 65 #[.agg #[.int .i64 a0_0, .bool a0_1, .slice A0_2 l0_2.length c0_2], .int .i64 a1] w fun e w' => ∃ v0_ : Value, e = .returned (v0_) ∧ Kd.R (Kd.int .i64) 3 w' w.heap.size (fun _ => True) v0_ r ∧ Below w.heap.size w w' := by
 have hu32 := Try.underlying32
 have HR0_2 := A0_ hr0_2
 have HC0_2 := A0_ hc0_2
 clear hr0_2 hc0_2
 have HB := A0_ (Below.refl w.heap.size w)
 have H : ((spec_l11Moves.f k a0_0 a0_1 l0_2 a1).bind fun t283 => (spec_l11Wins.l0 k a1 (([] : List Int)) t283 0 a0_0 a0_1 l0_2)) = some r := h
 clear h
 obtain ⟨y280, hy280⟩ : ∃ y_ : List Int, y_ = (([] : List Int)) := ⟨_, rfl⟩
 replace H : ((spec_l11Moves.f k a0_0 a0_1 l0_2 a1).bind fun t283 => (spec_l11Wins.l0 k a1 y280 t283 0 a0_0 a0_1 l0_2)) = some r := by first | (rw [hy280]; with_reducible exact H) | (have H2_ := (Option.bind_some _ _).symm.trans H; rw [hy280]; with_reducible exact H2_) | (have H2_ := (Option.bind_some _ _).symm.trans H; with_reducible exact H2_) | with_reducible exact H | (rw [hy280]; exact H) | exact H
 have Ny280 := A0_ hy280
 clear hy280
 replace H := ob_.mp H
 obtain ⟨t283, A30, H⟩ := H
 have A3 := A0_ A30
 clear A30
 have H' := A0_ H
 clear H
 go_enter Try.func65, Try.ntmps65
 go_wp2_with (first | ((with_reducible refine gd_ (N := 2) rfl ?_); refine be_ ?hg (N := 2) ?hd (cs := #[.int .i64 a0_0, .bool a0_1, .slice A0_2 l0_2.length c0_2]) (t := 32) ?hr ?_; (case hd => rfl); (case hg => rfl); (case hr => go_simp; first | done | rfl); intro gb279 hg w4 hbox hb; have n0_ := A0_ (bt_ (by repeat (first | exact HB.out | apply ba_ | apply bn_ | apply bd_)) hb); have n1_ := A0_ (hbox); have n2_ := A0_ ((by rw [hg]; exact (bz_ (by repeat (first | exact HB.out | apply ba_ | apply bn_ | apply bd_))) : w.heap.size ≤ gb279)); have n3_ := A0_ ((by rw [hg]; exact (bz_ (by repeat (first | exact HB.out | apply ba_ | apply bn_ | apply bd_))) : w.heap.size ≤ gb279)); clear HB; have HB := n0_; have BK279 := n1_; have GW279 := n2_; have GE279 := n3_; clear n0_ n1_ n2_ n3_ hb hbox hg) | ((with_reducible refine gd_ (N := 8) rfl ?_); refine Kd.R_lit (Kd.int .i64) _ 3 ?hg (N := 8) ?hd (xs := ([] : List Int)) (inner := []) (ok := fun _ => True) (okp := fun _ => True) ?hr ?hp (fun _ hk => hk) trivial (Below.refl _ _) (Nat.le_refl _) (by simp) ?_; (case hd => rfl); (case hg => rfl); (case hr => go_simp; first | done | rfl); (case hp => exact (Reps.none _ _)); intro v281 w5 ho6 hb hg_ hnew_; clear hg_ hnew_; (first | rw [← Ny280.out] at ho6 | (simp only [Int.reduceToNat] at ho6; rw [← Ny280.out] at ho6)); have n0_ := A0_ (Kd.R_lower ho6 (bz_ (by repeat (first | exact HB.out | apply ba_ | apply bn_ | apply bd_ | refine bs_ ?_ GE279.out)))); have n1_ := A0_ (kb_ (g := gb279) (o := .cells #[.int .i64 a0_0, .bool a0_1, .slice A0_2 l0_2.length c0_2] 32 (0, 0)) (by (with_reducible repeat (first | apply kn_ | apply kd_ | apply ka_)); exact BK279.out) hb); have n2_ := A0_ (bt_ (by repeat (first | exact HB.out | apply ba_ | apply bn_ | apply bd_ | refine bs_ ?_ GE279.out)) hb); clear BK279 HB; have HO282 := n0_; have BK279 := n1_; have HB := n2_; clear n0_ n1_ n2_ hb ho6; have hcz7_0 : w5.cell? ⟨gb279, 0, none⟩ = some (.int .i64 a0_0) := (kc_ BK279.out 0).trans rfl; have hcz7_1 : w5.cell? ⟨gb279, 1, none⟩ = some (.bool a0_1) := (kc_ BK279.out 1).trans rfl; have hcz7_2 : w5.cell? ⟨gb279, 2, none⟩ = some (.slice A0_2 l0_2.length c0_2) := (kc_ BK279.out 2).trans rfl) | ((with_reducible refine gc_ (f := 48) rfl ?_); refine goesL_ (some 11) rfl rfl Try.func48 (by kernel_rfl) rfl #[.agg #[.int .i64 a0_0, .bool a0_1, .slice A0_2 l0_2.length c0_2], .int .i64 a1] rfl (by (try simp only [ma_, mc_, mn_]); first | done | rfl | (simp only [ld_, lt_]; rfl)) ?_; (with_reducible refine (spec_l11Moves.calls k a0_0 a0_1 _ _ l0_2 a1 t283 _ ?side1 ?side2 A3.out).mono ?_); (case side1 => repeat (first | exact (cb_ HR0_2.out HB.out) | (with_reducible refine ca_ ?_ _) | (with_reducible refine cn_ ?_ _) | (with_reducible refine cd_ ?_))); (case side2 => exact HC0_2.out); rintro e w8 ⟨v284, rfl, ho0, hb⟩; refine ⟨_, rfl, ?_⟩; have n0_ := A0_ (Kd.R_elder' (by (with_reducible repeat (first | apply ra_ | apply rn_ | apply rd_)); exact HO282.out) (Kd.R_base ho0) hb); have n1_ := A0_ (Kd.R_lower (Kd.R_new' ho0 (Kd.R_lt (by (with_reducible repeat (first | apply ra_ | apply rn_ | apply rd_)); exact HO282.out))) (bz_ (by repeat (first | exact HB.out | apply ba_ | apply bn_ | apply bd_ | refine bs_ ?_ GE279.out)))); have n2_ := A0_ (kb_ (g := gb279) (o := .cells #[.int .i64 a0_0, .bool a0_1, .slice A0_2 l0_2.length c0_2] 32 (0, 0)) (by (with_reducible repeat (first | apply kn_ | apply kd_ | apply ka_)); exact BK279.out) hb); have n3_ := A0_ (bt_ (by repeat (first | exact HB.out | apply ba_ | apply bn_ | apply bd_ | refine bs_ ?_ GE279.out)) hb); clear HO282 BK279 HB; have HO282 := n0_; have HO285 := n1_; have BK279 := n2_; have HB := n3_; clear n0_ n1_ n2_ n3_; (try clear hb); (try clear ho0)))
 go_loopg [5, 7] k (fun kq v5 v7 w' => ∃ (x5_1 : List Int) (x7_1 : Int), v7 = .int .i64 x7_1 ∧ Aside0 (spec_l11Wins.l0 kq a1 x5_1 t283 x7_1 a0_0 a0_1 l0_2 = some r) ∧ Aside0 (kq ≤ k) ∧ Aside0 (Kd.R (Kd.int .i64) 3 w' w.heap.size (fun k_ => some k_ ≠ (v284 : Value).ownBlock) v5 x5_1) ∧ Aside0 (Kd.R (Kd.int .i64) 3 w' w.heap.size (fun k_ => some k_ ≠ (v5 : Value).ownBlock) v284 t283) ∧ Aside0 (w'.heap[gb279]? = some (.cells #[.int .i64 a0_0, .bool a0_1, (.slice A0_2 l0_2.length c0_2)] 32 (0, 0))) ∧ Aside0 (Below w.heap.size w w'))
 case atStart => exact ⟨(y280), (0), (by first | rfl | (simp [*]; done)), H', ⟨Nat.le_refl _⟩, ⟨by (with_reducible repeat (first | apply ra_ | apply rn_ | apply rd_)); exact Kd.R_mono HO282.out (fun _ hk => hk.2)⟩, ⟨by (with_reducible repeat (first | apply ra_ | apply rn_ | apply rd_)); exact Kd.R_mono HO285.out (fun _ hk => hk.2)⟩, ⟨by (with_reducible repeat (first | apply kn_ | apply kd_ | apply ka_)); exact BK279.out⟩, ⟨by repeat (first | exact HB.out | apply ba_ | apply bn_ | apply bd_ | refine bs_ ?_ GE279.out)⟩⟩
 case round =>
  clear H'
  try clear p2
  try clear c4
  try clear c6
  try clear hcz7_0
  try clear hcz7_1
  try clear hcz7_2
  obtain ⟨x5_1, x7_1, rfl, HA, HK1, HO_5, HO_6, BK279, HB⟩ := hrel
  cases gk with
  | zero => exact absurd HA.out (by simp [spec_l11Wins.l0])
  | succ k1 =>
   have H := HA.out
   clear HA
   simp only [spec_l11Wins.l0] at H
   by_cases c9 : x7_1 < (t283.length : Int)
   ·rw [if_pos c9] at H
    have c9b0 : decide (x7_1 < (t283.length : Int)) = true := dt_ c9
    clear c9
    by_cases c10 : 0 ≤ x7_1
    ·rw [if_pos c10] at H
     have c10b0 : decide (0 ≤ x7_1) = true := dt_ c10
     clear c10
     replace H := ob_.mp H
     obtain ⟨⟨t287, t288, t289⟩, A110, H⟩ := H
     have A11 := A0_ A110
     clear A110
     replace H := ob_.mp H
     obtain ⟨t292, A120, H⟩ := H
     have A12 := A0_ A120
     clear A120
     by_cases c13 : t292 = 0
     ·rw [if_pos c13] at H
      have c13b0 : (t292 == 0) = true := beq_iff_eq.mpr c13
      have c13b1 : (t292 != 0) = false := bne_eq_false_iff_eq.mpr c13
      clear c13
      by_cases c14 : x5_1.length < 17592186044416
      ·rw [if_pos c14] at H
       have LMc14 := A0_ c14
       clear c14
       obtain ⟨y294, hy294⟩ : ∃ y_ : List Int, y_ = (x5_1 ++ [rd t283 x7_1]) := ⟨_, rfl⟩
       replace H : (spec_l11Wins.l0 k1 a1 y294 t283 (wrap64 (x7_1 + 1)) a0_0 a0_1 l0_2) = some r := by first | (rw [hy294]; with_reducible exact H) | (have H2_ := (Option.bind_some _ _).symm.trans H; rw [hy294]; with_reducible exact H2_) | (have H2_ := (Option.bind_some _ _).symm.trans H; with_reducible exact H2_) | with_reducible exact H | (rw [hy294]; exact H) | exact H
       have Ny294 := A0_ hy294
       clear hy294
       have H' := A0_ H
       clear H
       obtain ⟨Ao15, co15, eo15⟩ := Kd.R_slice HO_6.out
       subst eo15
       try go_wp2
       have n0_ := A0_ (rd_ HO_5.out)
       have n1_ := A0_ (rd_ HO_6.out)
       have n2_ := A0_ (kd_ BK279.out)
       have n3_ := A0_ (bd_ HB.out)
       clear HO_5
       clear HO_6
       clear BK279
       clear HB
       have HO_5 := n0_
       have HO_6 := n1_
       have BK279 := n2_
       have HB := n3_
       clear n0_ n1_ n2_ n3_
       have p286 : 0 ≤ (x7_1 : Int) := od_ (by first | (with_reducible assumption) | assumption)
       have q286 : x7_1 < (t283.length : Int) := od_ (by first | (with_reducible assumption) | assumption)
       obtain ⟨ad286, e286, hx286_0⟩ := Kd.at_int (rr_ HO_6.out).2.2 x7_1 p286 q286
       cases e286
       replace p286 := eq_true p286
       replace q286 := eq_true q286
       refine start_ (n := 10) (S := fun w' => w'.cell? ⟨gb279, 0, none⟩ = some (.int .i64 a0_0) ∧ w'.cell? ⟨gb279, 1, none⟩ = some (.bool a0_1) ∧ w'.cell? ⟨gb279, 2, none⟩ = some (.slice A0_2 l0_2.length c0_2) ∧ w'.cell? (ad286.add (x7_1).toNat) = some (.int .i64 (rd t283 x7_1))) (ds := []) #[false, false, false, false, false, false, false, false, false, false] (by kernel_rfl) rfl rfl ⟨(kc_ BK279.out 0).trans rfl, (kc_ BK279.out 1).trans rfl, (kc_ BK279.out 2).trans rfl, hx286_0⟩ (fun hHeld => ?_); refine with_tabW spec_l11Wins.tab5 spec_l11Wins.bits5 (fun HT_ HW_ => ?_)
       generalize wr.drew = w16 at HO_5 HO_6 BK279 HB hx286_0 hHeld ⊢
       refine pure_ (i := 1) (N := some 19) (v := ?_) (a' := ?_) #[false, true, false, false, false, false, false, false, false, false] rfl rfl (any_of HT_.out (by kernel_rfl)) (fun _ _ _ h => h) (Or.inl ⟨by rfl, ?_⟩) ?_ ?_
       rotate_left
       ·intro w'
        go_simp
        with_reducible rfl
       rotate_left
       ·simp only [Act.put, sa_, sz_, ss_, i64_w, i32_w]
        rfl
       refine pure_ (i := 2) (N := some 20) (v := ?_) (a' := ?_) #[false, true, true, false, false, false, false, false, false, false] rfl rfl (any_of HT_.out (by kernel_rfl)) (fun _ _ _ h => h) (Or.inl ⟨by rfl, ?_⟩) ?_ ?_
       rotate_left
       ·intro w'
        go_simp
        with_reducible rfl
       rotate_left
       ·simp only [Act.put, sa_, sz_, ss_, i64_w, i32_w]
        rfl
       refine pure_ (i := 3) (N := some 21) (v := ?_) (a' := ?_) #[false, true, true, true, false, false, false, false, false, false] rfl rfl (any_of HT_.out (by kernel_rfl)) (fun _ _ _ h => h) (Or.inl ⟨by rfl, ?_⟩) ?_ ?_
       rotate_left
       ·intro w'
        go_simp
        with_reducible rfl
       rotate_left
       ·simp only [Act.put, sa_, sz_, ss_, i64_w, i32_w]
        rfl
       refine pure_ (i := 4) (N := some 22) (v := ?_) (a' := ?_) #[false, true, true, true, true, false, false, false, false, false] rfl rfl (any_of HT_.out (by kernel_rfl)) (fun _ _ _ h => h) (Or.inl ⟨by rfl, ?_⟩) ?_ ?_
       rotate_left
       ·intro w'
        go_simp
        with_reducible rfl
       rotate_left
       ·simp only [Act.put, sa_, sz_, ss_, i64_w, i32_w]
        rfl
       refine pure_ (i := 7) (N := some 25) (v := ?_) (a' := ?_) #[false, true, true, true, true, false, false, true, false, false] rfl rfl (any_of HT_.out (by kernel_rfl)) (fun _ _ _ h => h) (Or.inl ⟨by rfl, ?_⟩) ?_ ?_
       rotate_left
       ·intro w'
        go_simp
        with_reducible rfl
       rotate_left
       ·simp only [Act.put, sa_, sz_, ss_, i64_w, i32_w]
        rfl
       refine take_ (i := 0) (N := some 18) (v := ?_) (a' := ?_) #[true, true, true, true, true, false, false, true, false, false] rfl rfl (take_ofW HT_.out HW_.out (by kernel_rfl)) (fun _ _ _ h => h) (Or.inl ⟨by rfl, ?_⟩) hHeld ?_ ?_
       rotate_left
       ·rintro w' ⟨s0, s1, s2, s3⟩
        go_simp
        with_reducible rfl
       rotate_left
       ·simp only [Act.put, sa_, sz_, ss_, i64_w, i32_w]
        rfl
       refine take_ (i := 5) (N := some 23) (v := ?_) (a' := ?_) #[true, true, true, true, true, true, false, true, false, false] rfl rfl (take_ofW HT_.out HW_.out (by kernel_rfl)) (fun _ _ _ h => h) (Or.inl ⟨by rfl, ?_⟩) hHeld ?_ ?_
       rotate_left
       ·rintro w' ⟨s0, s1, s2, s3⟩
        go_simp
        with_reducible rfl
       rotate_left
       ·simp only [Act.put, sa_, sz_, ss_, i64_w, i32_w]
        rfl
       refine one_ (i := 6) (N := some 24) #[true, true, true, true, true, true, true, true, false, false] rfl rfl (one_of HT_.out (by kernel_rfl)) (by decide) (fun K hK => ?_)
       refine goes_ Try.func67 (by kernel_rfl) rfl #[.agg #[.int .i64 a0_0, .bool a0_1, .slice A0_2 l0_2.length c0_2], .int .i64 a1, .int .i64 (rd t283 x7_1)] (by rfl) rfl rfl (by (try simp only [ma_, mc_, mn_]); first | done | rfl | (simp only [ld_, lt_]; rfl)) ?_
       with_reducible refine (spec_l11Made.calls k1 a0_0 a0_1 _ _ l0_2 a1 (rd t283 x7_1) t287 t288 t289 _ ?side1 ?side2 A11.out).mono ?_
       (case side1 => repeat (first | exact (cb_ HR0_2.out HB.out) | (with_reducible refine ca_ ?_ _) | (with_reducible refine cn_ ?_ _) | (with_reducible refine cd_ ?_)))
       (case side2 => exact HC0_2.out)
       rintro e w17 ⟨v290, rfl, ho0, hb⟩
       have HS3_ := (hb.cell (World.block_lt_of_cell? _ _ (hHeld.2.2.2))).trans (hHeld.2.2.2)
       refine ⟨_, rfl, ?_⟩
       have n0_ := A0_ (Kd.R_elder' (by (with_reducible repeat (first | apply ra_ | apply rn_ | apply rd_)); exact HO_5.out) (Kd.R_base ho0) hb)
       have n1_ := A0_ (Kd.R_elder' (by (with_reducible repeat (first | apply ra_ | apply rn_ | apply rd_)); exact HO_6.out) (Kd.R_base ho0) hb)
       have n2_ := A0_ (Kd.R_lower (Kd.R_new' (Kd.R_new' ho0 (Kd.R_lt (by (with_reducible repeat (first | apply ra_ | apply rn_ | apply rd_)); exact HO_5.out))) (Kd.R_lt (by (with_reducible repeat (first | apply ra_ | apply rn_ | apply rd_)); exact HO_6.out))) (bz_ (by repeat (first | exact HB.out | apply ba_ | apply bn_ | apply bd_ | refine bs_ ?_ GE279.out))))
       have n3_ := A0_ (kb_ (g := gb279) (o := .cells #[.int .i64 a0_0, .bool a0_1, .slice A0_2 l0_2.length c0_2] 32 (0, 0)) (by (with_reducible repeat (first | apply kn_ | apply kd_ | apply ka_)); exact BK279.out) hb)
       have n4_ := A0_ (bt_ (by repeat (first | exact HB.out | apply ba_ | apply bn_ | apply bd_ | refine bs_ ?_ GE279.out)) hb)
       clear HO_5
       clear HO_6
       clear BK279
       clear HB
       have HO_5 := n0_
       have HO_6 := n1_
       have HO291 := n2_
       have BK279 := n3_
       have HB := n4_
       clear n0_ n1_ n2_ n3_ n4_
       (try clear hb)
       (try clear hb2)
       (try clear hk)
       (try clear hi)
       (try clear ho0)
       obtain ⟨Ao18, co18, eo18⟩ := Kd.R_slice HO291.out
       (first | subst eo18 | (injection eo18 with f1_ f2_ f3_; have f4_ := f1_.symm; have f5_ := f3_.symm; clear f1_ f2_ f3_; subst f4_; subst f5_))
       refine hK.out _ _ ⟨(kc_ BK279.out 0).trans rfl, (kc_ BK279.out 1).trans rfl, (kc_ BK279.out 2).trans rfl, HS3_⟩ (fun hHeld => ?_)
       clear hK K
       refine norm_ (a' := ?_) ?_ ?_
       rotate_left
       ·show Act.put _ (some 24) _ = _
        simp only [Act.put, sa_, sz_, ss_, i64_w, i32_w]
        rfl
       refine one_ (i := 8) (N := some 26) #[true, true, true, true, true, true, true, true, true, false] rfl rfl (one_of HT_.out (by kernel_rfl)) (by decide) (fun K hK => ?_)
       refine goes_ Try.func55 (by kernel_rfl) rfl #[.agg #[.int .i64 t287, .bool t288, .slice Ao18 t289.length co18], .int .i64 a1] (by rfl) rfl rfl (by (try simp only [ma_, mc_, mn_]); first | done | rfl | (simp only [ld_, lt_]; rfl)) ?_
       with_reducible refine (spec_l11Number.calls k1 t287 t288 _ _ t289 a1 t292 _ ?side1 ?side2 A12.out).mono ?_
       (case side1 => repeat (first | exact (rr_ HO291.out).2.2 | (with_reducible refine ca_ ?_ _) | (with_reducible refine cn_ ?_ _) | (with_reducible refine cd_ ?_)))
       (case side2 => exact (rr_ HO291.out).2.1)
       rintro e w19 ⟨rfl, hb⟩
       have HS3_ := (hb.cell (World.block_lt_of_cell? _ _ (hHeld.2.2.2))).trans (hHeld.2.2.2)
       refine ⟨_, rfl, ?_⟩
       have n0_ := A0_ (Kd.R_below (by (with_reducible repeat (first | apply ra_ | apply rn_ | apply rd_)); exact HO_5.out) hb)
       have n1_ := A0_ (Kd.R_below (by (with_reducible repeat (first | apply ra_ | apply rn_ | apply rd_)); exact HO_6.out) hb)
       have n2_ := A0_ (Kd.R_below (by (with_reducible repeat (first | apply ra_ | apply rn_ | apply rd_)); exact HO291.out) hb)
       have n3_ := A0_ (kb_ (g := gb279) (o := .cells #[.int .i64 a0_0, .bool a0_1, .slice A0_2 l0_2.length c0_2] 32 (0, 0)) (by (with_reducible repeat (first | apply kn_ | apply kd_ | apply ka_)); exact BK279.out) hb)
       have n4_ := A0_ (bt_ (by repeat (first | exact HB.out | apply ba_ | apply bn_ | apply bd_ | refine bs_ ?_ GE279.out)) hb)
       clear HO_5
       clear HO_6
       clear HO291
       clear BK279
       clear HB
       have HO_5 := n0_
       have HO_6 := n1_
       have HO291 := n2_
       have BK279 := n3_
       have HB := n4_
       clear n0_ n1_ n2_ n3_ n4_
       (try clear hb)
       (try clear hb2)
       (try clear hk)
       (try clear hi)
       refine hK.out _ _ ⟨(kc_ BK279.out 0).trans rfl, (kc_ BK279.out 1).trans rfl, (kc_ BK279.out 2).trans rfl, HS3_⟩ (fun hHeld => ?_)
       clear hK K
       refine norm_ (a' := ?_) ?_ ?_
       rotate_left
       ·show Act.put _ (some 26) _ = _
        simp only [Act.put, sa_, sz_, ss_, i64_w, i32_w]
        rfl
       refine pure_ (i := 9) (N := some 27) (v := ?_) (a' := ?_) #[true, true, true, true, true, true, true, true, true, true] rfl rfl (any_of HT_.out (by kernel_rfl)) (fun _ _ _ h => h) (Or.inl ⟨by rfl, ?_⟩) ?_ ?_
       rotate_left
       ·intro w'
        go_simp
        with_reducible rfl
       rotate_left
       ·simp only [Act.put, sa_, sz_, ss_, i64_w, i32_w]
        rfl
       refine done_ (done_of HT_.out (by kernel_rfl)) ?_
       have p293 : 0 ≤ (x7_1 : Int) := od_ (by first | (with_reducible assumption) | assumption)
       have q293 : x7_1 < (t283.length : Int) := od_ (by first | (with_reducible assumption) | assumption)
       obtain ⟨ad293, e293, hx293_0⟩ := Kd.at_int (rr_ HO_6.out).2.2 x7_1 p293 q293
       obtain rfl : ad286 = ad293 := (by injection e293)
       replace p293 := eq_true p293
       replace q293 := eq_true q293
       try go_wp2_with (first | ((with_reducible refine gate_builtin (b := .append) (xs := #[.tmp 28, .tmp 33]) rfl ?_); at_builtin; refine Kd.R_append (Kd.int .i64) (w0 := w) w.heap.size rfl (.tmp 28) (.tmp 33) 22 3 (.int .i64 0) 8 rfl Try.underlying22 info3 rfl (by decide) (by omega) u5 x5_1 (rd t283 x7_1) [.int .i64 (rd t283 x7_1)] (fun k_ => some k_ ≠ (.slice (some ad286) t283.length co15 : Value).ownBlock ∧ some k_ ≠ (.slice Ao18 t289.length co18 : Value).ownBlock) (fun _ => False) rfl rfl ?aP (fun _ hk => hk.elim) ?aF ?aO ?aB ?aS ?aL ?_; (case aP => exact rfl); (case aB => exact (by repeat (first | exact HB.out | apply ba_ | apply bn_ | apply bd_ | refine bs_ ?_ GE279.out))); (case aF => exact (fun k_ hk => ⟨Kd.fresh' (Kd.R_lt (by (with_reducible repeat (first | apply ra_ | apply rn_ | apply rd_)); exact HO_6.out)) k_ hk, Kd.fresh' (Kd.R_lt (by (with_reducible repeat (first | apply ra_ | apply rn_ | apply rd_)); exact HO291.out)) k_ hk⟩)); (case aO => exact (by (with_reducible repeat (first | apply ra_ | apply rn_ | apply rd_)); exact HO_5.out)); (case aS => exact (bz_ (by repeat (first | exact HB.out | apply ba_ | apply bn_ | apply bd_ | refine bs_ ?_ GE279.out)))); (case aL => have := LMc14.out; omega); intro v295 w20 ho hb hg hat; rw [← Ny294.out] at ho; have n0_ := A0_ (Kd.R_after (ok := (fun k_ => some k_ ≠ (.slice Ao18 t289.length co18 : Value).ownBlock)) (by (with_reducible repeat (first | apply ra_ | apply rn_ | apply rd_)); exact Kd.R_mono HO_6.out (fun _ hk => ⟨hk.2, hk.1⟩)) hg hat); have n1_ := A0_ (blk_grown (g := gb279) (o := .cells #[.int .i64 a0_0, .bool a0_1, .slice A0_2 l0_2.length c0_2] 32 (0, 0)) (by (with_reducible repeat (first | apply kn_ | apply kd_ | apply ka_)); exact BK279.out) hg (Kd.R_ne HO_5.out BK279.out (by decide))); have n2_ := A0_ (Kd.R_after (ok := (fun k_ => some k_ ≠ (.slice (some ad286) t283.length co15 : Value).ownBlock)) (by (with_reducible repeat (first | apply ra_ | apply rn_ | apply rd_)); exact Kd.R_mono HO291.out (fun _ hk => ⟨hk.2, hk.1.2⟩)) hg hat); have n3_ := A0_ (hb); have n4_ := A0_ (ho); clear HO_6 BK279 HO291 HB HO_5; have HO_6 := n0_; have BK279 := n1_; have HO291 := n2_; have HB := n3_; have HO296 := n4_; clear n0_ n1_ n2_ n3_ n4_ ho hb hg hat))
       go_roundg k1
       case measure => have := HK1.out; omega
       case rel => exact ⟨(y294), (wrap64 (x7_1 + 1)), (by first | rfl | (simp [*]; done)), H', ⟨by have := HK1.out; omega⟩, ⟨by (with_reducible repeat (first | apply ra_ | apply rn_ | apply rd_)); exact Kd.R_mono HO296.out (fun _ hk => hk.1)⟩, ⟨by (with_reducible repeat (first | apply ra_ | apply rn_ | apply rd_)); exact Kd.R_mono HO_6.out (fun _ hk => hk.2)⟩, ⟨by (with_reducible repeat (first | apply kn_ | apply kd_ | apply ka_)); exact BK279.out⟩, ⟨by repeat (first | exact HB.out | apply ba_ | apply bn_ | apply bd_ | refine bs_ ?_ GE279.out)⟩⟩
      ·rw [if_neg c14] at H
       exact absurd H (by simp)
     ·rw [if_neg c13] at H
      have c13b0 : (t292 == 0) = false := beq_eq_false_iff_ne.mpr c13
      have c13b1 : (t292 != 0) = true := bne_iff_ne.mpr c13
      have H' := A0_ H
      clear H
      obtain ⟨Ao21, co21, eo21⟩ := Kd.R_slice HO_6.out
      subst eo21
      try go_wp2
      have n0_ := A0_ (rd_ HO_5.out)
      have n1_ := A0_ (rd_ HO_6.out)
      have n2_ := A0_ (kd_ BK279.out)
      have n3_ := A0_ (bd_ HB.out)
      clear HO_5
      clear HO_6
      clear BK279
      clear HB
      have HO_5 := n0_
      have HO_6 := n1_
      have BK279 := n2_
      have HB := n3_
      clear n0_ n1_ n2_ n3_
      have p286 : 0 ≤ (x7_1 : Int) := od_ (by first | (with_reducible assumption) | assumption)
      have q286 : x7_1 < (t283.length : Int) := od_ (by first | (with_reducible assumption) | assumption)
      obtain ⟨ad286, e286, hx286_0⟩ := Kd.at_int (rr_ HO_6.out).2.2 x7_1 p286 q286
      cases e286
      replace p286 := eq_true p286
      replace q286 := eq_true q286
      refine start_ (n := 10) (S := fun w' => w'.cell? ⟨gb279, 0, none⟩ = some (.int .i64 a0_0) ∧ w'.cell? ⟨gb279, 1, none⟩ = some (.bool a0_1) ∧ w'.cell? ⟨gb279, 2, none⟩ = some (.slice A0_2 l0_2.length c0_2) ∧ w'.cell? (ad286.add (x7_1).toNat) = some (.int .i64 (rd t283 x7_1))) (ds := []) #[false, false, false, false, false, false, false, false, false, false] (by kernel_rfl) rfl rfl ⟨(kc_ BK279.out 0).trans rfl, (kc_ BK279.out 1).trans rfl, (kc_ BK279.out 2).trans rfl, hx286_0⟩ (fun hHeld => ?_); refine with_tabW spec_l11Wins.tab5 spec_l11Wins.bits5 (fun HT_ HW_ => ?_)
      generalize wr.drew = w22 at HO_5 HO_6 BK279 HB hx286_0 hHeld ⊢
      refine pure_ (i := 1) (N := some 19) (v := ?_) (a' := ?_) #[false, true, false, false, false, false, false, false, false, false] rfl rfl (any_of HT_.out (by kernel_rfl)) (fun _ _ _ h => h) (Or.inl ⟨by rfl, ?_⟩) ?_ ?_
      rotate_left
      ·intro w'
       go_simp
       with_reducible rfl
      rotate_left
      ·simp only [Act.put, sa_, sz_, ss_, i64_w, i32_w]
       rfl
      refine pure_ (i := 2) (N := some 20) (v := ?_) (a' := ?_) #[false, true, true, false, false, false, false, false, false, false] rfl rfl (any_of HT_.out (by kernel_rfl)) (fun _ _ _ h => h) (Or.inl ⟨by rfl, ?_⟩) ?_ ?_
      rotate_left
      ·intro w'
       go_simp
       with_reducible rfl
      rotate_left
      ·simp only [Act.put, sa_, sz_, ss_, i64_w, i32_w]
       rfl
      refine pure_ (i := 3) (N := some 21) (v := ?_) (a' := ?_) #[false, true, true, true, false, false, false, false, false, false] rfl rfl (any_of HT_.out (by kernel_rfl)) (fun _ _ _ h => h) (Or.inl ⟨by rfl, ?_⟩) ?_ ?_
      rotate_left
      ·intro w'
       go_simp
       with_reducible rfl
      rotate_left
      ·simp only [Act.put, sa_, sz_, ss_, i64_w, i32_w]
       rfl
      refine pure_ (i := 4) (N := some 22) (v := ?_) (a' := ?_) #[false, true, true, true, true, false, false, false, false, false] rfl rfl (any_of HT_.out (by kernel_rfl)) (fun _ _ _ h => h) (Or.inl ⟨by rfl, ?_⟩) ?_ ?_
      rotate_left
      ·intro w'
       go_simp
       with_reducible rfl
      rotate_left
      ·simp only [Act.put, sa_, sz_, ss_, i64_w, i32_w]
       rfl
      refine pure_ (i := 7) (N := some 25) (v := ?_) (a' := ?_) #[false, true, true, true, true, false, false, true, false, false] rfl rfl (any_of HT_.out (by kernel_rfl)) (fun _ _ _ h => h) (Or.inl ⟨by rfl, ?_⟩) ?_ ?_
      rotate_left
      ·intro w'
       go_simp
       with_reducible rfl
      rotate_left
      ·simp only [Act.put, sa_, sz_, ss_, i64_w, i32_w]
       rfl
      refine take_ (i := 0) (N := some 18) (v := ?_) (a' := ?_) #[true, true, true, true, true, false, false, true, false, false] rfl rfl (take_ofW HT_.out HW_.out (by kernel_rfl)) (fun _ _ _ h => h) (Or.inl ⟨by rfl, ?_⟩) hHeld ?_ ?_
      rotate_left
      ·rintro w' ⟨s0, s1, s2, s3⟩
       go_simp
       with_reducible rfl
      rotate_left
      ·simp only [Act.put, sa_, sz_, ss_, i64_w, i32_w]
       rfl
      refine take_ (i := 5) (N := some 23) (v := ?_) (a' := ?_) #[true, true, true, true, true, true, false, true, false, false] rfl rfl (take_ofW HT_.out HW_.out (by kernel_rfl)) (fun _ _ _ h => h) (Or.inl ⟨by rfl, ?_⟩) hHeld ?_ ?_
      rotate_left
      ·rintro w' ⟨s0, s1, s2, s3⟩
       go_simp
       with_reducible rfl
      rotate_left
      ·simp only [Act.put, sa_, sz_, ss_, i64_w, i32_w]
       rfl
      refine one_ (i := 6) (N := some 24) #[true, true, true, true, true, true, true, true, false, false] rfl rfl (one_of HT_.out (by kernel_rfl)) (by decide) (fun K hK => ?_)
      refine goes_ Try.func67 (by kernel_rfl) rfl #[.agg #[.int .i64 a0_0, .bool a0_1, .slice A0_2 l0_2.length c0_2], .int .i64 a1, .int .i64 (rd t283 x7_1)] (by rfl) rfl rfl (by (try simp only [ma_, mc_, mn_]); first | done | rfl | (simp only [ld_, lt_]; rfl)) ?_
      with_reducible refine (spec_l11Made.calls k1 a0_0 a0_1 _ _ l0_2 a1 (rd t283 x7_1) t287 t288 t289 _ ?side1 ?side2 A11.out).mono ?_
      (case side1 => repeat (first | exact (cb_ HR0_2.out HB.out) | (with_reducible refine ca_ ?_ _) | (with_reducible refine cn_ ?_ _) | (with_reducible refine cd_ ?_)))
      (case side2 => exact HC0_2.out)
      rintro e w23 ⟨v290, rfl, ho0, hb⟩
      have HS3_ := (hb.cell (World.block_lt_of_cell? _ _ (hHeld.2.2.2))).trans (hHeld.2.2.2)
      refine ⟨_, rfl, ?_⟩
      have n0_ := A0_ (Kd.R_elder' (by (with_reducible repeat (first | apply ra_ | apply rn_ | apply rd_)); exact HO_5.out) (Kd.R_base ho0) hb)
      have n1_ := A0_ (Kd.R_elder' (by (with_reducible repeat (first | apply ra_ | apply rn_ | apply rd_)); exact HO_6.out) (Kd.R_base ho0) hb)
      have n2_ := A0_ (Kd.R_lower (Kd.R_new' (Kd.R_new' ho0 (Kd.R_lt (by (with_reducible repeat (first | apply ra_ | apply rn_ | apply rd_)); exact HO_5.out))) (Kd.R_lt (by (with_reducible repeat (first | apply ra_ | apply rn_ | apply rd_)); exact HO_6.out))) (bz_ (by repeat (first | exact HB.out | apply ba_ | apply bn_ | apply bd_ | refine bs_ ?_ GE279.out))))
      have n3_ := A0_ (kb_ (g := gb279) (o := .cells #[.int .i64 a0_0, .bool a0_1, .slice A0_2 l0_2.length c0_2] 32 (0, 0)) (by (with_reducible repeat (first | apply kn_ | apply kd_ | apply ka_)); exact BK279.out) hb)
      have n4_ := A0_ (bt_ (by repeat (first | exact HB.out | apply ba_ | apply bn_ | apply bd_ | refine bs_ ?_ GE279.out)) hb)
      clear HO_5
      clear HO_6
      clear BK279
      clear HB
      have HO_5 := n0_
      have HO_6 := n1_
      have HO291 := n2_
      have BK279 := n3_
      have HB := n4_
      clear n0_ n1_ n2_ n3_ n4_
      (try clear hb)
      (try clear hb2)
      (try clear hk)
      (try clear hi)
      (try clear ho0)
      obtain ⟨Ao24, co24, eo24⟩ := Kd.R_slice HO291.out
      (first | subst eo24 | (injection eo24 with f1_ f2_ f3_; have f4_ := f1_.symm; have f5_ := f3_.symm; clear f1_ f2_ f3_; subst f4_; subst f5_))
      refine hK.out _ _ ⟨(kc_ BK279.out 0).trans rfl, (kc_ BK279.out 1).trans rfl, (kc_ BK279.out 2).trans rfl, HS3_⟩ (fun hHeld => ?_)
      clear hK K
      refine norm_ (a' := ?_) ?_ ?_
      rotate_left
      ·show Act.put _ (some 24) _ = _
       simp only [Act.put, sa_, sz_, ss_, i64_w, i32_w]
       rfl
      refine one_ (i := 8) (N := some 26) #[true, true, true, true, true, true, true, true, true, false] rfl rfl (one_of HT_.out (by kernel_rfl)) (by decide) (fun K hK => ?_)
      refine goes_ Try.func55 (by kernel_rfl) rfl #[.agg #[.int .i64 t287, .bool t288, .slice Ao24 t289.length co24], .int .i64 a1] (by rfl) rfl rfl (by (try simp only [ma_, mc_, mn_]); first | done | rfl | (simp only [ld_, lt_]; rfl)) ?_
      with_reducible refine (spec_l11Number.calls k1 t287 t288 _ _ t289 a1 t292 _ ?side1 ?side2 A12.out).mono ?_
      (case side1 => repeat (first | exact (rr_ HO291.out).2.2 | (with_reducible refine ca_ ?_ _) | (with_reducible refine cn_ ?_ _) | (with_reducible refine cd_ ?_)))
      (case side2 => exact (rr_ HO291.out).2.1)
      rintro e w25 ⟨rfl, hb⟩
      have HS3_ := (hb.cell (World.block_lt_of_cell? _ _ (hHeld.2.2.2))).trans (hHeld.2.2.2)
      refine ⟨_, rfl, ?_⟩
      have n0_ := A0_ (Kd.R_below (by (with_reducible repeat (first | apply ra_ | apply rn_ | apply rd_)); exact HO_5.out) hb)
      have n1_ := A0_ (Kd.R_below (by (with_reducible repeat (first | apply ra_ | apply rn_ | apply rd_)); exact HO_6.out) hb)
      have n2_ := A0_ (Kd.R_below (by (with_reducible repeat (first | apply ra_ | apply rn_ | apply rd_)); exact HO291.out) hb)
      have n3_ := A0_ (kb_ (g := gb279) (o := .cells #[.int .i64 a0_0, .bool a0_1, .slice A0_2 l0_2.length c0_2] 32 (0, 0)) (by (with_reducible repeat (first | apply kn_ | apply kd_ | apply ka_)); exact BK279.out) hb)
      have n4_ := A0_ (bt_ (by repeat (first | exact HB.out | apply ba_ | apply bn_ | apply bd_ | refine bs_ ?_ GE279.out)) hb)
      clear HO_5
      clear HO_6
      clear HO291
      clear BK279
      clear HB
      have HO_5 := n0_
      have HO_6 := n1_
      have HO291 := n2_
      have BK279 := n3_
      have HB := n4_
      clear n0_ n1_ n2_ n3_ n4_
      (try clear hb)
      (try clear hb2)
      (try clear hk)
      (try clear hi)
      refine hK.out _ _ ⟨(kc_ BK279.out 0).trans rfl, (kc_ BK279.out 1).trans rfl, (kc_ BK279.out 2).trans rfl, HS3_⟩ (fun hHeld => ?_)
      clear hK K
      refine norm_ (a' := ?_) ?_ ?_
      rotate_left
      ·show Act.put _ (some 26) _ = _
       simp only [Act.put, sa_, sz_, ss_, i64_w, i32_w]
       rfl
      refine pure_ (i := 9) (N := some 27) (v := ?_) (a' := ?_) #[true, true, true, true, true, true, true, true, true, true] rfl rfl (any_of HT_.out (by kernel_rfl)) (fun _ _ _ h => h) (Or.inl ⟨by rfl, ?_⟩) ?_ ?_
      rotate_left
      ·intro w'
       go_simp
       with_reducible rfl
      rotate_left
      ·simp only [Act.put, sa_, sz_, ss_, i64_w, i32_w]
       rfl
      refine done_ (done_of HT_.out (by kernel_rfl)) ?_
      try go_wp2
      go_roundg k1
      case measure => have := HK1.out; omega
      case rel => exact ⟨(x5_1), (wrap64 (x7_1 + 1)), (by first | rfl | (simp [*]; done)), H', ⟨by have := HK1.out; omega⟩, ⟨by (with_reducible repeat (first | apply ra_ | apply rn_ | apply rd_)); exact Kd.R_mono HO_5.out (fun _ hk => hk.1)⟩, ⟨by (with_reducible repeat (first | apply ra_ | apply rn_ | apply rd_)); exact Kd.R_mono HO_6.out (fun _ hk => hk.1)⟩, ⟨by (with_reducible repeat (first | apply kn_ | apply kd_ | apply ka_)); exact BK279.out⟩, ⟨by repeat (first | exact HB.out | apply ba_ | apply bn_ | apply bd_ | refine bs_ ?_ GE279.out)⟩⟩
    ·rw [if_neg c10] at H
     exact absurd H (by simp)
   ·rw [if_neg c9] at H
    have c9b0 : decide (x7_1 < (t283.length : Int)) = false := decide_eq_false c9
    clear c9
    obtain rfl := si_ H
    obtain ⟨Ao26, co26, eo26⟩ := Kd.R_slice HO_6.out
    subst eo26
    go_wp2
    go_ret
    exact ⟨_, by first | rfl | (simp [*, errW_none, errW_some] <;> rfl), by (with_reducible repeat (first | apply ra_ | apply rn_ | apply rd_)); exact Kd.R_mono HO_5.out (fun _ hk => trivial), by repeat (first | exact HB.out | apply ba_ | apply bn_ | apply bd_ | refine bs_ ?_ GE279.out)⟩

mutual
def spec_BestPlay.j0 : Nat → Int → List Int → Bool → Int → Bool → List Int → Option (List Int × Bool)
 | 0, _, _, _, _, _, _ => none
 | k + 1, x1, x6, x19, x298000, x298001, x298002 => if x19 = true then (some (x6, false)) else (spec_BestPlay.l0 k x1 x6 x298000 x298001 x298002)
def spec_BestPlay.l0 : Nat → Int → List Int → Int → Bool → List Int → Option (List Int × Bool)
 | 0, _, _, _, _, _ => none
 | k + 1, x1, x6, x304000, x304001, x304002 => (spec_l11Moves.f k x304000 x304001 x304002 x1).bind fun t304 => (if (t304.length : Int) = 0 then (some (x6, true)) else (if 0 < (t304.length : Int) then ((spec_l11Wins.f k x304000 x304001 x304002 x1).bind fun t308 => (if (t308.length : Int) > 0 then (if 0 < (t308.length : Int) then (if x6.length < 17592186044416 then ((spec_l11Made.f k x304000 x304001 x304002 x1 (rd t308 0)).bind fun bt315 => (spec_BestPlay.l0 k x1 (x6 ++ [rd t308 0]) bt315.1 bt315.2.1 bt315.2.2)) else (none)) else (none)) else (if x6.length < 17592186044416 then ((spec_l11Made.f k x304000 x304001 x304002 x1 (rd t304 0)).bind fun bt323 => (spec_BestPlay.l0 k x1 (x6 ++ [rd t304 0]) bt323.1 bt323.2.1 bt323.2.2)) else (none)))) else (none)))
end
def spec_BestPlay.f (k : Nat) (a0_0 : Int) (a0_1 : Bool) (l0_2 : List Int) (a1 : Int) : Option (List Int × Bool) := (some (([] : List Int) : List Int)).bind fun y298 => ((spec_l2Row.f k a0_0 a0_1 l0_2).bind fun t301 => (if t301 = true then ((spec_l11Game.f a1).bind fun t302 => (spec_BestPlay.j0 k a1 y298 (!t302) a0_0 a0_1 l0_2)) else (spec_BestPlay.j0 k a1 y298 true a0_0 a0_1 l0_2)))
theorem spec_BestPlay.mono_l : ∀ k, (∀ y0 y1 y2 y3 y4 y5, LeO (spec_BestPlay.j0 k y0 y1 y2 y3 y4 y5) (spec_BestPlay.j0 (k + 1) y0 y1 y2 y3 y4 y5)) ∧ (∀ y0 y1 y2 y3 y4, LeO (spec_BestPlay.l0 k y0 y1 y2 y3 y4) (spec_BestPlay.l0 (k + 1) y0 y1 y2 y3 y4))
 | 0 => ⟨fun _ _ _ _ _ _ r h => by simp [spec_BestPlay.j0] at h, fun _ _ _ _ _ r h => by simp [spec_BestPlay.l0] at h⟩
 | k + 1 => by
  obtain ⟨ih0, ih1⟩ := spec_BestPlay.mono_l k
  refine ⟨?_, ?_⟩
  ·intro y0 y1 y2 y3 y4 y5
   unfold spec_BestPlay.j0
   repeat' first
   | (with_reducible exact ih0 _ _ _ _ _ _)
   | (with_reducible exact ih1 _ _ _ _ _)
   | (with_reducible exact spec_l11Made.mono _ _ _ _ _ _)
   | (with_reducible exact spec_l11Moves.mono _ _ _ _ _)
   | (with_reducible exact spec_l11Wins.mono _ _ _ _ _)
   | (with_reducible exact spec_l2Row.mono _ _ _ _)
   | (with_reducible exact LeO.refl _)
   | (with_reducible exact LeO.none _)
   | (with_reducible refine LeO.ite ?_ ?_)
   | (with_reducible refine LeO.bind ?_ (fun _ => ?_))
  ·intro y0 y1 y2 y3 y4
   unfold spec_BestPlay.l0
   repeat' first
   | (with_reducible exact ih0 _ _ _ _ _ _)
   | (with_reducible exact ih1 _ _ _ _ _)
   | (with_reducible exact spec_l11Made.mono _ _ _ _ _ _)
   | (with_reducible exact spec_l11Moves.mono _ _ _ _ _)
   | (with_reducible exact spec_l11Wins.mono _ _ _ _ _)
   | (with_reducible exact spec_l2Row.mono _ _ _ _)
   | (with_reducible exact LeO.refl _)
   | (with_reducible exact LeO.none _)
   | (with_reducible refine LeO.ite ?_ ?_)
   | (with_reducible refine LeO.bind ?_ (fun _ => ?_))
theorem spec_BestPlay.mono : ∀ a0 a1 a2 a3 k, LeO (spec_BestPlay.f k a0 a1 a2 a3) (spec_BestPlay.f (k + 1) a0 a1 a2 a3) := by
 intro a0 a1 a2 a3 k
 obtain ⟨ih0, ih1⟩ := spec_BestPlay.mono_l k
 unfold spec_BestPlay.f
 repeat' first
   | (with_reducible exact ih0 _ _ _ _ _ _)
   | (with_reducible exact ih1 _ _ _ _ _)
   | (with_reducible exact spec_l11Made.mono _ _ _ _ _ _)
   | (with_reducible exact spec_l11Moves.mono _ _ _ _ _)
   | (with_reducible exact spec_l11Wins.mono _ _ _ _ _)
   | (with_reducible exact spec_l2Row.mono _ _ _ _)
   | (with_reducible exact LeO.refl _)
   | (with_reducible exact LeO.none _)
   | (with_reducible refine LeO.ite ?_ ?_)
   | (with_reducible refine LeO.bind ?_ (fun _ => ?_))
theorem spec_BestPlay.calls (k : Nat) (a0_0 : Int) (a0_1 : Bool) (P0_2_ : Nat → Prop) (A0_2 : Option Addr) (c0_2 : Nat) (l0_2 : List Int) (a1 : Int) (r1 : List Int) (r2 : Bool) (w : World) (hs0_2 : Kd.V (Kd.int .i64) 3 w w.heap.size (fun k_ => P0_2_ k_) (.slice A0_2 l0_2.length c0_2) l0_2) (h : spec_BestPlay.f k a0_0 a0_1 l0_2 a1 = some (r1, r2)) :
  Calls Try.prog 36 #[.agg #[.int .i64 a0_0, .bool a0_1, .slice A0_2 l0_2.length c0_2], .int .i64 a1] w fun e w' => ∃ v0_ : Value, e = .returned (.tuple #[v0_, .bool r2]) ∧ Kd.R (Kd.int .i64) 3 w' w.heap.size (fun k_ => (w.heap.size ≤ k_)) v0_ r1 ∧ Below w.heap.size w w' := by
 have hu32 := Try.underlying32
 have HO0_2 := A0_ (show Kd.V (Kd.int .i64) 3 w w.heap.size (fun k_ => (P0_2_ k_ ∨ w.heap.size ≤ k_)) (.slice A0_2 l0_2.length c0_2) l0_2 from Kd.V_mono hs0_2 (fun k_ hk => .inl hk))
 have HB := A0_ (Below.refl w.heap.size w)
 have H : ((some (([] : List Int) : List Int)).bind fun y298 => ((spec_l2Row.f k a0_0 a0_1 l0_2).bind fun t301 => (if t301 = true then ((spec_l11Game.f a1).bind fun t302 => (spec_BestPlay.j0 k a1 y298 (!t302) a0_0 a0_1 l0_2)) else (spec_BestPlay.j0 k a1 y298 true a0_0 a0_1 l0_2)))) = some (r1, r2) := h
 clear h
 obtain ⟨y298, hy298⟩ : ∃ y_ : List Int, y_ = (([] : List Int)) := ⟨_, rfl⟩
 replace H : ((spec_l2Row.f k a0_0 a0_1 l0_2).bind fun t301 => (if t301 = true then ((spec_l11Game.f a1).bind fun t302 => (spec_BestPlay.j0 k a1 y298 (!t302) a0_0 a0_1 l0_2)) else (spec_BestPlay.j0 k a1 y298 true a0_0 a0_1 l0_2))) = some (r1, r2) := by first | (rw [hy298]; with_reducible exact H) | (have H2_ := (Option.bind_some _ _).symm.trans H; rw [hy298]; with_reducible exact H2_) | (have H2_ := (Option.bind_some _ _).symm.trans H; with_reducible exact H2_) | with_reducible exact H | (rw [hy298]; exact H) | exact H
 have Ny298 := A0_ hy298
 clear hy298
 have HC3 := A0_ H
 clear H
 go_enter Try.func36, Try.ntmps36
 go_upto_region 2 with (first | ((with_reducible refine gd_ (N := 2) rfl ?_); refine be_ ?hg (N := 2) ?hd (cs := #[.int .i64 a0_0, .bool a0_1, .slice A0_2 l0_2.length c0_2]) (t := 32) ?hr ?_; (case hd => rfl); (case hg => rfl); (case hr => go_simp; first | done | rfl); intro gb297 hg w4 hbox hb; have n0_ := A0_ (Kd.V_below (Kd.V_elderB (by (with_reducible repeat (first | apply Kd.V_alloc | apply Kd.V_drewN | apply Kd.V_drew)); exact HO0_2.out) gb297 (Nat.le_of_eq hg.symm)) hb); have n1_ := A0_ (bt_ (by repeat (first | exact HB.out | apply ba_ | apply bn_ | apply bd_)) hb); have n2_ := A0_ (hbox); have n3_ := A0_ ((by rw [hg]; exact (bz_ (by repeat (first | exact HB.out | apply ba_ | apply bn_ | apply bd_))) : w.heap.size ≤ gb297)); have n4_ := A0_ ((by rw [hg]; exact (bz_ (by repeat (first | exact HB.out | apply ba_ | apply bn_ | apply bd_))) : w.heap.size ≤ gb297)); clear HO0_2 HB; have HO0_2 := n0_; have HB := n1_; have BK297 := n2_; have GW297 := n3_; have GE297 := n4_; clear n0_ n1_ n2_ n3_ n4_ hb hbox hg) | ((with_reducible refine gd_ (N := 11) rfl ?_); refine Kd.R_lit (Kd.int .i64) _ 3 ?hg (N := 11) ?hd (xs := ([] : List Int)) (inner := []) (ok := fun _ => True) (okp := fun _ => True) ?hr ?hp (fun _ hk => hk) trivial (Below.refl _ _) (Nat.le_refl _) (by simp) ?_; (case hd => rfl); (case hg => rfl); (case hr => go_simp; first | done | rfl); (case hp => exact (Reps.none _ _)); intro v299 w5 ho6 hb hg_ hnew_; clear hg_ hnew_; (first | rw [← Ny298.out] at ho6 | (simp only [Int.reduceToNat] at ho6; rw [← Ny298.out] at ho6)); have n0_ := A0_ (Kd.V_elder' (by (with_reducible repeat (first | apply Kd.V_alloc | apply Kd.V_drewN | apply Kd.V_drew)); exact HO0_2.out) (Kd.R_base ho6) hb); have n1_ := A0_ (Kd.R_lower (Kd.R_newM (M := fun k_ => (w.heap.size ≤ k_)) ho6 (bz_ (by repeat (first | exact HB.out | apply ba_ | apply bn_ | apply bd_ | refine bs_ ?_ GE297.out))) (fun k_ h_ => h_)) (bz_ (by repeat (first | exact HB.out | apply ba_ | apply bn_ | apply bd_ | refine bs_ ?_ GE297.out)))); have n2_ := A0_ (kb_ (g := gb297) (o := .cells #[.int .i64 a0_0, .bool a0_1, .slice A0_2 l0_2.length c0_2] 32 (0, 0)) (by (with_reducible repeat (first | apply kn_ | apply kd_ | apply ka_)); exact BK297.out) hb); have n3_ := A0_ (bt_ (by repeat (first | exact HB.out | apply ba_ | apply bn_ | apply bd_ | refine bs_ ?_ GE297.out)) hb); clear HO0_2 BK297 HB; have HO0_2 := n0_; have HO300 := n1_; have BK297 := n2_; have HB := n3_; clear n0_ n1_ n2_ n3_ hb ho6))
 (try simp only [Act.put, sa_, sz_, ss_])
 go_cut [19] (fun v19 wc => ∃ (kq : Nat) (x19_2 : Bool), v19 = .bool x19_2 ∧ Aside0 (spec_BestPlay.j0 kq a1 y298 x19_2 a0_0 a0_1 l0_2 = some (r1, r2)) ∧ Aside0 (kq ≤ k) ∧ Aside0 (Kd.R (Kd.int .i64) 3 wc w.heap.size (fun k_ => (w.heap.size ≤ k_)) v299 y298) ∧ Aside0 (Kd.V (Kd.int .i64) 3 wc w.heap.size (fun k_ => (P0_2_ k_ ∨ w.heap.size ≤ k_) ∧ some k_ ≠ (v299 : Value).ownBlock ∧ k_ ≠ gb297) (.slice A0_2 l0_2.length c0_2) l0_2) ∧ Aside0 (wc.heap[gb297]? = some (.cells #[.int .i64 a0_0, .bool a0_1, (.slice A0_2 l0_2.length c0_2)] 32 (0, 0))) ∧ Aside0 (Below w.heap.size w wc))
 case first =>
  have H := HC3.out
  clear HC3
  replace H := ob_.mp H
  obtain ⟨t301, A70, H⟩ := H
  have A7 := A0_ A70
  clear A70
  by_cases c8 : t301 = true
  ·subst c8
   rw [if_pos rfl] at H
   replace H := ob_.mp H
   obtain ⟨t302, A90, H⟩ := H
   have A9 := A0_ A90
   clear A90
   have H' := A0_ H
   clear H
   have hcz10_0 : w5.cell? ⟨gb297, 0, none⟩ = some (.int .i64 a0_0) := (kc_ BK297.out 0).trans rfl
   have hcz10_1 : w5.cell? ⟨gb297, 1, none⟩ = some (.bool a0_1) := (kc_ BK297.out 1).trans rfl
   have hcz10_2 : w5.cell? ⟨gb297, 2, none⟩ = some (.slice A0_2 l0_2.length c0_2) := (kc_ BK297.out 2).trans rfl
   have hfz10_0 := kf_ BK297.out 0
   have hfz10_1 := kf_ BK297.out 1
   have hfz10_2 := kf_ BK297.out 2
   go_wp2_with (first | ((with_reducible refine gc_ (f := 47) rfl ?_); refine goesL_ (some 13) rfl rfl Try.func47 (by kernel_rfl) rfl #[.agg #[.int .i64 a0_0, .bool a0_1, .slice A0_2 l0_2.length c0_2]] rfl (by (try simp only [ma_, mc_, mn_]); first | done | rfl | (simp only [ld_, lt_]; rfl)) ?_; (with_reducible refine (spec_l2Row.calls k a0_0 a0_1 _ _ l0_2 true _ ?side1 ?side2 A7.out).mono ?_); (case side1 => repeat (first | exact (Kd.V_reads' HO0_2.out).2.2 | (with_reducible refine ca_ ?_ _) | (with_reducible refine cn_ ?_ _) | (with_reducible refine cd_ ?_))); (case side2 => exact (Kd.V_reads' HO0_2.out).2.1); rintro e w11 ⟨rfl, hb⟩; refine ⟨_, rfl, ?_⟩; have n0_ := A0_ (Kd.V_below (by (with_reducible repeat (first | apply Kd.V_alloc | apply Kd.V_drewN | apply Kd.V_drew)); exact HO0_2.out) hb); have n1_ := A0_ (Kd.R_below (by (with_reducible repeat (first | apply ra_ | apply rn_ | apply rd_)); exact HO300.out) hb); have n2_ := A0_ (kb_ (g := gb297) (o := .cells #[.int .i64 a0_0, .bool a0_1, .slice A0_2 l0_2.length c0_2] 32 (0, 0)) (by (with_reducible repeat (first | apply kn_ | apply kd_ | apply ka_)); exact BK297.out) hb); have n3_ := A0_ (bt_ (by repeat (first | exact HB.out | apply ba_ | apply bn_ | apply bd_ | refine bs_ ?_ GE297.out)) hb); clear HO0_2 HO300 BK297 HB; have HO0_2 := n0_; have HO300 := n1_; have BK297 := n2_; have HB := n3_; clear n0_ n1_ n2_ n3_; (try clear hb)) | (go_at_call 42; (with_reducible refine (spec_l11Game.calls a1 t302 _ A9.out).mono ?_); rintro e w' ⟨rfl, ⟨nd, rfl⟩⟩))
   go_meet
   case rel => exact ⟨_, (!t302), (by first | rfl | (simp [*]; done)), H', ⟨by first | omega | exact Nat.le_refl _⟩, ⟨by (with_reducible repeat (first | apply ra_ | apply rn_ | apply rd_)); exact Kd.R_mono HO300.out (fun _ hk => hk.1)⟩, ⟨by (with_reducible repeat (first | apply Kd.V_alloc | apply Kd.V_drewN | apply Kd.V_drew)); exact Kd.V_mono HO0_2.out (fun _ hk => ⟨hk.1.1, ⟨hk.2, hk.1.2⟩⟩)⟩, ⟨by (with_reducible repeat (first | apply kn_ | apply kd_ | apply ka_)); exact BK297.out⟩, ⟨by repeat (first | exact HB.out | apply ba_ | apply bn_ | apply bd_ | refine bs_ ?_ GE297.out)⟩⟩
  ·replace c8 := bf_.mpr c8
   subst c8
   rw [if_neg (show ¬ (false = true) by decide)] at H
   have H' := A0_ H
   clear H
   have hcz12_0 : w5.cell? ⟨gb297, 0, none⟩ = some (.int .i64 a0_0) := (kc_ BK297.out 0).trans rfl
   have hcz12_1 : w5.cell? ⟨gb297, 1, none⟩ = some (.bool a0_1) := (kc_ BK297.out 1).trans rfl
   have hcz12_2 : w5.cell? ⟨gb297, 2, none⟩ = some (.slice A0_2 l0_2.length c0_2) := (kc_ BK297.out 2).trans rfl
   have hfz12_0 := kf_ BK297.out 0
   have hfz12_1 := kf_ BK297.out 1
   have hfz12_2 := kf_ BK297.out 2
   go_wp2_with (first | ((with_reducible refine gc_ (f := 47) rfl ?_); refine goesL_ (some 13) rfl rfl Try.func47 (by kernel_rfl) rfl #[.agg #[.int .i64 a0_0, .bool a0_1, .slice A0_2 l0_2.length c0_2]] rfl (by (try simp only [ma_, mc_, mn_]); first | done | rfl | (simp only [ld_, lt_]; rfl)) ?_; (with_reducible refine (spec_l2Row.calls k a0_0 a0_1 _ _ l0_2 false _ ?side1 ?side2 A7.out).mono ?_); (case side1 => repeat (first | exact (Kd.V_reads' HO0_2.out).2.2 | (with_reducible refine ca_ ?_ _) | (with_reducible refine cn_ ?_ _) | (with_reducible refine cd_ ?_))); (case side2 => exact (Kd.V_reads' HO0_2.out).2.1); rintro e w13 ⟨rfl, hb⟩; refine ⟨_, rfl, ?_⟩; have n0_ := A0_ (Kd.V_below (by (with_reducible repeat (first | apply Kd.V_alloc | apply Kd.V_drewN | apply Kd.V_drew)); exact HO0_2.out) hb); have n1_ := A0_ (Kd.R_below (by (with_reducible repeat (first | apply ra_ | apply rn_ | apply rd_)); exact HO300.out) hb); have n2_ := A0_ (kb_ (g := gb297) (o := .cells #[.int .i64 a0_0, .bool a0_1, .slice A0_2 l0_2.length c0_2] 32 (0, 0)) (by (with_reducible repeat (first | apply kn_ | apply kd_ | apply ka_)); exact BK297.out) hb); have n3_ := A0_ (bt_ (by repeat (first | exact HB.out | apply ba_ | apply bn_ | apply bd_ | refine bs_ ?_ GE297.out)) hb); clear HO0_2 HO300 BK297 HB; have HO0_2 := n0_; have HO300 := n1_; have BK297 := n2_; have HB := n3_; clear n0_ n1_ n2_ n3_; (try clear hb)))
   go_meet
   case rel => exact ⟨_, (true), (by first | rfl | (simp [*]; done)), H', ⟨by first | omega | exact Nat.le_refl _⟩, ⟨by (with_reducible repeat (first | apply ra_ | apply rn_ | apply rd_)); exact Kd.R_mono HO300.out (fun _ hk => hk.1)⟩, ⟨by (with_reducible repeat (first | apply Kd.V_alloc | apply Kd.V_drewN | apply Kd.V_drew)); exact Kd.V_mono HO0_2.out (fun _ hk => ⟨hk.1.1, ⟨hk.2, hk.1.2⟩⟩)⟩, ⟨by (with_reducible repeat (first | apply kn_ | apply kd_ | apply ka_)); exact BK297.out⟩, ⟨by repeat (first | exact HB.out | apply ba_ | apply bn_ | apply bd_ | refine bs_ ?_ GE297.out)⟩⟩
 case rest =>
  clear HC3
  try clear p2
  try clear c3
  try clear c4
  try clear c8
  try clear hcz10_0
  try clear hcz10_1
  try clear hcz10_2
  try clear hcz12_0
  try clear hcz12_1
  try clear hcz12_2
  try clear hfz10_0
  try clear hfz10_1
  try clear hfz10_2
  try clear hfz12_0
  try clear hfz12_1
  try clear hfz12_2
  obtain ⟨kq, x19_2, rfl, HA, HJ2, HO_6, HO_298002, BK297, HB⟩ := hcut
  cases kq with
  | zero => exact absurd HA.out (by simp [spec_BestPlay.j0])
  | succ kj2 =>
   have H := HA.out
   clear HA
   simp only [spec_BestPlay.j0] at H
   by_cases c14 : x19_2 = true
   ·subst c14
    rw [if_pos rfl] at H
    simp only [sj_, pj_] at H
    obtain ⟨rfl, rfl⟩ := H
    go_wp2
    go_ret2
    exact ⟨_, by first | rfl | (simp [*, errW_none, errW_some] <;> rfl), by (with_reducible repeat (first | apply ra_ | apply rn_ | apply rd_)); exact HO_6.out, by repeat (first | exact HB.out | apply ba_ | apply bn_ | apply bd_ | refine bs_ ?_ GE297.out)⟩
   ·replace c14 := bf_.mpr c14
    subst c14
    rw [if_neg (show ¬ (false = true) by decide)] at H
    have H' := A0_ H
    clear H
    have hcz15_0 : wc.cell? ⟨gb297, 0, none⟩ = some (.int .i64 a0_0) := (kc_ BK297.out 0).trans rfl
    have hcz15_1 : wc.cell? ⟨gb297, 1, none⟩ = some (.bool a0_1) := (kc_ BK297.out 1).trans rfl
    have hcz15_2 : wc.cell? ⟨gb297, 2, none⟩ = some (.slice A0_2 l0_2.length c0_2) := (kc_ BK297.out 2).trans rfl
    have hfz15_0 := kf_ BK297.out 0
    have hfz15_1 := kf_ BK297.out 1
    have hfz15_2 := kf_ BK297.out 2
    go_wp2_with (first | ((with_reducible refine gd_ (N := 7) rfl ?_); refine be_ ?hg (N := 7) ?hd (cs := #[.int .i64 0, .bool false, .slice none 0 0]) (t := 32) ?hr ?_; (case hd => rfl); (case hg => rfl); (case hr => go_simp; first | done | rfl); intro gb303 hg w16 hbox hb; have n0_ := A0_ (Kd.R_below (by (with_reducible repeat (first | apply ra_ | apply rn_ | apply rd_)); exact HO_6.out) hb); have n1_ := A0_ (Kd.V_below (Kd.V_elderB (by (with_reducible repeat (first | apply Kd.V_alloc | apply Kd.V_drewN | apply Kd.V_drew)); exact HO_298002.out) gb303 (Nat.le_of_eq hg.symm)) hb); have n2_ := A0_ (kb_ (g := gb297) (o := .cells #[.int .i64 a0_0, .bool a0_1, .slice A0_2 l0_2.length c0_2] 32 (0, 0)) (by (with_reducible repeat (first | apply kn_ | apply kd_ | apply ka_)); exact BK297.out) hb); have n3_ := A0_ (bt_ (by repeat (first | exact HB.out | apply ba_ | apply bn_ | apply bd_ | refine bs_ ?_ GE297.out)) hb); have n4_ := A0_ (hbox); have n5_ := A0_ ((by rw [hg]; exact (bz_ (by repeat (first | exact HB.out | apply ba_ | apply bn_ | apply bd_ | refine bs_ ?_ GE297.out))) : w.heap.size ≤ gb303)); have n6_ := A0_ ((by rw [hg]; exact (bz_ (by repeat (first | exact HB.out | apply ba_ | apply bn_ | apply bd_ | refine bs_ ?_ GE297.out))) : w.heap.size ≤ gb303)); have n7_ := A0_ ((by rw [hg]; exact Nat.ne_of_lt (blk_lt (g := gb297) (o := .cells #[.int .i64 a0_0, .bool a0_1, .slice A0_2 l0_2.length c0_2] 32 (0, 0)) (by (with_reducible repeat (first | apply kn_ | apply kd_ | apply ka_)); exact BK297.out)) : gb297 ≠ gb303)); have n8_ := A0_ ((by rw [hg]; exact Nat.ne_of_gt (blk_lt (g := gb297) (o := .cells #[.int .i64 a0_0, .bool a0_1, .slice A0_2 l0_2.length c0_2] 32 (0, 0)) (by (with_reducible repeat (first | apply kn_ | apply kd_ | apply ka_)); exact BK297.out)) : gb303 ≠ gb297)); clear HO_6 HO_298002 BK297 HB; have HO_6 := n0_; have HO_298002 := n1_; have BK297 := n2_; have HB := n3_; have BK303 := n4_; have GW303 := n5_; have GE303 := n6_; have NB297_303 := n7_; have NB303_297 := n8_; clear n0_ n1_ n2_ n3_ n4_ n5_ n6_ n7_ n8_ hb hbox hg; have hnb17 := NB303_297.out; have hnc17 := NB297_303.out; have hcz18_0 : w16.cell? ⟨gb303, 0, none⟩ = some (.int .i64 0) := (kc_ BK303.out 0).trans rfl; have hcz18_1 : w16.cell? ⟨gb303, 1, none⟩ = some (.bool false) := (kc_ BK303.out 1).trans rfl; have hcz18_2 : w16.cell? ⟨gb303, 2, none⟩ = some (.slice none 0 0) := (kc_ BK303.out 2).trans rfl; have hfz18_0 := kf_ BK303.out 0; have hfz18_1 := kf_ BK303.out 1; have hfz18_2 := kf_ BK303.out 2))
    go_loopg [6] kj2 (fun kq v6 w' => ∃ (x6_2 : List Int) (x304000_2 : Int) (x304001_2 : Bool) (x304002_2 : List Int) (u304002 : Value), Aside0 (spec_BestPlay.l0 kq a1 x6_2 x304000_2 x304001_2 x304002_2 = some (r1, r2)) ∧ Aside0 (kq ≤ kj2) ∧ Aside0 (Kd.R (Kd.int .i64) 3 w' w.heap.size (fun k_ => (w.heap.size ≤ k_)) v6 x6_2) ∧ Aside0 (Kd.V (Kd.int .i64) 3 w' w.heap.size (fun k_ => (P0_2_ k_ ∨ w.heap.size ≤ k_) ∧ some k_ ≠ (v6 : Value).ownBlock ∧ k_ ≠ gb297 ∧ k_ ≠ gb303) (.slice A0_2 l0_2.length c0_2) l0_2) ∧ Aside0 (Kd.V (Kd.int .i64) 3 w' w.heap.size (fun k_ => (P0_2_ k_ ∨ w.heap.size ≤ k_) ∧ some k_ ≠ (v6 : Value).ownBlock ∧ k_ ≠ gb297 ∧ k_ ≠ gb303) u304002 x304002_2) ∧ Aside0 (w'.heap[gb297]? = some (.cells #[.int .i64 a0_0, .bool a0_1, (.slice A0_2 l0_2.length c0_2)] 32 (0, 0))) ∧ Aside0 (w'.heap[gb303]? = some (.cells #[.int .i64 x304000_2, .bool x304001_2, u304002] 32 (0, 0))) ∧ Aside0 (Below w.heap.size w w'))
    case atStart => exact ⟨(y298), (a0_0), (a0_1), (l0_2), (.slice A0_2 l0_2.length c0_2), H', ⟨Nat.le_refl _⟩, ⟨by (with_reducible repeat (first | apply ra_ | apply rn_ | apply rd_)); exact Kd.R_mono (Kd.R_far (p := ⟨gb303, 2, none⟩) (Kd.R_far (p := ⟨gb303, 1, none⟩) (Kd.R_far (p := ⟨gb303, 0, none⟩) (Kd.R_types HO_6.out BK303.out (by decide)) (fun _ hk => hk.2) (.int .i64 a0_0)) (fun _ hk => hk.2) (.bool a0_1)) (fun _ hk => hk.2) (.slice A0_2 l0_2.length c0_2)) (fun _ hk => hk.1)⟩, ⟨by (with_reducible repeat (first | apply Kd.V_alloc | apply Kd.V_drewN | apply Kd.V_drew)); exact Kd.V_mono (Kd.V_far (p := ⟨gb303, 2, none⟩) (Kd.V_far (p := ⟨gb303, 1, none⟩) (Kd.V_far (p := ⟨gb303, 0, none⟩) (Kd.V_mono HO_298002.out (fun k_ hk => (⟨hk, hk.2⟩ : _ ∧ k_ ≠ gb303))) (fun _ hk => hk.2) (.int .i64 a0_0)) (fun _ hk => hk.2) (.bool a0_1)) (fun _ hk => hk.2) (.slice A0_2 l0_2.length c0_2)) (fun _ hk => ⟨hk.1.1.1, ⟨hk.1.1.2.1, ⟨hk.1.1.2.2, hk.1.2⟩⟩⟩)⟩, ⟨by (with_reducible repeat (first | apply Kd.V_alloc | apply Kd.V_drewN | apply Kd.V_drew)); exact Kd.V_mono (Kd.V_far (p := ⟨gb303, 2, none⟩) (Kd.V_far (p := ⟨gb303, 1, none⟩) (Kd.V_far (p := ⟨gb303, 0, none⟩) (Kd.V_mono HO_298002.out (fun k_ hk => (⟨hk, hk.2⟩ : _ ∧ k_ ≠ gb303))) (fun _ hk => hk.2) (.int .i64 a0_0)) (fun _ hk => hk.2) (.bool a0_1)) (fun _ hk => hk.2) (.slice A0_2 l0_2.length c0_2)) (fun _ hk => ⟨hk.1.1.1, ⟨hk.1.1.2.1, ⟨hk.1.1.2.2, hk.1.2⟩⟩⟩)⟩, ⟨by (with_reducible repeat (first | apply kn_ | apply kd_ | apply ka_)); refine blk_far ?_ NB297_303.out _; (with_reducible repeat (first | apply kn_ | apply kd_ | apply ka_)); refine blk_far ?_ NB297_303.out _; (with_reducible repeat (first | apply kn_ | apply kd_ | apply ka_)); refine blk_far ?_ NB297_303.out _; (with_reducible repeat (first | apply kn_ | apply kd_ | apply ka_)); exact BK297.out⟩, ⟨by (with_reducible repeat (first | apply kn_ | apply kd_ | apply ka_)); refine blk_put (cs := #[.int .i64 a0_0, .bool a0_1, .slice none 0 0]) ?_ 2 _ rfl; (with_reducible repeat (first | apply kn_ | apply kd_ | apply ka_)); refine blk_put (cs := #[.int .i64 a0_0, .bool false, .slice none 0 0]) ?_ 1 _ rfl; (with_reducible repeat (first | apply kn_ | apply kd_ | apply ka_)); refine blk_put (cs := #[.int .i64 0, .bool false, .slice none 0 0]) ?_ 0 _ rfl; (with_reducible repeat (first | apply kn_ | apply kd_ | apply ka_)); exact BK303.out⟩, ⟨by repeat (first | exact HB.out | apply ba_ | apply bn_ | apply bd_ | refine bs_ ?_ GE297.out | refine bs_ ?_ GE303.out)⟩⟩
    case round =>
     clear H'
     try clear c1
     try clear p2
     try clear c3
     try clear c4
     try clear c8
     try clear c14
     try clear c17
     try clear hcz10_0
     try clear hcz10_1
     try clear hcz10_2
     try clear hcz12_0
     try clear hcz12_1
     try clear hcz12_2
     try clear hcz15_0
     try clear hcz15_1
     try clear hcz15_2
     try clear hcz18_0
     try clear hcz18_1
     try clear hcz18_2
     try clear hfz10_0
     try clear hfz10_1
     try clear hfz10_2
     try clear hfz12_0
     try clear hfz12_1
     try clear hfz12_2
     try clear hfz15_0
     try clear hfz15_1
     try clear hfz15_2
     try clear hfz18_0
     try clear hfz18_1
     try clear hfz18_2
     try clear p2
     obtain ⟨x6_2, x304000_2, x304001_2, x304002_2, u304002, HA, HK2, HO_6, HO_298002, HO_304002, BK297, BK303, HB⟩ := hrel
     cases gk with
     | zero => exact absurd HA.out (by simp [spec_BestPlay.l0])
     | succ k2 =>
      have H := HA.out
      clear HA
      simp only [spec_BestPlay.l0] at H
      replace H := ob_.mp H
      obtain ⟨t304, A190, H⟩ := H
      have A19 := A0_ A190
      clear A190
      by_cases c20 : (t304.length : Int) = 0
      ·rw [if_pos c20] at H
       have c20b0 : ((t304.length : Int) == 0) = true := beq_iff_eq.mpr c20
       have c20b1 : ((t304.length : Int) != 0) = false := bne_eq_false_iff_eq.mpr c20
       clear c20
       simp only [sj_, pj_] at H
       obtain ⟨rfl, rfl⟩ := H
       have hnb21 := NB303_297.out
       have hnc21 := NB297_303.out
       have hcz22_0 : wr.cell? ⟨gb303, 0, none⟩ = some (.int .i64 x304000_2) := (kc_ BK303.out 0).trans rfl
       have hcz22_1 : wr.cell? ⟨gb303, 1, none⟩ = some (.bool x304001_2) := (kc_ BK303.out 1).trans rfl
       have hcz22_2 : wr.cell? ⟨gb303, 2, none⟩ = some (u304002) := (kc_ BK303.out 2).trans rfl
       have hfz22_0 := kf_ BK303.out 0
       have hfz22_1 := kf_ BK303.out 1
       have hfz22_2 := kf_ BK303.out 2
       obtain ⟨Ao23, co23, eo23⟩ := Kd.V_slice HO_304002.out
       subst eo23
       go_wp2_with (first | ((with_reducible refine gc_ (f := 48) rfl ?_); refine goesL_ (some 24) rfl rfl Try.func48 (by kernel_rfl) rfl #[.agg #[.int .i64 x304000_2, .bool x304001_2, .slice Ao23 x304002_2.length co23], .int .i64 a1] rfl (by (try simp only [ma_, mc_, mn_]); first | done | rfl | (simp only [ld_, lt_]; rfl)) ?_; (with_reducible refine (spec_l11Moves.calls k2 x304000_2 x304001_2 _ _ x304002_2 a1 t304 _ ?side1 ?side2 A19.out).mono ?_); (case side1 => repeat (first | exact (Kd.V_reads' HO_304002.out).2.2 | (with_reducible refine ca_ ?_ _) | (with_reducible refine cn_ ?_ _) | (with_reducible refine cd_ ?_))); (case side2 => exact (Kd.V_reads' HO_304002.out).2.1); rintro e w24 ⟨v305, rfl, ho0, hb⟩; refine ⟨_, rfl, ?_⟩; have n0_ := A0_ (Kd.R_elder' (by (with_reducible repeat (first | apply ra_ | apply rn_ | apply rd_)); exact HO_6.out) (Kd.R_base ho0) hb); have n1_ := A0_ (Kd.V_elder' (by (with_reducible repeat (first | apply Kd.V_alloc | apply Kd.V_drewN | apply Kd.V_drew)); exact HO_298002.out) (Kd.R_base ho0) hb); have n2_ := A0_ (Kd.V_elder' (by (with_reducible repeat (first | apply Kd.V_alloc | apply Kd.V_drewN | apply Kd.V_drew)); exact HO_304002.out) (Kd.R_base ho0) hb); have n3_ := A0_ (Kd.R_lower (Kd.R_new' (Kd.R_newM (M := fun k_ => (w.heap.size ≤ k_)) ho0 (bz_ (by repeat (first | exact HB.out | apply ba_ | apply bn_ | apply bd_ | refine bs_ ?_ GE297.out | refine bs_ ?_ GE303.out))) (fun k_ h_ => h_)) (Kd.R_lt (by (with_reducible repeat (first | apply ra_ | apply rn_ | apply rd_)); exact HO_6.out))) (bz_ (by repeat (first | exact HB.out | apply ba_ | apply bn_ | apply bd_ | refine bs_ ?_ GE297.out | refine bs_ ?_ GE303.out)))); have n4_ := A0_ (kb_ (g := gb297) (o := .cells #[.int .i64 a0_0, .bool a0_1, .slice A0_2 l0_2.length c0_2] 32 (0, 0)) (by (with_reducible repeat (first | apply kn_ | apply kd_ | apply ka_)); exact BK297.out) hb); have n5_ := A0_ (kb_ (g := gb303) (o := .cells #[.int .i64 x304000_2, .bool x304001_2, .slice Ao23 x304002_2.length co23] 32 (0, 0)) (by (with_reducible repeat (first | apply kn_ | apply kd_ | apply ka_)); exact BK303.out) hb); have n6_ := A0_ (bt_ (by repeat (first | exact HB.out | apply ba_ | apply bn_ | apply bd_ | refine bs_ ?_ GE297.out | refine bs_ ?_ GE303.out)) hb); clear HO_6 HO_298002 HO_304002 BK297 BK303 HB; have HO_6 := n0_; have HO_298002 := n1_; have HO_304002 := n2_; have HO306 := n3_; have BK297 := n4_; have BK303 := n5_; have HB := n6_; clear n0_ n1_ n2_ n3_ n4_ n5_ n6_; (try clear hb); (try clear ho0); obtain ⟨Ao25, co25, eo25⟩ := Kd.R_slice HO306.out; subst eo25))
       go_ret2
       exact ⟨_, by first | rfl | (simp [*, errW_none, errW_some] <;> rfl), by (with_reducible repeat (first | apply ra_ | apply rn_ | apply rd_)); exact Kd.R_mono HO_6.out (fun _ hk => hk.1), by repeat (first | exact HB.out | apply ba_ | apply bn_ | apply bd_ | refine bs_ ?_ GE297.out | refine bs_ ?_ GE303.out)⟩
      ·rw [if_neg c20] at H
       have c20b0 : ((t304.length : Int) == 0) = false := beq_eq_false_iff_ne.mpr c20
       have c20b1 : ((t304.length : Int) != 0) = true := bne_iff_ne.mpr c20
       have c20b2 : ¬ (t304 = []) := fun h_ => c20 (by rw [h_]; rfl)
       by_cases c26 : 0 < (t304.length : Int)
       ·rw [if_pos c26] at H
        have c26b0 : decide (0 < (t304.length : Int)) = true := dt_ c26
        have c26b1 : decide (0 < t304.length) = true := dt_ (by omega)
        clear c26
        replace H := ob_.mp H
        obtain ⟨t308, A270, H⟩ := H
        have A27 := A0_ A270
        clear A270
        by_cases c28 : (t308.length : Int) > 0
        ·rw [if_pos c28] at H
         have c28b0 : decide (0 < (t308.length : Int)) = true := dt_ c28
         have c28b1 : decide (0 < t308.length) = true := dt_ (by omega)
         clear c28
         by_cases c29 : 0 < (t308.length : Int)
         ·rw [if_pos c29] at H
          have c29b0 : decide (0 < (t308.length : Int)) = true := dt_ c29
          have c29b1 : decide (0 < t308.length) = true := dt_ (by omega)
          clear c29
          by_cases c30 : x6_2.length < 17592186044416
          ·rw [if_pos c30] at H
           have LMc30 := A0_ c30
           clear c30
           obtain ⟨y312, hy312⟩ : ∃ y_ : List Int, y_ = (x6_2 ++ [rd t308 0]) := ⟨_, rfl⟩
           replace H : ((spec_l11Made.f k2 x304000_2 x304001_2 x304002_2 a1 (rd t308 0)).bind fun bt315 => (spec_BestPlay.l0 k2 a1 y312 bt315.1 bt315.2.1 bt315.2.2)) = some (r1, r2) := by first | (rw [hy312]; with_reducible exact H) | (have H2_ := (Option.bind_some _ _).symm.trans H; rw [hy312]; with_reducible exact H2_) | (have H2_ := (Option.bind_some _ _).symm.trans H; with_reducible exact H2_) | with_reducible exact H | (rw [hy312]; exact H) | exact H
           have Ny312 := A0_ hy312
           clear hy312
           replace H := ob_.mp H
           obtain ⟨⟨t315, t316, t317⟩, A310, H⟩ := H
           have A31 := A0_ A310
           clear A310
           have H' := A0_ H
           clear H
           have hnb32 := NB303_297.out
           have hnc32 := NB297_303.out
           have hcz33_0 : wr.cell? ⟨gb303, 0, none⟩ = some (.int .i64 x304000_2) := (kc_ BK303.out 0).trans rfl
           have hcz33_1 : wr.cell? ⟨gb303, 1, none⟩ = some (.bool x304001_2) := (kc_ BK303.out 1).trans rfl
           have hcz33_2 : wr.cell? ⟨gb303, 2, none⟩ = some (u304002) := (kc_ BK303.out 2).trans rfl
           have hfz33_0 := kf_ BK303.out 0
           have hfz33_1 := kf_ BK303.out 1
           have hfz33_2 := kf_ BK303.out 2
           obtain ⟨Ao34, co34, eo34⟩ := Kd.V_slice HO_304002.out
           subst eo34
           go_wp2_with (first | ((with_reducible refine gc_ (f := 48) rfl ?_); refine goesL_ (some 24) rfl rfl Try.func48 (by kernel_rfl) rfl #[.agg #[.int .i64 x304000_2, .bool x304001_2, .slice Ao34 x304002_2.length co34], .int .i64 a1] rfl (by (try simp only [ma_, mc_, mn_]); first | done | rfl | (simp only [ld_, lt_]; rfl)) ?_; (with_reducible refine (spec_l11Moves.calls k2 x304000_2 x304001_2 _ _ x304002_2 a1 t304 _ ?side1 ?side2 A19.out).mono ?_); (case side1 => repeat (first | exact (Kd.V_reads' HO_304002.out).2.2 | (with_reducible refine ca_ ?_ _) | (with_reducible refine cn_ ?_ _) | (with_reducible refine cd_ ?_))); (case side2 => exact (Kd.V_reads' HO_304002.out).2.1); rintro e w35 ⟨v305, rfl, ho0, hb⟩; refine ⟨_, rfl, ?_⟩; have n0_ := A0_ (Kd.R_elder' (by (with_reducible repeat (first | apply ra_ | apply rn_ | apply rd_)); exact HO_6.out) (Kd.R_base ho0) hb); have n1_ := A0_ (Kd.V_elder' (by (with_reducible repeat (first | apply Kd.V_alloc | apply Kd.V_drewN | apply Kd.V_drew)); exact HO_298002.out) (Kd.R_base ho0) hb); have n2_ := A0_ (Kd.V_elder' (by (with_reducible repeat (first | apply Kd.V_alloc | apply Kd.V_drewN | apply Kd.V_drew)); exact HO_304002.out) (Kd.R_base ho0) hb); have n3_ := A0_ (Kd.R_lower (Kd.R_new' (Kd.R_newM (M := fun k_ => (w.heap.size ≤ k_)) ho0 (bz_ (by repeat (first | exact HB.out | apply ba_ | apply bn_ | apply bd_ | refine bs_ ?_ GE297.out | refine bs_ ?_ GE303.out))) (fun k_ h_ => h_)) (Kd.R_lt (by (with_reducible repeat (first | apply ra_ | apply rn_ | apply rd_)); exact HO_6.out))) (bz_ (by repeat (first | exact HB.out | apply ba_ | apply bn_ | apply bd_ | refine bs_ ?_ GE297.out | refine bs_ ?_ GE303.out)))); have n4_ := A0_ (kb_ (g := gb297) (o := .cells #[.int .i64 a0_0, .bool a0_1, .slice A0_2 l0_2.length c0_2] 32 (0, 0)) (by (with_reducible repeat (first | apply kn_ | apply kd_ | apply ka_)); exact BK297.out) hb); have n5_ := A0_ (kb_ (g := gb303) (o := .cells #[.int .i64 x304000_2, .bool x304001_2, .slice Ao34 x304002_2.length co34] 32 (0, 0)) (by (with_reducible repeat (first | apply kn_ | apply kd_ | apply ka_)); exact BK303.out) hb); have n6_ := A0_ (bt_ (by repeat (first | exact HB.out | apply ba_ | apply bn_ | apply bd_ | refine bs_ ?_ GE297.out | refine bs_ ?_ GE303.out)) hb); clear HO_6 HO_298002 HO_304002 BK297 BK303 HB; have HO_6 := n0_; have HO_298002 := n1_; have HO_304002 := n2_; have HO306 := n3_; have BK297 := n4_; have BK303 := n5_; have HB := n6_; clear n0_ n1_ n2_ n3_ n4_ n5_ n6_; (try clear hb); (try clear ho0); obtain ⟨Ao36, co36, eo36⟩ := Kd.R_slice HO306.out; subst eo36; have p307 : 0 ≤ (0 : Int) := (by omega); have q307 : 0 < (t304.length : Int) := od_ (by first | (with_reducible assumption) | assumption); obtain ⟨ad307, e307, hx307_0⟩ := Kd.at_int (rr_ HO306.out).2.2 0 p307 q307; cases e307; have qi307 : (0 < t304.length) = True := eq_true (by omega); (try rw [show ((0 : Int)).toNat = 0 from rfl] at hx307_0); (try rw [Addr.add_zero'] at hx307_0); replace p307 := eq_true p307; replace q307 := eq_true q307; have hcz37_0 : w35.cell? ⟨gb303, 0, none⟩ = some (.int .i64 x304000_2) := (kc_ BK303.out 0).trans rfl; have hcz37_1 : w35.cell? ⟨gb303, 1, none⟩ = some (.bool x304001_2) := (kc_ BK303.out 1).trans rfl; have hcz37_2 : w35.cell? ⟨gb303, 2, none⟩ = some (.slice Ao34 x304002_2.length co34) := (kc_ BK303.out 2).trans rfl; have hfz37_0 := kf_ BK303.out 0; have hfz37_1 := kf_ BK303.out 1; have hfz37_2 := kf_ BK303.out 2) | ((with_reducible refine gc_ (f := 65) rfl ?_); refine goesL_ (some 34) rfl rfl Try.func65 (by kernel_rfl) rfl #[.agg #[.int .i64 x304000_2, .bool x304001_2, .slice Ao34 x304002_2.length co34], .int .i64 a1] rfl (by (try simp only [ma_, mc_, mn_]); first | done | rfl | (simp only [ld_, lt_]; rfl)) ?_; (with_reducible refine (spec_l11Wins.calls k2 x304000_2 x304001_2 _ _ x304002_2 a1 t308 _ ?side1 ?side2 A27.out).mono ?_); (case side1 => repeat (first | exact (Kd.V_reads' HO_304002.out).2.2 | (with_reducible refine ca_ ?_ _) | (with_reducible refine cn_ ?_ _) | (with_reducible refine cd_ ?_))); (case side2 => exact (Kd.V_reads' HO_304002.out).2.1); rintro e w38 ⟨v309, rfl, ho0, hb⟩; refine ⟨_, rfl, ?_⟩; have n0_ := A0_ (Kd.R_elder' (by (with_reducible repeat (first | apply ra_ | apply rn_ | apply rd_)); exact HO_6.out) (Kd.R_base ho0) hb); have n1_ := A0_ (Kd.V_elder' (by (with_reducible repeat (first | apply Kd.V_alloc | apply Kd.V_drewN | apply Kd.V_drew)); exact HO_298002.out) (Kd.R_base ho0) hb); have n2_ := A0_ (Kd.V_elder' (by (with_reducible repeat (first | apply Kd.V_alloc | apply Kd.V_drewN | apply Kd.V_drew)); exact HO_304002.out) (Kd.R_base ho0) hb); have n3_ := A0_ (Kd.R_elder' (by (with_reducible repeat (first | apply ra_ | apply rn_ | apply rd_)); exact HO306.out) (Kd.R_base ho0) hb); have n4_ := A0_ (Kd.R_lower (Kd.R_new' (Kd.R_new' (Kd.R_newM (M := fun k_ => (w.heap.size ≤ k_)) ho0 (bz_ (by repeat (first | exact HB.out | apply ba_ | apply bn_ | apply bd_ | refine bs_ ?_ GE297.out | refine bs_ ?_ GE303.out))) (fun k_ h_ => h_)) (Kd.R_lt (by (with_reducible repeat (first | apply ra_ | apply rn_ | apply rd_)); exact HO_6.out))) (Kd.R_lt (by (with_reducible repeat (first | apply ra_ | apply rn_ | apply rd_)); exact HO306.out))) (bz_ (by repeat (first | exact HB.out | apply ba_ | apply bn_ | apply bd_ | refine bs_ ?_ GE297.out | refine bs_ ?_ GE303.out)))); have n5_ := A0_ (kb_ (g := gb297) (o := .cells #[.int .i64 a0_0, .bool a0_1, .slice A0_2 l0_2.length c0_2] 32 (0, 0)) (by (with_reducible repeat (first | apply kn_ | apply kd_ | apply ka_)); exact BK297.out) hb); have n6_ := A0_ (kb_ (g := gb303) (o := .cells #[.int .i64 x304000_2, .bool x304001_2, .slice Ao34 x304002_2.length co34] 32 (0, 0)) (by (with_reducible repeat (first | apply kn_ | apply kd_ | apply ka_)); exact BK303.out) hb); have n7_ := A0_ (bt_ (by repeat (first | exact HB.out | apply ba_ | apply bn_ | apply bd_ | refine bs_ ?_ GE297.out | refine bs_ ?_ GE303.out)) hb); clear HO_6 HO_298002 HO_304002 HO306 BK297 BK303 HB; have HO_6 := n0_; have HO_298002 := n1_; have HO_304002 := n2_; have HO306 := n3_; have HO310 := n4_; have BK297 := n5_; have BK303 := n6_; have HB := n7_; clear n0_ n1_ n2_ n3_ n4_ n5_ n6_ n7_; (try clear hb); (try clear ho0); obtain ⟨Ao39, co39, eo39⟩ := Kd.R_slice HO310.out; subst eo39; have p311 : 0 ≤ (0 : Int) := (by omega); have q311 : 0 < (t308.length : Int) := od_ (by first | (with_reducible assumption) | assumption); obtain ⟨ad311, e311, hx311_0⟩ := Kd.at_int (rr_ HO310.out).2.2 0 p311 q311; cases e311; have qi311 : (0 < t308.length) = True := eq_true (by omega); (try rw [show ((0 : Int)).toNat = 0 from rfl] at hx311_0); (try rw [Addr.add_zero'] at hx311_0); replace p311 := eq_true p311; replace q311 := eq_true q311) | ((with_reducible refine gate_builtin (b := .append) (xs := #[.tmp 41, .tmp 43]) rfl ?_); at_builtin; refine Kd.R_append (Kd.int .i64) (w0 := w) w.heap.size rfl (.tmp 41) (.tmp 43) 22 3 (.int .i64 0) 8 rfl Try.underlying22 info3 rfl (by decide) (by omega) u6 x6_2 (rd t308 0) [.int .i64 (rd t308 0)] (fun k_ => (w.heap.size ≤ k_) ∧ some k_ ≠ (.slice (some ad307) t304.length co36 : Value).ownBlock ∧ some k_ ≠ (.slice (some ad311) t308.length co39 : Value).ownBlock) (fun _ => False) rfl rfl ?aP (fun _ hk => hk.elim) ?aF ?aO ?aB ?aS ?aL ?_; (case aP => exact rfl); (case aB => exact (by repeat (first | exact HB.out | apply ba_ | apply bn_ | apply bd_ | refine bs_ ?_ GE297.out | refine bs_ ?_ GE303.out))); (case aF => exact (fun k_ hk => ⟨(Nat.le_trans (bz_ (by repeat (first | exact HB.out | apply ba_ | apply bn_ | apply bd_ | refine bs_ ?_ GE297.out | refine bs_ ?_ GE303.out))) hk), Kd.fresh' (Kd.R_lt (by (with_reducible repeat (first | apply ra_ | apply rn_ | apply rd_)); exact HO306.out)) k_ hk, Kd.fresh' (Kd.R_lt (by (with_reducible repeat (first | apply ra_ | apply rn_ | apply rd_)); exact HO310.out)) k_ hk⟩)); (case aO => exact (by (with_reducible repeat (first | apply ra_ | apply rn_ | apply rd_)); exact Kd.R_mono HO_6.out (fun _ hk => ⟨hk.1.1, ⟨hk.1.2, hk.2⟩⟩))); (case aS => exact (bz_ (by repeat (first | exact HB.out | apply ba_ | apply bn_ | apply bd_ | refine bs_ ?_ GE297.out | refine bs_ ?_ GE303.out)))); (case aL => have := LMc30.out; omega); intro v313 w40 ho hb hg hat; rw [← Ny312.out] at ho; have n0_ := A0_ (Kd.V_afterv (ok := (fun k_ => (P0_2_ k_ ∨ w.heap.size ≤ k_) ∧ some k_ ≠ (.slice (some ad307) t304.length co36 : Value).ownBlock ∧ some k_ ≠ (.slice (some ad311) t308.length co39 : Value).ownBlock ∧ k_ ≠ gb297 ∧ k_ ≠ gb303)) (by (with_reducible repeat (first | apply Kd.V_alloc | apply Kd.V_drewN | apply Kd.V_drew)); exact Kd.V_mono HO_298002.out (fun _ hk => ⟨⟨hk.1.1.1, ⟨hk.1.2, ⟨hk.2, ⟨hk.1.1.2.2.1, hk.1.1.2.2.2⟩⟩⟩⟩, hk.1.1.2.1⟩)) hg hat); have n1_ := A0_ (Kd.V_afterv (ok := (fun k_ => (P0_2_ k_ ∨ w.heap.size ≤ k_) ∧ some k_ ≠ (.slice (some ad307) t304.length co36 : Value).ownBlock ∧ some k_ ≠ (.slice (some ad311) t308.length co39 : Value).ownBlock ∧ k_ ≠ gb297 ∧ k_ ≠ gb303)) (by (with_reducible repeat (first | apply Kd.V_alloc | apply Kd.V_drewN | apply Kd.V_drew)); exact Kd.V_mono HO_304002.out (fun _ hk => ⟨⟨hk.1.1.1, ⟨hk.1.2, ⟨hk.2, ⟨hk.1.1.2.2.1, hk.1.1.2.2.2⟩⟩⟩⟩, hk.1.1.2.1⟩)) hg hat); have n2_ := A0_ (blk_grown (g := gb297) (o := .cells #[.int .i64 a0_0, .bool a0_1, .slice A0_2 l0_2.length c0_2] 32 (0, 0)) (by (with_reducible repeat (first | apply kn_ | apply kd_ | apply ka_)); exact BK297.out) hg (Kd.R_ne HO_6.out BK297.out (by decide))); have n3_ := A0_ (blk_grown (g := gb303) (o := .cells #[.int .i64 x304000_2, .bool x304001_2, .slice Ao34 x304002_2.length co34] 32 (0, 0)) (by (with_reducible repeat (first | apply kn_ | apply kd_ | apply ka_)); exact BK303.out) hg (Kd.R_ne HO_6.out BK303.out (by decide))); have n4_ := A0_ (Kd.R_after (ok := (fun k_ => (w.heap.size ≤ k_) ∧ some k_ ≠ (.slice (some ad311) t308.length co39 : Value).ownBlock)) (by (with_reducible repeat (first | apply ra_ | apply rn_ | apply rd_)); exact Kd.R_mono HO306.out (fun _ hk => ⟨⟨hk.1.1.1, hk.2⟩, hk.1.2⟩)) hg hat); have n5_ := A0_ (Kd.R_after (ok := (fun k_ => (w.heap.size ≤ k_) ∧ some k_ ≠ (.slice (some ad307) t304.length co36 : Value).ownBlock)) (by (with_reducible repeat (first | apply ra_ | apply rn_ | apply rd_)); exact Kd.R_mono HO310.out (fun _ hk => ⟨⟨hk.1.1.1, hk.2⟩, hk.1.2⟩)) hg hat); have n6_ := A0_ (hb); have n7_ := A0_ (ho); clear HO_298002 HO_304002 BK297 BK303 HO306 HO310 HB HO_6; have HO_298002 := n0_; have HO_304002 := n1_; have BK297 := n2_; have BK303 := n3_; have HO306 := n4_; have HO310 := n5_; have HB := n6_; have HO314 := n7_; clear n0_ n1_ n2_ n3_ n4_ n5_ n6_ n7_ ho hb hg hat; have hcz41_0 : w40.cell? ⟨gb303, 0, none⟩ = some (.int .i64 x304000_2) := (kc_ BK303.out 0).trans rfl; have hcz41_1 : w40.cell? ⟨gb303, 1, none⟩ = some (.bool x304001_2) := (kc_ BK303.out 1).trans rfl; have hcz41_2 : w40.cell? ⟨gb303, 2, none⟩ = some (.slice Ao34 x304002_2.length co34) := (kc_ BK303.out 2).trans rfl; have hfz41_0 := kf_ BK303.out 0; have hfz41_1 := kf_ BK303.out 1; have hfz41_2 := kf_ BK303.out 2) | ((with_reducible refine gc_ (f := 67) rfl ?_); refine goesL_ (some 48) rfl rfl Try.func67 (by kernel_rfl) rfl #[.agg #[.int .i64 x304000_2, .bool x304001_2, .slice Ao34 x304002_2.length co34], .int .i64 a1, .int .i64 (rd t308 0)] rfl (by (try simp only [ma_, mc_, mn_]); first | done | rfl | (simp only [ld_, lt_]; rfl)) ?_; (with_reducible refine (spec_l11Made.calls k2 x304000_2 x304001_2 _ _ x304002_2 a1 (rd t308 0) t315 t316 t317 _ ?side1 ?side2 A31.out).mono ?_); (case side1 => repeat (first | exact (Kd.V_reads' HO_304002.out).2.2 | (with_reducible refine ca_ ?_ _) | (with_reducible refine cn_ ?_ _) | (with_reducible refine cd_ ?_))); (case side2 => exact (Kd.V_reads' HO_304002.out).2.1); rintro e w42 ⟨v318, rfl, ho0, hb⟩; refine ⟨_, rfl, ?_⟩; have n0_ := A0_ (Kd.V_elder' (by (with_reducible repeat (first | apply Kd.V_alloc | apply Kd.V_drewN | apply Kd.V_drew)); exact HO_298002.out) (Kd.R_base ho0) hb); have n1_ := A0_ (Kd.V_elder' (by (with_reducible repeat (first | apply Kd.V_alloc | apply Kd.V_drewN | apply Kd.V_drew)); exact HO_304002.out) (Kd.R_base ho0) hb); have n2_ := A0_ (Kd.R_elder' (by (with_reducible repeat (first | apply ra_ | apply rn_ | apply rd_)); exact HO306.out) (Kd.R_base ho0) hb); have n3_ := A0_ (Kd.R_elder' (by (with_reducible repeat (first | apply ra_ | apply rn_ | apply rd_)); exact HO310.out) (Kd.R_base ho0) hb); have n4_ := A0_ (Kd.R_elder' (by (with_reducible repeat (first | apply ra_ | apply rn_ | apply rd_)); exact HO314.out) (Kd.R_base ho0) hb); have n5_ := A0_ (Kd.R_lower (Kd.R_new' (Kd.R_new' (Kd.R_new' (Kd.R_newM (M := fun k_ => (w.heap.size ≤ k_)) ho0 (bz_ (by repeat (first | exact HB.out | apply ba_ | apply bn_ | apply bd_ | refine bs_ ?_ GE297.out | refine bs_ ?_ GE303.out))) (fun k_ h_ => h_)) (Kd.R_lt (by (with_reducible repeat (first | apply ra_ | apply rn_ | apply rd_)); exact HO306.out))) (Kd.R_lt (by (with_reducible repeat (first | apply ra_ | apply rn_ | apply rd_)); exact HO310.out))) (Kd.R_lt (by (with_reducible repeat (first | apply ra_ | apply rn_ | apply rd_)); exact HO314.out))) (bz_ (by repeat (first | exact HB.out | apply ba_ | apply bn_ | apply bd_ | refine bs_ ?_ GE297.out | refine bs_ ?_ GE303.out)))); have n6_ := A0_ (kb_ (g := gb297) (o := .cells #[.int .i64 a0_0, .bool a0_1, .slice A0_2 l0_2.length c0_2] 32 (0, 0)) (by (with_reducible repeat (first | apply kn_ | apply kd_ | apply ka_)); exact BK297.out) hb); have n7_ := A0_ (kb_ (g := gb303) (o := .cells #[.int .i64 x304000_2, .bool x304001_2, .slice Ao34 x304002_2.length co34] 32 (0, 0)) (by (with_reducible repeat (first | apply kn_ | apply kd_ | apply ka_)); exact BK303.out) hb); have n8_ := A0_ (bt_ (by repeat (first | exact HB.out | apply ba_ | apply bn_ | apply bd_ | refine bs_ ?_ GE297.out | refine bs_ ?_ GE303.out)) hb); clear HO_298002 HO_304002 HO306 HO310 HO314 BK297 BK303 HB; have HO_298002 := n0_; have HO_304002 := n1_; have HO306 := n2_; have HO310 := n3_; have HO314 := n4_; have HO319 := n5_; have BK297 := n6_; have BK303 := n7_; have HB := n8_; clear n0_ n1_ n2_ n3_ n4_ n5_ n6_ n7_ n8_; (try clear hb); (try clear ho0); have hcz43_0 : w42.cell? ⟨gb303, 0, none⟩ = some (.int .i64 x304000_2) := (kc_ BK303.out 0).trans rfl; have hcz43_1 : w42.cell? ⟨gb303, 1, none⟩ = some (.bool x304001_2) := (kc_ BK303.out 1).trans rfl; have hcz43_2 : w42.cell? ⟨gb303, 2, none⟩ = some (.slice Ao34 x304002_2.length co34) := (kc_ BK303.out 2).trans rfl; have hfz43_0 := kf_ BK303.out 0; have hfz43_1 := kf_ BK303.out 1; have hfz43_2 := kf_ BK303.out 2; obtain ⟨Ao44, co44, eo44⟩ := Kd.R_slice HO319.out; subst eo44))
           go_roundg k2
           case measure => have := HJ2.out; have := HK2.out; omega
           case rel => exact ⟨(y312), (t315), (t316), (t317), (.slice Ao44 t317.length co44), H', ⟨by have := HJ2.out; have := HK2.out; omega⟩, ⟨by (with_reducible repeat (first | apply ra_ | apply rn_ | apply rd_)); exact Kd.R_mono (Kd.R_far (p := ⟨gb303, 2, none⟩) (Kd.R_far (p := ⟨gb303, 1, none⟩) (Kd.R_far (p := ⟨gb303, 0, none⟩) (Kd.R_types HO314.out BK303.out (by decide)) (fun _ hk => hk.2) (.int .i64 t315)) (fun _ hk => hk.2) (.bool t316)) (fun _ hk => hk.2) (.slice Ao44 t317.length co44)) (fun _ hk => hk.1.1.1)⟩, ⟨by (with_reducible repeat (first | apply Kd.V_alloc | apply Kd.V_drewN | apply Kd.V_drew)); exact Kd.V_mono (Kd.V_far (p := ⟨gb303, 2, none⟩) (Kd.V_far (p := ⟨gb303, 1, none⟩) (Kd.V_far (p := ⟨gb303, 0, none⟩) (Kd.V_mono HO_298002.out (fun k_ hk => (⟨hk, hk.1.1.2.2.2.2⟩ : _ ∧ k_ ≠ gb303))) (fun _ hk => hk.2) (.int .i64 t315)) (fun _ hk => hk.2) (.bool t316)) (fun _ hk => hk.2) (.slice Ao44 t317.length co44)) (fun _ hk => ⟨hk.1.1.1.1, ⟨hk.1.1.2, ⟨hk.1.1.1.2.2.2.1, hk.1.1.1.2.2.2.2⟩⟩⟩)⟩, ⟨Kd.V_mono (Kd.R_V (by (with_reducible repeat (first | apply ra_ | apply rn_ | apply rd_)); exact Kd.R_mono (ok' := fun k_ => w.heap.size ≤ k_ ∧ some k_ ≠ (v313 : Value).ownBlock ∧ k_ ≠ gb297 ∧ k_ ≠ gb303) (Kd.R_far (p := ⟨gb303, 2, none⟩) (Kd.R_far (p := ⟨gb303, 1, none⟩) (Kd.R_far (p := ⟨gb303, 0, none⟩) (Kd.R_types (Kd.R_types (Kd.R_types HO319.out BK297.out (by decide)) BK303.out (by decide)) BK303.out (by decide)) (fun _ hk => hk.2) (.int .i64 t315)) (fun _ hk => hk.2) (.bool t316)) (fun _ hk => hk.2) (.slice Ao44 t317.length co44)) (fun _ hk => ⟨hk.1.1.1.1.1.1.1, ⟨hk.1.1.1.2, ⟨hk.1.1.2, hk.1.2⟩⟩⟩))) (fun k_ hk => by first | exact ⟨(.inr (hk.1)), hk.2⟩ | exact (.inr (hk)))⟩, ⟨by (with_reducible repeat (first | apply kn_ | apply kd_ | apply ka_)); refine blk_far ?_ NB297_303.out _; (with_reducible repeat (first | apply kn_ | apply kd_ | apply ka_)); refine blk_far ?_ NB297_303.out _; (with_reducible repeat (first | apply kn_ | apply kd_ | apply ka_)); refine blk_far ?_ NB297_303.out _; (with_reducible repeat (first | apply kn_ | apply kd_ | apply ka_)); exact BK297.out⟩, ⟨by (with_reducible repeat (first | apply kn_ | apply kd_ | apply ka_)); refine blk_put (cs := #[.int .i64 t315, .bool t316, .slice Ao34 x304002_2.length co34]) ?_ 2 _ rfl; (with_reducible repeat (first | apply kn_ | apply kd_ | apply ka_)); refine blk_put (cs := #[.int .i64 t315, .bool x304001_2, .slice Ao34 x304002_2.length co34]) ?_ 1 _ rfl; (with_reducible repeat (first | apply kn_ | apply kd_ | apply ka_)); refine blk_put (cs := #[.int .i64 x304000_2, .bool x304001_2, .slice Ao34 x304002_2.length co34]) ?_ 0 _ rfl; (with_reducible repeat (first | apply kn_ | apply kd_ | apply ka_)); exact BK303.out⟩, ⟨by repeat (first | exact HB.out | apply ba_ | apply bn_ | apply bd_ | refine bs_ ?_ GE297.out | refine bs_ ?_ GE303.out)⟩⟩
          ·rw [if_neg c30] at H
           exact absurd H (by simp)
         ·rw [if_neg c29] at H
          exact absurd H (by simp)
        ·rw [if_neg c28] at H
         have c28b0 : decide (0 < (t308.length : Int)) = false := decide_eq_false c28
         have c28b1 : decide (0 < t308.length) = false := decide_eq_false (by omega)
         clear c28
         by_cases c45 : x6_2.length < 17592186044416
         ·rw [if_pos c45] at H
          have LMc45 := A0_ c45
          clear c45
          obtain ⟨y320, hy320⟩ : ∃ y_ : List Int, y_ = (x6_2 ++ [rd t304 0]) := ⟨_, rfl⟩
          replace H : ((spec_l11Made.f k2 x304000_2 x304001_2 x304002_2 a1 (rd t304 0)).bind fun bt323 => (spec_BestPlay.l0 k2 a1 y320 bt323.1 bt323.2.1 bt323.2.2)) = some (r1, r2) := by first | (rw [hy320]; with_reducible exact H) | (have H2_ := (Option.bind_some _ _).symm.trans H; rw [hy320]; with_reducible exact H2_) | (have H2_ := (Option.bind_some _ _).symm.trans H; with_reducible exact H2_) | with_reducible exact H | (rw [hy320]; exact H) | exact H
          have Ny320 := A0_ hy320
          clear hy320
          replace H := ob_.mp H
          obtain ⟨⟨t323, t324, t325⟩, A460, H⟩ := H
          have A46 := A0_ A460
          clear A460
          have H' := A0_ H
          clear H
          have hnb47 := NB303_297.out
          have hnc47 := NB297_303.out
          have hcz48_0 : wr.cell? ⟨gb303, 0, none⟩ = some (.int .i64 x304000_2) := (kc_ BK303.out 0).trans rfl
          have hcz48_1 : wr.cell? ⟨gb303, 1, none⟩ = some (.bool x304001_2) := (kc_ BK303.out 1).trans rfl
          have hcz48_2 : wr.cell? ⟨gb303, 2, none⟩ = some (u304002) := (kc_ BK303.out 2).trans rfl
          have hfz48_0 := kf_ BK303.out 0
          have hfz48_1 := kf_ BK303.out 1
          have hfz48_2 := kf_ BK303.out 2
          obtain ⟨Ao49, co49, eo49⟩ := Kd.V_slice HO_304002.out
          subst eo49
          go_wp2_with (first | ((with_reducible refine gc_ (f := 48) rfl ?_); refine goesL_ (some 24) rfl rfl Try.func48 (by kernel_rfl) rfl #[.agg #[.int .i64 x304000_2, .bool x304001_2, .slice Ao49 x304002_2.length co49], .int .i64 a1] rfl (by (try simp only [ma_, mc_, mn_]); first | done | rfl | (simp only [ld_, lt_]; rfl)) ?_; (with_reducible refine (spec_l11Moves.calls k2 x304000_2 x304001_2 _ _ x304002_2 a1 t304 _ ?side1 ?side2 A19.out).mono ?_); (case side1 => repeat (first | exact (Kd.V_reads' HO_304002.out).2.2 | (with_reducible refine ca_ ?_ _) | (with_reducible refine cn_ ?_ _) | (with_reducible refine cd_ ?_))); (case side2 => exact (Kd.V_reads' HO_304002.out).2.1); rintro e w50 ⟨v305, rfl, ho0, hb⟩; refine ⟨_, rfl, ?_⟩; have n0_ := A0_ (Kd.R_elder' (by (with_reducible repeat (first | apply ra_ | apply rn_ | apply rd_)); exact HO_6.out) (Kd.R_base ho0) hb); have n1_ := A0_ (Kd.V_elder' (by (with_reducible repeat (first | apply Kd.V_alloc | apply Kd.V_drewN | apply Kd.V_drew)); exact HO_298002.out) (Kd.R_base ho0) hb); have n2_ := A0_ (Kd.V_elder' (by (with_reducible repeat (first | apply Kd.V_alloc | apply Kd.V_drewN | apply Kd.V_drew)); exact HO_304002.out) (Kd.R_base ho0) hb); have n3_ := A0_ (Kd.R_lower (Kd.R_new' (Kd.R_newM (M := fun k_ => (w.heap.size ≤ k_)) ho0 (bz_ (by repeat (first | exact HB.out | apply ba_ | apply bn_ | apply bd_ | refine bs_ ?_ GE297.out | refine bs_ ?_ GE303.out))) (fun k_ h_ => h_)) (Kd.R_lt (by (with_reducible repeat (first | apply ra_ | apply rn_ | apply rd_)); exact HO_6.out))) (bz_ (by repeat (first | exact HB.out | apply ba_ | apply bn_ | apply bd_ | refine bs_ ?_ GE297.out | refine bs_ ?_ GE303.out)))); have n4_ := A0_ (kb_ (g := gb297) (o := .cells #[.int .i64 a0_0, .bool a0_1, .slice A0_2 l0_2.length c0_2] 32 (0, 0)) (by (with_reducible repeat (first | apply kn_ | apply kd_ | apply ka_)); exact BK297.out) hb); have n5_ := A0_ (kb_ (g := gb303) (o := .cells #[.int .i64 x304000_2, .bool x304001_2, .slice Ao49 x304002_2.length co49] 32 (0, 0)) (by (with_reducible repeat (first | apply kn_ | apply kd_ | apply ka_)); exact BK303.out) hb); have n6_ := A0_ (bt_ (by repeat (first | exact HB.out | apply ba_ | apply bn_ | apply bd_ | refine bs_ ?_ GE297.out | refine bs_ ?_ GE303.out)) hb); clear HO_6 HO_298002 HO_304002 BK297 BK303 HB; have HO_6 := n0_; have HO_298002 := n1_; have HO_304002 := n2_; have HO306 := n3_; have BK297 := n4_; have BK303 := n5_; have HB := n6_; clear n0_ n1_ n2_ n3_ n4_ n5_ n6_; (try clear hb); (try clear ho0); obtain ⟨Ao51, co51, eo51⟩ := Kd.R_slice HO306.out; subst eo51; have p307 : 0 ≤ (0 : Int) := (by omega); have q307 : 0 < (t304.length : Int) := od_ (by first | (with_reducible assumption) | assumption); obtain ⟨ad307, e307, hx307_0⟩ := Kd.at_int (rr_ HO306.out).2.2 0 p307 q307; cases e307; have qi307 : (0 < t304.length) = True := eq_true (by omega); (try rw [show ((0 : Int)).toNat = 0 from rfl] at hx307_0); (try rw [Addr.add_zero'] at hx307_0); replace p307 := eq_true p307; replace q307 := eq_true q307; have hcz52_0 : w50.cell? ⟨gb303, 0, none⟩ = some (.int .i64 x304000_2) := (kc_ BK303.out 0).trans rfl; have hcz52_1 : w50.cell? ⟨gb303, 1, none⟩ = some (.bool x304001_2) := (kc_ BK303.out 1).trans rfl; have hcz52_2 : w50.cell? ⟨gb303, 2, none⟩ = some (.slice Ao49 x304002_2.length co49) := (kc_ BK303.out 2).trans rfl; have hfz52_0 := kf_ BK303.out 0; have hfz52_1 := kf_ BK303.out 1; have hfz52_2 := kf_ BK303.out 2) | ((with_reducible refine gc_ (f := 65) rfl ?_); refine goesL_ (some 34) rfl rfl Try.func65 (by kernel_rfl) rfl #[.agg #[.int .i64 x304000_2, .bool x304001_2, .slice Ao49 x304002_2.length co49], .int .i64 a1] rfl (by (try simp only [ma_, mc_, mn_]); first | done | rfl | (simp only [ld_, lt_]; rfl)) ?_; (with_reducible refine (spec_l11Wins.calls k2 x304000_2 x304001_2 _ _ x304002_2 a1 t308 _ ?side1 ?side2 A27.out).mono ?_); (case side1 => repeat (first | exact (Kd.V_reads' HO_304002.out).2.2 | (with_reducible refine ca_ ?_ _) | (with_reducible refine cn_ ?_ _) | (with_reducible refine cd_ ?_))); (case side2 => exact (Kd.V_reads' HO_304002.out).2.1); rintro e w53 ⟨v309, rfl, ho0, hb⟩; refine ⟨_, rfl, ?_⟩; have n0_ := A0_ (Kd.R_elder' (by (with_reducible repeat (first | apply ra_ | apply rn_ | apply rd_)); exact HO_6.out) (Kd.R_base ho0) hb); have n1_ := A0_ (Kd.V_elder' (by (with_reducible repeat (first | apply Kd.V_alloc | apply Kd.V_drewN | apply Kd.V_drew)); exact HO_298002.out) (Kd.R_base ho0) hb); have n2_ := A0_ (Kd.V_elder' (by (with_reducible repeat (first | apply Kd.V_alloc | apply Kd.V_drewN | apply Kd.V_drew)); exact HO_304002.out) (Kd.R_base ho0) hb); have n3_ := A0_ (Kd.R_elder' (by (with_reducible repeat (first | apply ra_ | apply rn_ | apply rd_)); exact HO306.out) (Kd.R_base ho0) hb); have n4_ := A0_ (Kd.R_lower (Kd.R_new' (Kd.R_new' (Kd.R_newM (M := fun k_ => (w.heap.size ≤ k_)) ho0 (bz_ (by repeat (first | exact HB.out | apply ba_ | apply bn_ | apply bd_ | refine bs_ ?_ GE297.out | refine bs_ ?_ GE303.out))) (fun k_ h_ => h_)) (Kd.R_lt (by (with_reducible repeat (first | apply ra_ | apply rn_ | apply rd_)); exact HO_6.out))) (Kd.R_lt (by (with_reducible repeat (first | apply ra_ | apply rn_ | apply rd_)); exact HO306.out))) (bz_ (by repeat (first | exact HB.out | apply ba_ | apply bn_ | apply bd_ | refine bs_ ?_ GE297.out | refine bs_ ?_ GE303.out)))); have n5_ := A0_ (kb_ (g := gb297) (o := .cells #[.int .i64 a0_0, .bool a0_1, .slice A0_2 l0_2.length c0_2] 32 (0, 0)) (by (with_reducible repeat (first | apply kn_ | apply kd_ | apply ka_)); exact BK297.out) hb); have n6_ := A0_ (kb_ (g := gb303) (o := .cells #[.int .i64 x304000_2, .bool x304001_2, .slice Ao49 x304002_2.length co49] 32 (0, 0)) (by (with_reducible repeat (first | apply kn_ | apply kd_ | apply ka_)); exact BK303.out) hb); have n7_ := A0_ (bt_ (by repeat (first | exact HB.out | apply ba_ | apply bn_ | apply bd_ | refine bs_ ?_ GE297.out | refine bs_ ?_ GE303.out)) hb); clear HO_6 HO_298002 HO_304002 HO306 BK297 BK303 HB; have HO_6 := n0_; have HO_298002 := n1_; have HO_304002 := n2_; have HO306 := n3_; have HO310 := n4_; have BK297 := n5_; have BK303 := n6_; have HB := n7_; clear n0_ n1_ n2_ n3_ n4_ n5_ n6_ n7_; (try clear hb); (try clear ho0); obtain ⟨Ao54, co54, eo54⟩ := Kd.R_slice HO310.out; subst eo54) | ((with_reducible refine gate_builtin (b := .append) (xs := #[.tmp 41, .tmp 43]) rfl ?_); at_builtin; refine Kd.R_append (Kd.int .i64) (w0 := w) w.heap.size rfl (.tmp 41) (.tmp 43) 22 3 (.int .i64 0) 8 rfl Try.underlying22 info3 rfl (by decide) (by omega) u6 x6_2 (rd t304 0) [.int .i64 (rd t304 0)] (fun k_ => (w.heap.size ≤ k_) ∧ some k_ ≠ (.slice (some ad307) t304.length co51 : Value).ownBlock ∧ some k_ ≠ (.slice Ao54 t308.length co54 : Value).ownBlock) (fun _ => False) rfl rfl ?aP (fun _ hk => hk.elim) ?aF ?aO ?aB ?aS ?aL ?_; (case aP => exact rfl); (case aB => exact (by repeat (first | exact HB.out | apply ba_ | apply bn_ | apply bd_ | refine bs_ ?_ GE297.out | refine bs_ ?_ GE303.out))); (case aF => exact (fun k_ hk => ⟨(Nat.le_trans (bz_ (by repeat (first | exact HB.out | apply ba_ | apply bn_ | apply bd_ | refine bs_ ?_ GE297.out | refine bs_ ?_ GE303.out))) hk), Kd.fresh' (Kd.R_lt (by (with_reducible repeat (first | apply ra_ | apply rn_ | apply rd_)); exact HO306.out)) k_ hk, Kd.fresh' (Kd.R_lt (by (with_reducible repeat (first | apply ra_ | apply rn_ | apply rd_)); exact HO310.out)) k_ hk⟩)); (case aO => exact (by (with_reducible repeat (first | apply ra_ | apply rn_ | apply rd_)); exact Kd.R_mono HO_6.out (fun _ hk => ⟨hk.1.1, ⟨hk.1.2, hk.2⟩⟩))); (case aS => exact (bz_ (by repeat (first | exact HB.out | apply ba_ | apply bn_ | apply bd_ | refine bs_ ?_ GE297.out | refine bs_ ?_ GE303.out)))); (case aL => have := LMc45.out; omega); intro v321 w55 ho hb hg hat; rw [← Ny320.out] at ho; have n0_ := A0_ (Kd.V_afterv (ok := (fun k_ => (P0_2_ k_ ∨ w.heap.size ≤ k_) ∧ some k_ ≠ (.slice (some ad307) t304.length co51 : Value).ownBlock ∧ some k_ ≠ (.slice Ao54 t308.length co54 : Value).ownBlock ∧ k_ ≠ gb297 ∧ k_ ≠ gb303)) (by (with_reducible repeat (first | apply Kd.V_alloc | apply Kd.V_drewN | apply Kd.V_drew)); exact Kd.V_mono HO_298002.out (fun _ hk => ⟨⟨hk.1.1.1, ⟨hk.1.2, ⟨hk.2, ⟨hk.1.1.2.2.1, hk.1.1.2.2.2⟩⟩⟩⟩, hk.1.1.2.1⟩)) hg hat); have n1_ := A0_ (Kd.V_afterv (ok := (fun k_ => (P0_2_ k_ ∨ w.heap.size ≤ k_) ∧ some k_ ≠ (.slice (some ad307) t304.length co51 : Value).ownBlock ∧ some k_ ≠ (.slice Ao54 t308.length co54 : Value).ownBlock ∧ k_ ≠ gb297 ∧ k_ ≠ gb303)) (by (with_reducible repeat (first | apply Kd.V_alloc | apply Kd.V_drewN | apply Kd.V_drew)); exact Kd.V_mono HO_304002.out (fun _ hk => ⟨⟨hk.1.1.1, ⟨hk.1.2, ⟨hk.2, ⟨hk.1.1.2.2.1, hk.1.1.2.2.2⟩⟩⟩⟩, hk.1.1.2.1⟩)) hg hat); have n2_ := A0_ (blk_grown (g := gb297) (o := .cells #[.int .i64 a0_0, .bool a0_1, .slice A0_2 l0_2.length c0_2] 32 (0, 0)) (by (with_reducible repeat (first | apply kn_ | apply kd_ | apply ka_)); exact BK297.out) hg (Kd.R_ne HO_6.out BK297.out (by decide))); have n3_ := A0_ (blk_grown (g := gb303) (o := .cells #[.int .i64 x304000_2, .bool x304001_2, .slice Ao49 x304002_2.length co49] 32 (0, 0)) (by (with_reducible repeat (first | apply kn_ | apply kd_ | apply ka_)); exact BK303.out) hg (Kd.R_ne HO_6.out BK303.out (by decide))); have n4_ := A0_ (Kd.R_after (ok := (fun k_ => (w.heap.size ≤ k_) ∧ some k_ ≠ (.slice Ao54 t308.length co54 : Value).ownBlock)) (by (with_reducible repeat (first | apply ra_ | apply rn_ | apply rd_)); exact Kd.R_mono HO306.out (fun _ hk => ⟨⟨hk.1.1.1, hk.2⟩, hk.1.2⟩)) hg hat); have n5_ := A0_ (Kd.R_after (ok := (fun k_ => (w.heap.size ≤ k_) ∧ some k_ ≠ (.slice (some ad307) t304.length co51 : Value).ownBlock)) (by (with_reducible repeat (first | apply ra_ | apply rn_ | apply rd_)); exact Kd.R_mono HO310.out (fun _ hk => ⟨⟨hk.1.1.1, hk.2⟩, hk.1.2⟩)) hg hat); have n6_ := A0_ (hb); have n7_ := A0_ (ho); clear HO_298002 HO_304002 BK297 BK303 HO306 HO310 HB HO_6; have HO_298002 := n0_; have HO_304002 := n1_; have BK297 := n2_; have BK303 := n3_; have HO306 := n4_; have HO310 := n5_; have HB := n6_; have HO322 := n7_; clear n0_ n1_ n2_ n3_ n4_ n5_ n6_ n7_ ho hb hg hat; have hcz56_0 : w55.cell? ⟨gb303, 0, none⟩ = some (.int .i64 x304000_2) := (kc_ BK303.out 0).trans rfl; have hcz56_1 : w55.cell? ⟨gb303, 1, none⟩ = some (.bool x304001_2) := (kc_ BK303.out 1).trans rfl; have hcz56_2 : w55.cell? ⟨gb303, 2, none⟩ = some (.slice Ao49 x304002_2.length co49) := (kc_ BK303.out 2).trans rfl; have hfz56_0 := kf_ BK303.out 0; have hfz56_1 := kf_ BK303.out 1; have hfz56_2 := kf_ BK303.out 2) | ((with_reducible refine gc_ (f := 67) rfl ?_); refine goesL_ (some 48) rfl rfl Try.func67 (by kernel_rfl) rfl #[.agg #[.int .i64 x304000_2, .bool x304001_2, .slice Ao49 x304002_2.length co49], .int .i64 a1, .int .i64 (rd t304 0)] rfl (by (try simp only [ma_, mc_, mn_]); first | done | rfl | (simp only [ld_, lt_]; rfl)) ?_; (with_reducible refine (spec_l11Made.calls k2 x304000_2 x304001_2 _ _ x304002_2 a1 (rd t304 0) t323 t324 t325 _ ?side1 ?side2 A46.out).mono ?_); (case side1 => repeat (first | exact (Kd.V_reads' HO_304002.out).2.2 | (with_reducible refine ca_ ?_ _) | (with_reducible refine cn_ ?_ _) | (with_reducible refine cd_ ?_))); (case side2 => exact (Kd.V_reads' HO_304002.out).2.1); rintro e w57 ⟨v326, rfl, ho0, hb⟩; refine ⟨_, rfl, ?_⟩; have n0_ := A0_ (Kd.V_elder' (by (with_reducible repeat (first | apply Kd.V_alloc | apply Kd.V_drewN | apply Kd.V_drew)); exact HO_298002.out) (Kd.R_base ho0) hb); have n1_ := A0_ (Kd.V_elder' (by (with_reducible repeat (first | apply Kd.V_alloc | apply Kd.V_drewN | apply Kd.V_drew)); exact HO_304002.out) (Kd.R_base ho0) hb); have n2_ := A0_ (Kd.R_elder' (by (with_reducible repeat (first | apply ra_ | apply rn_ | apply rd_)); exact HO306.out) (Kd.R_base ho0) hb); have n3_ := A0_ (Kd.R_elder' (by (with_reducible repeat (first | apply ra_ | apply rn_ | apply rd_)); exact HO310.out) (Kd.R_base ho0) hb); have n4_ := A0_ (Kd.R_elder' (by (with_reducible repeat (first | apply ra_ | apply rn_ | apply rd_)); exact HO322.out) (Kd.R_base ho0) hb); have n5_ := A0_ (Kd.R_lower (Kd.R_new' (Kd.R_new' (Kd.R_new' (Kd.R_newM (M := fun k_ => (w.heap.size ≤ k_)) ho0 (bz_ (by repeat (first | exact HB.out | apply ba_ | apply bn_ | apply bd_ | refine bs_ ?_ GE297.out | refine bs_ ?_ GE303.out))) (fun k_ h_ => h_)) (Kd.R_lt (by (with_reducible repeat (first | apply ra_ | apply rn_ | apply rd_)); exact HO306.out))) (Kd.R_lt (by (with_reducible repeat (first | apply ra_ | apply rn_ | apply rd_)); exact HO310.out))) (Kd.R_lt (by (with_reducible repeat (first | apply ra_ | apply rn_ | apply rd_)); exact HO322.out))) (bz_ (by repeat (first | exact HB.out | apply ba_ | apply bn_ | apply bd_ | refine bs_ ?_ GE297.out | refine bs_ ?_ GE303.out)))); have n6_ := A0_ (kb_ (g := gb297) (o := .cells #[.int .i64 a0_0, .bool a0_1, .slice A0_2 l0_2.length c0_2] 32 (0, 0)) (by (with_reducible repeat (first | apply kn_ | apply kd_ | apply ka_)); exact BK297.out) hb); have n7_ := A0_ (kb_ (g := gb303) (o := .cells #[.int .i64 x304000_2, .bool x304001_2, .slice Ao49 x304002_2.length co49] 32 (0, 0)) (by (with_reducible repeat (first | apply kn_ | apply kd_ | apply ka_)); exact BK303.out) hb); have n8_ := A0_ (bt_ (by repeat (first | exact HB.out | apply ba_ | apply bn_ | apply bd_ | refine bs_ ?_ GE297.out | refine bs_ ?_ GE303.out)) hb); clear HO_298002 HO_304002 HO306 HO310 HO322 BK297 BK303 HB; have HO_298002 := n0_; have HO_304002 := n1_; have HO306 := n2_; have HO310 := n3_; have HO322 := n4_; have HO327 := n5_; have BK297 := n6_; have BK303 := n7_; have HB := n8_; clear n0_ n1_ n2_ n3_ n4_ n5_ n6_ n7_ n8_; (try clear hb); (try clear ho0); have hcz58_0 : w57.cell? ⟨gb303, 0, none⟩ = some (.int .i64 x304000_2) := (kc_ BK303.out 0).trans rfl; have hcz58_1 : w57.cell? ⟨gb303, 1, none⟩ = some (.bool x304001_2) := (kc_ BK303.out 1).trans rfl; have hcz58_2 : w57.cell? ⟨gb303, 2, none⟩ = some (.slice Ao49 x304002_2.length co49) := (kc_ BK303.out 2).trans rfl; have hfz58_0 := kf_ BK303.out 0; have hfz58_1 := kf_ BK303.out 1; have hfz58_2 := kf_ BK303.out 2; obtain ⟨Ao59, co59, eo59⟩ := Kd.R_slice HO327.out; subst eo59))
          go_roundg k2
          case measure => have := HJ2.out; have := HK2.out; omega
          case rel => exact ⟨(y320), (t323), (t324), (t325), (.slice Ao59 t325.length co59), H', ⟨by have := HJ2.out; have := HK2.out; omega⟩, ⟨by (with_reducible repeat (first | apply ra_ | apply rn_ | apply rd_)); exact Kd.R_mono (Kd.R_far (p := ⟨gb303, 2, none⟩) (Kd.R_far (p := ⟨gb303, 1, none⟩) (Kd.R_far (p := ⟨gb303, 0, none⟩) (Kd.R_types HO322.out BK303.out (by decide)) (fun _ hk => hk.2) (.int .i64 t323)) (fun _ hk => hk.2) (.bool t324)) (fun _ hk => hk.2) (.slice Ao59 t325.length co59)) (fun _ hk => hk.1.1.1)⟩, ⟨by (with_reducible repeat (first | apply Kd.V_alloc | apply Kd.V_drewN | apply Kd.V_drew)); exact Kd.V_mono (Kd.V_far (p := ⟨gb303, 2, none⟩) (Kd.V_far (p := ⟨gb303, 1, none⟩) (Kd.V_far (p := ⟨gb303, 0, none⟩) (Kd.V_mono HO_298002.out (fun k_ hk => (⟨hk, hk.1.1.2.2.2.2⟩ : _ ∧ k_ ≠ gb303))) (fun _ hk => hk.2) (.int .i64 t323)) (fun _ hk => hk.2) (.bool t324)) (fun _ hk => hk.2) (.slice Ao59 t325.length co59)) (fun _ hk => ⟨hk.1.1.1.1, ⟨hk.1.1.2, ⟨hk.1.1.1.2.2.2.1, hk.1.1.1.2.2.2.2⟩⟩⟩)⟩, ⟨Kd.V_mono (Kd.R_V (by (with_reducible repeat (first | apply ra_ | apply rn_ | apply rd_)); exact Kd.R_mono (ok' := fun k_ => w.heap.size ≤ k_ ∧ some k_ ≠ (v321 : Value).ownBlock ∧ k_ ≠ gb297 ∧ k_ ≠ gb303) (Kd.R_far (p := ⟨gb303, 2, none⟩) (Kd.R_far (p := ⟨gb303, 1, none⟩) (Kd.R_far (p := ⟨gb303, 0, none⟩) (Kd.R_types (Kd.R_types (Kd.R_types HO327.out BK297.out (by decide)) BK303.out (by decide)) BK303.out (by decide)) (fun _ hk => hk.2) (.int .i64 t323)) (fun _ hk => hk.2) (.bool t324)) (fun _ hk => hk.2) (.slice Ao59 t325.length co59)) (fun _ hk => ⟨hk.1.1.1.1.1.1.1, ⟨hk.1.1.1.2, ⟨hk.1.1.2, hk.1.2⟩⟩⟩))) (fun k_ hk => by first | exact ⟨(.inr (hk.1)), hk.2⟩ | exact (.inr (hk)))⟩, ⟨by (with_reducible repeat (first | apply kn_ | apply kd_ | apply ka_)); refine blk_far ?_ NB297_303.out _; (with_reducible repeat (first | apply kn_ | apply kd_ | apply ka_)); refine blk_far ?_ NB297_303.out _; (with_reducible repeat (first | apply kn_ | apply kd_ | apply ka_)); refine blk_far ?_ NB297_303.out _; (with_reducible repeat (first | apply kn_ | apply kd_ | apply ka_)); exact BK297.out⟩, ⟨by (with_reducible repeat (first | apply kn_ | apply kd_ | apply ka_)); refine blk_put (cs := #[.int .i64 t323, .bool t324, .slice Ao49 x304002_2.length co49]) ?_ 2 _ rfl; (with_reducible repeat (first | apply kn_ | apply kd_ | apply ka_)); refine blk_put (cs := #[.int .i64 t323, .bool x304001_2, .slice Ao49 x304002_2.length co49]) ?_ 1 _ rfl; (with_reducible repeat (first | apply kn_ | apply kd_ | apply ka_)); refine blk_put (cs := #[.int .i64 x304000_2, .bool x304001_2, .slice Ao49 x304002_2.length co49]) ?_ 0 _ rfl; (with_reducible repeat (first | apply kn_ | apply kd_ | apply ka_)); exact BK303.out⟩, ⟨by repeat (first | exact HB.out | apply ba_ | apply bn_ | apply bd_ | refine bs_ ?_ GE297.out | refine bs_ ?_ GE303.out)⟩⟩
         ·rw [if_neg c45] at H
          exact absurd H (by simp)
       ·rw [if_neg c26] at H
        exact absurd H (by simp)

def impl_within.f (a0 : Int) (a1 : Int) (a2 : Int) : Option (Bool) := if a0 ≥ a1 then (some (decide (a0 ≤ a2))) else (some false)
theorem impl_within.calls (a0 : Int) (a1 : Int) (a2 : Int) (r : Bool) (w : World) (h : impl_within.f a0 a1 a2 = some r) :
  Calls Try.prog 44 #[.int .i64 a0, .int .i64 a1, .int .i64 a2] w fun e w' => e = .returned (.bool r) ∧ Drawn0 w w' := by
 have H : (if a0 ≥ a1 then (some (decide (a0 ≤ a2))) else (some false)) = some r := h
 clear h
 by_cases c4 : a0 ≥ a1
 ·rw [if_pos c4] at H
  have c4b0 : decide (a1 ≤ a0) = true := dt_ c4
  clear c4
  obtain rfl := si_ H
  go_enter Try.func44, Try.ntmps44
  go_wp2
  go_ret
  exact ⟨by first | rfl | (simp; done) | (simp [*]; done), by repeat (first | exact Drawn0.refl _ | apply Drawn0.step)⟩
 ·rw [if_neg c4] at H
  have c4b0 : decide (a1 ≤ a0) = false := decide_eq_false c4
  clear c4
  obtain rfl := si_ H
  go_enter Try.func44, Try.ntmps44
  go_wp2
  go_ret
  exact ⟨by first | rfl | (simp; done) | (simp [*]; done), by repeat (first | exact Drawn0.refl _ | apply Drawn0.step)⟩

def impl_Row_bench.f (a0_0 : Int) (a0_1 : Bool) (l0_2 : List Int) : Option (Int × Bool) := some (a0_0, a0_1)
theorem impl_Row_bench.calls (a0_0 : Int) (a0_1 : Bool) (A0_2 : Option Addr) (c0_2 : Nat) (l0_2 : List Int) (r1 : Int) (r2 : Bool) (w : World) (hr0_2 : Kd.C (Kd.int .i64) w A0_2 l0_2.length l0_2) (hc0_2 : l0_2.length ≤ c0_2) (h : impl_Row_bench.f a0_0 a0_1 l0_2 = some (r1, r2)) :
  Calls Try.prog 51 #[.agg #[.int .i64 a0_0, .bool a0_1, .slice A0_2 l0_2.length c0_2]] w fun e w' => e = .returned (.agg #[.int .i64 r1, .bool r2]) ∧ Below w.heap.size w w' := by
 have hu32 := Try.underlying32
 have hu57 := Try.underlying57
 have HR0_2 := A0_ hr0_2
 have HC0_2 := A0_ hc0_2
 clear hr0_2 hc0_2
 have HB := A0_ (Below.refl w.heap.size w)
 have H : (some (a0_0, a0_1)) = some (r1, r2) := h
 clear h
 simp only [sj_, pj_] at H
 obtain ⟨rfl, rfl⟩ := H
 go_enter Try.func51, Try.ntmps51
 go_wp2_with (first | ((with_reducible refine gd_ (N := 1) rfl ?_); refine be_ ?hg (N := 1) ?hd (cs := #[.int .i64 a0_0, .bool a0_1, .slice A0_2 l0_2.length c0_2]) (t := 32) ?hr ?_; (case hd => rfl); (case hg => rfl); (case hr => go_simp; first | done | rfl); intro gb328 hg w2 hbox hb; have n0_ := A0_ (bt_ (by repeat (first | exact HB.out | apply ba_ | apply bn_ | apply bd_)) hb); have n1_ := A0_ (hbox); have n2_ := A0_ ((by rw [hg]; exact (bz_ (by repeat (first | exact HB.out | apply ba_ | apply bn_ | apply bd_))) : w.heap.size ≤ gb328)); have n3_ := A0_ ((by rw [hg]; exact (bz_ (by repeat (first | exact HB.out | apply ba_ | apply bn_ | apply bd_))) : w.heap.size ≤ gb328)); clear HB; have HB := n0_; have BK328 := n1_; have GW328 := n2_; have GE328 := n3_; clear n0_ n1_ n2_ n3_ hb hbox hg) | ((with_reducible refine gd_ (N := 2) rfl ?_); refine be_ ?hg (N := 2) ?hd (cs := #[.int .i64 0, .bool false]) (t := 57) ?hr ?_; (case hd => rfl); (case hg => rfl); (case hr => go_simp; first | done | rfl); intro gb329 hg w3 hbox hb; have n0_ := A0_ (kb_ (g := gb328) (o := .cells #[.int .i64 a0_0, .bool a0_1, .slice A0_2 l0_2.length c0_2] 32 (0, 0)) (by (with_reducible repeat (first | apply kn_ | apply kd_ | apply ka_)); exact BK328.out) hb); have n1_ := A0_ (bt_ (by repeat (first | exact HB.out | apply ba_ | apply bn_ | apply bd_ | refine bs_ ?_ GE328.out)) hb); have n2_ := A0_ (hbox); have n3_ := A0_ ((by rw [hg]; exact (bz_ (by repeat (first | exact HB.out | apply ba_ | apply bn_ | apply bd_ | refine bs_ ?_ GE328.out))) : w.heap.size ≤ gb329)); have n4_ := A0_ ((by rw [hg]; exact (bz_ (by repeat (first | exact HB.out | apply ba_ | apply bn_ | apply bd_ | refine bs_ ?_ GE328.out))) : w.heap.size ≤ gb329)); have n5_ := A0_ ((by rw [hg]; exact Nat.ne_of_lt (blk_lt (g := gb328) (o := .cells #[.int .i64 a0_0, .bool a0_1, .slice A0_2 l0_2.length c0_2] 32 (0, 0)) (by (with_reducible repeat (first | apply kn_ | apply kd_ | apply ka_)); exact BK328.out)) : gb328 ≠ gb329)); have n6_ := A0_ ((by rw [hg]; exact Nat.ne_of_gt (blk_lt (g := gb328) (o := .cells #[.int .i64 a0_0, .bool a0_1, .slice A0_2 l0_2.length c0_2] 32 (0, 0)) (by (with_reducible repeat (first | apply kn_ | apply kd_ | apply ka_)); exact BK328.out)) : gb329 ≠ gb328)); clear BK328 HB; have BK328 := n0_; have HB := n1_; have BK329 := n2_; have GW329 := n3_; have GE329 := n4_; have NB328_329 := n5_; have NB329_328 := n6_; clear n0_ n1_ n2_ n3_ n4_ n5_ n6_ hb hbox hg; have hnb4 := NB328_329.out; have hnc4 := NB329_328.out; have hcz5_0 : w3.cell? ⟨gb328, 0, none⟩ = some (.int .i64 a0_0) := (kc_ BK328.out 0).trans rfl; have hcz5_1 : w3.cell? ⟨gb328, 1, none⟩ = some (.bool a0_1) := (kc_ BK328.out 1).trans rfl; have hcz5_2 : w3.cell? ⟨gb328, 2, none⟩ = some (.slice A0_2 l0_2.length c0_2) := (kc_ BK328.out 2).trans rfl; have hfz5_0 := kf_ BK328.out 0; have hfz5_1 := kf_ BK328.out 1; have hfz5_2 := kf_ BK328.out 2; have hcz6_0 : w3.cell? ⟨gb329, 0, none⟩ = some (.int .i64 0) := (kc_ BK329.out 0).trans rfl; have hcz6_1 : w3.cell? ⟨gb329, 1, none⟩ = some (.bool false) := (kc_ BK329.out 1).trans rfl; have hfz6_0 := kf_ BK329.out 0; have hfz6_1 := kf_ BK329.out 1))
 refine bodyPost_ret (results_cell_row rfl _ _ gb329 57 #[.int .i64 a0_0, .bool a0_1] (0, 0) _ rfl (by (with_reducible repeat (first | apply kn_ | apply kd_ | apply ka_)); refine blk_put (cs := #[.int .i64 a0_0, .bool false]) ?_ 1 _ rfl; (with_reducible repeat (first | apply kn_ | apply kd_ | apply ka_)); refine blk_put (cs := #[.int .i64 0, .bool false]) ?_ 0 _ rfl; (with_reducible repeat (first | apply kn_ | apply kd_ | apply ka_)); exact BK329.out) Try.underlying57 rfl (by kernel_rfl)) rfl ?_
 exact ⟨by first | rfl | (simp [*, errW_none, errW_some] <;> rfl), by repeat (first | exact HB.out | apply ba_ | apply bn_ | apply bd_ | refine bs_ ?_ GE328.out | refine bs_ ?_ GE329.out)⟩

end Go.Proofs.Ytgcgmlbjklkkjaa.QFnExactBestPlay
-- squeezed
