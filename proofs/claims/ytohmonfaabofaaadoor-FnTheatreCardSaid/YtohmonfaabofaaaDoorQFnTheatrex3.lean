-- Written by px.py, a program of this session, over the kit's printer: some functions have a definition and a proof of this session's own.
import Derived.Test.YtohmonfaabofaaaDoorQFnTheatrex0
import Derived.Test.YtohmonfaabofaaaDoorQFnTheatrex1
import Derived.Test.YtohmonfaabofaaaDoorQFnTheatrex2
namespace Go.Proofs.YtohmonfaabofaaaDoor.QFnTheatre
open Go.RowKit Go.Proofs.YtohmonfaabofaaaDoorW.PrintWords Go.Proofs.YtohmonfaabofaaaDoorW.PrintLast Go.Proofs.YtohmonfaabofaaaDoorW.PrintMore
attribute [local go_sem] max2_int min2_int max_two min_two max_three min_three max_four min_four   -- for this text's walks alone
set_option linter.unusedVariables false
set_option linter.unusedSimpArgs false
set_option maxHeartbeats 8000000
set_option maxRecDepth 100000

mutual
def spec_l1Cur_row.l0 : Nat → Int → Int → List Int → Int → Int → Int → Bool → List Int → Option (Int × Bool × List Int × Int × Int)
 | 0, _, _, _, _, _, _, _, _ => none
 | k + 1, x4, x5, x1000, x1001, x1002, x317000, x317001, x317002 => if x5 < x317000 then (spec_l1Cur_row.j1 k x4 x5 (decide (x5 < 25)) x1000 x1001 x1002 x317000 x317001 x317002) else (spec_l1Cur_row.j1 k x4 x5 false x1000 x1001 x1002 x317000 x317001 x317002)
def spec_l1Cur_row.j1 : Nat → Int → Int → Bool → List Int → Int → Int → Int → Bool → List Int → Option (Int × Bool × List Int × Int × Int)
 | 0, _, _, _, _, _, _, _, _, _ => none
 | k + 1, x4, x5, x18, x1000, x1001, x1002, x317000, x317001, x317002 => if x18 = true then ((spec_l1Cur_one.f x1000 x1001 x1002 x4).bind fun bt317 => (if bt317.1 = true then (if x317002.length < 17592186044416 then (spec_l1Cur_row.l0 k x4 (wrap64 (x5 + 1)) x1000 bt317.2.1 bt317.2.2 x317000 x317001 (x317002 ++ [x5])) else (none)) else (spec_l1Cur_row.l0 k x4 (wrap64 (x5 + 1)) x1000 bt317.2.1 bt317.2.2 x317000 x317001 x317002))) else ((spec_l1Cur_one.f x1000 x1001 x1002 6).bind fun bt323 => (if bt323.1 = true then ((spec_l2Row.f k x317000 x317001 x317002).bind fun t326 => (spec_l1Cur_row.j2 k t326 x1000 bt323.2.1 bt323.2.2 x317000 x317001 x317002)) else (spec_l1Cur_row.j2 k false x1000 bt323.2.1 bt323.2.2 x317000 x317001 x317002)))
def spec_l1Cur_row.j2 : Nat → Bool → List Int → Int → Int → Int → Bool → List Int → Option (Int × Bool × List Int × Int × Int)
 | 0, _, _, _, _, _, _, _ => none
 | k + 1, x35, x1000, x1001, x1002, x317000, x317001, x317002 => if x35 = true then ((spec_OtherSeats.f k x317000 x317001 x317002).bind fun bt327 => (spec_l1Cur_row.j3 k x1000 x1001 x1002 bt327.1 bt327.2.1 bt327.2.2.1)) else (spec_l1Cur_row.j3 k x1000 x1001 x1002 x317000 x317001 x317002)
def spec_l1Cur_row.j3 : Nat → List Int → Int → Int → Int → Bool → List Int → Option (Int × Bool × List Int × Int × Int)
 | 0, _, _, _, _, _, _ => none
 | k + 1, x1000, x1001, x1002, x317000, x317001, x317002 => (spec_l1Cur_one.f x1000 x1001 x1002 40).bind fun bt333 => (if bt333.1 = true then ((spec_l1Cur_among.f x1000 bt333.2.1 bt333.2.2 (([(-1), 0, x317000, 4611686018427387904] : List Int))).bind fun bt339 => (if x317002.length < 17592186044416 then (some (x317000, x317001, (x317002 ++ [bt339.1]), bt339.2.1, bt339.2.2)) else (none))) else (some (x317000, x317001, x317002, bt333.2.1, bt333.2.2)))
end
def spec_l1Cur_row.f (k : Nat) (s0_0 : List Int) (s0_1 : Int) (s0_2 : Int) : Option (Int × Bool × List Int × Int × Int) := (spec_l1Cur_freeRow.f s0_0 s0_1 s0_2).bind fun bt303 => ((spec_l1Cur_among.f s0_0 bt303.2.2.2.1 bt303.2.2.2.2 (([3, 2, 5] : List Int))).bind fun bt313 => (spec_l1Cur_row.l0 k bt313.1 0 s0_0 bt313.2.1 bt313.2.2 bt303.1 bt303.2.1 bt303.2.2.1))
theorem spec_l1Cur_row.mono_l : ∀ k, (∀ y0 y1 y2 y3 y4 y5 y6 y7, LeO (spec_l1Cur_row.l0 k y0 y1 y2 y3 y4 y5 y6 y7) (spec_l1Cur_row.l0 (k + 1) y0 y1 y2 y3 y4 y5 y6 y7)) ∧ (∀ y0 y1 y2 y3 y4 y5 y6 y7 y8, LeO (spec_l1Cur_row.j1 k y0 y1 y2 y3 y4 y5 y6 y7 y8) (spec_l1Cur_row.j1 (k + 1) y0 y1 y2 y3 y4 y5 y6 y7 y8)) ∧ (∀ y0 y1 y2 y3 y4 y5 y6, LeO (spec_l1Cur_row.j2 k y0 y1 y2 y3 y4 y5 y6) (spec_l1Cur_row.j2 (k + 1) y0 y1 y2 y3 y4 y5 y6)) ∧ (∀ y0 y1 y2 y3 y4 y5, LeO (spec_l1Cur_row.j3 k y0 y1 y2 y3 y4 y5) (spec_l1Cur_row.j3 (k + 1) y0 y1 y2 y3 y4 y5))
 | 0 => ⟨fun _ _ _ _ _ _ _ _ r h => by simp [spec_l1Cur_row.l0] at h, fun _ _ _ _ _ _ _ _ _ r h => by simp [spec_l1Cur_row.j1] at h, fun _ _ _ _ _ _ _ r h => by simp [spec_l1Cur_row.j2] at h, fun _ _ _ _ _ _ r h => by simp [spec_l1Cur_row.j3] at h⟩
 | k + 1 => by
  obtain ⟨ih0, ih1, ih2, ih3⟩ := spec_l1Cur_row.mono_l k
  refine ⟨?_, ?_, ?_, ?_⟩
  ·intro y0 y1 y2 y3 y4 y5 y6 y7
   unfold spec_l1Cur_row.l0
   repeat' with_reducible first | exact ih0 .. | exact ih1 .. | exact ih2 .. | exact ih3 .. | exact spec_OtherSeats.mono .. | exact spec_l2Row.mono .. | exact LeO.refl .. | exact LeO.none .. | refine LeO.ite ?_ ?_ | refine LeO.bind ?_ (fun _ => ?_)
  ·intro y0 y1 y2 y3 y4 y5 y6 y7 y8
   unfold spec_l1Cur_row.j1
   repeat' with_reducible first | exact ih0 .. | exact ih1 .. | exact ih2 .. | exact ih3 .. | exact spec_OtherSeats.mono .. | exact spec_l2Row.mono .. | exact LeO.refl .. | exact LeO.none .. | refine LeO.ite ?_ ?_ | refine LeO.bind ?_ (fun _ => ?_)
  ·intro y0 y1 y2 y3 y4 y5 y6
   unfold spec_l1Cur_row.j2
   repeat' with_reducible first | exact ih0 .. | exact ih1 .. | exact ih2 .. | exact ih3 .. | exact spec_OtherSeats.mono .. | exact spec_l2Row.mono .. | exact LeO.refl .. | exact LeO.none .. | refine LeO.ite ?_ ?_ | refine LeO.bind ?_ (fun _ => ?_)
  ·intro y0 y1 y2 y3 y4 y5
   unfold spec_l1Cur_row.j3
   repeat' with_reducible first | exact ih0 .. | exact ih1 .. | exact ih2 .. | exact ih3 .. | exact spec_OtherSeats.mono .. | exact spec_l2Row.mono .. | exact LeO.refl .. | exact LeO.none .. | refine LeO.ite ?_ ?_ | refine LeO.bind ?_ (fun _ => ?_)
theorem spec_l1Cur_row.mono : ∀ a0 a1 a2 k, LeO (spec_l1Cur_row.f k a0 a1 a2) (spec_l1Cur_row.f (k + 1) a0 a1 a2) := by
 intro a0 a1 a2 k
 obtain ⟨ih0, ih1, ih2, ih3⟩ := spec_l1Cur_row.mono_l k
 unfold spec_l1Cur_row.f
 repeat' with_reducible first | exact ih0 .. | exact ih1 .. | exact ih2 .. | exact ih3 .. | exact spec_OtherSeats.mono .. | exact spec_l2Row.mono .. | exact LeO.refl .. | exact LeO.none .. | refine LeO.ite ?_ ?_ | refine LeO.bind ?_ (fun _ => ?_)
def spec_l1Cur_row.T10 : Bool × List (List Nat × List Nat) := (true, [([], []), ([0], [0]), ([], []), ([], []), ([3], [3]), ([4], [4]), ([2, 5], [2, 5]), ([6], [6]), ([1, 7, 6], [1, 7]), ([0, 1, 2, 3, 4, 5, 6, 7, 8], []), ([9, 8, 8, 0, 1, 2, 3, 4, 5, 6, 7, 8], [8, 9])])
def spec_l1Cur_row.B10 : List Nat := [0, 1, 0, 0, 8, 24, 60, 124, 255, 511, 1023]
theorem spec_l1Cur_row.tab10 : rtab .any (opsOf Tryd.f75 10) = spec_l1Cur_row.T10 := by kernel_rfl
theorem spec_l1Cur_row.bits10 : waitsOk spec_l1Cur_row.T10.2 spec_l1Cur_row.B10 = true := by kernel_rfl
theorem spec_l1Cur_row.calls (k : Nat) (g : Nat) (s0_0 : List Int) (s0_1 : Int) (s0_2 : Int) (r1 : Int) (r2 : Bool) (r3 : List Int) (r4 : Int) (r5 : Int) (w0 w : World) (hI : IsS75 w0 w g s0_0 s0_1 s0_2) (hB : Below w0.heap.size w0 w) (h : spec_l1Cur_row.f k s0_0 s0_1 s0_2 = some (r1, r2, r3, r4, r5)) :
  Calls Tryd.prog 75 #[.pointer (some ⟨g, 0, none⟩)] w fun e w' => ∃ v2_ : Value, e = .returned (.agg #[.int .i64 r1, .bool r2, v2_]) ∧ Kd.R (Kd.int .i64) 3 w' w.heap.size (fun _ => True) v2_ r3 ∧ IsS75 w0 w' g s0_0 r4 r5 ∧ Below w0.heap.size w0 w' ∧ KeepBut w w' g none := by
 have hu28 := Tryd.underlying28
 have HI0 := A0_ hI
 have HK := A0_ (KeepBut.refl w g none)
 have HL := A0_ hB.size
 clear hI
 have HW0 := A0_ hB.size
 have HB := A0_ hB
 clear hB
 have H : ((spec_l1Cur_freeRow.f s0_0 s0_1 s0_2).bind fun bt1 => ((spec_l1Cur_among.f s0_0 bt1.2.2.2.1 bt1.2.2.2.2 (([3, 2, 5] : List Int))).bind fun bt2 => (spec_l1Cur_row.l0 k bt2.1 0 s0_0 bt2.2.1 bt2.2.2 bt1.1 bt1.2.1 bt1.2.2.1))) = some (r1, r2, r3, r4, r5) := h
 clear h
 obtain ⟨⟨t1, t2, t3, t4, t5⟩, A2, H⟩ := o1_ H
 obtain ⟨y1, hy1⟩ : ∃ y_ : List Int, y_ = (([3, 2, 5] : List Int)) := ⟨_, rfl⟩
 replace H : ((spec_l1Cur_among.f s0_0 t4 t5 y1).bind fun bt2 => (spec_l1Cur_row.l0 k bt2.1 0 s0_0 bt2.2.1 bt2.2.2 t1 t2 t3)) = some (r1, r2, r3, r4, r5) := bgiq_
 have Ny1 := A0_ hy1
 clear hy1
 obtain ⟨⟨t6, t7, t8⟩, A4, H⟩ := o1_ H
 have H' := A0_ H
 clear H
 go_enter Tryd.func75, Tryd.ntmps75
 go_wp2_with (first | ((with_reducible refine gd_ (N := 2) rfl ?_); refine bx_ 2 #[.int .i64 0, .bool false, .slice none 0 0] 28 ?_; intro gb1 hg w1 BK1 hb; replace HB := hb_ hb bkjh_; have GW1 := A0_ ((b7vg_ : w.heap.size ≤ gb1)); have GE1 := A0_ ((Nat.le_trans HW0.out (b7vg_ : w.heap.size ≤ gb1) : w0.heap.size ≤ gb1)); replace HK := A0_ (KeepBut.trans bjmx_ (KeepBut.of_below hb g none) (.inl rfl)); have NB0_1 := A0_ ((bzo9_ : g ≠ gb1)); have NB1_0 := A0_ ((b106_ : gb1 ≠ g)); replace HI0 := A0_ (IsS75.below b5hs_ hb); clear hb hg) | ((with_reducible refine gc_ (f := 86) rfl ?_); refine gl_ 7 Tryd.func86 #[.pointer (some ⟨g, 0, none⟩)] ?_; (with_reducible refine (spec_l1Cur_freeRow.calls g s0_0 s0_1 s0_2 t1 t2 t3 t4 t5 w0 _ ?side1 ?side2 A2.out).mono ?_); (case side1 => exact b9yh_); (case side2 => exact bois_); rintro e w2 ⟨v1, rfl, ho0, hi, hb, hk⟩; refine ⟨_, rfl, ?_⟩; replace BK1 := kb1_ BK1 hk NB1_0; have HO1 := A0_ (Kd.R_lower ho0 (keep_size (w := w) (g := g) (row := none) bcka_)); replace HK := A0_ (KeepBut.trans bcka_ hk (.inl rfl)); replace HB := A0_ (hb); replace HI0 := A0_ (hi); (try clear hb); (try clear hk); (try clear hi); (try clear ho0)) | ((with_reducible refine gd_ (N := 9) rfl ?_); refine Kd.R_lit (Kd.int .i64) _ 3 ?hg (N := 9) ?hd (xs := ([3, 2, 5] : List Int)) (inner := [.int .i64 3, .int .i64 2, .int .i64 5]) (ok := fun _ => True) (okp := fun _ => True) ?hr ?hp (fun _ hk => hk) trivial (Below.refl _ _) (Nat.le_refl _) bxka_ ?_; (case hd => rfl); (case hg => rfl); (case hr => go_simp; first | done | rfl); (case hp => exact (Reps.one (show Kd.M (Kd.int .i64) _ _ _ 3 [.int .i64 3] from rfl) (Reps.one (show Kd.M (Kd.int .i64) _ _ _ 2 [.int .i64 2] from rfl) (Reps.one (show Kd.M (Kd.int .i64) _ _ _ 5 [.int .i64 5] from rfl) (Reps.none _ _))))); intro v3 w3 ho7 hb hg_ hnew_; clear hg_ hnew_; (first | rw [← Ny1.out] at ho7 | (simp only [Int.reduceToNat] at ho7; rw [← Ny1.out] at ho7)); have HO2 := A0_ (Kd.R_lower (Kd.R_new' ho7 (Kd.R_lt bsm5_)) (keep_size (w := w) (g := g) (row := none) bcka_)); replace HO1 := A0_ (Kd.R_elder' bsm5_ (Kd.R_base ho7) hb); replace BK1 := k1_ BK1 hb; replace HK := A0_ (KeepBut.trans bcka_ (KeepBut.of_below hb g none) (.inl rfl)); replace HB := hb_ hb bois_; replace HI0 := A0_ (IsS75.below b9yh_ hb); clear hb ho7; obtain ⟨Ao1, co1, eo1⟩ := Kd.R_slice HO2.out; subst eo1) | ((with_reducible refine gc_ (f := 59) rfl ?_); refine gl_ 10 Tryd.func59 #[.pointer (some ⟨g, 0, none⟩), .slice Ao1 y1.length co1] ?_; (with_reducible refine (spec_l1Cur_among.calls g s0_0 t4 t5 _ _ y1 t6 t7 t8 w0 _ ?side1 ?side2 ?side3 ?side4 ?side5 A4.out).mono ?_); (case side1 => exact b9yh_); (case side2 => exact bois_); (case side3 => exact ba04_); (case side4 => exact (rr_ HO2.out).2.1); (case side5 => exact far_slice (IsS75.own_ne HI0.out HO2.out bi3y_)); rintro e w4 ⟨rfl, hi, hb, hk⟩; refine ⟨_, rfl, ?_⟩; replace BK1 := kb1_ BK1 hk NB1_0; replace HO1 := A0_ (Kd.R_mono (Kd.R_keep (IsS75.apart (show IsS75 w0 _ g s0_0 t4 t5 from b9yh_) bsm5_ bi3y_) hk (fun _ h => h.2)) (fun _ h => h.1)); replace HO2 := A0_ (Kd.R_mono (Kd.R_keep (IsS75.apart (show IsS75 w0 _ g s0_0 t4 t5 from b9yh_) b9so_ bi3y_) hk (fun _ h => h.2)) (fun _ h => h.1)); replace HK := A0_ (KeepBut.trans bcka_ hk (.inl rfl)); replace HB := A0_ (hb); replace HI0 := A0_ (hi); (try clear hb); (try clear hk); (try clear hi)) | ((with_reducible refine gd_ (N := 3) rfl ?_); refine bx_ 3 #[.int .i64 0, .bool false, .slice none 0 0] 28 ?_; intro gb2 hg w5 BK2 hb; replace HO1 := A0_ (Kd.R_below bsm5_ hb); replace HO2 := A0_ (Kd.R_below b9so_ hb); replace HB := hb_ hb bois_; have GW2 := A0_ ((bejl_ : w.heap.size ≤ gb2)); have GE2 := A0_ ((Nat.le_trans HW0.out (bejl_ : w.heap.size ≤ gb2) : w0.heap.size ≤ gb2)); replace HK := A0_ (KeepBut.trans bcka_ (KeepBut.of_below hb g none) (.inl rfl)); have NB1_2 := nl_ hg BK1; have NB2_1 := ng_ hg BK1; replace BK1 := k1_ BK1 hb; have NB0_2 := A0_ ((by rw [hg]; exact Nat.ne_of_lt (IsS75.lt (show IsS75 w0 _ g s0_0 t7 t8 from b9yh_)) : g ≠ gb2)); have NB2_0 := A0_ ((by rw [hg]; exact Nat.ne_of_gt (IsS75.lt (show IsS75 w0 _ g s0_0 t7 t8 from b9yh_)) : gb2 ≠ g)); replace HI0 := A0_ (IsS75.below b9yh_ hb); clear hb hg; have hnb1 := NB2_1.out; have hnc1 := NB1_2.out; have hnb2 := NB2_0.out; have hnc2 := NB0_2.out; have hcz1 := z3_ BK2; obtain ⟨Ao2, co2, eo2⟩ := Kd.R_slice HO1.out; subst eo2))
 go_loopg [5] k (fun kq v4 w' => ∃ (x5_1 : Int) (x1001_1 : Int) (x1002_1 : Int) (x317002_1 : List Int) (u317002 : Value), v4 = .int .i64 x5_1 ∧ Aside0 (spec_l1Cur_row.l0 kq t6 x5_1 s0_0 x1001_1 x1002_1 t1 t2 x317002_1 = some (r1, r2, r3, r4, r5)) ∧ Aside0 (kq ≤ k) ∧ Aside0 (Kd.R (Kd.int .i64) 3 w' w.heap.size (fun _ => True) u317002 x317002_1) ∧ Aside0 (w'.heap[gb1]? = some (.cells #[.int .i64 0, .bool false, (.slice none 0 0)] 28 (0, 0))) ∧ Aside0 (w'.heap[gb2]? = some (.cells #[.int .i64 t1, .bool t2, u317002] 28 (0, 0))) ∧ Aside0 (IsS75 w0 w' g s0_0 x1001_1 x1002_1) ∧ Aside0 (KeepBut w w' g none) ∧ Aside0 (Below w0.heap.size w0 w'))
 case atStart => exact ⟨(0), (t7), (t8), (t3), (.slice Ao2 t3.length co2), b2ew_, H', ⟨Nat.le_refl _⟩, ⟨bqc5_⟩, ⟨u1_ BK1⟩, ⟨u1_ BK2⟩, ⟨bxkc_⟩, ⟨bgjc_⟩, ⟨b2rv_⟩⟩
 clear H'
 (try clear hcz1); (try clear hfz1)
 obtain ⟨x5_1, x1001_1, x1002_1, x317002_1, u317002, rfl, HA, HK1, HO_1, BK1, BK2, HI0, HK, HB⟩ := hrel
 cases gk with | zero => exact absurd HA.out (by simp [spec_l1Cur_row.l0]) | succ k1 => ?_
 have H := HA.out
 clear HA
 simp only [spec_l1Cur_row.l0] at H
 have HC15 := A0_ H
 clear H
 go_upto_region 3 with (fail)
 go_cut [18] (fun v5 wc => ∃ (kq : Nat) (x18_14 : Bool), v5 = .bool x18_14 ∧ Aside0 (spec_l1Cur_row.j1 kq t6 x5_1 x18_14 s0_0 x1001_1 x1002_1 t1 t2 x317002_1 = some (r1, r2, r3, r4, r5)) ∧ Aside0 (kq ≤ k1) ∧ Aside0 (Kd.R (Kd.int .i64) 3 wc w.heap.size (fun _ => True) u317002 x317002_1) ∧ Aside0 (wc.heap[gb1]? = some (.cells #[.int .i64 0, .bool false, (.slice none 0 0)] 28 (0, 0))) ∧ Aside0 (wc.heap[gb2]? = some (.cells #[.int .i64 t1, .bool t2, u317002] 28 (0, 0))) ∧ Aside0 (IsS75 w0 wc g s0_0 x1001_1 x1002_1) ∧ Aside0 (KeepBut w wc g none) ∧ Aside0 (Below w0.heap.size w0 wc))
 case first =>
  have H := HC15.out
  clear HC15
  by_cases c1 : x5_1 < t1
  ·rw [if_pos c1] at H
   have c1b0 : decide (x5_1 < t1) = true := dt_ c1
   clear c1
   (first | rw [c1b0] | (simp only [i64_w, i32_w]; rw [c1b0]) | skip)
   have H' := A0_ H
   clear H
   have hnb3 := NB2_1.out
   have hnc3 := NB1_2.out
   have hnb4 := NB2_0.out
   have hnc4 := NB0_2.out
   have hcz2 := z3_ BK2
   go_wp2
   go_meet
   exact ⟨_, (decide (x5_1 < 25)), b2ew_, H', ⟨b1kt_⟩, ⟨bwik_⟩, ⟨u1_ BK1⟩, ⟨u1_ BK2⟩, ⟨bxkc_⟩, ⟨bgjc_⟩, ⟨b2rv_⟩⟩
  rw [if_neg c1] at H
  have c1b0 : decide (x5_1 < t1) = false := decide_eq_false c1
  clear c1
  (first | rw [c1b0] | (simp only [i64_w, i32_w]; rw [c1b0]) | skip)
  have H' := A0_ H
  clear H
  have hnb3 := NB2_1.out
  have hnc3 := NB1_2.out
  have hnb4 := NB2_0.out
  have hnc4 := NB0_2.out
  have hcz2 := z3_ BK2
  go_wp2
  go_meet
  exact ⟨_, (false), b2ew_, H', ⟨b1kt_⟩, ⟨bwik_⟩, ⟨u1_ BK1⟩, ⟨u1_ BK2⟩, ⟨bxkc_⟩, ⟨bgjc_⟩, ⟨b2rv_⟩⟩
 clear HC15
 (try clear hcz1); (try clear hfz1)
 obtain ⟨kq, x18_14, rfl, HA, HJ1, HO_1, BK1, BK2, HI0, HK, HB⟩ := hcut
 cases kq with | zero => exact absurd HA.out (by simp [spec_l1Cur_row.j1]) | succ kj1 => ?_
 have H := HA.out
 clear HA
 simp only [spec_l1Cur_row.j1] at H
 by_cases c1 : x18_14 = true
 ·subst c1
  rw [if_pos rfl] at H
  obtain ⟨⟨t9, t10, t11⟩, A6, H⟩ := o1_ H
  by_cases c2 : t9 = true
  case neg =>
   obtain rfl := bf_.mpr c2
   rw [if_neg ft_] at H
   have H' := A0_ H
   clear H
   go_wp2_with (first | ((with_reducible refine gc_ (f := 51) rfl ?_); refine gl_ 23 Tryd.func51 #[.pointer (some ⟨g, 0, none⟩), .int .i64 t6] ?_; (with_reducible refine (spec_l1Cur_one.calls g s0_0 x1001_1 x1002_1 t6 false t10 t11 w0 _ ?side1 ?side2 A6.out).mono ?_); (case side1 => exact bxkc_); (case side2 => exact b2rv_); rintro e w6 ⟨rfl, hi, hb, hk⟩; refine ⟨_, rfl, ?_⟩; replace HO_1 := A0_ (Kd.R_mono (Kd.R_keep (IsS75.apart (show IsS75 w0 _ g s0_0 x1001_1 x1002_1 from bxkc_) bwik_ bi3y_) hk (fun _ h => h.2)) (fun _ h => h.1)); replace BK1 := kb1_ BK1 hk NB1_0; replace BK2 := kb1_ BK2 hk NB2_0; replace HK := A0_ (KeepBut.trans bgjc_ hk (.inl rfl)); replace HB := A0_ (hb); replace HI0 := A0_ (hi); (try clear hb); (try clear hk); (try clear hi)))
   go_roundg kj1
   case measure => have := HK1.out; have := HJ1.out; omega
   exact ⟨(wrap64 (x5_1 + 1)), (t10), (t11), (x317002_1), (u317002), b2ew_, H', ⟨by have := HK1.out; have := HJ1.out; omega⟩, ⟨bwik_⟩, ⟨u1_ BK1⟩, ⟨u1_ BK2⟩, ⟨bxkc_⟩, ⟨bgjc_⟩, ⟨b2rv_⟩⟩
  subst c2
  rw [if_pos rfl] at H
  by_cases c3 : x317002_1.length < 17592186044416
  case neg =>
   rw [if_neg c3] at H
   exact absurd H bxka_
  rw [if_pos c3] at H
  have LMc1 := A0_ c3
  clear c3
  obtain ⟨y2, hy2⟩ : ∃ y_ : List Int, y_ = (x317002_1 ++ [x5_1]) := ⟨_, rfl⟩
  replace H : (spec_l1Cur_row.l0 kj1 t6 (wrap64 (x5_1 + 1)) s0_0 t10 t11 t1 t2 y2) = some (r1, r2, r3, r4, r5) := bscs_
  have Ny2 := A0_ hy2
  clear hy2
  have H' := A0_ H
  clear H
  go_wp2_with (first | ((with_reducible refine gc_ (f := 51) rfl ?_); refine gl_ 23 Tryd.func51 #[.pointer (some ⟨g, 0, none⟩), .int .i64 t6] ?_; (with_reducible refine (spec_l1Cur_one.calls g s0_0 x1001_1 x1002_1 t6 true t10 t11 w0 _ ?side1 ?side2 A6.out).mono ?_); (case side1 => exact bxkc_); (case side2 => exact b2rv_); rintro e w6 ⟨rfl, hi, hb, hk⟩; refine ⟨_, rfl, ?_⟩; replace HO_1 := A0_ (Kd.R_mono (Kd.R_keep (IsS75.apart (show IsS75 w0 _ g s0_0 x1001_1 x1002_1 from bxkc_) bwik_ bi3y_) hk (fun _ h => h.2)) (fun _ h => h.1)); replace BK1 := kb1_ BK1 hk NB1_0; replace BK2 := kb1_ BK2 hk NB2_0; replace HK := A0_ (KeepBut.trans bgjc_ hk (.inl rfl)); replace HB := A0_ (hb); replace HI0 := A0_ (hi); (try clear hb); (try clear hk); (try clear hi); have hnb3 := NB2_1.out; have hnc3 := NB1_2.out; have hnb4 := NB2_0.out; have hnc4 := NB0_2.out; have hcz2 := z3_ BK2) | ((with_reducible refine gate_builtin (b := .append) (xs := #[.tmp 25, .tmp 27]) rfl ?_); at_builtin; refine Kd.R_append (Kd.int .i64) w.heap.size rfl (.tmp 25) (.tmp 27) 22 3 (.int .i64 0) 8 rfl Tryd.underlying22 info3 rfl bi3y_ bh19_ u317002 x317002_1 x5_1 [.int .i64 x5_1] (fun _ => True) (fun _ => False) rfl rfl ?aP (fun _ hk => hk.elim) ?aF ?aO (Below.refl _ _) ?aS ?aL ?_; (case aP => exact rfl); (case aF => exact (fun _ _ => trivial)); (case aO => exact bwik_); (case aS => exact (keep_size (w := w) (g := g) (row := none) bgjc_)); (case aL => have := LMc1.out; omega); intro v6 w7 ho hb hg hat; rw [← Ny2.out] at ho; have n0_ := A0_ (blk_grown (g := gb1) (o := .cells #[.int .i64 0, .bool false, .slice none 0 0] 28 (0, 0)) (u1_ BK1) hg (Kd.R_ne HO_1.out BK1.out bi3y_)); have n1_ := A0_ (blk_grown (g := gb2) (o := .cells #[.int .i64 t1, .bool t2, u317002] 28 (0, 0)) (u1_ BK2) hg (Kd.R_ne HO_1.out BK2.out bi3y_)); have n2_ := A0_ (IsS75.grown bxkc_ hg (IsS75.own_ne HI0.out HO_1.out bi3y_)); have n3_ := A0_ (below_weaken b2rv_ HL.out hb); have n4_ := A0_ (KeepBut.trans bgjc_ (KeepBut.of_grown hg g) (Kd.R_base2 HO_1.out)); have n5_ := A0_ (ho); clear BK1 BK2 HI0 HB HK HO_1; have BK1 := n0_; have BK2 := n1_; have HI0 := n2_; have HB := n3_; have HK := n4_; have HO3 := n5_; clear n0_ n1_ n2_ n3_ n4_ n5_ ho hb hg hat; obtain ⟨Ao3, co3, eo3⟩ := Kd.R_slice HO3.out; subst eo3; have hcz3 := z3_ BK2))
  go_roundg kj1
  case measure => have := HK1.out; have := HJ1.out; omega
  exact ⟨(wrap64 (x5_1 + 1)), (t10), (t11), (y2), (.slice Ao3 y2.length co3), b2ew_, H', ⟨by have := HK1.out; have := HJ1.out; omega⟩, ⟨by (with_reducible repeat (first | apply ra_ | apply rn_ | apply rd_)); exact Kd.R_mono (rf_ (Kd.R_types HO3.out BK2.out bi3y_) k2_0 _) (fun _ hk => trivial)⟩, ⟨u1_ BK1⟩, ⟨u1_ BK2⟩, ⟨bxkc_⟩, ⟨bgjc_⟩, ⟨b2rv_⟩⟩
 obtain rfl := bf_.mpr c1
 rw [if_neg ft_] at H
 have HC35 := A0_ H
 clear H
 go_upto_region 7 with (fail)
 go_cut [35] (fun v6 wc => ∃ (kq : Nat) (x35_34 : Bool) (x1001_34 : Int) (x1002_34 : Int), v6 = .bool x35_34 ∧ Aside0 (spec_l1Cur_row.j2 kq x35_34 s0_0 x1001_34 x1002_34 t1 t2 x317002_1 = some (r1, r2, r3, r4, r5)) ∧ Aside0 (kq ≤ kj1) ∧ Aside0 (Kd.R (Kd.int .i64) 3 wc w.heap.size (fun _ => True) u317002 x317002_1) ∧ Aside0 (wc.heap[gb1]? = some (.cells #[.int .i64 0, .bool false, (.slice none 0 0)] 28 (0, 0))) ∧ Aside0 (wc.heap[gb2]? = some (.cells #[.int .i64 t1, .bool t2, u317002] 28 (0, 0))) ∧ Aside0 (IsS75 w0 wc g s0_0 x1001_34 x1002_34) ∧ Aside0 (KeepBut w wc g none) ∧ Aside0 (Below w0.heap.size w0 wc))
 case first =>
  have H := HC35.out
  clear HC35
  obtain ⟨⟨t9, t10, t11⟩, A6, H⟩ := o1_ H
  by_cases c2 : t9 = true
  case neg =>
   obtain rfl := bf_.mpr c2
   rw [if_neg ft_] at H
   have H' := A0_ H
   clear H
   go_wp2_with (first | ((with_reducible refine gc_ (f := 51) rfl ?_); refine gl_ 31 Tryd.func51 #[.pointer (some ⟨g, 0, none⟩), .int .i64 6] ?_; (with_reducible refine (spec_l1Cur_one.calls g s0_0 x1001_1 x1002_1 6 false t10 t11 w0 _ ?side1 ?side2 A6.out).mono ?_); (case side1 => exact bxkc_); (case side2 => exact b2rv_); rintro e w6 ⟨rfl, hi, hb, hk⟩; refine ⟨_, rfl, ?_⟩; replace HO_1 := A0_ (Kd.R_mono (Kd.R_keep (IsS75.apart (show IsS75 w0 _ g s0_0 x1001_1 x1002_1 from bxkc_) bwik_ bi3y_) hk (fun _ h => h.2)) (fun _ h => h.1)); replace BK1 := kb1_ BK1 hk NB1_0; replace BK2 := kb1_ BK2 hk NB2_0; replace HK := A0_ (KeepBut.trans bgjc_ hk (.inl rfl)); replace HB := A0_ (hb); replace HI0 := A0_ (hi); (try clear hb); (try clear hk); (try clear hi)))
   go_meet
   exact ⟨_, (false), (t10), (t11), b2ew_, H', ⟨brmx_⟩, ⟨bwik_⟩, ⟨u1_ BK1⟩, ⟨u1_ BK2⟩, ⟨bxkc_⟩, ⟨bgjc_⟩, ⟨b2rv_⟩⟩
  subst c2
  rw [if_pos rfl] at H
  obtain ⟨t12, A8, H⟩ := o1_ H
  have H' := A0_ H
  clear H
  go_wp2_with (first | ((with_reducible refine gc_ (f := 51) rfl ?_); refine gl_ 31 Tryd.func51 #[.pointer (some ⟨g, 0, none⟩), .int .i64 6] ?_; (with_reducible refine (spec_l1Cur_one.calls g s0_0 x1001_1 x1002_1 6 true t10 t11 w0 _ ?side1 ?side2 A6.out).mono ?_); (case side1 => exact bxkc_); (case side2 => exact b2rv_); rintro e w6 ⟨rfl, hi, hb, hk⟩; refine ⟨_, rfl, ?_⟩; replace HO_1 := A0_ (Kd.R_mono (Kd.R_keep (IsS75.apart (show IsS75 w0 _ g s0_0 x1001_1 x1002_1 from bxkc_) bwik_ bi3y_) hk (fun _ h => h.2)) (fun _ h => h.1)); replace BK1 := kb1_ BK1 hk NB1_0; replace BK2 := kb1_ BK2 hk NB2_0; replace HK := A0_ (KeepBut.trans bgjc_ hk (.inl rfl)); replace HB := A0_ (hb); replace HI0 := A0_ (hi); (try clear hb); (try clear hk); (try clear hi); have hnb3 := NB2_1.out; have hnc3 := NB1_2.out; have hnb4 := NB2_0.out; have hnc4 := NB0_2.out; have hcz2 := z3_ BK2; obtain ⟨Ao3, co3, eo3⟩ := Kd.R_slice HO_1.out; subst eo3) | (go_at_call 81; (with_reducible refine (spec_l2Row.calls kj1 t1 t2 _ _ x317002_1 t12 _ ?side1 ?side2 A8.out).mono ?_); (case side1 => exact btcf_); (case side2 => exact (rr_ HO_1.out).2.1); rintro e w7 ⟨rfl, hb⟩; replace HO_1 := A0_ (Kd.R_below bwik_ hb); replace BK1 := k1_ BK1 hb; replace BK2 := k1_ BK2 hb; replace HK := A0_ (KeepBut.trans bgjc_ (KeepBut.of_below hb g none) (.inl rfl)); replace HB := hb_ hb b2rv_; replace HI0 := A0_ (IsS75.below bxkc_ hb); (try clear hb)))
  go_meet
  exact ⟨_, (t12), (t10), (t11), b2ew_, H', ⟨brmx_⟩, ⟨bwik_⟩, ⟨u1_ BK1⟩, ⟨u1_ BK2⟩, ⟨bxkc_⟩, ⟨bgjc_⟩, ⟨b2rv_⟩⟩
 clear HC35
 try clear c1
 (try clear hcz1); (try clear hfz1)
 obtain ⟨kq, x35_34, x1001_34, x1002_34, rfl, HA, HJ2, HO_1, BK1, BK2, HI0, HK, HB⟩ := hcut
 cases kq with | zero => exact absurd HA.out (by simp [spec_l1Cur_row.j2]) | succ kj2 => ?_
 have H := HA.out
 clear HA
 simp only [spec_l1Cur_row.j2] at H
 have HC46 := A0_ H
 clear H
 go_upto_if 35 with (fail)
 go_cut [] (fun wc => ∃ (kq : Nat) (x317000_45 : Int) (x317001_45 : Bool) (x317002_45 : List Int) (u317002 : Value), Aside0 (spec_l1Cur_row.j3 kq s0_0 x1001_34 x1002_34 x317000_45 x317001_45 x317002_45 = some (r1, r2, r3, r4, r5)) ∧ Aside0 (kq ≤ kj2) ∧ Aside0 (Kd.R (Kd.int .i64) 3 wc w.heap.size (fun _ => True) u317002 x317002_45) ∧ Aside0 (wc.heap[gb1]? = some (.cells #[.int .i64 0, .bool false, (.slice none 0 0)] 28 (0, 0))) ∧ Aside0 (wc.heap[gb2]? = some (.cells #[.int .i64 x317000_45, .bool x317001_45, u317002] 28 (0, 0))) ∧ Aside0 (IsS75 w0 wc g s0_0 x1001_34 x1002_34) ∧ Aside0 (KeepBut w wc g none) ∧ Aside0 (Below w0.heap.size w0 wc))
 case first =>
  have H := HC46.out
  clear HC46
  by_cases c2 : x35_34 = true
  case neg =>
   obtain rfl := bf_.mpr c2
   rw [if_neg ft_] at H
   have H' := A0_ H
   clear H
   go_wp2
   go_meet
   exact ⟨_, (t1), (t2), (x317002_1), (u317002), H', ⟨by have := HK1.out; have := HJ1.out; have := HJ2.out; first | omega | exact Nat.le_refl _⟩, ⟨bwik_⟩, ⟨u1_ BK1⟩, ⟨u1_ BK2⟩, ⟨bxkc_⟩, ⟨bgjc_⟩, ⟨b2rv_⟩⟩
  subst c2
  rw [if_pos rfl] at H
  obtain ⟨⟨t9, t10, t11, t12⟩, A6, H⟩ := o1_ H
  have H' := A0_ H
  clear H
  have hnb3 := NB2_1.out
  have hnc3 := NB1_2.out
  have hnb4 := NB2_0.out
  have hnc4 := NB0_2.out
  have hcz2 := z3_ BK2
  obtain ⟨Ao3, co3, eo3⟩ := Kd.R_slice HO_1.out
  subst eo3
  go_wp2_with (first | ((with_reducible refine gc_ (f := 87) rfl ?_); refine gl_ 38 Tryd.func87 #[.agg #[.int .i64 t1, .bool t2, .slice Ao3 x317002_1.length co3]] ?_; (with_reducible refine (spec_OtherSeats.calls kj2 t1 t2 _ _ x317002_1 t9 t10 t11 t12 _ ?side1 ?side2 A6.out).mono ?_); (case side1 => exact btcf_); (case side2 => exact (rr_ HO_1.out).2.1); rintro e w6 ⟨v7, rfl, ho0, hb⟩; refine ⟨_, rfl, ?_⟩; have HO3 := A0_ (Kd.R_lower (Kd.R_new' ho0 (Kd.R_lt bwik_)) (keep_size (w := w) (g := g) (row := none) bgjc_)); replace HO_1 := A0_ (Kd.R_elder' bwik_ (Kd.R_base ho0) hb); replace BK1 := k1_ BK1 hb; replace BK2 := k1_ BK2 hb; replace HK := A0_ (KeepBut.trans bgjc_ (KeepBut.of_below hb g none) (.inl rfl)); replace HB := hb_ hb b2rv_; replace HI0 := A0_ (IsS75.below bxkc_ hb); (try clear hb); (try clear ho0); have hcz3 := z3_ BK2; obtain ⟨Ao4, co4, eo4⟩ := Kd.R_slice HO3.out; subst eo4))
  go_meet
  exact ⟨_, (t9), (t10), (t11), (.slice Ao4 t11.length co4), H', ⟨by have := HK1.out; have := HJ1.out; have := HJ2.out; first | omega | exact Nat.le_refl _⟩, ⟨bn91_⟩, ⟨u1_ BK1⟩, ⟨u1_ BK2⟩, ⟨bxkc_⟩, ⟨bgjc_⟩, ⟨b2rv_⟩⟩
 clear HC46
 try clear c1
 (try clear hcz1); (try clear hfz1)
 obtain ⟨kq, x317000_45, x317001_45, x317002_45, u317002, HA, HJ3, HO_1, BK1, BK2, HI0, HK, HB⟩ := hcut
 cases kq with | zero => exact absurd HA.out (by simp [spec_l1Cur_row.j3]) | succ kj3 => ?_
 have H := HA.out
 clear HA
 simp only [spec_l1Cur_row.j3] at H
 obtain ⟨⟨t9, t10, t11⟩, A6, H⟩ := o1_ H
 by_cases c2 : t9 = true
 case neg =>
  obtain rfl := bf_.mpr c2
  rw [if_neg ft_] at H
  simp only [sj_, pj_] at H
  obtain ⟨rfl, rfl, rfl, rfl, rfl⟩ := H
  go_wp2_with (first | ((with_reducible refine gc_ (f := 51) rfl ?_); refine gl_ 42 Tryd.func51 #[.pointer (some ⟨g, 0, none⟩), .int .i64 40] ?_; (with_reducible refine (spec_l1Cur_one.calls g s0_0 x1001_34 x1002_34 40 false t10 t11 w0 _ ?side1 ?side2 A6.out).mono ?_); (case side1 => exact bxkc_); (case side2 => exact b2rv_); rintro e w6 ⟨rfl, hi, hb, hk⟩; refine ⟨_, rfl, ?_⟩; replace HO_1 := A0_ (Kd.R_mono (Kd.R_keep (IsS75.apart (show IsS75 w0 _ g s0_0 x1001_34 x1002_34 from bxkc_) bwik_ bi3y_) hk (fun _ h => h.2)) (fun _ h => h.1)); replace BK1 := kb1_ BK1 hk NB1_0; replace BK2 := kb1_ BK2 hk NB2_0; replace HK := A0_ (KeepBut.trans bgjc_ hk (.inl rfl)); replace HB := A0_ (hb); replace HI0 := A0_ (hi); (try clear hb); (try clear hk); (try clear hi); have hnb3 := NB2_1.out; have hnc3 := NB1_2.out; have hnb4 := NB2_0.out; have hnc4 := NB0_2.out; have hcz2 := z3_ BK2; have hnb5 := NB1_0.out; have hnc5 := NB0_1.out; have hcz3_0 : w6.cell? ⟨gb1, 0, none⟩ = some (.int .i64 0) := (kc_ BK1.out 0).trans rfl; have hcz3_1 : w6.cell? ⟨gb1, 1, none⟩ = some (.bool false) := (kc_ BK1.out 1).trans rfl; have hcz3_2 : w6.cell? ⟨gb1, 2, none⟩ = some (.slice none 0 0) := (kc_ BK1.out 2).trans rfl; have hfz3_0 := kf_ BK1.out 0; have hfz3_1 := kf_ BK1.out 1; have hfz3_2 := kf_ BK1.out 2; obtain ⟨Ao3, co3, eo3⟩ := Kd.R_slice HO_1.out; subst eo3))
  refine bodyPost_ret (results_cell_row rfl _ _ gb1 28 #[.int .i64 x317000_45, .bool x317001_45, .slice Ao3 x317002_45.length co3] (0, 0) _ rfl (u1_ BK1) Tryd.underlying28 rfl bfqv_) rfl ?_
  exact ⟨_, bnwh_, bhmh_, bxkc_, b2rv_, bgjc_⟩
 subst c2
 rw [if_pos rfl] at H
 obtain ⟨y2, hy2⟩ : ∃ y_ : List Int, y_ = (([(-1), 0, x317000_45, 4611686018427387904] : List Int)) := ⟨_, rfl⟩
 replace H : ((spec_l1Cur_among.f s0_0 t10 t11 y2).bind fun bt3 => (if x317002_45.length < 17592186044416 then (some (x317000_45, x317001_45, (x317002_45 ++ [bt3.1]), bt3.2.1, bt3.2.2)) else (none))) = some (r1, r2, r3, r4, r5) := bscs_
 have Ny2 := A0_ hy2
 clear hy2
 obtain ⟨⟨t12, t13, t14⟩, A8, H⟩ := o1_ H
 by_cases c3 : x317002_45.length < 17592186044416
 case neg =>
  rw [if_neg c3] at H
  exact absurd H bxka_
 rw [if_pos c3] at H
 have LMc1 := A0_ c3
 clear c3
 obtain ⟨y3, hy3⟩ : ∃ y_ : List Int, y_ = (x317002_45 ++ [t12]) := ⟨_, rfl⟩
 replace H : (some (x317000_45, x317001_45, y3, t13, t14)) = some (r1, r2, r3, r4, r5) := b2x6_
 have Ny3 := A0_ hy3
 clear hy3
 simp only [sj_, pj_] at H
 obtain ⟨rfl, rfl, rfl, rfl, rfl⟩ := H
 try go_wp2_with (first | ((with_reducible refine gc_ (f := 51) rfl ?_); refine gl_ 42 Tryd.func51 #[.pointer (some ⟨g, 0, none⟩), .int .i64 40] ?_; (with_reducible refine (spec_l1Cur_one.calls g s0_0 x1001_34 x1002_34 40 true t10 t11 w0 _ ?side1 ?side2 A6.out).mono ?_); (case side1 => exact bxkc_); (case side2 => exact b2rv_); rintro e w6 ⟨rfl, hi, hb, hk⟩; refine ⟨_, rfl, ?_⟩; replace HO_1 := A0_ (Kd.R_mono (Kd.R_keep (IsS75.apart (show IsS75 w0 _ g s0_0 x1001_34 x1002_34 from bxkc_) bwik_ bi3y_) hk (fun _ h => h.2)) (fun _ h => h.1)); replace BK1 := kb1_ BK1 hk NB1_0; replace BK2 := kb1_ BK2 hk NB2_0; replace HK := A0_ (KeepBut.trans bgjc_ hk (.inl rfl)); replace HB := A0_ (hb); replace HI0 := A0_ (hi); (try clear hb); (try clear hk); (try clear hi)))
 replace HO_1 := A0_ (rd_ HO_1.out)
 replace BK1 := A0_ (kd_ BK1.out)
 replace BK2 := A0_ (kd_ BK2.out)
 replace HI0 := A0_ (IsS75.drew HI0.out)
 replace HK := A0_ (keep_drew HK.out)
 replace HB := A0_ (bd_ HB.out)
 refine s3_ 11 [10] BK2 spec_l1Cur_row.tab10 spec_l1Cur_row.bits10 (fun hHeld HT_ HW_ => ?_)
 generalize w6.drew = w7 at HO_1 BK1 BK2 HI0 HK HB hHeld ⊢
 refine pu_ 0 43 ?_
 refine pu_ 2 45 ?_
 refine pu_ 3 46 ?_
 refine tk_ 1 44 hHeld ?_
 refine tk_ 4 47 hHeld ?_
 refine on_ 5 (some 48) (fun K hK => ?_)
 refine Kd.R_lit_step (Kd.int .i64) _ 3 ?hg (N := 48) ?hd (xs := ([(-1), 0, x317000_45, 4611686018427387904] : List Int)) (inner := [.int .i64 (-1), .int .i64 0, .int .i64 x317000_45, .int .i64 4611686018427387904]) (ok := fun _ => True) (okp := fun _ => True) ?hr ?hp (fun _ hk => hk) trivial (Below.refl _ _) (Nat.le_refl _) bxka_ ?_; (case hd => rfl); (case hg => rfl); (case hr => go_simp; first | done | rfl); (case hp => exact (Reps.one (show Kd.M (Kd.int .i64) _ _ _ (-1) [.int .i64 (-1)] from rfl) (Reps.one (show Kd.M (Kd.int .i64) _ _ _ 0 [.int .i64 0] from rfl) (Reps.one (show Kd.M (Kd.int .i64) _ _ _ x317000_45 [.int .i64 x317000_45] from rfl) (Reps.one (show Kd.M (Kd.int .i64) _ _ _ 4611686018427387904 [.int .i64 4611686018427387904] from rfl) (Reps.none _ _))))))
 intro v7 w8 ho63 hb hg_ hnew_
 clear hg_ hnew_
 (first | rw [← Ny2.out] at ho63 | (simp only [Int.reduceToNat] at ho63; rw [← Ny2.out] at ho63))
 have HO3 := A0_ (Kd.R_lower (Kd.R_new' ho63 (Kd.R_lt bwik_)) (keep_size (w := w) (g := g) (row := none) bgjc_))
 replace HO_1 := A0_ (Kd.R_elder' bwik_ (Kd.R_base ho63) hb)
 replace BK1 := k1_ BK1 hb
 replace BK2 := k1_ BK2 hb
 replace HK := A0_ (KeepBut.trans bgjc_ (KeepBut.of_below hb g none) (.inl rfl))
 replace HB := hb_ hb b2rv_
 replace HI0 := A0_ (IsS75.below bxkc_ hb)
 clear hb ho63
 obtain ⟨Ao3, co3, eo3⟩ := Kd.R_slice HO3.out
 (first | subst eo3 | (injection eo3 with f1_ f2_ f3_; have f4_ := f1_.symm; have f5_ := f3_.symm; clear f1_ f2_ f3_; subst f4_; subst f5_))
 refine hK.out _ _ (c3_ BK2) (fun hHeld => ?_)
 clear hK K
 refine nm_ 48 ?_
 refine on_ 6 (some 49) (fun K hK => ?_)
 refine gs_ Tryd.func59 #[.pointer (some ⟨g, 0, none⟩), .slice Ao3 y2.length co3] ?_
 with_reducible refine (spec_l1Cur_among.calls g s0_0 t10 t11 _ _ y2 t12 t13 t14 w0 _ ?side1 ?side2 ?side3 ?side4 ?side5 A8.out).mono ?_
 (case side1 => exact bxkc_)
 (case side2 => exact b2rv_)
 (case side3 => exact be4z_)
 (case side4 => exact (rr_ HO3.out).2.1)
 (case side5 => exact far_slice (IsS75.own_ne HI0.out HO3.out bi3y_))
 rintro e w9 ⟨rfl, hi, hb, hk⟩
 refine ⟨_, rfl, ?_⟩
 replace HO_1 := A0_ (Kd.R_mono (Kd.R_keep (IsS75.apart (show IsS75 w0 _ g s0_0 t10 t11 from bxkc_) bwik_ bi3y_) hk (fun _ h => h.2)) (fun _ h => h.1))
 replace BK1 := kb1_ BK1 hk NB1_0
 replace BK2 := kb1_ BK2 hk NB2_0
 replace HO3 := A0_ (Kd.R_mono (Kd.R_keep (IsS75.apart (show IsS75 w0 _ g s0_0 t10 t11 from bxkc_) buiy_ bi3y_) hk (fun _ h => h.2)) (fun _ h => h.1))
 replace HK := A0_ (KeepBut.trans bgjc_ hk (.inl rfl))
 replace HB := A0_ (hb)
 replace HI0 := A0_ (hi)
 (try clear hb); (try clear hk); (try clear hi)
 refine hK.out _ _ (c3_ BK2) (fun hHeld => ?_)
 clear hK K
 refine nm_ 49 ?_
 refine on_ 7 (some 50) (fun K hK => ?_)
 refine value_ (w1 := ?_) (v := ?_) b139_ rfl ?_ ?_
 rotate_left 2
 ·go_simp
  constructor
  ·rfl
  rfl
 refine hK.out _ _ ⟨(kc_ (ka_ BK2.out _) 0).trans rfl, (kc_ (ka_ BK2.out _) 1).trans rfl, (kc_ (ka_ BK2.out _) 2).trans rfl⟩ (fun hHeld => ?_)
 clear hK K
 refine nm_ 50 ?_
 refine on_ 8 (some 51) (fun K hK => ?_)
 refine Kd.R_append_step (Kd.int .i64) w.heap.size b139_ (.tmp 44) (.tmp 50) 22 3 (.int .i64 0) 8 rfl Tryd.underlying22 info3 rfl bi3y_ bh19_ u317002 x317002_45 t12 [.int .i64 t12] (fun k_ => no_ (.slice Ao3 y2.length co3) k_) (fun _ => False) rfl rfl ?aP (fun _ hk => hk.elim) ?aF ?aO (Below.refl _ _) ?aS ?aL ?_
 (case aP => exact rfl)
 (case aF => exact (fun k_ hk => Kd.fresh' (Kd.R_lt buiy_) k_ hk))
 (case aO => exact bepl_)
 (case aS => exact (keep_size (w := w) (g := g) (row := none) bgjc_))
 (case aL => have := LMc1.out; omega)
 intro v8 w10 ho hb hg hat
 rw [← Ny3.out] at ho
 have n0_ := A0_ (blk_grown (g := gb1) (o := .cells #[.int .i64 0, .bool false, .slice none 0 0] 28 (0, 0)) (u1_ BK1) hg (Kd.R_ne HO_1.out BK1.out bi3y_))
 have n1_ := A0_ (blk_grown (g := gb2) (o := .cells #[.int .i64 x317000_45, .bool x317001_45, u317002] 28 (0, 0)) (u1_ BK2) hg (Kd.R_ne HO_1.out BK2.out bi3y_))
 have n2_ := A0_ (IsS75.grown bxkc_ hg (IsS75.own_ne HI0.out HO_1.out bi3y_))
 have n3_ := A0_ (Kd.R_after (ok := (fun _ => True)) buiy_ hg hat)
 have n4_ := A0_ (below_weaken b2rv_ HL.out hb)
 have n5_ := A0_ (KeepBut.trans bgjc_ (KeepBut.of_grown hg g) (Kd.R_base2 HO_1.out))
 have n6_ := A0_ (ho)
 clear BK1
 clear BK2
 clear HI0
 clear HO3
 clear HB
 clear HK
 clear HO_1
 have BK1 := n0_
 have BK2 := n1_
 have HI0 := n2_
 have HO3 := n3_
 have HB := n4_
 have HK := n5_
 have HO4 := n6_
 clear n0_ n1_ n2_ n3_ n4_ n5_ n6_
 clear ho hb hg hat
 obtain ⟨Ao4, co4, eo4⟩ := Kd.R_slice HO4.out
 (first | subst eo4 | (injection eo4 with f1_ f2_ f3_; have f4_ := f1_.symm; have f5_ := f3_.symm; clear f1_ f2_ f3_; subst f4_; subst f5_))
 refine hK.out _ _ (c3_ BK2) (fun hHeld => ?_)
 clear hK K
 refine nm_ 51 ?_
 refine pu_ 9 52 ?_
 refine last_ (i := 10) (N := none) #[true, true, true, true, true, true, true, true, true, true, true] rfl rfl (one_of HT_.out bfqv_) bi3y_ (fun K hK => ?_)
 have hs68 : w10.cell? ⟨gb2, 2, none⟩ = some (u317002) := (kc_ BK2.out 2).trans rfl
 have hfs68 := kf_ BK2.out 2
 have hns1_0 := NB1_2.out
 have hms1_0 := NB2_1.out
 refine skip_ (w1 := ?_) b139_ rfl ?_ ?_
 rotate_left
 ·go_simp
  rfl
 refine hK.out _ _ ?_
 clear hK K
 refine dn_ ?_
 have hnb3 := NB2_1.out
 have hnc3 := NB1_2.out
 have hnb4 := NB2_0.out
 have hnc4 := NB0_2.out
 have hcz2 := z3_ BK2
 have hnb5 := NB1_0.out
 have hnc5 := NB0_1.out
 have hcz3 := z3_ BK1
 try go_wp2
 refine bodyPost_ret (results_cell_row rfl _ _ gb1 28 #[.int .i64 x317000_45, .bool x317001_45, .slice Ao4 y3.length co4] (0, 0) _ rfl (u1_ BK1) Tryd.underlying28 rfl bfqv_) rfl ?_
 exact ⟨_, bnwh_, by (with_reducible repeat (first | apply ra_ | apply rn_ | apply rd_)); exact Kd.R_mono (rf_ (rf_ (rf_ (rf_ (Kd.R_types (Kd.R_types HO4.out BK2.out bi3y_) BK1.out bi3y_) (fun _ hk => hk.1.2) (.slice Ao4 y3.length co4)) k2_0 _) k2_0 _) k2_0 _) (fun _ hk => trivial), bxkc_, b2rv_, bgjc_⟩

mutual
def spec_l1Cur_shortRow.j0 : Nat → Bool → List Int → Int → Int → Int → Bool → List Int → Option (Int × Bool × List Int × Int × Int)
 | 0, _, _, _, _, _, _, _ => none
 | k + 1, x15, x1000, x1001, x1002, x354000, x354001, x354002 => if x15 = true then ((spec_l1Cur_pick.f x1000 x1001 x1002 8).bind fun bt357 => (spec_l1Cur_shortRow.j1 k x1000 bt357.2.1 bt357.2.2 (wrap64 (3 + bt357.1)) x354001 (([] : List Int)))) else (spec_l1Cur_shortRow.j1 k x1000 x1001 x1002 x354000 x354001 x354002)
def spec_l1Cur_shortRow.j1 : Nat → List Int → Int → Int → Int → Bool → List Int → Option (Int × Bool × List Int × Int × Int)
 | 0, _, _, _, _, _, _ => none
 | k + 1, x1000, x1001, x1002, x354000, x354001, x354002 => (spec_l2Row.f k x354000 x354001 x354002).bind fun t363 => (if t363 = true then ((spec_l1Cur_one.f x1000 x1001 x1002 3).bind fun bt364 => (spec_l1Cur_shortRow.j2 k bt364.1 x1000 bt364.2.1 bt364.2.2 x354000 x354001 x354002)) else (spec_l1Cur_shortRow.j2 k false x1000 x1001 x1002 x354000 x354001 x354002))
def spec_l1Cur_shortRow.j2 : Nat → Bool → List Int → Int → Int → Int → Bool → List Int → Option (Int × Bool × List Int × Int × Int)
 | 0, _, _, _, _, _, _, _ => none
 | k + 1, x27, x1000, x1001, x1002, x354000, x354001, x354002 => if x27 = true then ((some (([] : List Int) : List Int)).bind fun y367 => (if (x354002.length : Int) > 0 then ((spec_l1Cur_one.f x1000 x1001 x1002 2).bind fun bt370 => (if bt370.1 = true then ((spec_l1Cur_pick.f x1000 bt370.2.1 bt370.2.2 (x354002.length : Int)).bind fun bt373 => (if 0 ≤ bt373.1 then (if bt373.1 < (x354002.length : Int) then (if y367.length < 17592186044416 then (some (x354000, x354001, (y367 ++ [rd x354002 bt373.1]), bt373.2.1, bt373.2.2)) else (none)) else (none)) else (none))) else (some (x354000, x354001, y367, bt370.2.1, bt370.2.2)))) else (some (x354000, x354001, y367, x1001, x1002)))) else (some (x354000, x354001, x354002, x1001, x1002))
end
def spec_l1Cur_shortRow.f (k : Nat) (s0_0 : List Int) (s0_1 : Int) (s0_2 : Int) : Option (Int × Bool × List Int × Int × Int) := (spec_l1Cur_row.f k s0_0 s0_1 s0_2).bind fun bt346 => (if bt346.1 > 10 then ((spec_l1Cur_one.f s0_0 bt346.2.2.2.1 bt346.2.2.2.2 12).bind fun bt354 => (spec_l1Cur_shortRow.j0 k (!bt354.1) s0_0 bt354.2.1 bt354.2.2 bt346.1 bt346.2.1 bt346.2.2.1)) else (spec_l1Cur_shortRow.j0 k false s0_0 bt346.2.2.2.1 bt346.2.2.2.2 bt346.1 bt346.2.1 bt346.2.2.1))
theorem spec_l1Cur_shortRow.mono_l : ∀ k, (∀ y0 y1 y2 y3 y4 y5 y6, LeO (spec_l1Cur_shortRow.j0 k y0 y1 y2 y3 y4 y5 y6) (spec_l1Cur_shortRow.j0 (k + 1) y0 y1 y2 y3 y4 y5 y6)) ∧ (∀ y0 y1 y2 y3 y4 y5, LeO (spec_l1Cur_shortRow.j1 k y0 y1 y2 y3 y4 y5) (spec_l1Cur_shortRow.j1 (k + 1) y0 y1 y2 y3 y4 y5)) ∧ (∀ y0 y1 y2 y3 y4 y5 y6, LeO (spec_l1Cur_shortRow.j2 k y0 y1 y2 y3 y4 y5 y6) (spec_l1Cur_shortRow.j2 (k + 1) y0 y1 y2 y3 y4 y5 y6))
 | 0 => ⟨fun _ _ _ _ _ _ _ r h => by simp [spec_l1Cur_shortRow.j0] at h, fun _ _ _ _ _ _ r h => by simp [spec_l1Cur_shortRow.j1] at h, fun _ _ _ _ _ _ _ r h => by simp [spec_l1Cur_shortRow.j2] at h⟩
 | k + 1 => by
  obtain ⟨ih0, ih1, ih2⟩ := spec_l1Cur_shortRow.mono_l k
  refine ⟨?_, ?_, ?_⟩
  ·intro y0 y1 y2 y3 y4 y5 y6
   unfold spec_l1Cur_shortRow.j0
   repeat' with_reducible first | exact ih0 .. | exact ih1 .. | exact ih2 .. | exact spec_l1Cur_row.mono .. | exact spec_l2Row.mono .. | exact LeO.refl .. | exact LeO.none .. | refine LeO.ite ?_ ?_ | refine LeO.bind ?_ (fun _ => ?_)
  ·intro y0 y1 y2 y3 y4 y5
   unfold spec_l1Cur_shortRow.j1
   repeat' with_reducible first | exact ih0 .. | exact ih1 .. | exact ih2 .. | exact spec_l1Cur_row.mono .. | exact spec_l2Row.mono .. | exact LeO.refl .. | exact LeO.none .. | refine LeO.ite ?_ ?_ | refine LeO.bind ?_ (fun _ => ?_)
  ·intro y0 y1 y2 y3 y4 y5 y6
   unfold spec_l1Cur_shortRow.j2
   repeat' with_reducible first | exact ih0 .. | exact ih1 .. | exact ih2 .. | exact spec_l1Cur_row.mono .. | exact spec_l2Row.mono .. | exact LeO.refl .. | exact LeO.none .. | refine LeO.ite ?_ ?_ | refine LeO.bind ?_ (fun _ => ?_)
theorem spec_l1Cur_shortRow.mono : ∀ a0 a1 a2 k, LeO (spec_l1Cur_shortRow.f k a0 a1 a2) (spec_l1Cur_shortRow.f (k + 1) a0 a1 a2) := by
 intro a0 a1 a2 k
 obtain ⟨ih0, ih1, ih2⟩ := spec_l1Cur_shortRow.mono_l k
 unfold spec_l1Cur_shortRow.f
 repeat' with_reducible first | exact ih0 .. | exact ih1 .. | exact ih2 .. | exact spec_l1Cur_row.mono .. | exact spec_l2Row.mono .. | exact LeO.refl .. | exact LeO.none .. | refine LeO.ite ?_ ?_ | refine LeO.bind ?_ (fun _ => ?_)
def spec_l1Cur_shortRow.T9 : Bool × List (List Nat × List Nat) := (true, [([], []), ([], []), ([1], [1]), ([], []), ([], []), ([3, 4], [3, 4]), ([2, 5], [2, 5]), ([6], [6]), ([7], [7]), ([0, 8, 5], [0, 8]), ([9, 9, 0, 1, 2, 3, 4, 5, 6, 7, 8, 9], [0, 9])])
def spec_l1Cur_shortRow.B9 : List Nat := [0, 0, 2, 0, 0, 24, 62, 126, 254, 511, 1023]
theorem spec_l1Cur_shortRow.tab9 : rtab .any (opsOf Tryd.f76 9) = spec_l1Cur_shortRow.T9 := by kernel_rfl
theorem spec_l1Cur_shortRow.bits9 : waitsOk spec_l1Cur_shortRow.T9.2 spec_l1Cur_shortRow.B9 = true := by kernel_rfl
theorem spec_l1Cur_shortRow.calls (k : Nat) (g : Nat) (s0_0 : List Int) (s0_1 : Int) (s0_2 : Int) (r1 : Int) (r2 : Bool) (r3 : List Int) (r4 : Int) (r5 : Int) (w0 w : World) (hI : IsS75 w0 w g s0_0 s0_1 s0_2) (hB : Below w0.heap.size w0 w) (h : spec_l1Cur_shortRow.f k s0_0 s0_1 s0_2 = some (r1, r2, r3, r4, r5)) :
  Calls Tryd.prog 76 #[.pointer (some ⟨g, 0, none⟩)] w fun e w' => ∃ v2_ : Value, e = .returned (.agg #[.int .i64 r1, .bool r2, v2_]) ∧ Kd.R (Kd.int .i64) 3 w' w.heap.size (fun _ => True) v2_ r3 ∧ IsS75 w0 w' g s0_0 r4 r5 ∧ Below w0.heap.size w0 w' ∧ KeepBut w w' g none := by
 have hu28 := Tryd.underlying28
 have HI0 := A0_ hI
 have HK := A0_ (KeepBut.refl w g none)
 have HL := A0_ hB.size
 clear hI
 have HW0 := A0_ hB.size
 have HB := A0_ hB
 clear hB
 have H : ((spec_l1Cur_row.f k s0_0 s0_1 s0_2).bind fun bt1 => (if bt1.1 > 10 then ((spec_l1Cur_one.f s0_0 bt1.2.2.2.1 bt1.2.2.2.2 12).bind fun bt2 => (spec_l1Cur_shortRow.j0 k (!bt2.1) s0_0 bt2.2.1 bt2.2.2 bt1.1 bt1.2.1 bt1.2.2.1)) else (spec_l1Cur_shortRow.j0 k false s0_0 bt1.2.2.2.1 bt1.2.2.2.2 bt1.1 bt1.2.1 bt1.2.2.1))) = some (r1, r2, r3, r4, r5) := h
 clear h
 obtain ⟨⟨t1, t2, t3, t4, t5⟩, A2, H⟩ := o1_ H
 have HC3 := A0_ H
 clear H
 go_enter Tryd.func76, Tryd.ntmps76
 go_upto_region 2 with (first | ((with_reducible refine gd_ (N := 2) rfl ?_); refine bx_ 2 #[.int .i64 0, .bool false, .slice none 0 0] 28 ?_; intro gb1 hg w1 BK1 hb; replace HB := hb_ hb bkjh_; have GW1 := A0_ ((b7vg_ : w.heap.size ≤ gb1)); have GE1 := A0_ ((Nat.le_trans HW0.out (b7vg_ : w.heap.size ≤ gb1) : w0.heap.size ≤ gb1)); replace HK := A0_ (KeepBut.trans bjmx_ (KeepBut.of_below hb g none) (.inl rfl)); have NB0_1 := A0_ ((bzo9_ : g ≠ gb1)); have NB1_0 := A0_ ((b106_ : gb1 ≠ g)); replace HI0 := A0_ (IsS75.below b5hs_ hb); clear hb hg) | ((with_reducible refine gc_ (f := 75) rfl ?_); refine gl_ 7 Tryd.func75 #[.pointer (some ⟨g, 0, none⟩)] ?_; (with_reducible refine (spec_l1Cur_row.calls k g s0_0 s0_1 s0_2 t1 t2 t3 t4 t5 w0 _ ?side1 ?side2 A2.out).mono ?_); (case side1 => exact b9yh_); (case side2 => exact bois_); rintro e w2 ⟨v1, rfl, ho0, hi, hb, hk⟩; refine ⟨_, rfl, ?_⟩; replace BK1 := kb1_ BK1 hk NB1_0; have HO1 := A0_ (Kd.R_lower ho0 (keep_size (w := w) (g := g) (row := none) bcka_)); replace HK := A0_ (KeepBut.trans bcka_ hk (.inl rfl)); replace HB := A0_ (hb); replace HI0 := A0_ (hi); (try clear hb); (try clear hk); (try clear hi); (try clear ho0)) | ((with_reducible refine gd_ (N := 3) rfl ?_); refine bx_ 3 #[.int .i64 0, .bool false, .slice none 0 0] 28 ?_; intro gb2 hg w3 BK2 hb; replace HO1 := A0_ (Kd.R_below bsm5_ hb); replace HB := hb_ hb bois_; have GW2 := A0_ ((bejl_ : w.heap.size ≤ gb2)); have GE2 := A0_ ((Nat.le_trans HW0.out (bejl_ : w.heap.size ≤ gb2) : w0.heap.size ≤ gb2)); replace HK := A0_ (KeepBut.trans bcka_ (KeepBut.of_below hb g none) (.inl rfl)); have NB1_2 := nl_ hg BK1; have NB2_1 := ng_ hg BK1; replace BK1 := k1_ BK1 hb; have NB0_2 := A0_ ((bpym_ : g ≠ gb2)); have NB2_0 := A0_ ((bmhp_ : gb2 ≠ g)); replace HI0 := A0_ (IsS75.below b9yh_ hb); clear hb hg; have hnb1 := NB2_1.out; have hnc1 := NB1_2.out; have hnb2 := NB2_0.out; have hnc2 := NB0_2.out; have hcz1 := z3_ BK2; obtain ⟨Ao1, co1, eo1⟩ := Kd.R_slice HO1.out; subst eo1))
 (try simp only [Act.put, sa_, sz_, ss_])
 go_cut [15] (fun v3 wc => ∃ (kq : Nat) (x15_2 : Bool) (x1001_2 : Int) (x1002_2 : Int), v3 = .bool x15_2 ∧ Aside0 (spec_l1Cur_shortRow.j0 kq x15_2 s0_0 x1001_2 x1002_2 t1 t2 t3 = some (r1, r2, r3, r4, r5)) ∧ Aside0 (kq ≤ k) ∧ Aside0 (Kd.R (Kd.int .i64) 3 wc w.heap.size (fun _ => True) (.slice Ao1 t3.length co1) t3) ∧ Aside0 (wc.heap[gb1]? = some (.cells #[.int .i64 0, .bool false, (.slice none 0 0)] 28 (0, 0))) ∧ Aside0 (wc.heap[gb2]? = some (.cells #[.int .i64 t1, .bool t2, (.slice Ao1 t3.length co1)] 28 (0, 0))) ∧ Aside0 (IsS75 w0 wc g s0_0 x1001_2 x1002_2) ∧ Aside0 (KeepBut w wc g none) ∧ Aside0 (Below w0.heap.size w0 wc))
 case first =>
  have H := HC3.out
  clear HC3
  by_cases c1 : t1 > 10
  case neg =>
   rw [if_neg c1] at H
   have c1b0 : decide (10 < t1) = false := decide_eq_false c1
   clear c1
   (first | rw [c1b0] | (simp only [i64_w, i32_w]; rw [c1b0]) | skip)
   have H' := A0_ H
   clear H
   have hnb3 := NB2_1.out
   have hnc3 := NB1_2.out
   have hnb4 := NB2_0.out
   have hnc4 := NB0_2.out
   have hcz2 := z3_ BK2
   go_wp2
   go_meet
   exact ⟨_, (false), (t4), (t5), b2ew_, H', ⟨bbn0_⟩, ⟨bqc5_⟩, ⟨u1_ BK1⟩, ⟨u1_ BK2⟩, ⟨bxkc_⟩, ⟨bgjc_⟩, ⟨b2rv_⟩⟩
  rw [if_pos c1] at H
  have c1b0 : decide (10 < t1) = true := dt_ c1
  clear c1
  (first | rw [c1b0] | (simp only [i64_w, i32_w]; rw [c1b0]) | skip)
  obtain ⟨⟨t6, t7, t8⟩, A4, H⟩ := o1_ H
  have H' := A0_ H
  clear H
  have hnb3 := NB2_1.out
  have hnc3 := NB1_2.out
  have hnb4 := NB2_0.out
  have hnc4 := NB0_2.out
  have hcz2 := z3_ BK2
  go_wp2_with (first | (go_at_call 51; (with_reducible refine (spec_l1Cur_one.calls g s0_0 t4 t5 12 t6 t7 t8 w0 _ ?side1 ?side2 A4.out).mono ?_); (case side1 => exact bxkc_); (case side2 => exact b2rv_); rintro e w4 ⟨rfl, hi, hb, hk⟩; replace BK1 := kb1_ BK1 hk NB1_0; replace HO1 := A0_ (Kd.R_mono (Kd.R_keep (IsS75.apart (show IsS75 w0 _ g s0_0 t4 t5 from bxkc_) byf5_ bi3y_) hk (fun _ h => h.2)) (fun _ h => h.1)); replace BK2 := A0_ (KeepBut.blk hk (g' := gb2) (o := .cells #[.int .i64 t1, .bool t2, .slice Ao1 t3.length co1] 28 (0, 0)) (u1_ BK2) NB2_0.out bxka_); replace HK := A0_ (KeepBut.trans bgjc_ hk (.inl rfl)); replace HB := A0_ (hb); replace HI0 := A0_ (hi); (try clear hb); (try clear hk); (try clear hi)))
  go_meet
  exact ⟨_, (!t6), (t7), (t8), b2ew_, H', ⟨bbn0_⟩, ⟨bsm5_⟩, ⟨u1_ BK1⟩, ⟨u1_ BK2⟩, ⟨bxkc_⟩, ⟨bgjc_⟩, ⟨b2rv_⟩⟩
 clear HC3
 (try clear hcz1); (try clear hfz1)
 obtain ⟨kq, x15_2, x1001_2, x1002_2, rfl, HA, HJ1, HO_1, BK1, BK2, HI0, HK, HB⟩ := hcut
 cases kq with | zero => exact absurd HA.out (by simp [spec_l1Cur_shortRow.j0]) | succ kj1 => ?_
 have H := HA.out
 clear HA
 simp only [spec_l1Cur_shortRow.j0] at H
 have HC20 := A0_ H
 clear H
 go_upto_if 15 with (fail)
 go_cut [] (fun wc => ∃ (kq : Nat) (x1001_19 : Int) (x1002_19 : Int) (x354000_19 : Int) (x354002_19 : List Int) (u354002 : Value), Aside0 (spec_l1Cur_shortRow.j1 kq s0_0 x1001_19 x1002_19 x354000_19 t2 x354002_19 = some (r1, r2, r3, r4, r5)) ∧ Aside0 (kq ≤ kj1) ∧ Aside0 (Kd.R (Kd.int .i64) 3 wc w.heap.size (fun _ => True) u354002 x354002_19) ∧ Aside0 (wc.heap[gb1]? = some (.cells #[.int .i64 0, .bool false, (.slice none 0 0)] 28 (0, 0))) ∧ Aside0 (wc.heap[gb2]? = some (.cells #[.int .i64 x354000_19, .bool t2, u354002] 28 (0, 0))) ∧ Aside0 (IsS75 w0 wc g s0_0 x1001_19 x1002_19) ∧ Aside0 (KeepBut w wc g none) ∧ Aside0 (Below w0.heap.size w0 wc))
 case first =>
  have H := HC20.out
  clear HC20
  by_cases c1 : x15_2 = true
  case neg =>
   obtain rfl := bf_.mpr c1
   rw [if_neg ft_] at H
   have H' := A0_ H
   clear H
   go_wp2
   go_meet
   exact ⟨_, (x1001_2), (x1002_2), (t1), (t3), (.slice Ao1 t3.length co1), H', ⟨bust_⟩, ⟨bwik_⟩, ⟨u1_ BK1⟩, ⟨u1_ BK2⟩, ⟨bxkc_⟩, ⟨bgjc_⟩, ⟨b2rv_⟩⟩
  subst c1
  rw [if_pos rfl] at H
  obtain ⟨⟨t6, t7, t8⟩, A4, H⟩ := o1_ H
  obtain ⟨y1, hy1⟩ : ∃ y_ : List Int, y_ = (([] : List Int)) := ⟨_, rfl⟩
  replace H : (spec_l1Cur_shortRow.j1 kj1 s0_0 t7 t8 (wrap64 (3 + t6)) t2 y1) = some (r1, r2, r3, r4, r5) := bgiq_
  have Ny1 := A0_ hy1
  clear hy1
  have H' := A0_ H
  clear H
  go_wp2_with (first | ((with_reducible refine gc_ (f := 61) rfl ?_); refine gl_ 17 Tryd.func61 #[.pointer (some ⟨g, 0, none⟩), .int .i64 8] ?_; (with_reducible refine (spec_l1Cur_pick.calls g s0_0 x1001_2 x1002_2 8 t6 t7 t8 w0 _ ?side1 ?side2 A4.out).mono ?_); (case side1 => exact bxkc_); (case side2 => exact b2rv_); rintro e w4 ⟨rfl, hi, hb, hk⟩; refine ⟨_, rfl, ?_⟩; replace HO_1 := A0_ (Kd.R_mono (Kd.R_keep (IsS75.apart (show IsS75 w0 _ g s0_0 x1001_2 x1002_2 from bxkc_) bwik_ bi3y_) hk (fun _ h => h.2)) (fun _ h => h.1)); replace BK1 := kb1_ BK1 hk NB1_0; replace BK2 := kb1_ BK2 hk NB2_0; replace HK := A0_ (KeepBut.trans bgjc_ hk (.inl rfl)); replace HB := A0_ (hb); replace HI0 := A0_ (hi); (try clear hb); (try clear hk); (try clear hi); have hnb3 := NB2_1.out; have hnc3 := NB1_2.out; have hnb4 := NB2_0.out; have hnc4 := NB0_2.out; have hcz2 := z3_ BK2) | ((with_reducible refine gd_ (N := 20) rfl ?_); refine Kd.R_lit (Kd.int .i64) _ 3 ?hg (N := 20) ?hd (xs := ([] : List Int)) (inner := []) (ok := fun _ => True) (okp := fun _ => True) ?hr ?hp (fun _ hk => hk) trivial (Below.refl _ _) (Nat.le_refl _) bxka_ ?_; (case hd => rfl); (case hg => rfl); (case hr => go_simp; first | done | rfl); (case hp => exact (Reps.none _ _)); intro v4 w5 ho28 hb hg_ hnew_; clear hg_ hnew_; (first | rw [← Ny1.out] at ho28 | (simp only [Int.reduceToNat] at ho28; rw [← Ny1.out] at ho28)); have HO2 := A0_ (Kd.R_lower (Kd.R_new' ho28 (Kd.R_lt bwdj_)) (keep_size (w := w) (g := g) (row := none) bgjc_)); replace HO_1 := A0_ (Kd.R_elder' bwdj_ (Kd.R_base ho28) hb); replace BK1 := k1_ BK1 hb; replace BK2 := k2_ (.cells #[.int .i64 (wrap64 (3 + t6)), .bool t2, .slice Ao1 t3.length co1] 28 (0, 0)) BK2 hb; replace HK := A0_ (KeepBut.trans bgjc_ (KeepBut.of_below hb g none) (.inl rfl)); replace HB := hb_ hb b2rv_; replace HI0 := A0_ (IsS75.below (show IsS75 w0 (w4.setCell ⟨gb2, 0, none⟩ (.int .i64 (wrap64 (3 + t6)))) g s0_0 t7 t8 from bxkc_) hb); clear hb ho28; obtain ⟨Ao2, co2, eo2⟩ := Kd.R_slice HO2.out; subst eo2; have hcz3 := z3_ BK2))
  go_meet
  exact ⟨_, (t7), (t8), (wrap64 (3 + t6)), (y1), (.slice Ao2 y1.length co2), H', ⟨bust_⟩, ⟨by (with_reducible repeat (first | apply ra_ | apply rn_ | apply rd_)); exact Kd.R_mono (rf_ (Kd.R_types HO2.out BK2.out bi3y_) k2_0 _) (fun _ hk => trivial)⟩, ⟨u1_ BK1⟩, ⟨u1_ BK2⟩, ⟨bxkc_⟩, ⟨bgjc_⟩, ⟨b2rv_⟩⟩
 clear HC20
 (try clear hcz1); (try clear hfz1)
 obtain ⟨kq, x1001_19, x1002_19, x354000_19, x354002_19, u354002, HA, HJ2, HO_1, BK1, BK2, HI0, HK, HB⟩ := hcut
 cases kq with | zero => exact absurd HA.out (by simp [spec_l1Cur_shortRow.j1]) | succ kj2 => ?_
 have H := HA.out
 clear HA
 simp only [spec_l1Cur_shortRow.j1] at H
 have HC31 := A0_ H
 clear H
 go_upto_region 5 with (fail)
 go_cut [27] (fun v4 wc => ∃ (kq : Nat) (x27_30 : Bool) (x1001_30 : Int) (x1002_30 : Int), v4 = .bool x27_30 ∧ Aside0 (spec_l1Cur_shortRow.j2 kq x27_30 s0_0 x1001_30 x1002_30 x354000_19 t2 x354002_19 = some (r1, r2, r3, r4, r5)) ∧ Aside0 (kq ≤ kj2) ∧ Aside0 (Kd.R (Kd.int .i64) 3 wc w.heap.size (fun _ => True) u354002 x354002_19) ∧ Aside0 (wc.heap[gb1]? = some (.cells #[.int .i64 0, .bool false, (.slice none 0 0)] 28 (0, 0))) ∧ Aside0 (wc.heap[gb2]? = some (.cells #[.int .i64 x354000_19, .bool t2, u354002] 28 (0, 0))) ∧ Aside0 (IsS75 w0 wc g s0_0 x1001_30 x1002_30) ∧ Aside0 (KeepBut w wc g none) ∧ Aside0 (Below w0.heap.size w0 wc))
 case first =>
  have H := HC31.out
  clear HC31
  obtain ⟨t6, A4, H⟩ := o1_ H
  by_cases c1 : t6 = true
  case neg =>
   obtain rfl := bf_.mpr c1
   rw [if_neg ft_] at H
   have H' := A0_ H
   clear H
   have hnb3 := NB2_1.out
   have hnc3 := NB1_2.out
   have hnb4 := NB2_0.out
   have hnc4 := NB0_2.out
   have hcz2 := z3_ BK2
   obtain ⟨Ao2, co2, eo2⟩ := Kd.R_slice HO_1.out
   subst eo2
   go_wp2_with (first | ((with_reducible refine gc_ (f := 81) rfl ?_); refine gl_ 23 Tryd.func81 #[.agg #[.int .i64 x354000_19, .bool t2, .slice Ao2 x354002_19.length co2]] ?_; (with_reducible refine (spec_l2Row.calls kj2 x354000_19 t2 _ _ x354002_19 false _ ?side1 ?side2 A4.out).mono ?_); (case side1 => exact btcf_); (case side2 => exact (rr_ HO_1.out).2.1); rintro e w4 ⟨rfl, hb⟩; refine ⟨_, rfl, ?_⟩; replace HO_1 := A0_ (Kd.R_below bwik_ hb); replace BK1 := k1_ BK1 hb; replace BK2 := k1_ BK2 hb; replace HK := A0_ (KeepBut.trans bgjc_ (KeepBut.of_below hb g none) (.inl rfl)); replace HB := hb_ hb b2rv_; replace HI0 := A0_ (IsS75.below bxkc_ hb); (try clear hb)))
   go_meet
   exact ⟨_, (false), (x1001_19), (x1002_19), b2ew_, H', ⟨bjw4_⟩, ⟨bwik_⟩, ⟨u1_ BK1⟩, ⟨u1_ BK2⟩, ⟨bxkc_⟩, ⟨bgjc_⟩, ⟨b2rv_⟩⟩
  subst c1
  rw [if_pos rfl] at H
  obtain ⟨⟨t7, t8, t9⟩, A6, H⟩ := o1_ H
  have H' := A0_ H
  clear H
  have hnb3 := NB2_1.out
  have hnc3 := NB1_2.out
  have hnb4 := NB2_0.out
  have hnc4 := NB0_2.out
  have hcz2 := z3_ BK2
  obtain ⟨Ao2, co2, eo2⟩ := Kd.R_slice HO_1.out
  subst eo2
  go_wp2_with (first | ((with_reducible refine gc_ (f := 81) rfl ?_); refine gl_ 23 Tryd.func81 #[.agg #[.int .i64 x354000_19, .bool t2, .slice Ao2 x354002_19.length co2]] ?_; (with_reducible refine (spec_l2Row.calls kj2 x354000_19 t2 _ _ x354002_19 true _ ?side1 ?side2 A4.out).mono ?_); (case side1 => exact btcf_); (case side2 => exact (rr_ HO_1.out).2.1); rintro e w4 ⟨rfl, hb⟩; refine ⟨_, rfl, ?_⟩; replace HO_1 := A0_ (Kd.R_below bwik_ hb); replace BK1 := k1_ BK1 hb; replace BK2 := k1_ BK2 hb; replace HK := A0_ (KeepBut.trans bgjc_ (KeepBut.of_below hb g none) (.inl rfl)); replace HB := hb_ hb b2rv_; replace HI0 := A0_ (IsS75.below bxkc_ hb); (try clear hb)) | (go_at_call 51; (with_reducible refine (spec_l1Cur_one.calls g s0_0 x1001_19 x1002_19 3 t7 t8 t9 w0 _ ?side1 ?side2 A6.out).mono ?_); (case side1 => exact bxkc_); (case side2 => exact b2rv_); rintro e w5 ⟨rfl, hi, hb, hk⟩; replace HO_1 := A0_ (Kd.R_mono (Kd.R_keep (IsS75.apart (show IsS75 w0 _ g s0_0 x1001_19 x1002_19 from bxkc_) bwik_ bi3y_) hk (fun _ h => h.2)) (fun _ h => h.1)); replace BK1 := kb1_ BK1 hk NB1_0; replace BK2 := kb1_ BK2 hk NB2_0; replace HK := A0_ (KeepBut.trans bgjc_ hk (.inl rfl)); replace HB := A0_ (hb); replace HI0 := A0_ (hi); (try clear hb); (try clear hk); (try clear hi)))
  go_meet
  exact ⟨_, (t7), (t8), (t9), b2ew_, H', ⟨bjw4_⟩, ⟨bwik_⟩, ⟨u1_ BK1⟩, ⟨u1_ BK2⟩, ⟨bxkc_⟩, ⟨bgjc_⟩, ⟨b2rv_⟩⟩
 clear HC31
 (try clear hcz1); (try clear hfz1)
 obtain ⟨kq, x27_30, x1001_30, x1002_30, rfl, HA, HJ3, HO_1, BK1, BK2, HI0, HK, HB⟩ := hcut
 cases kq with | zero => exact absurd HA.out (by simp [spec_l1Cur_shortRow.j2]) | succ kj3 => ?_
 have H := HA.out
 clear HA
 simp only [spec_l1Cur_shortRow.j2] at H
 by_cases c1 : x27_30 = true
 case neg =>
  obtain rfl := bf_.mpr c1
  rw [if_neg ft_] at H
  simp only [sj_, pj_] at H
  obtain ⟨rfl, rfl, rfl, rfl, rfl⟩ := H
  have hnb3 := NB2_1.out
  have hnc3 := NB1_2.out
  have hnb4 := NB2_0.out
  have hnc4 := NB0_2.out
  have hcz2 := z3_ BK2
  have hnb5 := NB1_0.out
  have hnc5 := NB0_1.out
  have hcz3 := z3_ BK1
  obtain ⟨Ao2, co2, eo2⟩ := Kd.R_slice HO_1.out
  subst eo2
  go_wp2
  refine bodyPost_ret (results_cell_row rfl _ _ gb1 28 #[.int .i64 x354000_19, .bool t2, .slice Ao2 x354002_19.length co2] (0, 0) _ rfl (u1_ BK1) Tryd.underlying28 rfl bfqv_) rfl ?_
  exact ⟨_, bnwh_, bhmh_, bxkc_, b2rv_, bgjc_⟩
 subst c1
 rw [if_pos rfl] at H
 obtain ⟨y1, hy1⟩ : ∃ y_ : List Int, y_ = (([] : List Int)) := ⟨_, rfl⟩
 replace H : (if (x354002_19.length : Int) > 0 then ((spec_l1Cur_one.f s0_0 x1001_30 x1002_30 2).bind fun bt3 => (if bt3.1 = true then ((spec_l1Cur_pick.f s0_0 bt3.2.1 bt3.2.2 (x354002_19.length : Int)).bind fun bt4 => (if 0 ≤ bt4.1 then (if bt4.1 < (x354002_19.length : Int) then (if y1.length < 17592186044416 then (some (x354000_19, t2, (y1 ++ [rd x354002_19 bt4.1]), bt4.2.1, bt4.2.2)) else (none)) else (none)) else (none))) else (some (x354000_19, t2, y1, bt3.2.1, bt3.2.2)))) else (some (x354000_19, t2, y1, x1001_30, x1002_30))) = some (r1, r2, r3, r4, r5) := bgiq_
 have Ny1 := A0_ hy1
 clear hy1
 by_cases c2 : (x354002_19.length : Int) > 0
 case neg =>
  rw [if_neg c2] at H
  have c2b0 : decide (0 < (x354002_19.length : Int)) = false := decide_eq_false c2
  have c2b1 : decide (0 < x354002_19.length) = false := decide_eq_false bh19_
  clear c2
  simp only [sj_, pj_] at H
  obtain ⟨rfl, rfl, rfl, rfl, rfl⟩ := H
  go_wp2_with (first | ((with_reducible refine gd_ (N := 28) rfl ?_); refine Kd.R_lit (Kd.int .i64) _ 3 ?hg (N := 28) ?hd (xs := ([] : List Int)) (inner := []) (ok := fun _ => True) (okp := fun _ => True) ?hr ?hp (fun _ hk => hk) trivial (Below.refl _ _) (Nat.le_refl _) bxka_ ?_; (case hd => rfl); (case hg => rfl); (case hr => go_simp; first | done | rfl); (case hp => exact (Reps.none _ _)); intro v5 w4 ho80 hb hg_ hnew_; clear hg_ hnew_; (first | rw [← Ny1.out] at ho80 | (simp only [Int.reduceToNat] at ho80; rw [← Ny1.out] at ho80)); have HO2 := A0_ (Kd.R_lower (Kd.R_new' ho80 (Kd.R_lt bwik_)) (keep_size (w := w) (g := g) (row := none) bgjc_)); replace HO_1 := A0_ (Kd.R_elder' bwik_ (Kd.R_base ho80) hb); replace BK1 := k1_ BK1 hb; replace BK2 := k1_ BK2 hb; replace HK := A0_ (KeepBut.trans bgjc_ (KeepBut.of_below hb g none) (.inl rfl)); replace HB := hb_ hb b2rv_; replace HI0 := A0_ (IsS75.below bxkc_ hb); clear hb ho80; have hnb3 := NB2_1.out; have hnc3 := NB1_2.out; have hnb4 := NB2_0.out; have hnc4 := NB0_2.out; have hcz2 := z3_ BK2; obtain ⟨Ao2, co2, eo2⟩ := Kd.R_slice HO_1.out; subst eo2; obtain ⟨Ao3, co3, eo3⟩ := Kd.R_slice HO2.out; subst eo3; have hnb5 := NB1_0.out; have hnc5 := NB0_1.out; have hcz3_0 : w4.cell? ⟨gb1, 0, none⟩ = some (.int .i64 0) := (kc_ BK1.out 0).trans rfl; have hcz3_1 : w4.cell? ⟨gb1, 1, none⟩ = some (.bool false) := (kc_ BK1.out 1).trans rfl; have hcz3_2 : w4.cell? ⟨gb1, 2, none⟩ = some (.slice none 0 0) := (kc_ BK1.out 2).trans rfl; have hfz3_0 := kf_ BK1.out 0; have hfz3_1 := kf_ BK1.out 1; have hfz3_2 := kf_ BK1.out 2))
  refine bodyPost_ret (results_cell_row rfl _ _ gb1 28 #[.int .i64 x354000_19, .bool t2, .slice Ao3 y1.length co3] (0, 0) _ rfl (u1_ BK1) Tryd.underlying28 rfl bfqv_) rfl ?_
  exact ⟨_, bnwh_, by0x_, bxkc_, b2rv_, bgjc_⟩
 rw [if_pos c2] at H
 have c2b0 : decide (0 < (x354002_19.length : Int)) = true := dt_ c2
 have c2b1 : decide (0 < x354002_19.length) = true := dt_ bh19_
 clear c2
 obtain ⟨⟨t6, t7, t8⟩, A4, H⟩ := o1_ H
 by_cases c3 : t6 = true
 case neg =>
  obtain rfl := bf_.mpr c3
  rw [if_neg ft_] at H
  simp only [sj_, pj_] at H
  obtain ⟨rfl, rfl, rfl, rfl, rfl⟩ := H
  go_wp2_with (first | ((with_reducible refine gd_ (N := 28) rfl ?_); refine Kd.R_lit (Kd.int .i64) _ 3 ?hg (N := 28) ?hd (xs := ([] : List Int)) (inner := []) (ok := fun _ => True) (okp := fun _ => True) ?hr ?hp (fun _ hk => hk) trivial (Below.refl _ _) (Nat.le_refl _) bxka_ ?_; (case hd => rfl); (case hg => rfl); (case hr => go_simp; first | done | rfl); (case hp => exact (Reps.none _ _)); intro v5 w4 ho69 hb hg_ hnew_; clear hg_ hnew_; (first | rw [← Ny1.out] at ho69 | (simp only [Int.reduceToNat] at ho69; rw [← Ny1.out] at ho69)); have HO2 := A0_ (Kd.R_lower (Kd.R_new' ho69 (Kd.R_lt bwik_)) (keep_size (w := w) (g := g) (row := none) bgjc_)); replace HO_1 := A0_ (Kd.R_elder' bwik_ (Kd.R_base ho69) hb); replace BK1 := k1_ BK1 hb; replace BK2 := k1_ BK2 hb; replace HK := A0_ (KeepBut.trans bgjc_ (KeepBut.of_below hb g none) (.inl rfl)); replace HB := hb_ hb b2rv_; replace HI0 := A0_ (IsS75.below bxkc_ hb); clear hb ho69; have hnb3 := NB2_1.out; have hnc3 := NB1_2.out; have hnb4 := NB2_0.out; have hnc4 := NB0_2.out; have hcz2 := z3_ BK2; obtain ⟨Ao2, co2, eo2⟩ := Kd.R_slice HO_1.out; subst eo2) | (go_at_call 51; (with_reducible refine (spec_l1Cur_one.calls g s0_0 x1001_30 x1002_30 2 false t7 t8 w0 _ ?side1 ?side2 A4.out).mono ?_); (case side1 => exact bxkc_); (case side2 => exact b2rv_); rintro e w5 ⟨rfl, hi, hb, hk⟩; replace HO_1 := A0_ (Kd.R_mono (Kd.R_keep (IsS75.apart (show IsS75 w0 _ g s0_0 x1001_30 x1002_30 from bxkc_) bwik_ bi3y_) hk (fun _ h => h.2)) (fun _ h => h.1)); replace BK1 := kb1_ BK1 hk NB1_0; replace BK2 := kb1_ BK2 hk NB2_0; replace HO2 := A0_ (Kd.R_mono (Kd.R_keep (IsS75.apart (show IsS75 w0 _ g s0_0 x1001_30 x1002_30 from bxkc_) b9so_ bi3y_) hk (fun _ h => h.2)) (fun _ h => h.1)); replace HK := A0_ (KeepBut.trans bgjc_ hk (.inl rfl)); replace HB := A0_ (hb); replace HI0 := A0_ (hi); (try clear hb); (try clear hk); (try clear hi); obtain ⟨Ao3, co3, eo3⟩ := Kd.R_slice HO2.out; subst eo3; have hcz3 := z3_ BK2; have hnb5 := NB1_0.out; have hnc5 := NB0_1.out; have hcz4_0 : w5.cell? ⟨gb1, 0, none⟩ = some (.int .i64 0) := (kc_ BK1.out 0).trans rfl; have hcz4_1 : w5.cell? ⟨gb1, 1, none⟩ = some (.bool false) := (kc_ BK1.out 1).trans rfl; have hcz4_2 : w5.cell? ⟨gb1, 2, none⟩ = some (.slice none 0 0) := (kc_ BK1.out 2).trans rfl; have hfz4_0 := kf_ BK1.out 0; have hfz4_1 := kf_ BK1.out 1; have hfz4_2 := kf_ BK1.out 2))
  refine bodyPost_ret (results_cell_row rfl _ _ gb1 28 #[.int .i64 x354000_19, .bool t2, .slice Ao3 y1.length co3] (0, 0) _ rfl (u1_ BK1) Tryd.underlying28 rfl bfqv_) rfl ?_
  exact ⟨_, bnwh_, by0x_, bxkc_, b2rv_, bgjc_⟩
 subst c3
 rw [if_pos rfl] at H
 obtain ⟨⟨t9, t10, t11⟩, A6, H⟩ := o1_ H
 by_cases c4 : 0 ≤ t9
 case neg =>
  rw [if_neg c4] at H
  exact absurd H bxka_
 rw [if_pos c4] at H
 have c4b0 : decide (0 ≤ t9) = true := dt_ c4
 clear c4
 by_cases c5 : t9 < (x354002_19.length : Int)
 case neg =>
  rw [if_neg c5] at H
  exact absurd H bxka_
 rw [if_pos c5] at H
 have c5b0 : decide (t9 < (x354002_19.length : Int)) = true := dt_ c5
 clear c5
 by_cases c6 : y1.length < 17592186044416
 case neg =>
  rw [if_neg c6] at H
  exact absurd H bxka_
 rw [if_pos c6] at H
 have LMc1 := A0_ c6
 clear c6
 obtain ⟨y2, hy2⟩ : ∃ y_ : List Int, y_ = (y1 ++ [rd x354002_19 t9]) := ⟨_, rfl⟩
 replace H : (some (x354000_19, t2, y2, t10, t11)) = some (r1, r2, r3, r4, r5) := bscs_
 have Ny2 := A0_ hy2
 clear hy2
 simp only [sj_, pj_] at H
 obtain ⟨rfl, rfl, rfl, rfl, rfl⟩ := H
 try go_wp2_with (first | ((with_reducible refine gd_ (N := 28) rfl ?_); refine Kd.R_lit (Kd.int .i64) _ 3 ?hg (N := 28) ?hd (xs := ([] : List Int)) (inner := []) (ok := fun _ => True) (okp := fun _ => True) ?hr ?hp (fun _ hk => hk) trivial (Below.refl _ _) (Nat.le_refl _) bxka_ ?_; (case hd => rfl); (case hg => rfl); (case hr => go_simp; first | done | rfl); (case hp => exact (Reps.none _ _)); intro v5 w4 ho55 hb hg_ hnew_; clear hg_ hnew_; (first | rw [← Ny1.out] at ho55 | (simp only [Int.reduceToNat] at ho55; rw [← Ny1.out] at ho55)); have HO2 := A0_ (Kd.R_lower (Kd.R_new' ho55 (Kd.R_lt bwik_)) (keep_size (w := w) (g := g) (row := none) bgjc_)); replace HO_1 := A0_ (Kd.R_elder' bwik_ (Kd.R_base ho55) hb); replace BK1 := k1_ BK1 hb; replace BK2 := k1_ BK2 hb; replace HK := A0_ (KeepBut.trans bgjc_ (KeepBut.of_below hb g none) (.inl rfl)); replace HB := hb_ hb b2rv_; replace HI0 := A0_ (IsS75.below bxkc_ hb); clear hb ho55; have hnb3 := NB2_1.out; have hnc3 := NB1_2.out; have hnb4 := NB2_0.out; have hnc4 := NB0_2.out; have hcz2 := z3_ BK2; obtain ⟨Ao2, co2, eo2⟩ := Kd.R_slice HO_1.out; subst eo2) | (go_at_call 51; (with_reducible refine (spec_l1Cur_one.calls g s0_0 x1001_30 x1002_30 2 true t7 t8 w0 _ ?side1 ?side2 A4.out).mono ?_); (case side1 => exact bxkc_); (case side2 => exact b2rv_); rintro e w5 ⟨rfl, hi, hb, hk⟩; replace HO_1 := A0_ (Kd.R_mono (Kd.R_keep (IsS75.apart (show IsS75 w0 _ g s0_0 x1001_30 x1002_30 from bxkc_) bwik_ bi3y_) hk (fun _ h => h.2)) (fun _ h => h.1)); replace BK1 := kb1_ BK1 hk NB1_0; replace BK2 := kb1_ BK2 hk NB2_0; replace HO2 := A0_ (Kd.R_mono (Kd.R_keep (IsS75.apart (show IsS75 w0 _ g s0_0 x1001_30 x1002_30 from bxkc_) b9so_ bi3y_) hk (fun _ h => h.2)) (fun _ h => h.1)); replace HK := A0_ (KeepBut.trans bgjc_ hk (.inl rfl)); replace HB := A0_ (hb); replace HI0 := A0_ (hi); (try clear hb); (try clear hk); (try clear hi)))
 replace HO_1 := A0_ (rd_ HO_1.out)
 replace HO2 := A0_ (rd_ HO2.out)
 replace BK1 := A0_ (kd_ BK1.out)
 replace BK2 := A0_ (kd_ BK2.out)
 replace HI0 := A0_ (IsS75.drew HI0.out)
 replace HK := A0_ (keep_drew HK.out)
 replace HB := A0_ (bd_ HB.out)
 have p1 : 0 ≤ (t9 : Int) := od_ bpil_
 have q1 : t9 < (x354002_19.length : Int) := od_ bpil_
 obtain ⟨ad1, e1, hx1_0⟩ := Kd.at_int (rr_ HO_1.out).2.2 t9 p1 q1
 cases e1
 replace p1 := eq_true p1
 replace q1 := eq_true q1
 refine start_ (n := 11) (S := fun w' => w'.cell? ⟨gb2, 0, none⟩ = some (.int .i64 x354000_19) ∧ w'.cell? ⟨gb2, 1, none⟩ = some (.bool t2) ∧ w'.cell? ⟨gb2, 2, none⟩ = some (.slice (some ad1) x354002_19.length co2) ∧ w'.cell? (ad1.add (t9).toNat) = some (.int .i64 (rd x354002_19 t9))) (ds := [8, 9]) #[false, false, false, false, false, false, false, false, false, false, false] bfqv_ rfl rfl ⟨(kc_ BK2.out 0).trans rfl, (kc_ BK2.out 1).trans rfl, (kc_ BK2.out 2).trans rfl, hx1_0⟩ (fun hHeld => ?_); refine with_tabW spec_l1Cur_shortRow.tab9 spec_l1Cur_shortRow.bits9 (fun HT_ HW_ => ?_)
 generalize w5.drew = w6 at HO_1 HO2 BK1 BK2 HI0 HK HB hx1_0 hHeld ⊢
 refine pu_ 0 38 ?_
 refine pu_ 1 39 ?_
 refine pu_ 3 41 ?_
 refine pu_ 4 42 ?_
 refine tk_ 2 40 hHeld ?_
 refine on_ 5 (some 43) (fun K hK => ?_)
 refine gs_ Tryd.func61 #[.pointer (some ⟨g, 0, none⟩), .int .i64 (x354002_19.length : Int)] ?_
 with_reducible refine (spec_l1Cur_pick.calls g s0_0 t7 t8 (x354002_19.length : Int) t9 t10 t11 w0 _ ?side1 ?side2 A6.out).mono ?_
 (case side1 => exact bxkc_)
 (case side2 => exact b2rv_)
 rintro e w7 ⟨rfl, hi, hb, hk⟩
 have HS3_ := keep_cell hk (hHeld.2.2.2) (by first | (rw [add_block]; exact Kd.own_blk (IsS75.own_ne HI0.out HO_1.out bi3y_)) | (show (Addr.add _ _).block ≠ _; rw [add_block]; exact Kd.own_blk (IsS75.own_ne HI0.out HO_1.out bi3y_)) | exact Kd.own_blk (IsS75.own_ne HI0.out HO_1.out bi3y_))
 refine ⟨_, rfl, ?_⟩
 replace HO_1 := A0_ (Kd.R_mono (Kd.R_keep (IsS75.apart (show IsS75 w0 _ g s0_0 t7 t8 from bxkc_) bwik_ bi3y_) hk (fun _ h => h.2)) (fun _ h => h.1))
 replace BK1 := kb1_ BK1 hk NB1_0
 replace BK2 := kb1_ BK2 hk NB2_0
 replace HO2 := A0_ (Kd.R_mono (Kd.R_keep (IsS75.apart (show IsS75 w0 _ g s0_0 t7 t8 from bxkc_) b9so_ bi3y_) hk (fun _ h => h.2)) (fun _ h => h.1))
 replace HK := A0_ (KeepBut.trans bgjc_ hk (.inl rfl))
 replace HB := A0_ (hb)
 replace HI0 := A0_ (hi)
 (try clear hb); (try clear hk); (try clear hi)
 refine hK.out _ _ ⟨(kc_ BK2.out 0).trans rfl, (kc_ BK2.out 1).trans rfl, (kc_ BK2.out 2).trans rfl, HS3_⟩ (fun hHeld => ?_)
 clear hK K
 refine nm_ 43 ?_
 refine pu_ 6 44 ?_
 refine tk_ 7 45 hHeld ?_
 refine last_ (i := 8) (N := some 46) #[true, true, true, true, true, true, true, true, true, false, false] rfl rfl (one_of HT_.out bfqv_) bi3y_ (fun K hK => ?_)
 refine value_ (w1 := ?_) (v := ?_) b139_ rfl ?_ ?_
 rotate_left 2
 ·go_simp
  constructor
  ·rfl
  rfl
 refine hK.out _ _ ?_
 clear hK K
 refine nm_ 46 ?_
 refine last_ (i := 9) (N := some 47) #[true, true, true, true, true, true, true, true, true, true, false] rfl rfl (one_of HT_.out bfqv_) bi3y_ (fun K hK => ?_)
 refine Kd.R_append_step (Kd.int .i64) w.heap.size b139_ (.tmp 38) (.tmp 46) 22 3 (.int .i64 0) 8 rfl Tryd.underlying22 info3 rfl bi3y_ bh19_ v5 y1 (rd x354002_19 t9) [.int .i64 (rd x354002_19 t9)] (fun k_ => no_ (.slice (some ad1) x354002_19.length co2) k_) (fun _ => False) rfl rfl ?aP (fun _ hk => hk.elim) ?aF ?aO (Below.refl _ _) ?aS ?aL ?_
 (case aP => exact rfl)
 (case aF => exact (fun k_ hk => Kd.fresh' (Kd.R_lt bwik_) k_ hk))
 (case aO => exact b61e_)
 (case aS => exact (keep_size (w := w) (g := g) (row := none) bgjc_))
 (case aL => have := LMc1.out; omega)
 intro v6 w8 ho hb hg hat
 rw [← Ny2.out] at ho
 have n0_ := A0_ (Kd.R_after (ok := (fun _ => True)) bwik_ hg hat)
 have n1_ := A0_ (blk_grown (g := gb1) (o := .cells #[.int .i64 0, .bool false, .slice none 0 0] 28 (0, 0)) (u1_ BK1) hg (Kd.R_ne HO2.out BK1.out bi3y_))
 have n2_ := A0_ (blk_grown (g := gb2) (o := .cells #[.int .i64 x354000_19, .bool t2, .slice (some ad1) x354002_19.length co2] 28 (0, 0)) (u1_ BK2) hg (Kd.R_ne HO2.out BK2.out bi3y_))
 have n3_ := A0_ (IsS75.grown bxkc_ hg (IsS75.own_ne HI0.out HO2.out bi3y_))
 have n4_ := A0_ (below_weaken b2rv_ HL.out hb)
 have n5_ := A0_ (KeepBut.trans bgjc_ (KeepBut.of_grown hg g) (Kd.R_base2 HO2.out))
 have n6_ := A0_ (ho)
 clear HO_1
 clear BK1
 clear BK2
 clear HI0
 clear HB
 clear HK
 clear HO2
 have HO_1 := n0_
 have BK1 := n1_
 have BK2 := n2_
 have HI0 := n3_
 have HB := n4_
 have HK := n5_
 have HO3 := n6_
 clear n0_ n1_ n2_ n3_ n4_ n5_ n6_
 clear ho hb hg hat
 refine hK.out _ _ ?_
 clear hK K
 refine nm_ 47 ?_
 refine pu_ 10 4 ?_
 refine dn_ ?_
 obtain ⟨Ao3, co3, eo3⟩ := Kd.R_slice HO3.out
 subst eo3
 have hcz3 := z3_ BK2
 have hnb5 := NB1_0.out
 have hnc5 := NB0_1.out
 have hcz4 := z3_ BK1
 try go_wp2
 refine bodyPost_ret (results_cell_row rfl _ _ gb1 28 #[.int .i64 x354000_19, .bool t2, .slice Ao3 y2.length co3] (0, 0) _ rfl (u1_ BK1) Tryd.underlying28 rfl bfqv_) rfl ?_
 exact ⟨_, bnwh_, by (with_reducible repeat (first | apply ra_ | apply rn_ | apply rd_)); exact Kd.R_mono (rf_ (rf_ (rf_ (rf_ (Kd.R_types (Kd.R_types HO3.out BK2.out bi3y_) BK1.out bi3y_) (fun _ hk => hk.1.2) (.slice Ao3 y2.length co3)) k2_0 _) k2_0 _) k2_0 _) (fun _ hk => trivial), bxkc_, b2rv_, bgjc_⟩

def spec_l1Cur_lineRow.f (k : Nat) (s0_0 : List Int) (s0_1 : Int) (s0_2 : Int) : Option (Int × Bool × List Int × Int × Int) := (spec_l1Cur_row.f k s0_0 s0_1 s0_2).bind fun bt381 => ((spec_l1Cur_one.f s0_0 bt381.2.2.2.1 bt381.2.2.2.2 2).bind fun bt389 => (if bt389.1 = true then ((spec_l1Cur_shortRow.f k s0_0 bt389.2.1 bt389.2.2).bind fun bt392 => ((spec_l1Cur_one.f s0_0 bt392.2.2.2.1 bt392.2.2.2.2 16).bind fun bt399 => (if bt399.1 = true then (some (bt392.1, bt392.2.1, bt392.2.2.1, bt399.2.1, bt399.2.2)) else (some (bt392.1, false, bt392.2.2.1, bt399.2.1, bt399.2.2))))) else ((spec_l1Cur_one.f s0_0 bt389.2.1 bt389.2.2 16).bind fun bt402 => (if bt402.1 = true then (some (bt381.1, bt381.2.1, bt381.2.2.1, bt402.2.1, bt402.2.2)) else (some (bt381.1, false, bt381.2.2.1, bt402.2.1, bt402.2.2))))))
theorem spec_l1Cur_lineRow.mono : ∀ a0 a1 a2 k, LeO (spec_l1Cur_lineRow.f k a0 a1 a2) (spec_l1Cur_lineRow.f (k + 1) a0 a1 a2) := by
 intro a0 a1 a2 k
 unfold spec_l1Cur_lineRow.f
 repeat' with_reducible first | exact spec_l1Cur_row.mono .. | exact spec_l1Cur_shortRow.mono .. | exact LeO.refl .. | exact LeO.none .. | refine LeO.ite ?_ ?_ | refine LeO.bind ?_ (fun _ => ?_)
theorem spec_l1Cur_lineRow.calls (k : Nat) (g : Nat) (s0_0 : List Int) (s0_1 : Int) (s0_2 : Int) (r1 : Int) (r2 : Bool) (r3 : List Int) (r4 : Int) (r5 : Int) (w0 w : World) (hI : IsS75 w0 w g s0_0 s0_1 s0_2) (hB : Below w0.heap.size w0 w) (h : spec_l1Cur_lineRow.f k s0_0 s0_1 s0_2 = some (r1, r2, r3, r4, r5)) :
  Calls Tryd.prog 49 #[.pointer (some ⟨g, 0, none⟩)] w fun e w' => ∃ v2_ : Value, e = .returned (.agg #[.int .i64 r1, .bool r2, v2_]) ∧ Kd.R (Kd.int .i64) 3 w' w.heap.size (fun _ => True) v2_ r3 ∧ IsS75 w0 w' g s0_0 r4 r5 ∧ Below w0.heap.size w0 w' ∧ KeepBut w w' g none := by
 have hu28 := Tryd.underlying28
 have HI0 := A0_ hI
 have HK := A0_ (KeepBut.refl w g none)
 have HL := A0_ hB.size
 clear hI
 have HW0 := A0_ hB.size
 have HB := A0_ hB
 clear hB
 have H : ((spec_l1Cur_row.f k s0_0 s0_1 s0_2).bind fun bt1 => ((spec_l1Cur_one.f s0_0 bt1.2.2.2.1 bt1.2.2.2.2 2).bind fun bt2 => (if bt2.1 = true then ((spec_l1Cur_shortRow.f k s0_0 bt2.2.1 bt2.2.2).bind fun bt3 => ((spec_l1Cur_one.f s0_0 bt3.2.2.2.1 bt3.2.2.2.2 16).bind fun bt4 => (if bt4.1 = true then (some (bt3.1, bt3.2.1, bt3.2.2.1, bt4.2.1, bt4.2.2)) else (some (bt3.1, false, bt3.2.2.1, bt4.2.1, bt4.2.2))))) else ((spec_l1Cur_one.f s0_0 bt2.2.1 bt2.2.2 16).bind fun bt5 => (if bt5.1 = true then (some (bt1.1, bt1.2.1, bt1.2.2.1, bt5.2.1, bt5.2.2)) else (some (bt1.1, false, bt1.2.2.1, bt5.2.1, bt5.2.2))))))) = some (r1, r2, r3, r4, r5) := h
 clear h
 obtain ⟨⟨t1, t2, t3, t4, t5⟩, A2, H⟩ := o1_ H
 obtain ⟨⟨t6, t7, t8⟩, A4, H⟩ := o1_ H
 by_cases c1 : t6 = true
 case neg =>
  obtain rfl := bf_.mpr c1
  rw [if_neg ft_] at H
  obtain ⟨⟨t9, t10, t11⟩, A6, H⟩ := o1_ H
  by_cases c2 : t9 = true
  ·subst c2
   rw [if_pos rfl] at H
   simp only [sj_, pj_] at H
   obtain ⟨rfl, rfl, rfl, rfl, rfl⟩ := H
   go_enter Tryd.func49, Tryd.ntmps49
   go_wp2_with (first | ((with_reducible refine gd_ (N := 2) rfl ?_); refine bx_ 2 #[.int .i64 0, .bool false, .slice none 0 0] 28 ?_; intro gb1 hg w1 BK1 hb; replace HB := hb_ hb bkjh_; have GW1 := A0_ ((b7vg_ : w.heap.size ≤ gb1)); have GE1 := A0_ ((Nat.le_trans HW0.out (b7vg_ : w.heap.size ≤ gb1) : w0.heap.size ≤ gb1)); replace HK := A0_ (KeepBut.trans bjmx_ (KeepBut.of_below hb g none) (.inl rfl)); have NB0_1 := A0_ ((bzo9_ : g ≠ gb1)); have NB1_0 := A0_ ((b106_ : gb1 ≠ g)); replace HI0 := A0_ (IsS75.below b5hs_ hb); clear hb hg) | ((with_reducible refine gc_ (f := 75) rfl ?_); refine gl_ 5 Tryd.func75 #[.pointer (some ⟨g, 0, none⟩)] ?_; (with_reducible refine (spec_l1Cur_row.calls k g s0_0 s0_1 s0_2 t1 t2 t3 t4 t5 w0 _ ?side1 ?side2 A2.out).mono ?_); (case side1 => exact b9yh_); (case side2 => exact bois_); rintro e w2 ⟨v1, rfl, ho0, hi, hb, hk⟩; refine ⟨_, rfl, ?_⟩; replace BK1 := kb1_ BK1 hk NB1_0; have HO1 := A0_ (Kd.R_lower ho0 (keep_size (w := w) (g := g) (row := none) bcka_)); replace HK := A0_ (KeepBut.trans bcka_ hk (.inl rfl)); replace HB := A0_ (hb); replace HI0 := A0_ (hi); (try clear hb); (try clear hk); (try clear hi); (try clear ho0)) | ((with_reducible refine gd_ (N := 3) rfl ?_); refine bx_ 3 #[.int .i64 0, .bool false, .slice none 0 0] 28 ?_; intro gb2 hg w3 BK2 hb; replace HO1 := A0_ (Kd.R_below bsm5_ hb); replace HB := hb_ hb bois_; have GW2 := A0_ ((bejl_ : w.heap.size ≤ gb2)); have GE2 := A0_ ((Nat.le_trans HW0.out (bejl_ : w.heap.size ≤ gb2) : w0.heap.size ≤ gb2)); replace HK := A0_ (KeepBut.trans bcka_ (KeepBut.of_below hb g none) (.inl rfl)); have NB1_2 := nl_ hg BK1; have NB2_1 := ng_ hg BK1; replace BK1 := k1_ BK1 hb; have NB0_2 := A0_ ((bpym_ : g ≠ gb2)); have NB2_0 := A0_ ((bmhp_ : gb2 ≠ g)); replace HI0 := A0_ (IsS75.below b9yh_ hb); clear hb hg; have hnb1 := NB2_1.out; have hnc1 := NB1_2.out; have hnb2 := NB2_0.out; have hnc2 := NB0_2.out; have hcz1 := z3_ BK2; obtain ⟨Ao1, co1, eo1⟩ := Kd.R_slice HO1.out; subst eo1) | ((with_reducible refine gc_ (f := 51) rfl ?_); refine gl_ 7 Tryd.func51 #[.pointer (some ⟨g, 0, none⟩), .int .i64 2] ?_; (with_reducible refine (spec_l1Cur_one.calls g s0_0 t4 t5 2 false t7 t8 w0 _ ?side1 ?side2 A4.out).mono ?_); (case side1 => exact bxkc_); (case side2 => exact b2rv_); rintro e w4 ⟨rfl, hi, hb, hk⟩; refine ⟨_, rfl, ?_⟩; replace BK1 := kb1_ BK1 hk NB1_0; replace HO1 := A0_ (Kd.R_mono (Kd.R_keep (IsS75.apart (show IsS75 w0 _ g s0_0 t4 t5 from bxkc_) byf5_ bi3y_) hk (fun _ h => h.2)) (fun _ h => h.1)); replace BK2 := A0_ (KeepBut.blk hk (g' := gb2) (o := .cells #[.int .i64 t1, .bool t2, .slice Ao1 t3.length co1] 28 (0, 0)) (u1_ BK2) NB2_0.out bxka_); replace HK := A0_ (KeepBut.trans bgjc_ hk (.inl rfl)); replace HB := A0_ (hb); replace HI0 := A0_ (hi); (try clear hb); (try clear hk); (try clear hi)) | ((with_reducible refine gc_ (f := 51) rfl ?_); refine gl_ 11 Tryd.func51 #[.pointer (some ⟨g, 0, none⟩), .int .i64 16] ?_; (with_reducible refine (spec_l1Cur_one.calls g s0_0 t7 t8 16 true t10 t11 w0 _ ?side1 ?side2 A6.out).mono ?_); (case side1 => exact bxkc_); (case side2 => exact b2rv_); rintro e w5 ⟨rfl, hi, hb, hk⟩; refine ⟨_, rfl, ?_⟩; replace BK1 := kb1_ BK1 hk NB1_0; replace HO1 := A0_ (Kd.R_mono (Kd.R_keep (IsS75.apart (show IsS75 w0 _ g s0_0 t7 t8 from bxkc_) bsm5_ bi3y_) hk (fun _ h => h.2)) (fun _ h => h.1)); replace BK2 := kb1_ BK2 hk NB2_0; replace HK := A0_ (KeepBut.trans bgjc_ hk (.inl rfl)); replace HB := A0_ (hb); replace HI0 := A0_ (hi); (try clear hb); (try clear hk); (try clear hi); have hcz2 := z3_ BK2; have hnb3 := NB1_0.out; have hnc3 := NB0_1.out; have hcz3_0 : w5.cell? ⟨gb1, 0, none⟩ = some (.int .i64 0) := (kc_ BK1.out 0).trans rfl; have hcz3_1 : w5.cell? ⟨gb1, 1, none⟩ = some (.bool false) := (kc_ BK1.out 1).trans rfl; have hcz3_2 : w5.cell? ⟨gb1, 2, none⟩ = some (.slice none 0 0) := (kc_ BK1.out 2).trans rfl; have hfz3_0 := kf_ BK1.out 0; have hfz3_1 := kf_ BK1.out 1; have hfz3_2 := kf_ BK1.out 2))
   refine bodyPost_ret (results_cell_row rfl _ _ gb1 28 #[.int .i64 t1, .bool t2, .slice Ao1 t3.length co1] (0, 0) _ rfl (u1_ BK1) Tryd.underlying28 rfl bfqv_) rfl ?_
   exact ⟨_, bnwh_, b083_, bxkc_, b2rv_, bgjc_⟩
  obtain rfl := bf_.mpr c2
  rw [if_neg ft_] at H
  simp only [sj_, pj_] at H
  obtain ⟨rfl, rfl, rfl, rfl, rfl⟩ := H
  go_enter Tryd.func49, Tryd.ntmps49
  go_wp2_with (first | ((with_reducible refine gd_ (N := 2) rfl ?_); refine bx_ 2 #[.int .i64 0, .bool false, .slice none 0 0] 28 ?_; intro gb1 hg w1 BK1 hb; replace HB := hb_ hb bkjh_; have GW1 := A0_ ((b7vg_ : w.heap.size ≤ gb1)); have GE1 := A0_ ((Nat.le_trans HW0.out (b7vg_ : w.heap.size ≤ gb1) : w0.heap.size ≤ gb1)); replace HK := A0_ (KeepBut.trans bjmx_ (KeepBut.of_below hb g none) (.inl rfl)); have NB0_1 := A0_ ((bzo9_ : g ≠ gb1)); have NB1_0 := A0_ ((b106_ : gb1 ≠ g)); replace HI0 := A0_ (IsS75.below b5hs_ hb); clear hb hg) | ((with_reducible refine gc_ (f := 75) rfl ?_); refine gl_ 5 Tryd.func75 #[.pointer (some ⟨g, 0, none⟩)] ?_; (with_reducible refine (spec_l1Cur_row.calls k g s0_0 s0_1 s0_2 t1 t2 t3 t4 t5 w0 _ ?side1 ?side2 A2.out).mono ?_); (case side1 => exact b9yh_); (case side2 => exact bois_); rintro e w2 ⟨v1, rfl, ho0, hi, hb, hk⟩; refine ⟨_, rfl, ?_⟩; replace BK1 := kb1_ BK1 hk NB1_0; have HO1 := A0_ (Kd.R_lower ho0 (keep_size (w := w) (g := g) (row := none) bcka_)); replace HK := A0_ (KeepBut.trans bcka_ hk (.inl rfl)); replace HB := A0_ (hb); replace HI0 := A0_ (hi); (try clear hb); (try clear hk); (try clear hi); (try clear ho0)) | ((with_reducible refine gd_ (N := 3) rfl ?_); refine bx_ 3 #[.int .i64 0, .bool false, .slice none 0 0] 28 ?_; intro gb2 hg w3 BK2 hb; replace HO1 := A0_ (Kd.R_below bsm5_ hb); replace HB := hb_ hb bois_; have GW2 := A0_ ((bejl_ : w.heap.size ≤ gb2)); have GE2 := A0_ ((Nat.le_trans HW0.out (bejl_ : w.heap.size ≤ gb2) : w0.heap.size ≤ gb2)); replace HK := A0_ (KeepBut.trans bcka_ (KeepBut.of_below hb g none) (.inl rfl)); have NB1_2 := nl_ hg BK1; have NB2_1 := ng_ hg BK1; replace BK1 := k1_ BK1 hb; have NB0_2 := A0_ ((bpym_ : g ≠ gb2)); have NB2_0 := A0_ ((bmhp_ : gb2 ≠ g)); replace HI0 := A0_ (IsS75.below b9yh_ hb); clear hb hg; have hnb1 := NB2_1.out; have hnc1 := NB1_2.out; have hnb2 := NB2_0.out; have hnc2 := NB0_2.out; have hcz1 := z3_ BK2; obtain ⟨Ao1, co1, eo1⟩ := Kd.R_slice HO1.out; subst eo1) | ((with_reducible refine gc_ (f := 51) rfl ?_); refine gl_ 7 Tryd.func51 #[.pointer (some ⟨g, 0, none⟩), .int .i64 2] ?_; (with_reducible refine (spec_l1Cur_one.calls g s0_0 t4 t5 2 false t7 t8 w0 _ ?side1 ?side2 A4.out).mono ?_); (case side1 => exact bxkc_); (case side2 => exact b2rv_); rintro e w4 ⟨rfl, hi, hb, hk⟩; refine ⟨_, rfl, ?_⟩; replace BK1 := kb1_ BK1 hk NB1_0; replace HO1 := A0_ (Kd.R_mono (Kd.R_keep (IsS75.apart (show IsS75 w0 _ g s0_0 t4 t5 from bxkc_) byf5_ bi3y_) hk (fun _ h => h.2)) (fun _ h => h.1)); replace BK2 := A0_ (KeepBut.blk hk (g' := gb2) (o := .cells #[.int .i64 t1, .bool t2, .slice Ao1 t3.length co1] 28 (0, 0)) (u1_ BK2) NB2_0.out bxka_); replace HK := A0_ (KeepBut.trans bgjc_ hk (.inl rfl)); replace HB := A0_ (hb); replace HI0 := A0_ (hi); (try clear hb); (try clear hk); (try clear hi)) | ((with_reducible refine gc_ (f := 51) rfl ?_); refine gl_ 11 Tryd.func51 #[.pointer (some ⟨g, 0, none⟩), .int .i64 16] ?_; (with_reducible refine (spec_l1Cur_one.calls g s0_0 t7 t8 16 false t10 t11 w0 _ ?side1 ?side2 A6.out).mono ?_); (case side1 => exact bxkc_); (case side2 => exact b2rv_); rintro e w5 ⟨rfl, hi, hb, hk⟩; refine ⟨_, rfl, ?_⟩; replace BK1 := kb1_ BK1 hk NB1_0; replace HO1 := A0_ (Kd.R_mono (Kd.R_keep (IsS75.apart (show IsS75 w0 _ g s0_0 t7 t8 from bxkc_) bsm5_ bi3y_) hk (fun _ h => h.2)) (fun _ h => h.1)); replace BK2 := kb1_ BK2 hk NB2_0; replace HK := A0_ (KeepBut.trans bgjc_ hk (.inl rfl)); replace HB := A0_ (hb); replace HI0 := A0_ (hi); (try clear hb); (try clear hk); (try clear hi); have hcz2 := z3_ BK2; have hnb3 := NB1_0.out; have hnc3 := NB0_1.out; have hcz3_0 : w5.cell? ⟨gb1, 0, none⟩ = some (.int .i64 0) := (kc_ BK1.out 0).trans rfl; have hcz3_1 : w5.cell? ⟨gb1, 1, none⟩ = some (.bool false) := (kc_ BK1.out 1).trans rfl; have hcz3_2 : w5.cell? ⟨gb1, 2, none⟩ = some (.slice none 0 0) := (kc_ BK1.out 2).trans rfl; have hfz3_0 := kf_ BK1.out 0; have hfz3_1 := kf_ BK1.out 1; have hfz3_2 := kf_ BK1.out 2))
  refine bodyPost_ret (results_cell_row rfl _ _ gb1 28 #[.int .i64 t1, .bool false, .slice Ao1 t3.length co1] (0, 0) _ rfl (u1_ BK1) Tryd.underlying28 rfl bfqv_) rfl ?_
  exact ⟨_, bnwh_, by (with_reducible repeat (first | apply ra_ | apply rn_ | apply rd_)); exact Kd.R_mono (rf_ (rf_ (rf_ (rf_ (Kd.R_types (Kd.R_types HO1.out BK2.out bi3y_) BK1.out bi3y_) (fun _ hk => hk.1.2) (.bool false)) k2_0 _) k2_0 _) k2_0 _) (fun _ hk => trivial), bxkc_, b2rv_, bgjc_⟩
 subst c1
 rw [if_pos rfl] at H
 obtain ⟨⟨t9, t10, t11, t12, t13⟩, A6, H⟩ := o1_ H
 obtain ⟨⟨t14, t15, t16⟩, A8, H⟩ := o1_ H
 by_cases c2 : t14 = true
 ·subst c2
  rw [if_pos rfl] at H
  simp only [sj_, pj_] at H
  obtain ⟨rfl, rfl, rfl, rfl, rfl⟩ := H
  go_enter Tryd.func49, Tryd.ntmps49
  go_wp2_with (first | ((with_reducible refine gd_ (N := 2) rfl ?_); refine bx_ 2 #[.int .i64 0, .bool false, .slice none 0 0] 28 ?_; intro gb1 hg w1 BK1 hb; replace HB := hb_ hb bkjh_; have GW1 := A0_ ((b7vg_ : w.heap.size ≤ gb1)); have GE1 := A0_ ((Nat.le_trans HW0.out (b7vg_ : w.heap.size ≤ gb1) : w0.heap.size ≤ gb1)); replace HK := A0_ (KeepBut.trans bjmx_ (KeepBut.of_below hb g none) (.inl rfl)); have NB0_1 := A0_ ((bzo9_ : g ≠ gb1)); have NB1_0 := A0_ ((b106_ : gb1 ≠ g)); replace HI0 := A0_ (IsS75.below b5hs_ hb); clear hb hg) | ((with_reducible refine gc_ (f := 75) rfl ?_); refine gl_ 5 Tryd.func75 #[.pointer (some ⟨g, 0, none⟩)] ?_; (with_reducible refine (spec_l1Cur_row.calls k g s0_0 s0_1 s0_2 t1 t2 t3 t4 t5 w0 _ ?side1 ?side2 A2.out).mono ?_); (case side1 => exact b9yh_); (case side2 => exact bois_); rintro e w2 ⟨v1, rfl, ho0, hi, hb, hk⟩; refine ⟨_, rfl, ?_⟩; replace BK1 := kb1_ BK1 hk NB1_0; have HO1 := A0_ (Kd.R_lower ho0 (keep_size (w := w) (g := g) (row := none) bcka_)); replace HK := A0_ (KeepBut.trans bcka_ hk (.inl rfl)); replace HB := A0_ (hb); replace HI0 := A0_ (hi); (try clear hb); (try clear hk); (try clear hi); (try clear ho0)) | ((with_reducible refine gd_ (N := 3) rfl ?_); refine bx_ 3 #[.int .i64 0, .bool false, .slice none 0 0] 28 ?_; intro gb2 hg w3 BK2 hb; replace HO1 := A0_ (Kd.R_below bsm5_ hb); replace HB := hb_ hb bois_; have GW2 := A0_ ((bejl_ : w.heap.size ≤ gb2)); have GE2 := A0_ ((Nat.le_trans HW0.out (bejl_ : w.heap.size ≤ gb2) : w0.heap.size ≤ gb2)); replace HK := A0_ (KeepBut.trans bcka_ (KeepBut.of_below hb g none) (.inl rfl)); have NB1_2 := nl_ hg BK1; have NB2_1 := ng_ hg BK1; replace BK1 := k1_ BK1 hb; have NB0_2 := A0_ ((bpym_ : g ≠ gb2)); have NB2_0 := A0_ ((bmhp_ : gb2 ≠ g)); replace HI0 := A0_ (IsS75.below b9yh_ hb); clear hb hg; have hnb1 := NB2_1.out; have hnc1 := NB1_2.out; have hnb2 := NB2_0.out; have hnc2 := NB0_2.out; have hcz1 := z3_ BK2; obtain ⟨Ao1, co1, eo1⟩ := Kd.R_slice HO1.out; subst eo1) | ((with_reducible refine gc_ (f := 51) rfl ?_); refine gl_ 7 Tryd.func51 #[.pointer (some ⟨g, 0, none⟩), .int .i64 2] ?_; (with_reducible refine (spec_l1Cur_one.calls g s0_0 t4 t5 2 true t7 t8 w0 _ ?side1 ?side2 A4.out).mono ?_); (case side1 => exact bxkc_); (case side2 => exact b2rv_); rintro e w4 ⟨rfl, hi, hb, hk⟩; refine ⟨_, rfl, ?_⟩; replace BK1 := kb1_ BK1 hk NB1_0; replace HO1 := A0_ (Kd.R_mono (Kd.R_keep (IsS75.apart (show IsS75 w0 _ g s0_0 t4 t5 from bxkc_) byf5_ bi3y_) hk (fun _ h => h.2)) (fun _ h => h.1)); replace BK2 := A0_ (KeepBut.blk hk (g' := gb2) (o := .cells #[.int .i64 t1, .bool t2, .slice Ao1 t3.length co1] 28 (0, 0)) (u1_ BK2) NB2_0.out bxka_); replace HK := A0_ (KeepBut.trans bgjc_ hk (.inl rfl)); replace HB := A0_ (hb); replace HI0 := A0_ (hi); (try clear hb); (try clear hk); (try clear hi)) | ((with_reducible refine gc_ (f := 76) rfl ?_); refine gl_ 9 Tryd.func76 #[.pointer (some ⟨g, 0, none⟩)] ?_; (with_reducible refine (spec_l1Cur_shortRow.calls k g s0_0 t7 t8 t9 t10 t11 t12 t13 w0 _ ?side1 ?side2 A6.out).mono ?_); (case side1 => exact bxkc_); (case side2 => exact b2rv_); rintro e w5 ⟨v3, rfl, ho0, hi, hb, hk⟩; refine ⟨_, rfl, ?_⟩; replace BK1 := kb1_ BK1 hk NB1_0; replace BK2 := kb1_ BK2 hk NB2_0; have HO2 := A0_ (Kd.R_lower (Kd.R_new' ho0 (Kd.R_lt bsm5_)) (keep_size (w := w) (g := g) (row := none) bgjc_)); replace HO1 := A0_ (Kd.R_mono (Kd.R_told (Kd.R_oldK (IsS75.apart (show IsS75 w0 _ g s0_0 t7 t8 from bxkc_) bsm5_ bi3y_) hk) (Kd.R_base ho0)) (fun _ h_ => h_.1)); replace HK := A0_ (KeepBut.trans bgjc_ hk (.inl rfl)); replace HB := A0_ (hb); replace HI0 := A0_ (hi); (try clear hb); (try clear hk); (try clear hi); (try clear ho0); have hcz2 := z3_ BK2; obtain ⟨Ao2, co2, eo2⟩ := Kd.R_slice HO2.out; subst eo2) | ((with_reducible refine gc_ (f := 51) rfl ?_); refine gl_ 11 Tryd.func51 #[.pointer (some ⟨g, 0, none⟩), .int .i64 16] ?_; (with_reducible refine (spec_l1Cur_one.calls g s0_0 t12 t13 16 true t15 t16 w0 _ ?side1 ?side2 A8.out).mono ?_); (case side1 => exact bxkc_); (case side2 => exact b2rv_); rintro e w6 ⟨rfl, hi, hb, hk⟩; refine ⟨_, rfl, ?_⟩; replace BK1 := kb1_ BK1 hk NB1_0; replace HO1 := A0_ (Kd.R_mono (Kd.R_keep (IsS75.apart (show IsS75 w0 _ g s0_0 t12 t13 from bxkc_) byf5_ bi3y_) hk (fun _ h => h.2)) (fun _ h => h.1)); replace HO2 := A0_ (Kd.R_mono (Kd.R_keep (IsS75.apart (show IsS75 w0 _ g s0_0 t12 t13 from bxkc_) b9d1_ bi3y_) hk (fun _ h => h.2)) (fun _ h => h.1)); replace BK2 := A0_ (KeepBut.blk hk (g' := gb2) (o := .cells #[.int .i64 t9, .bool t10, .slice Ao2 t11.length co2] 28 (0, 0)) (u1_ BK2) NB2_0.out bxka_); replace HK := A0_ (KeepBut.trans bgjc_ hk (.inl rfl)); replace HB := A0_ (hb); replace HI0 := A0_ (hi); (try clear hb); (try clear hk); (try clear hi); have hcz3 := z3_ BK2; have hnb3 := NB1_0.out; have hnc3 := NB0_1.out; have hcz4_0 : w6.cell? ⟨gb1, 0, none⟩ = some (.int .i64 0) := (kc_ BK1.out 0).trans rfl; have hcz4_1 : w6.cell? ⟨gb1, 1, none⟩ = some (.bool false) := (kc_ BK1.out 1).trans rfl; have hcz4_2 : w6.cell? ⟨gb1, 2, none⟩ = some (.slice none 0 0) := (kc_ BK1.out 2).trans rfl; have hfz4_0 := kf_ BK1.out 0; have hfz4_1 := kf_ BK1.out 1; have hfz4_2 := kf_ BK1.out 2))
  refine bodyPost_ret (results_cell_row rfl _ _ gb1 28 #[.int .i64 t9, .bool t10, .slice Ao2 t11.length co2] (0, 0) _ rfl (u1_ BK1) Tryd.underlying28 rfl bfqv_) rfl ?_
  exact ⟨_, bnwh_, by (with_reducible repeat (first | apply ra_ | apply rn_ | apply rd_)); exact Kd.R_mono (rf_ (rf_ (rf_ (Kd.R_types HO2.out BK1.out bi3y_) k2_0 _) k2_0 _) k2_0 _) (fun _ hk => trivial), bxkc_, b2rv_, bgjc_⟩
 obtain rfl := bf_.mpr c2
 rw [if_neg ft_] at H
 simp only [sj_, pj_] at H
 obtain ⟨rfl, rfl, rfl, rfl, rfl⟩ := H
 go_enter Tryd.func49, Tryd.ntmps49
 go_wp2_with (first | ((with_reducible refine gd_ (N := 2) rfl ?_); refine bx_ 2 #[.int .i64 0, .bool false, .slice none 0 0] 28 ?_; intro gb1 hg w1 BK1 hb; replace HB := hb_ hb bkjh_; have GW1 := A0_ ((b7vg_ : w.heap.size ≤ gb1)); have GE1 := A0_ ((Nat.le_trans HW0.out (b7vg_ : w.heap.size ≤ gb1) : w0.heap.size ≤ gb1)); replace HK := A0_ (KeepBut.trans bjmx_ (KeepBut.of_below hb g none) (.inl rfl)); have NB0_1 := A0_ ((bzo9_ : g ≠ gb1)); have NB1_0 := A0_ ((b106_ : gb1 ≠ g)); replace HI0 := A0_ (IsS75.below b5hs_ hb); clear hb hg) | ((with_reducible refine gc_ (f := 75) rfl ?_); refine gl_ 5 Tryd.func75 #[.pointer (some ⟨g, 0, none⟩)] ?_; (with_reducible refine (spec_l1Cur_row.calls k g s0_0 s0_1 s0_2 t1 t2 t3 t4 t5 w0 _ ?side1 ?side2 A2.out).mono ?_); (case side1 => exact b9yh_); (case side2 => exact bois_); rintro e w2 ⟨v1, rfl, ho0, hi, hb, hk⟩; refine ⟨_, rfl, ?_⟩; replace BK1 := kb1_ BK1 hk NB1_0; have HO1 := A0_ (Kd.R_lower ho0 (keep_size (w := w) (g := g) (row := none) bcka_)); replace HK := A0_ (KeepBut.trans bcka_ hk (.inl rfl)); replace HB := A0_ (hb); replace HI0 := A0_ (hi); (try clear hb); (try clear hk); (try clear hi); (try clear ho0)) | ((with_reducible refine gd_ (N := 3) rfl ?_); refine bx_ 3 #[.int .i64 0, .bool false, .slice none 0 0] 28 ?_; intro gb2 hg w3 BK2 hb; replace HO1 := A0_ (Kd.R_below bsm5_ hb); replace HB := hb_ hb bois_; have GW2 := A0_ ((bejl_ : w.heap.size ≤ gb2)); have GE2 := A0_ ((Nat.le_trans HW0.out (bejl_ : w.heap.size ≤ gb2) : w0.heap.size ≤ gb2)); replace HK := A0_ (KeepBut.trans bcka_ (KeepBut.of_below hb g none) (.inl rfl)); have NB1_2 := nl_ hg BK1; have NB2_1 := ng_ hg BK1; replace BK1 := k1_ BK1 hb; have NB0_2 := A0_ ((bpym_ : g ≠ gb2)); have NB2_0 := A0_ ((bmhp_ : gb2 ≠ g)); replace HI0 := A0_ (IsS75.below b9yh_ hb); clear hb hg; have hnb1 := NB2_1.out; have hnc1 := NB1_2.out; have hnb2 := NB2_0.out; have hnc2 := NB0_2.out; have hcz1 := z3_ BK2; obtain ⟨Ao1, co1, eo1⟩ := Kd.R_slice HO1.out; subst eo1) | ((with_reducible refine gc_ (f := 51) rfl ?_); refine gl_ 7 Tryd.func51 #[.pointer (some ⟨g, 0, none⟩), .int .i64 2] ?_; (with_reducible refine (spec_l1Cur_one.calls g s0_0 t4 t5 2 true t7 t8 w0 _ ?side1 ?side2 A4.out).mono ?_); (case side1 => exact bxkc_); (case side2 => exact b2rv_); rintro e w4 ⟨rfl, hi, hb, hk⟩; refine ⟨_, rfl, ?_⟩; replace BK1 := kb1_ BK1 hk NB1_0; replace HO1 := A0_ (Kd.R_mono (Kd.R_keep (IsS75.apart (show IsS75 w0 _ g s0_0 t4 t5 from bxkc_) byf5_ bi3y_) hk (fun _ h => h.2)) (fun _ h => h.1)); replace BK2 := A0_ (KeepBut.blk hk (g' := gb2) (o := .cells #[.int .i64 t1, .bool t2, .slice Ao1 t3.length co1] 28 (0, 0)) (u1_ BK2) NB2_0.out bxka_); replace HK := A0_ (KeepBut.trans bgjc_ hk (.inl rfl)); replace HB := A0_ (hb); replace HI0 := A0_ (hi); (try clear hb); (try clear hk); (try clear hi)) | ((with_reducible refine gc_ (f := 76) rfl ?_); refine gl_ 9 Tryd.func76 #[.pointer (some ⟨g, 0, none⟩)] ?_; (with_reducible refine (spec_l1Cur_shortRow.calls k g s0_0 t7 t8 t9 t10 t11 t12 t13 w0 _ ?side1 ?side2 A6.out).mono ?_); (case side1 => exact bxkc_); (case side2 => exact b2rv_); rintro e w5 ⟨v3, rfl, ho0, hi, hb, hk⟩; refine ⟨_, rfl, ?_⟩; replace BK1 := kb1_ BK1 hk NB1_0; replace BK2 := kb1_ BK2 hk NB2_0; have HO2 := A0_ (Kd.R_lower (Kd.R_new' ho0 (Kd.R_lt bsm5_)) (keep_size (w := w) (g := g) (row := none) bgjc_)); replace HO1 := A0_ (Kd.R_mono (Kd.R_told (Kd.R_oldK (IsS75.apart (show IsS75 w0 _ g s0_0 t7 t8 from bxkc_) bsm5_ bi3y_) hk) (Kd.R_base ho0)) (fun _ h_ => h_.1)); replace HK := A0_ (KeepBut.trans bgjc_ hk (.inl rfl)); replace HB := A0_ (hb); replace HI0 := A0_ (hi); (try clear hb); (try clear hk); (try clear hi); (try clear ho0); have hcz2 := z3_ BK2; obtain ⟨Ao2, co2, eo2⟩ := Kd.R_slice HO2.out; subst eo2) | ((with_reducible refine gc_ (f := 51) rfl ?_); refine gl_ 11 Tryd.func51 #[.pointer (some ⟨g, 0, none⟩), .int .i64 16] ?_; (with_reducible refine (spec_l1Cur_one.calls g s0_0 t12 t13 16 false t15 t16 w0 _ ?side1 ?side2 A8.out).mono ?_); (case side1 => exact bxkc_); (case side2 => exact b2rv_); rintro e w6 ⟨rfl, hi, hb, hk⟩; refine ⟨_, rfl, ?_⟩; replace BK1 := kb1_ BK1 hk NB1_0; replace HO1 := A0_ (Kd.R_mono (Kd.R_keep (IsS75.apart (show IsS75 w0 _ g s0_0 t12 t13 from bxkc_) byf5_ bi3y_) hk (fun _ h => h.2)) (fun _ h => h.1)); replace HO2 := A0_ (Kd.R_mono (Kd.R_keep (IsS75.apart (show IsS75 w0 _ g s0_0 t12 t13 from bxkc_) b9d1_ bi3y_) hk (fun _ h => h.2)) (fun _ h => h.1)); replace BK2 := A0_ (KeepBut.blk hk (g' := gb2) (o := .cells #[.int .i64 t9, .bool t10, .slice Ao2 t11.length co2] 28 (0, 0)) (u1_ BK2) NB2_0.out bxka_); replace HK := A0_ (KeepBut.trans bgjc_ hk (.inl rfl)); replace HB := A0_ (hb); replace HI0 := A0_ (hi); (try clear hb); (try clear hk); (try clear hi); have hcz3 := z3_ BK2; have hnb3 := NB1_0.out; have hnc3 := NB0_1.out; have hcz4_0 : w6.cell? ⟨gb1, 0, none⟩ = some (.int .i64 0) := (kc_ BK1.out 0).trans rfl; have hcz4_1 : w6.cell? ⟨gb1, 1, none⟩ = some (.bool false) := (kc_ BK1.out 1).trans rfl; have hcz4_2 : w6.cell? ⟨gb1, 2, none⟩ = some (.slice none 0 0) := (kc_ BK1.out 2).trans rfl; have hfz4_0 := kf_ BK1.out 0; have hfz4_1 := kf_ BK1.out 1; have hfz4_2 := kf_ BK1.out 2))
 refine bodyPost_ret (results_cell_row rfl _ _ gb1 28 #[.int .i64 t9, .bool false, .slice Ao2 t11.length co2] (0, 0) _ rfl (u1_ BK1) Tryd.underlying28 rfl bfqv_) rfl ?_
 exact ⟨_, bnwh_, by (with_reducible repeat (first | apply ra_ | apply rn_ | apply rd_)); exact Kd.R_mono (rf_ (rf_ (rf_ (rf_ (Kd.R_types (Kd.R_types HO2.out BK2.out bi3y_) BK1.out bi3y_) (fun _ hk => hk.1.2) (.bool false)) k2_0 _) k2_0 _) k2_0 _) (fun _ hk => trivial), bxkc_, b2rv_, bgjc_⟩

def spec_l1Most.f (a0 : Int) (a1 : Int) : Option (Int) := if a0 > a1 then (some a0) else (some a1)
theorem spec_l1Most.calls (a0 : Int) (a1 : Int) (r : Int) (w : World) (h : spec_l1Most.f a0 a1 = some r) :
  Calls Tryd.prog 82 #[.int .i64 a0, .int .i64 a1] w fun e w' => e = .returned (.int .i64 r) ∧ Drawn0 w w' := by
 have H : (if a0 > a1 then (some a0) else (some a1)) = some r := h
 clear h
 by_cases c1 : a0 > a1
 ·rw [if_pos c1] at H
  have c1b0 : decide (a1 < a0) = true := dt_ c1
  clear c1
  obtain rfl := si_ H
  go_enter Tryd.func82, Tryd.ntmps82
  go_wp2
  go_ret
  exact ⟨b04z_, boaj_⟩
 rw [if_neg c1] at H
 have c1b0 : decide (a1 < a0) = false := decide_eq_false c1
 clear c1
 obtain rfl := si_ H
 go_enter Tryd.func82, Tryd.ntmps82
 go_wp2
 go_ret
 exact ⟨b04z_, boaj_⟩

def spec_l1Cur_seat.f (s0_0 : List Int) (s0_1 : Int) (s0_2 : Int) (a1_0 : Int) (a1_1 : Bool) (l1_2 : List Int) : Option (Int × Int × Int) := (spec_l1Cur_one.f s0_0 s0_1 s0_2 30).bind fun bt406 => (if bt406.1 = true then ((spec_l1Cur_among.f s0_0 bt406.2.1 bt406.2.2 (([(-1), 0, a1_0, 4611686018427387904] : List Int))).bind fun bt412 => (some (bt412.1, bt412.2.1, bt412.2.2))) else ((spec_l1Least.f a1_0 24).bind fun t415 => ((spec_l1Most.f t415 1).bind fun t416 => ((spec_l1Cur_pick.f s0_0 bt406.2.1 bt406.2.2 t416).bind fun bt417 => (some (bt417.1, bt417.2.1, bt417.2.2))))))
theorem spec_l1Cur_seat.calls (g : Nat) (s0_0 : List Int) (s0_1 : Int) (s0_2 : Int) (a1_0 : Int) (a1_1 : Bool) (A1_2 : Option Addr) (c1_2 : Nat) (l1_2 : List Int) (r1 : Int) (r2 : Int) (r3 : Int) (w0 w : World) (hI : IsS75 w0 w g s0_0 s0_1 s0_2) (hB : Below w0.heap.size w0 w) (hr1_2 : Kd.C (Kd.int .i64) w A1_2 l1_2.length l1_2) (hc1_2 : l1_2.length ≤ c1_2) (hf1_2 : ∀ ad, A1_2 = some ad → 0 < l1_2.length → ad.block ≠ g) (h : spec_l1Cur_seat.f s0_0 s0_1 s0_2 a1_0 a1_1 l1_2 = some (r1, r2, r3)) :
  Calls Tryd.prog 60 #[.pointer (some ⟨g, 0, none⟩), .agg #[.int .i64 a1_0, .bool a1_1, .slice A1_2 l1_2.length c1_2]] w fun e w' => e = .returned (.int .i64 r1) ∧ IsS75 w0 w' g s0_0 r2 r3 ∧ Below w0.heap.size w0 w' ∧ KeepBut w w' g none := by
 have hu28 := Tryd.underlying28
 have HR1_2 := A0_ hr1_2
 have HC1_2 := A0_ hc1_2
 clear hr1_2 hc1_2
 have HI0 := A0_ hI
 have HK := A0_ (KeepBut.refl w g none)
 have HL := A0_ hB.size
 clear hI
 have HW0 := A0_ hB.size
 have HB := A0_ hB
 clear hB
 have H : ((spec_l1Cur_one.f s0_0 s0_1 s0_2 30).bind fun bt1 => (if bt1.1 = true then ((spec_l1Cur_among.f s0_0 bt1.2.1 bt1.2.2 (([(-1), 0, a1_0, 4611686018427387904] : List Int))).bind fun bt2 => (some (bt2.1, bt2.2.1, bt2.2.2))) else ((spec_l1Least.f a1_0 24).bind fun t1 => ((spec_l1Most.f t1 1).bind fun t2 => ((spec_l1Cur_pick.f s0_0 bt1.2.1 bt1.2.2 t2).bind fun bt3 => (some (bt3.1, bt3.2.1, bt3.2.2))))))) = some (r1, r2, r3) := h
 clear h
 obtain ⟨⟨t3, t4, t5⟩, A3, H⟩ := o1_ H
 by_cases c2 : t3 = true
 case neg =>
  obtain rfl := bf_.mpr c2
  rw [if_neg ft_] at H
  obtain ⟨t1, A5, H⟩ := o1_ H
  obtain ⟨t2, A7, H⟩ := o1_ H
  obtain ⟨⟨t6, t7, t8⟩, A9, H⟩ := o1_ H
  replace H : (some (t6, t7, t8)) = some (r1, r2, r3) := H
  simp only [sj_, pj_] at H
  obtain ⟨rfl, rfl, rfl⟩ := H
  go_enter Tryd.func60, Tryd.ntmps60
  go_wp2_with (first | ((with_reducible refine gd_ (N := 3) rfl ?_); refine bx_ 3 #[.int .i64 a1_0, .bool a1_1, .slice A1_2 l1_2.length c1_2] 28 ?_; intro gb1 hg w1 BK1 hb; replace HB := hb_ hb bkjh_; have GW1 := A0_ ((b7vg_ : w.heap.size ≤ gb1)); have GE1 := A0_ ((Nat.le_trans HW0.out (b7vg_ : w.heap.size ≤ gb1) : w0.heap.size ≤ gb1)); replace HK := A0_ (KeepBut.trans bjmx_ (KeepBut.of_below hb g none) (.inl rfl)); have NB0_1 := A0_ ((bzo9_ : g ≠ gb1)); have NB1_0 := A0_ ((b106_ : gb1 ≠ g)); replace HI0 := A0_ (IsS75.below b5hs_ hb); clear hb hg) | ((with_reducible refine gc_ (f := 51) rfl ?_); refine gl_ 6 Tryd.func51 #[.pointer (some ⟨g, 0, none⟩), .int .i64 30] ?_; (with_reducible refine (spec_l1Cur_one.calls g s0_0 s0_1 s0_2 30 false t4 t5 w0 _ ?side1 ?side2 A3.out).mono ?_); (case side1 => exact b9yh_); (case side2 => exact bois_); rintro e w2 ⟨rfl, hi, hb, hk⟩; refine ⟨_, rfl, ?_⟩; replace BK1 := kb1_ BK1 hk NB1_0; replace HK := A0_ (KeepBut.trans bcka_ hk (.inl rfl)); replace HB := A0_ (hb); replace HI0 := A0_ (hi); (try clear hb); (try clear hk); (try clear hi); have hnb1 := NB1_0.out; have hnc1 := NB0_1.out; have hcz1 := c3_ BK1) | ((with_reducible refine gc_ (f := 70) rfl ?_); refine gl_ 15 Tryd.func70 #[.int .i64 a1_0, .int .i64 24] ?_; (with_reducible refine (spec_l1Least.calls a1_0 24 t1 _ A5.out).mono ?_); rintro e w' ⟨rfl, ⟨nd, rfl⟩⟩; refine ⟨_, rfl, ?_⟩) | ((with_reducible refine gc_ (f := 82) rfl ?_); refine gl_ 16 Tryd.func82 #[.int .i64 t1, .int .i64 1] ?_; (with_reducible refine (spec_l1Most.calls t1 1 t2 _ A7.out).mono ?_); rintro e w' ⟨rfl, ⟨nd, rfl⟩⟩; refine ⟨_, rfl, ?_⟩) | ((with_reducible refine gc_ (f := 61) rfl ?_); refine gl_ 17 Tryd.func61 #[.pointer (some ⟨g, 0, none⟩), .int .i64 t2] ?_; (with_reducible refine (spec_l1Cur_pick.calls g s0_0 t4 t5 t2 t6 t7 t8 w0 _ ?side1 ?side2 A9.out).mono ?_); (case side1 => exact b9yh_); (case side2 => exact bois_); rintro e w3 ⟨rfl, hi, hb, hk⟩; refine ⟨_, rfl, ?_⟩; replace BK1 := kb1_ BK1 hk NB1_0; replace HK := A0_ (KeepBut.trans bcka_ hk (.inl rfl)); replace HB := A0_ (hb); replace HI0 := A0_ (hi); (try clear hb); (try clear hk); (try clear hi)))
  go_ret
  exact ⟨bnwh_, b9yh_, bois_, bcka_⟩
 subst c2
 rw [if_pos rfl] at H
 obtain ⟨y1, hy1⟩ : ∃ y_ : List Int, y_ = (([(-1), 0, a1_0, 4611686018427387904] : List Int)) := ⟨_, rfl⟩
 replace H : ((spec_l1Cur_among.f s0_0 t4 t5 y1).bind fun bt2 => (some (bt2.1, bt2.2.1, bt2.2.2))) = some (r1, r2, r3) := bgiq_
 have Ny1 := A0_ hy1
 clear hy1
 obtain ⟨⟨t6, t7, t8⟩, A5, H⟩ := o1_ H
 replace H : (some (t6, t7, t8)) = some (r1, r2, r3) := H
 simp only [sj_, pj_] at H
 obtain ⟨rfl, rfl, rfl⟩ := H
 go_enter Tryd.func60, Tryd.ntmps60
 go_wp2_with (first | ((with_reducible refine gd_ (N := 3) rfl ?_); refine bx_ 3 #[.int .i64 a1_0, .bool a1_1, .slice A1_2 l1_2.length c1_2] 28 ?_; intro gb1 hg w1 BK1 hb; replace HB := hb_ hb bkjh_; have GW1 := A0_ ((b7vg_ : w.heap.size ≤ gb1)); have GE1 := A0_ ((Nat.le_trans HW0.out (b7vg_ : w.heap.size ≤ gb1) : w0.heap.size ≤ gb1)); replace HK := A0_ (KeepBut.trans bjmx_ (KeepBut.of_below hb g none) (.inl rfl)); have NB0_1 := A0_ ((bzo9_ : g ≠ gb1)); have NB1_0 := A0_ ((b106_ : gb1 ≠ g)); replace HI0 := A0_ (IsS75.below b5hs_ hb); clear hb hg) | ((with_reducible refine gc_ (f := 51) rfl ?_); refine gl_ 6 Tryd.func51 #[.pointer (some ⟨g, 0, none⟩), .int .i64 30] ?_; (with_reducible refine (spec_l1Cur_one.calls g s0_0 s0_1 s0_2 30 true t4 t5 w0 _ ?side1 ?side2 A3.out).mono ?_); (case side1 => exact b9yh_); (case side2 => exact bois_); rintro e w2 ⟨rfl, hi, hb, hk⟩; refine ⟨_, rfl, ?_⟩; replace BK1 := kb1_ BK1 hk NB1_0; replace HK := A0_ (KeepBut.trans bcka_ hk (.inl rfl)); replace HB := A0_ (hb); replace HI0 := A0_ (hi); (try clear hb); (try clear hk); (try clear hi); have hnb1 := NB1_0.out; have hnc1 := NB0_1.out; have hcz1 := c3_ BK1) | ((with_reducible refine gd_ (N := 10) rfl ?_); refine Kd.R_lit (Kd.int .i64) _ 3 ?hg (N := 10) ?hd (xs := ([(-1), 0, a1_0, 4611686018427387904] : List Int)) (inner := [.int .i64 (-1), .int .i64 0, .int .i64 a1_0, .int .i64 4611686018427387904]) (ok := fun _ => True) (okp := fun _ => True) ?hr ?hp (fun _ hk => hk) trivial (Below.refl _ _) (Nat.le_refl _) bxka_ ?_; (case hd => rfl); (case hg => rfl); (case hr => go_simp; first | done | rfl); (case hp => exact (Reps.one (show Kd.M (Kd.int .i64) _ _ _ (-1) [.int .i64 (-1)] from rfl) (Reps.one (show Kd.M (Kd.int .i64) _ _ _ 0 [.int .i64 0] from rfl) (Reps.one (show Kd.M (Kd.int .i64) _ _ _ a1_0 [.int .i64 a1_0] from rfl) (Reps.one (show Kd.M (Kd.int .i64) _ _ _ 4611686018427387904 [.int .i64 4611686018427387904] from rfl) (Reps.none _ _)))))); intro v1 w3 ho11 hb hg_ hnew_; clear hg_ hnew_; (first | rw [← Ny1.out] at ho11 | (simp only [Int.reduceToNat] at ho11; rw [← Ny1.out] at ho11)); have HO1 := A0_ (Kd.R_lower ho11 (keep_size (w := w) (g := g) (row := none) bcka_)); replace BK1 := k1_ BK1 hb; replace HK := A0_ (KeepBut.trans bcka_ (KeepBut.of_below hb g none) (.inl rfl)); replace HB := hb_ hb bois_; replace HI0 := A0_ (IsS75.below b9yh_ hb); clear hb ho11; obtain ⟨Ao1, co1, eo1⟩ := Kd.R_slice HO1.out; subst eo1) | ((with_reducible refine gc_ (f := 59) rfl ?_); refine gl_ 11 Tryd.func59 #[.pointer (some ⟨g, 0, none⟩), .slice Ao1 y1.length co1] ?_; (with_reducible refine (spec_l1Cur_among.calls g s0_0 t4 t5 _ _ y1 t6 t7 t8 w0 _ ?side1 ?side2 ?side3 ?side4 ?side5 A5.out).mono ?_); (case side1 => exact b9yh_); (case side2 => exact bois_); (case side3 => exact bayy_); (case side4 => exact (rr_ HO1.out).2.1); (case side5 => exact far_slice (IsS75.own_ne HI0.out HO1.out bi3y_)); rintro e w4 ⟨rfl, hi, hb, hk⟩; refine ⟨_, rfl, ?_⟩; replace BK1 := kb1_ BK1 hk NB1_0; replace HO1 := A0_ (Kd.R_mono (Kd.R_keep (IsS75.apart (show IsS75 w0 _ g s0_0 t4 t5 from b9yh_) bsm5_ bi3y_) hk (fun _ h => h.2)) (fun _ h => h.1)); replace HK := A0_ (KeepBut.trans bcka_ hk (.inl rfl)); replace HB := A0_ (hb); replace HI0 := A0_ (hi); (try clear hb); (try clear hk); (try clear hi)))
 go_ret
 exact ⟨bnwh_, b9yh_, bois_, bcka_⟩

def spec_l1Cur_freeSeat.j0 : Nat → Bool → List Int → Int → Int → Int → Bool → List Int → Option (Int × Int × Int)
 | 0, _, _, _, _, _, _, _ => none
 | k + 1, x12, x1000, x1001, x1002, x421000, x421001, x421002 => if x12 = true then ((spec_l2Free.f k x421000 x421001 x421002).bind fun t425 => (if (t425.length : Int) > 0 then ((spec_l1Cur_pick.f x1000 x1001 x1002 (t425.length : Int)).bind fun bt428 => (if 0 ≤ bt428.1 then (if bt428.1 < (t425.length : Int) then (some (rd t425 bt428.1, bt428.2.1, bt428.2.2)) else (none)) else (none))) else ((spec_l1Cur_seat.f x1000 x1001 x1002 x421000 x421001 x421002).bind fun bt432 => (some (bt432.1, bt432.2.1, bt432.2.2))))) else ((spec_l1Cur_seat.f x1000 x1001 x1002 x421000 x421001 x421002).bind fun bt435 => (some (bt435.1, bt435.2.1, bt435.2.2)))
def spec_l1Cur_freeSeat.f (k : Nat) (s0_0 : List Int) (s0_1 : Int) (s0_2 : Int) (a1_0 : Int) (a1_1 : Bool) (l1_2 : List Int) : Option (Int × Int × Int) := (spec_l2Row.f k a1_0 a1_1 l1_2).bind fun t421 => (if t421 = true then ((spec_l1Cur_one.f s0_0 s0_1 s0_2 8).bind fun bt422 => (spec_l1Cur_freeSeat.j0 k (!bt422.1) s0_0 bt422.2.1 bt422.2.2 a1_0 a1_1 l1_2)) else (spec_l1Cur_freeSeat.j0 k false s0_0 s0_1 s0_2 a1_0 a1_1 l1_2))
theorem spec_l1Cur_freeSeat.mono_l : ∀ k, (∀ y0 y1 y2 y3 y4 y5 y6, LeO (spec_l1Cur_freeSeat.j0 k y0 y1 y2 y3 y4 y5 y6) (spec_l1Cur_freeSeat.j0 (k + 1) y0 y1 y2 y3 y4 y5 y6))
 | 0 => fun _ _ _ _ _ _ _ r h => by simp [spec_l1Cur_freeSeat.j0] at h
 | k + 1 => by
  have ih0 := spec_l1Cur_freeSeat.mono_l k
  ·intro y0 y1 y2 y3 y4 y5 y6
   unfold spec_l1Cur_freeSeat.j0
   repeat' with_reducible first | exact ih0 .. | exact spec_l2Free.mono .. | exact spec_l2Row.mono .. | exact LeO.refl .. | exact LeO.none .. | refine LeO.ite ?_ ?_ | refine LeO.bind ?_ (fun _ => ?_)
theorem spec_l1Cur_freeSeat.mono : ∀ a0 a1 a2 a3 a4 a5 k, LeO (spec_l1Cur_freeSeat.f k a0 a1 a2 a3 a4 a5) (spec_l1Cur_freeSeat.f (k + 1) a0 a1 a2 a3 a4 a5) := by
 intro a0 a1 a2 a3 a4 a5 k
 have ih0 := spec_l1Cur_freeSeat.mono_l k
 unfold spec_l1Cur_freeSeat.f
 repeat' with_reducible first | exact ih0 .. | exact spec_l2Free.mono .. | exact spec_l2Row.mono .. | exact LeO.refl .. | exact LeO.none .. | refine LeO.ite ?_ ?_ | refine LeO.bind ?_ (fun _ => ?_)
theorem spec_l1Cur_freeSeat.calls (k : Nat) (g : Nat) (s0_0 : List Int) (s0_1 : Int) (s0_2 : Int) (a1_0 : Int) (a1_1 : Bool) (A1_2 : Option Addr) (c1_2 : Nat) (l1_2 : List Int) (r1 : Int) (r2 : Int) (r3 : Int) (w0 w : World) (hI : IsS75 w0 w g s0_0 s0_1 s0_2) (hB : Below w0.heap.size w0 w) (hr1_2 : Kd.C (Kd.int .i64) w A1_2 l1_2.length l1_2) (hc1_2 : l1_2.length ≤ c1_2) (hf1_2 : ∀ ad, A1_2 = some ad → 0 < l1_2.length → ad.block ≠ g) (h : spec_l1Cur_freeSeat.f k s0_0 s0_1 s0_2 a1_0 a1_1 l1_2 = some (r1, r2, r3)) :
  Calls Tryd.prog 77 #[.pointer (some ⟨g, 0, none⟩), .agg #[.int .i64 a1_0, .bool a1_1, .slice A1_2 l1_2.length c1_2]] w fun e w' => e = .returned (.int .i64 r1) ∧ IsS75 w0 w' g s0_0 r2 r3 ∧ Below w0.heap.size w0 w' ∧ KeepBut w w' g none := by
 have hu28 := Tryd.underlying28
 have HR1_2 := A0_ hr1_2
 have HC1_2 := A0_ hc1_2
 clear hr1_2 hc1_2
 have HI0 := A0_ hI
 have HK := A0_ (KeepBut.refl w g none)
 have HL := A0_ hB.size
 clear hI
 have HW0 := A0_ hB.size
 have HB := A0_ hB
 clear hB
 have H : ((spec_l2Row.f k a1_0 a1_1 l1_2).bind fun t1 => (if t1 = true then ((spec_l1Cur_one.f s0_0 s0_1 s0_2 8).bind fun bt1 => (spec_l1Cur_freeSeat.j0 k (!bt1.1) s0_0 bt1.2.1 bt1.2.2 a1_0 a1_1 l1_2)) else (spec_l1Cur_freeSeat.j0 k false s0_0 s0_1 s0_2 a1_0 a1_1 l1_2))) = some (r1, r2, r3) := h
 clear h
 have HC3 := A0_ H
 clear H
 go_enter Tryd.func77, Tryd.ntmps77
 go_upto_region 1 with (first | ((with_reducible refine gd_ (N := 3) rfl ?_); refine bx_ 3 #[.int .i64 a1_0, .bool a1_1, .slice A1_2 l1_2.length c1_2] 28 ?_; intro gb1 hg w1 BK1 hb; replace HB := hb_ hb bkjh_; have GW1 := A0_ ((b7vg_ : w.heap.size ≤ gb1)); have GE1 := A0_ ((Nat.le_trans HW0.out (b7vg_ : w.heap.size ≤ gb1) : w0.heap.size ≤ gb1)); replace HK := A0_ (KeepBut.trans bjmx_ (KeepBut.of_below hb g none) (.inl rfl)); have NB0_1 := A0_ ((bzo9_ : g ≠ gb1)); have NB1_0 := A0_ ((b106_ : gb1 ≠ g)); replace HI0 := A0_ (IsS75.below b5hs_ hb); clear hb hg))
 (try simp only [Act.put, sa_, sz_, ss_])
 go_cut [12] (fun v1 wc => ∃ (kq : Nat) (x12_2 : Bool) (x1001_2 : Int) (x1002_2 : Int), v1 = .bool x12_2 ∧ Aside0 (spec_l1Cur_freeSeat.j0 kq x12_2 s0_0 x1001_2 x1002_2 a1_0 a1_1 l1_2 = some (r1, r2, r3)) ∧ Aside0 (kq ≤ k) ∧ Aside0 (wc.heap[gb1]? = some (.cells #[.int .i64 a1_0, .bool a1_1, (.slice A1_2 l1_2.length c1_2)] 28 (0, 0))) ∧ Aside0 (IsS75 w0 wc g s0_0 x1001_2 x1002_2) ∧ Aside0 (KeepBut w wc g none) ∧ Aside0 (Below w0.heap.size w0 wc))
 case first =>
  have H := HC3.out
  clear HC3
  obtain ⟨t1, A3, H⟩ := o1_ H
  by_cases c2 : t1 = true
  case neg =>
   obtain rfl := bf_.mpr c2
   rw [if_neg ft_] at H
   have H' := A0_ H
   clear H
   have hnb1 := NB1_0.out
   have hnc1 := NB0_1.out
   have hcz1 := c3_ BK1
   go_wp2_with (first | ((with_reducible refine gc_ (f := 81) rfl ?_); refine gl_ 7 Tryd.func81 #[.agg #[.int .i64 a1_0, .bool a1_1, .slice A1_2 l1_2.length c1_2]] ?_; (with_reducible refine (spec_l2Row.calls k a1_0 a1_1 _ _ l1_2 false _ ?side1 ?side2 A3.out).mono ?_); (case side1 => exact Kd.C_keep 0 HR1_2.out bcka_ hf1_2); (case side2 => exact HC1_2.out); rintro e w2 ⟨rfl, hb⟩; refine ⟨_, rfl, ?_⟩; replace BK1 := k1_ BK1 hb; replace HK := A0_ (KeepBut.trans bcka_ (KeepBut.of_below hb g none) (.inl rfl)); replace HB := hb_ hb bois_; replace HI0 := A0_ (IsS75.below b9yh_ hb); (try clear hb)))
   go_meet
   exact ⟨_, (false), (s0_1), (s0_2), b2ew_, H', ⟨bbn0_⟩, ⟨u1_ BK1⟩, ⟨b9yh_⟩, ⟨bcka_⟩, ⟨bois_⟩⟩
  subst c2
  rw [if_pos rfl] at H
  obtain ⟨⟨t2, t3, t4⟩, A5, H⟩ := o1_ H
  have H' := A0_ H
  clear H
  have hnb1 := NB1_0.out
  have hnc1 := NB0_1.out
  have hcz1 := c3_ BK1
  go_wp2_with (first | ((with_reducible refine gc_ (f := 81) rfl ?_); refine gl_ 7 Tryd.func81 #[.agg #[.int .i64 a1_0, .bool a1_1, .slice A1_2 l1_2.length c1_2]] ?_; (with_reducible refine (spec_l2Row.calls k a1_0 a1_1 _ _ l1_2 true _ ?side1 ?side2 A3.out).mono ?_); (case side1 => exact Kd.C_keep 0 HR1_2.out bcka_ hf1_2); (case side2 => exact HC1_2.out); rintro e w2 ⟨rfl, hb⟩; refine ⟨_, rfl, ?_⟩; replace BK1 := k1_ BK1 hb; replace HK := A0_ (KeepBut.trans bcka_ (KeepBut.of_below hb g none) (.inl rfl)); replace HB := hb_ hb bois_; replace HI0 := A0_ (IsS75.below b9yh_ hb); (try clear hb)) | (go_at_call 51; (with_reducible refine (spec_l1Cur_one.calls g s0_0 s0_1 s0_2 8 t2 t3 t4 w0 _ ?side1 ?side2 A5.out).mono ?_); (case side1 => exact b9yh_); (case side2 => exact bois_); rintro e w3 ⟨rfl, hi, hb, hk⟩; replace BK1 := kb1_ BK1 hk NB1_0; replace HK := A0_ (KeepBut.trans bcka_ hk (.inl rfl)); replace HB := A0_ (hb); replace HI0 := A0_ (hi); (try clear hb); (try clear hk); (try clear hi)))
  go_meet
  exact ⟨_, (!t2), (t3), (t4), b2ew_, H', ⟨bbn0_⟩, ⟨u1_ BK1⟩, ⟨b9yh_⟩, ⟨bcka_⟩, ⟨bois_⟩⟩
 clear HC3
 try clear c1
 obtain ⟨kq, x12_2, x1001_2, x1002_2, rfl, HA, HJ1, BK1, HI0, HK, HB⟩ := hcut
 cases kq with | zero => exact absurd HA.out (by simp [spec_l1Cur_freeSeat.j0]) | succ kj1 => ?_
 have H := HA.out
 clear HA
 simp only [spec_l1Cur_freeSeat.j0] at H
 by_cases c2 : x12_2 = true
 case neg =>
  obtain rfl := bf_.mpr c2
  rw [if_neg ft_] at H
  obtain ⟨⟨t2, t3, t4⟩, A3, H⟩ := o1_ H
  replace H : (some (t2, t3, t4)) = some (r1, r2, r3) := H
  simp only [sj_, pj_] at H
  obtain ⟨rfl, rfl, rfl⟩ := H
  have hnb1 := NB1_0.out
  have hnc1 := NB0_1.out
  have hcz1 := c3_ BK1
  go_wp2_with (first | ((with_reducible refine gc_ (f := 60) rfl ?_); refine gl_ 27 Tryd.func60 #[.pointer (some ⟨g, 0, none⟩), .agg #[.int .i64 a1_0, .bool a1_1, .slice A1_2 l1_2.length c1_2]] ?_; (with_reducible refine (spec_l1Cur_seat.calls g s0_0 x1001_2 x1002_2 a1_0 a1_1 _ _ l1_2 t2 t3 t4 w0 _ ?side1 ?side2 ?side3 ?side4 ?side5 A3.out).mono ?_); (case side1 => exact b9yh_); (case side2 => exact bois_); (case side3 => exact Kd.C_keep 0 HR1_2.out bcka_ hf1_2); (case side4 => exact HC1_2.out); (case side5 => exact hf1_2); rintro e w2 ⟨rfl, hi, hb, hk⟩; refine ⟨_, rfl, ?_⟩; replace BK1 := kb1_ BK1 hk NB1_0; replace HK := A0_ (KeepBut.trans bcka_ hk (.inl rfl)); replace HB := A0_ (hb); replace HI0 := A0_ (hi); (try clear hb); (try clear hk); (try clear hi)))
  go_ret
  exact ⟨bnwh_, b9yh_, bois_, bcka_⟩
 subst c2
 rw [if_pos rfl] at H
 obtain ⟨t2, A3, H⟩ := o1_ H
 by_cases c3 : (t2.length : Int) > 0
 case neg =>
  rw [if_neg c3] at H
  have c3b0 : decide (0 < (t2.length : Int)) = false := decide_eq_false c3
  have c3b1 : decide (0 < t2.length) = false := decide_eq_false bh19_
  clear c3
  obtain ⟨⟨t3, t4, t5⟩, A5, H⟩ := o1_ H
  replace H : (some (t3, t4, t5)) = some (r1, r2, r3) := H
  simp only [sj_, pj_] at H
  obtain ⟨rfl, rfl, rfl⟩ := H
  have hnb1 := NB1_0.out
  have hnc1 := NB0_1.out
  have hcz1 := c3_ BK1
  go_wp2_with (first | ((with_reducible refine gc_ (f := 42) rfl ?_); refine gl_ 14 Tryd.func42 #[.agg #[.int .i64 a1_0, .bool a1_1, .slice A1_2 l1_2.length c1_2]] ?_; (with_reducible refine (spec_l2Free.calls kj1 a1_0 a1_1 _ _ l1_2 t2 _ ?side1 ?side2 A3.out).mono ?_); (case side1 => exact Kd.C_keep 0 HR1_2.out bcka_ hf1_2); (case side2 => exact HC1_2.out); rintro e w2 ⟨v2, rfl, ho0, hb⟩; refine ⟨_, rfl, ?_⟩; have HO1 := A0_ (Kd.R_lower ho0 (keep_size (w := w) (g := g) (row := none) bcka_)); replace BK1 := k1_ BK1 hb; replace HK := A0_ (KeepBut.trans bcka_ (KeepBut.of_below hb g none) (.inl rfl)); replace HB := hb_ hb bois_; replace HI0 := A0_ (IsS75.below b9yh_ hb); (try clear hb); (try clear ho0); obtain ⟨Ao1, co1, eo1⟩ := Kd.R_slice HO1.out; subst eo1; have hcz2 := c3_ BK1) | ((with_reducible refine gc_ (f := 60) rfl ?_); refine gl_ 27 Tryd.func60 #[.pointer (some ⟨g, 0, none⟩), .agg #[.int .i64 a1_0, .bool a1_1, .slice A1_2 l1_2.length c1_2]] ?_; (with_reducible refine (spec_l1Cur_seat.calls g s0_0 x1001_2 x1002_2 a1_0 a1_1 _ _ l1_2 t3 t4 t5 w0 _ ?side1 ?side2 ?side3 ?side4 ?side5 A5.out).mono ?_); (case side1 => exact b9yh_); (case side2 => exact bois_); (case side3 => exact Kd.C_keep 0 HR1_2.out bcka_ hf1_2); (case side4 => exact HC1_2.out); (case side5 => exact hf1_2); rintro e w3 ⟨rfl, hi, hb, hk⟩; refine ⟨_, rfl, ?_⟩; replace BK1 := kb1_ BK1 hk NB1_0; replace HO1 := A0_ (Kd.R_mono (Kd.R_keep (IsS75.apart (show IsS75 w0 _ g s0_0 x1001_2 x1002_2 from b9yh_) bsm5_ bi3y_) hk (fun _ h => h.2)) (fun _ h => h.1)); replace HK := A0_ (KeepBut.trans bcka_ hk (.inl rfl)); replace HB := A0_ (hb); replace HI0 := A0_ (hi); (try clear hb); (try clear hk); (try clear hi)))
  go_ret
  exact ⟨bnwh_, b9yh_, bois_, bcka_⟩
 rw [if_pos c3] at H
 have c3b0 : decide (0 < (t2.length : Int)) = true := dt_ c3
 have c3b1 : decide (0 < t2.length) = true := dt_ bh19_
 clear c3
 obtain ⟨⟨t3, t4, t5⟩, A5, H⟩ := o1_ H
 by_cases c4 : 0 ≤ t3
 case neg =>
  rw [if_neg c4] at H
  exact absurd H bxka_
 rw [if_pos c4] at H
 have c4b0 : decide (0 ≤ t3) = true := dt_ c4
 clear c4
 by_cases c5 : t3 < (t2.length : Int)
 case neg =>
  rw [if_neg c5] at H
  exact absurd H bxka_
 rw [if_pos c5] at H
 have c5b0 : decide (t3 < (t2.length : Int)) = true := dt_ c5
 clear c5
 simp only [sj_, pj_] at H
 obtain ⟨rfl, rfl, rfl⟩ := H
 have hnb1 := NB1_0.out
 have hnc1 := NB0_1.out
 have hcz1 := c3_ BK1
 go_wp2_with (first | ((with_reducible refine gc_ (f := 42) rfl ?_); refine gl_ 14 Tryd.func42 #[.agg #[.int .i64 a1_0, .bool a1_1, .slice A1_2 l1_2.length c1_2]] ?_; (with_reducible refine (spec_l2Free.calls kj1 a1_0 a1_1 _ _ l1_2 t2 _ ?side1 ?side2 A3.out).mono ?_); (case side1 => exact Kd.C_keep 0 HR1_2.out bcka_ hf1_2); (case side2 => exact HC1_2.out); rintro e w2 ⟨v2, rfl, ho0, hb⟩; refine ⟨_, rfl, ?_⟩; have HO1 := A0_ (Kd.R_lower ho0 (keep_size (w := w) (g := g) (row := none) bcka_)); replace BK1 := k1_ BK1 hb; replace HK := A0_ (KeepBut.trans bcka_ (KeepBut.of_below hb g none) (.inl rfl)); replace HB := hb_ hb bois_; replace HI0 := A0_ (IsS75.below b9yh_ hb); (try clear hb); (try clear ho0); obtain ⟨Ao1, co1, eo1⟩ := Kd.R_slice HO1.out; subst eo1) | ((with_reducible refine gc_ (f := 61) rfl ?_); refine gl_ 22 Tryd.func61 #[.pointer (some ⟨g, 0, none⟩), .int .i64 (t2.length : Int)] ?_; (with_reducible refine (spec_l1Cur_pick.calls g s0_0 x1001_2 x1002_2 (t2.length : Int) t3 t4 t5 w0 _ ?side1 ?side2 A5.out).mono ?_); (case side1 => exact b9yh_); (case side2 => exact bois_); rintro e w3 ⟨rfl, hi, hb, hk⟩; refine ⟨_, rfl, ?_⟩; replace BK1 := kb1_ BK1 hk NB1_0; replace HO1 := A0_ (Kd.R_mono (Kd.R_keep (IsS75.apart (show IsS75 w0 _ g s0_0 x1001_2 x1002_2 from b9yh_) bsm5_ bi3y_) hk (fun _ h => h.2)) (fun _ h => h.1)); replace HK := A0_ (KeepBut.trans bcka_ hk (.inl rfl)); replace HB := A0_ (hb); replace HI0 := A0_ (hi); (try clear hb); (try clear hk); (try clear hi); have p1 : 0 ≤ (t3 : Int) := od_ bpil_; have q1 : t3 < (t2.length : Int) := od_ bpil_; obtain ⟨ad1, e1, hx1_0⟩ := Kd.at_int (rr_ HO1.out).2.2 t3 p1 q1; cases e1; replace p1 := eq_true p1; replace q1 := eq_true q1))
 go_ret
 exact ⟨bnwh_, b9yh_, bois_, bcka_⟩

def spec_l1Cur_arrival.l0 : Nat → List Int → Int → List Int → Int → Int → Int → Bool → List Int → Option (List Int × Int × Int)
 | 0, _, _, _, _, _, _, _, _ => none
 | k + 1, x5, x6, x1000, x1001, x1002, x439000, x439001, x439002 => if x6 > 0 then ((spec_l1Cur_freeSeat.f k x1000 x1001 x1002 x439000 x439001 x439002).bind fun bt448 => ((spec_l1Has.f k x5 bt448.1).bind fun t451 => (if t451 = true then ((spec_l1Cur_one.f x1000 bt448.2.1 bt448.2.2 20).bind fun bt452 => (if bt452.1 = true then (if x5.length < 17592186044416 then (spec_l1Cur_arrival.l0 k (x5 ++ [bt448.1]) (wrap64 (x6 - 1)) x1000 bt452.2.1 bt452.2.2 x439000 x439001 x439002) else (none)) else (spec_l1Cur_arrival.l0 k x5 (wrap64 (x6 - 1)) x1000 bt452.2.1 bt452.2.2 x439000 x439001 x439002))) else (if x5.length < 17592186044416 then (spec_l1Cur_arrival.l0 k (x5 ++ [bt448.1]) (wrap64 (x6 - 1)) x1000 bt448.2.1 bt448.2.2 x439000 x439001 x439002) else (none))))) else (some (x5, x1001, x1002))
def spec_l1Cur_arrival.f (k : Nat) (s0_0 : List Int) (s0_1 : Int) (s0_2 : Int) (a1_0 : Int) (a1_1 : Bool) (l1_2 : List Int) : Option (List Int × Int × Int) := (spec_l1Cur_among.f s0_0 s0_1 s0_2 (([3, 4, 2, 6, 1, 0, 10] : List Int))).bind fun bt445 => (spec_l1Cur_arrival.l0 k (([] : List Int)) bt445.1 s0_0 bt445.2.1 bt445.2.2 a1_0 a1_1 l1_2)
theorem spec_l1Cur_arrival.mono_l : ∀ k, (∀ y0 y1 y2 y3 y4 y5 y6 y7, LeO (spec_l1Cur_arrival.l0 k y0 y1 y2 y3 y4 y5 y6 y7) (spec_l1Cur_arrival.l0 (k + 1) y0 y1 y2 y3 y4 y5 y6 y7))
 | 0 => fun _ _ _ _ _ _ _ _ r h => by simp [spec_l1Cur_arrival.l0] at h
 | k + 1 => by
  have ih0 := spec_l1Cur_arrival.mono_l k
  ·intro y0 y1 y2 y3 y4 y5 y6 y7
   unfold spec_l1Cur_arrival.l0
   repeat' with_reducible first | exact ih0 .. | exact spec_l1Cur_freeSeat.mono .. | exact spec_l1Has.mono .. | exact LeO.refl .. | exact LeO.none .. | refine LeO.ite ?_ ?_ | refine LeO.bind ?_ (fun _ => ?_)
theorem spec_l1Cur_arrival.mono : ∀ a0 a1 a2 a3 a4 a5 k, LeO (spec_l1Cur_arrival.f k a0 a1 a2 a3 a4 a5) (spec_l1Cur_arrival.f (k + 1) a0 a1 a2 a3 a4 a5) := by
 intro a0 a1 a2 a3 a4 a5 k
 have ih0 := spec_l1Cur_arrival.mono_l k
 unfold spec_l1Cur_arrival.f
 repeat' with_reducible first | exact ih0 .. | exact spec_l1Cur_freeSeat.mono .. | exact spec_l1Has.mono .. | exact LeO.refl .. | exact LeO.none .. | refine LeO.ite ?_ ?_ | refine LeO.bind ?_ (fun _ => ?_)
theorem spec_l1Cur_arrival.calls (k : Nat) (g : Nat) (s0_0 : List Int) (s0_1 : Int) (s0_2 : Int) (a1_0 : Int) (a1_1 : Bool) (A1_2 : Option Addr) (c1_2 : Nat) (l1_2 : List Int) (r1 : List Int) (r2 : Int) (r3 : Int) (w0 w : World) (hI : IsS75 w0 w g s0_0 s0_1 s0_2) (hB : Below w0.heap.size w0 w) (hr1_2 : Kd.C (Kd.int .i64) w A1_2 l1_2.length l1_2) (hc1_2 : l1_2.length ≤ c1_2) (hf1_2 : ∀ ad, A1_2 = some ad → 0 < l1_2.length → ad.block ≠ g) (h : spec_l1Cur_arrival.f k s0_0 s0_1 s0_2 a1_0 a1_1 l1_2 = some (r1, r2, r3)) :
  Calls Tryd.prog 50 #[.pointer (some ⟨g, 0, none⟩), .agg #[.int .i64 a1_0, .bool a1_1, .slice A1_2 l1_2.length c1_2]] w fun e w' => ∃ v0_ : Value, e = .returned (v0_) ∧ Kd.R (Kd.int .i64) 3 w' w.heap.size (fun _ => True) v0_ r1 ∧ IsS75 w0 w' g s0_0 r2 r3 ∧ Below w0.heap.size w0 w' ∧ KeepBut w w' g none := by
 have hu28 := Tryd.underlying28
 have HR1_2 := A0_ hr1_2
 have HC1_2 := A0_ hc1_2
 clear hr1_2 hc1_2
 have HI0 := A0_ hI
 have HK := A0_ (KeepBut.refl w g none)
 have HL := A0_ hB.size
 clear hI
 have HW0 := A0_ hB.size
 have HB := A0_ hB
 clear hB
 have H : ((spec_l1Cur_among.f s0_0 s0_1 s0_2 (([3, 4, 2, 6, 1, 0, 10] : List Int))).bind fun bt1 => (spec_l1Cur_arrival.l0 k (([] : List Int)) bt1.1 s0_0 bt1.2.1 bt1.2.2 a1_0 a1_1 l1_2)) = some (r1, r2, r3) := h
 clear h
 obtain ⟨y1, hy1⟩ : ∃ y_ : List Int, y_ = (([] : List Int)) := ⟨_, rfl⟩
 replace H : ((spec_l1Cur_among.f s0_0 s0_1 s0_2 (([3, 4, 2, 6, 1, 0, 10] : List Int))).bind fun bt1 => (spec_l1Cur_arrival.l0 k y1 bt1.1 s0_0 bt1.2.1 bt1.2.2 a1_0 a1_1 l1_2)) = some (r1, r2, r3) := bgiq_
 have Ny1 := A0_ hy1
 clear hy1
 obtain ⟨y2, hy2⟩ : ∃ y_ : List Int, y_ = (([3, 4, 2, 6, 1, 0, 10] : List Int)) := ⟨_, rfl⟩
 replace H : ((spec_l1Cur_among.f s0_0 s0_1 s0_2 y2).bind fun bt1 => (spec_l1Cur_arrival.l0 k y1 bt1.1 s0_0 bt1.2.1 bt1.2.2 a1_0 a1_1 l1_2)) = some (r1, r2, r3) := bscs_
 have Ny2 := A0_ hy2
 clear hy2
 obtain ⟨⟨t1, t2, t3⟩, A3, H⟩ := o1_ H
 have H' := A0_ H
 clear H
 go_enter Tryd.func50, Tryd.ntmps50
 go_wp2_with (first | ((with_reducible refine gd_ (N := 3) rfl ?_); refine bx_ 3 #[.int .i64 a1_0, .bool a1_1, .slice A1_2 l1_2.length c1_2] 28 ?_; intro gb1 hg w1 BK1 hb; replace HB := hb_ hb bkjh_; have GW1 := A0_ ((b7vg_ : w.heap.size ≤ gb1)); have GE1 := A0_ ((Nat.le_trans HW0.out (b7vg_ : w.heap.size ≤ gb1) : w0.heap.size ≤ gb1)); replace HK := A0_ (KeepBut.trans bjmx_ (KeepBut.of_below hb g none) (.inl rfl)); have NB0_1 := A0_ ((bzo9_ : g ≠ gb1)); have NB1_0 := A0_ ((b106_ : gb1 ≠ g)); replace HI0 := A0_ (IsS75.below b5hs_ hb); clear hb hg) | ((with_reducible refine gd_ (N := 8) rfl ?_); refine Kd.R_lit (Kd.int .i64) _ 3 ?hg (N := 8) ?hd (xs := ([] : List Int)) (inner := []) (ok := fun _ => True) (okp := fun _ => True) ?hr ?hp (fun _ hk => hk) trivial (Below.refl _ _) (Nat.le_refl _) bxka_ ?_; (case hd => rfl); (case hg => rfl); (case hr => go_simp; first | done | rfl); (case hp => exact (Reps.none _ _)); intro v1 w2 ho6 hb hg_ hnew_; clear hg_ hnew_; (first | rw [← Ny1.out] at ho6 | (simp only [Int.reduceToNat] at ho6; rw [← Ny1.out] at ho6)); have HO1 := A0_ (Kd.R_lower ho6 (keep_size (w := w) (g := g) (row := none) bcka_)); replace BK1 := k1_ BK1 hb; replace HK := A0_ (KeepBut.trans bcka_ (KeepBut.of_below hb g none) (.inl rfl)); replace HB := hb_ hb bois_; replace HI0 := A0_ (IsS75.below b9yh_ hb); clear hb ho6) | ((with_reducible refine gd_ (N := 10) rfl ?_); refine Kd.R_lit (Kd.int .i64) _ 3 ?hg (N := 10) ?hd (xs := ([3, 4, 2, 6, 1, 0, 10] : List Int)) (inner := [.int .i64 3, .int .i64 4, .int .i64 2, .int .i64 6, .int .i64 1, .int .i64 0, .int .i64 10]) (ok := fun _ => True) (okp := fun _ => True) ?hr ?hp (fun _ hk => hk) trivial (Below.refl _ _) (Nat.le_refl _) bxka_ ?_; (case hd => rfl); (case hg => rfl); (case hr => go_simp; first | done | rfl); (case hp => exact (Reps.one (show Kd.M (Kd.int .i64) _ _ _ 3 [.int .i64 3] from rfl) (Reps.one (show Kd.M (Kd.int .i64) _ _ _ 4 [.int .i64 4] from rfl) (Reps.one (show Kd.M (Kd.int .i64) _ _ _ 2 [.int .i64 2] from rfl) (Reps.one (show Kd.M (Kd.int .i64) _ _ _ 6 [.int .i64 6] from rfl) (Reps.one (show Kd.M (Kd.int .i64) _ _ _ 1 [.int .i64 1] from rfl) (Reps.one (show Kd.M (Kd.int .i64) _ _ _ 0 [.int .i64 0] from rfl) (Reps.one (show Kd.M (Kd.int .i64) _ _ _ 10 [.int .i64 10] from rfl) (Reps.none _ _))))))))); intro v2 w3 ho8 hb hg_ hnew_; clear hg_ hnew_; (first | rw [← Ny2.out] at ho8 | (simp only [Int.reduceToNat] at ho8; rw [← Ny2.out] at ho8)); have HO2 := A0_ (Kd.R_lower (Kd.R_new' ho8 (Kd.R_lt bsm5_)) (keep_size (w := w) (g := g) (row := none) bcka_)); replace HO1 := A0_ (Kd.R_elder' bsm5_ (Kd.R_base ho8) hb); replace BK1 := k1_ BK1 hb; replace HK := A0_ (KeepBut.trans bcka_ (KeepBut.of_below hb g none) (.inl rfl)); replace HB := hb_ hb bois_; replace HI0 := A0_ (IsS75.below b9yh_ hb); clear hb ho8; obtain ⟨Ao1, co1, eo1⟩ := Kd.R_slice HO2.out; subst eo1) | ((with_reducible refine gc_ (f := 59) rfl ?_); refine gl_ 11 Tryd.func59 #[.pointer (some ⟨g, 0, none⟩), .slice Ao1 y2.length co1] ?_; (with_reducible refine (spec_l1Cur_among.calls g s0_0 s0_1 s0_2 _ _ y2 t1 t2 t3 w0 _ ?side1 ?side2 ?side3 ?side4 ?side5 A3.out).mono ?_); (case side1 => exact b9yh_); (case side2 => exact bois_); (case side3 => exact ba04_); (case side4 => exact (rr_ HO2.out).2.1); (case side5 => exact far_slice (IsS75.own_ne HI0.out HO2.out bi3y_)); rintro e w4 ⟨rfl, hi, hb, hk⟩; refine ⟨_, rfl, ?_⟩; replace BK1 := kb1_ BK1 hk NB1_0; replace HO1 := A0_ (Kd.R_mono (Kd.R_keep (IsS75.apart (show IsS75 w0 _ g s0_0 s0_1 s0_2 from b9yh_) bsm5_ bi3y_) hk (fun _ h => h.2)) (fun _ h => h.1)); replace HO2 := A0_ (Kd.R_mono (Kd.R_keep (IsS75.apart (show IsS75 w0 _ g s0_0 s0_1 s0_2 from b9yh_) b9so_ bi3y_) hk (fun _ h => h.2)) (fun _ h => h.1)); replace HK := A0_ (KeepBut.trans bcka_ hk (.inl rfl)); replace HB := A0_ (hb); replace HI0 := A0_ (hi); (try clear hb); (try clear hk); (try clear hi)))
 go_loopg [5, 6] k (fun kq v3 v4 w' => ∃ (x5_1 : List Int) (x6_1 : Int) (x1001_1 : Int) (x1002_1 : Int), v4 = .int .i64 x6_1 ∧ Aside0 (spec_l1Cur_arrival.l0 kq x5_1 x6_1 s0_0 x1001_1 x1002_1 a1_0 a1_1 l1_2 = some (r1, r2, r3)) ∧ Aside0 (kq ≤ k) ∧ Aside0 (Kd.R (Kd.int .i64) 3 w' w.heap.size (fun _ => True) v3 x5_1) ∧ Aside0 (w'.heap[gb1]? = some (.cells #[.int .i64 a1_0, .bool a1_1, (.slice A1_2 l1_2.length c1_2)] 28 (0, 0))) ∧ Aside0 (IsS75 w0 w' g s0_0 x1001_1 x1002_1) ∧ Aside0 (KeepBut w w' g none) ∧ Aside0 (Below w0.heap.size w0 w'))
 case atStart => exact ⟨(y1), (t1), (t2), (t3), b2ew_, H', ⟨Nat.le_refl _⟩, ⟨by (with_reducible repeat (first | apply ra_ | apply rn_ | apply rd_)); exact Kd.R_mono HO1.out (fun _ hk => trivial)⟩, ⟨u1_ BK1⟩, ⟨b9yh_⟩, ⟨bcka_⟩, ⟨bois_⟩⟩
 clear H'
 try clear c1
 obtain ⟨x5_1, x6_1, x1001_1, x1002_1, rfl, HA, HK1, HO_1, BK1, HI0, HK, HB⟩ := hrel
 cases gk with | zero => exact absurd HA.out (by simp [spec_l1Cur_arrival.l0]) | succ k1 => ?_
 have H := HA.out
 clear HA
 simp only [spec_l1Cur_arrival.l0] at H
 by_cases c2 : x6_1 > 0
 case neg =>
  rw [if_neg c2] at H
  have c2b0 : decide (0 < x6_1) = false := decide_eq_false c2
  clear c2
  simp only [sj_, pj_] at H
  obtain ⟨rfl, rfl, rfl⟩ := H
  go_wp2
  go_ret
  exact ⟨_, bnwh_, bwik_, b9yh_, bois_, bcka_⟩
 rw [if_pos c2] at H
 have c2b0 : decide (0 < x6_1) = true := dt_ c2
 clear c2
 obtain ⟨⟨t4, t5, t6⟩, A5, H⟩ := o1_ H
 obtain ⟨t7, A7, H⟩ := o1_ H
 by_cases c3 : t7 = true
 case neg =>
  obtain rfl := bf_.mpr c3
  rw [if_neg ft_] at H
  by_cases c4 : x5_1.length < 17592186044416
  case neg =>
   rw [if_neg c4] at H
   exact absurd H bxka_
  rw [if_pos c4] at H
  have LMc1 := A0_ c4
  clear c4
  obtain ⟨y3, hy3⟩ : ∃ y_ : List Int, y_ = (x5_1 ++ [t4]) := ⟨_, rfl⟩
  replace H : (spec_l1Cur_arrival.l0 k1 y3 (wrap64 (x6_1 - 1)) s0_0 t5 t6 a1_0 a1_1 l1_2) = some (r1, r2, r3) := b2x6_
  have Ny3 := A0_ hy3
  clear hy3
  have H' := A0_ H
  clear H
  have hnb1 := NB1_0.out
  have hnc1 := NB0_1.out
  have hcz1 := c3_ BK1
  go_wp2_with (first | ((with_reducible refine gc_ (f := 77) rfl ?_); refine gl_ 18 Tryd.func77 #[.pointer (some ⟨g, 0, none⟩), .agg #[.int .i64 a1_0, .bool a1_1, .slice A1_2 l1_2.length c1_2]] ?_; (with_reducible refine (spec_l1Cur_freeSeat.calls k1 g s0_0 x1001_1 x1002_1 a1_0 a1_1 _ _ l1_2 t4 t5 t6 w0 _ ?side1 ?side2 ?side3 ?side4 ?side5 A5.out).mono ?_); (case side1 => exact b9yh_); (case side2 => exact bois_); (case side3 => exact Kd.C_keep 0 HR1_2.out bcka_ hf1_2); (case side4 => exact HC1_2.out); (case side5 => exact hf1_2); rintro e w5 ⟨rfl, hi, hb, hk⟩; refine ⟨_, rfl, ?_⟩; replace HO_1 := A0_ (Kd.R_mono (Kd.R_keep (IsS75.apart (show IsS75 w0 _ g s0_0 x1001_1 x1002_1 from b9yh_) bwik_ bi3y_) hk (fun _ h => h.2)) (fun _ h => h.1)); replace BK1 := kb1_ BK1 hk NB1_0; replace HK := A0_ (KeepBut.trans bcka_ hk (.inl rfl)); replace HB := A0_ (hb); replace HI0 := A0_ (hi); (try clear hb); (try clear hk); (try clear hi); obtain ⟨Ao2, co2, eo2⟩ := Kd.R_slice HO_1.out; subst eo2) | ((with_reducible refine gc_ (f := 62) rfl ?_); refine gl_ 21 Tryd.func62 #[.slice Ao2 x5_1.length co2, .int .i64 t4] ?_; (with_reducible refine (spec_l1Has.calls k1 _ _ x5_1 t4 false _ ?side1 ?side2 A7.out).mono ?_); (case side1 => exact btcf_); (case side2 => exact (rr_ HO_1.out).2.1); rintro e w' ⟨rfl, ⟨nd, rfl⟩⟩; refine ⟨_, rfl, ?_⟩) | ((with_reducible refine gate_builtin (b := .append) (xs := #[.tmp 27, .tmp 29]) rfl ?_); at_builtin; refine Kd.R_append (Kd.int .i64) w.heap.size rfl (.tmp 27) (.tmp 29) 22 3 (.int .i64 0) 8 rfl Tryd.underlying22 info3 rfl bi3y_ bh19_ (.slice Ao2 x5_1.length co2) x5_1 t4 [.int .i64 t4] (fun _ => True) (fun _ => False) rfl rfl ?aP (fun _ hk => hk.elim) ?aF ?aO (Below.refl _ _) ?aS ?aL ?_; (case aP => exact rfl); (case aF => exact (fun _ _ => trivial)); (case aO => exact bwik_); (case aS => exact (keep_size (w := w) (g := g) (row := none) bcka_)); (case aL => have := LMc1.out; omega); intro v5 w6 ho hb hg hat; rw [← Ny3.out] at ho; have n0_ := A0_ (blk_grown (g := gb1) (o := .cells #[.int .i64 a1_0, .bool a1_1, .slice A1_2 l1_2.length c1_2] 28 (0, 0)) (u1_ BK1) hg (Kd.R_ne HO_1.out BK1.out bi3y_)); have n1_ := A0_ (IsS75.grown b9yh_ hg (IsS75.own_ne HI0.out HO_1.out bi3y_)); have n2_ := A0_ (below_weaken bois_ HL.out hb); have n3_ := A0_ (KeepBut.trans bcka_ (KeepBut.of_grown hg g) (Kd.R_base2 HO_1.out)); have n4_ := A0_ (ho); clear BK1 HI0 HB HK HO_1; have BK1 := n0_; have HI0 := n1_; have HB := n2_; have HK := n3_; have HO3 := n4_; clear n0_ n1_ n2_ n3_ n4_ ho hb hg hat))
  go_roundg k1
  case measure => have := HK1.out; omega
  exact ⟨(y3), (wrap64 (x6_1 - 1)), (t5), (t6), b2ew_, H', ⟨bxjq_⟩, ⟨buiy_⟩, ⟨u1_ BK1⟩, ⟨b9yh_⟩, ⟨bcka_⟩, ⟨bois_⟩⟩
 subst c3
 rw [if_pos rfl] at H
 obtain ⟨⟨t8, t9, t10⟩, A9, H⟩ := o1_ H
 by_cases c4 : t8 = true
 case neg =>
  obtain rfl := bf_.mpr c4
  rw [if_neg ft_] at H
  have H' := A0_ H
  clear H
  have hnb1 := NB1_0.out
  have hnc1 := NB0_1.out
  have hcz1 := c3_ BK1
  go_wp2_with (first | ((with_reducible refine gc_ (f := 77) rfl ?_); refine gl_ 18 Tryd.func77 #[.pointer (some ⟨g, 0, none⟩), .agg #[.int .i64 a1_0, .bool a1_1, .slice A1_2 l1_2.length c1_2]] ?_; (with_reducible refine (spec_l1Cur_freeSeat.calls k1 g s0_0 x1001_1 x1002_1 a1_0 a1_1 _ _ l1_2 t4 t5 t6 w0 _ ?side1 ?side2 ?side3 ?side4 ?side5 A5.out).mono ?_); (case side1 => exact b9yh_); (case side2 => exact bois_); (case side3 => exact Kd.C_keep 0 HR1_2.out bcka_ hf1_2); (case side4 => exact HC1_2.out); (case side5 => exact hf1_2); rintro e w5 ⟨rfl, hi, hb, hk⟩; refine ⟨_, rfl, ?_⟩; replace HO_1 := A0_ (Kd.R_mono (Kd.R_keep (IsS75.apart (show IsS75 w0 _ g s0_0 x1001_1 x1002_1 from b9yh_) bwik_ bi3y_) hk (fun _ h => h.2)) (fun _ h => h.1)); replace BK1 := kb1_ BK1 hk NB1_0; replace HK := A0_ (KeepBut.trans bcka_ hk (.inl rfl)); replace HB := A0_ (hb); replace HI0 := A0_ (hi); (try clear hb); (try clear hk); (try clear hi); obtain ⟨Ao2, co2, eo2⟩ := Kd.R_slice HO_1.out; subst eo2) | ((with_reducible refine gc_ (f := 62) rfl ?_); refine gl_ 21 Tryd.func62 #[.slice Ao2 x5_1.length co2, .int .i64 t4] ?_; (with_reducible refine (spec_l1Has.calls k1 _ _ x5_1 t4 true _ ?side1 ?side2 A7.out).mono ?_); (case side1 => exact btcf_); (case side2 => exact (rr_ HO_1.out).2.1); rintro e w' ⟨rfl, ⟨nd, rfl⟩⟩; refine ⟨_, rfl, ?_⟩) | (go_at_call 51; (with_reducible refine (spec_l1Cur_one.calls g s0_0 t5 t6 20 false t9 t10 w0 _ ?side1 ?side2 A9.out).mono ?_); (case side1 => exact b9yh_); (case side2 => exact bois_); rintro e w6 ⟨rfl, hi, hb, hk⟩; replace HO_1 := A0_ (Kd.R_mono (Kd.R_keep (IsS75.apart (show IsS75 w0 _ g s0_0 t5 t6 from b9yh_) bwik_ bi3y_) hk (fun _ h => h.2)) (fun _ h => h.1)); replace BK1 := kb1_ BK1 hk NB1_0; replace HK := A0_ (KeepBut.trans bcka_ hk (.inl rfl)); replace HB := A0_ (hb); replace HI0 := A0_ (hi); (try clear hb); (try clear hk); (try clear hi)))
  go_roundg k1
  case measure => have := HK1.out; omega
  exact ⟨(x5_1), (wrap64 (x6_1 - 1)), (t9), (t10), b2ew_, H', ⟨bxjq_⟩, ⟨bwik_⟩, ⟨u1_ BK1⟩, ⟨b9yh_⟩, ⟨bcka_⟩, ⟨bois_⟩⟩
 subst c4
 rw [if_pos rfl] at H
 by_cases c5 : x5_1.length < 17592186044416
 case neg =>
  rw [if_neg c5] at H
  exact absurd H bxka_
 rw [if_pos c5] at H
 have LMc1 := A0_ c5
 clear c5
 obtain ⟨y3, hy3⟩ : ∃ y_ : List Int, y_ = (x5_1 ++ [t4]) := ⟨_, rfl⟩
 replace H : (spec_l1Cur_arrival.l0 k1 y3 (wrap64 (x6_1 - 1)) s0_0 t9 t10 a1_0 a1_1 l1_2) = some (r1, r2, r3) := b2x6_
 have Ny3 := A0_ hy3
 clear hy3
 have H' := A0_ H
 clear H
 have hnb1 := NB1_0.out
 have hnc1 := NB0_1.out
 have hcz1 := c3_ BK1
 go_wp2_with (first | ((with_reducible refine gc_ (f := 77) rfl ?_); refine gl_ 18 Tryd.func77 #[.pointer (some ⟨g, 0, none⟩), .agg #[.int .i64 a1_0, .bool a1_1, .slice A1_2 l1_2.length c1_2]] ?_; (with_reducible refine (spec_l1Cur_freeSeat.calls k1 g s0_0 x1001_1 x1002_1 a1_0 a1_1 _ _ l1_2 t4 t5 t6 w0 _ ?side1 ?side2 ?side3 ?side4 ?side5 A5.out).mono ?_); (case side1 => exact b9yh_); (case side2 => exact bois_); (case side3 => exact Kd.C_keep 0 HR1_2.out bcka_ hf1_2); (case side4 => exact HC1_2.out); (case side5 => exact hf1_2); rintro e w5 ⟨rfl, hi, hb, hk⟩; refine ⟨_, rfl, ?_⟩; replace HO_1 := A0_ (Kd.R_mono (Kd.R_keep (IsS75.apart (show IsS75 w0 _ g s0_0 x1001_1 x1002_1 from b9yh_) bwik_ bi3y_) hk (fun _ h => h.2)) (fun _ h => h.1)); replace BK1 := kb1_ BK1 hk NB1_0; replace HK := A0_ (KeepBut.trans bcka_ hk (.inl rfl)); replace HB := A0_ (hb); replace HI0 := A0_ (hi); (try clear hb); (try clear hk); (try clear hi); obtain ⟨Ao2, co2, eo2⟩ := Kd.R_slice HO_1.out; subst eo2) | ((with_reducible refine gc_ (f := 62) rfl ?_); refine gl_ 21 Tryd.func62 #[.slice Ao2 x5_1.length co2, .int .i64 t4] ?_; (with_reducible refine (spec_l1Has.calls k1 _ _ x5_1 t4 true _ ?side1 ?side2 A7.out).mono ?_); (case side1 => exact btcf_); (case side2 => exact (rr_ HO_1.out).2.1); rintro e w' ⟨rfl, ⟨nd, rfl⟩⟩; refine ⟨_, rfl, ?_⟩) | (go_at_call 51; (with_reducible refine (spec_l1Cur_one.calls g s0_0 t5 t6 20 true t9 t10 w0 _ ?side1 ?side2 A9.out).mono ?_); (case side1 => exact b9yh_); (case side2 => exact bois_); rintro e w6 ⟨rfl, hi, hb, hk⟩; replace HO_1 := A0_ (Kd.R_mono (Kd.R_keep (IsS75.apart (show IsS75 w0 _ g s0_0 t5 t6 from b9yh_) bwik_ bi3y_) hk (fun _ h => h.2)) (fun _ h => h.1)); replace BK1 := kb1_ BK1 hk NB1_0; replace HK := A0_ (KeepBut.trans bcka_ hk (.inl rfl)); replace HB := A0_ (hb); replace HI0 := A0_ (hi); (try clear hb); (try clear hk); (try clear hi)) | ((with_reducible refine gate_builtin (b := .append) (xs := #[.tmp 27, .tmp 29]) rfl ?_); at_builtin; refine Kd.R_append (Kd.int .i64) w.heap.size rfl (.tmp 27) (.tmp 29) 22 3 (.int .i64 0) 8 rfl Tryd.underlying22 info3 rfl bi3y_ bh19_ (.slice Ao2 x5_1.length co2) x5_1 t4 [.int .i64 t4] (fun _ => True) (fun _ => False) rfl rfl ?aP (fun _ hk => hk.elim) ?aF ?aO (Below.refl _ _) ?aS ?aL ?_; (case aP => exact rfl); (case aF => exact (fun _ _ => trivial)); (case aO => exact bwik_); (case aS => exact (keep_size (w := w) (g := g) (row := none) bcka_)); (case aL => have := LMc1.out; omega); intro v5 w7 ho hb hg hat; rw [← Ny3.out] at ho; have n0_ := A0_ (blk_grown (g := gb1) (o := .cells #[.int .i64 a1_0, .bool a1_1, .slice A1_2 l1_2.length c1_2] 28 (0, 0)) (u1_ BK1) hg (Kd.R_ne HO_1.out BK1.out bi3y_)); have n1_ := A0_ (IsS75.grown b9yh_ hg (IsS75.own_ne HI0.out HO_1.out bi3y_)); have n2_ := A0_ (below_weaken bois_ HL.out hb); have n3_ := A0_ (KeepBut.trans bcka_ (KeepBut.of_grown hg g) (Kd.R_base2 HO_1.out)); have n4_ := A0_ (ho); clear BK1 HI0 HB HK HO_1; have BK1 := n0_; have HI0 := n1_; have HB := n2_; have HK := n3_; have HO3 := n4_; clear n0_ n1_ n2_ n3_ n4_ ho hb hg hat))
 go_roundg k1
 case measure => have := HK1.out; omega
 exact ⟨(y3), (wrap64 (x6_1 - 1)), (t9), (t10), b2ew_, H', ⟨bxjq_⟩, ⟨buiy_⟩, ⟨u1_ BK1⟩, ⟨b9yh_⟩, ⟨bcka_⟩, ⟨bois_⟩⟩

def spec_DrawStandsOf_m.f (k : Nat) (s0_0 : List Int) (s0_1 : Int) (s0_2 : Int) : Option (Int × Bool × List Int × List Int × Bool × Int × Int) := (spec_l1Cur_lineRow.f k s0_0 s0_1 s0_2).bind fun bt462 => ((spec_l1Cur_arrival.f k s0_0 bt462.2.2.2.1 bt462.2.2.2.2 bt462.1 bt462.2.1 bt462.2.2.1).bind fun bt470 => ((spec_l1Cur_one.f s0_0 bt470.2.1 bt470.2.2 2).bind fun bt475 => (some (bt462.1, bt462.2.1, bt462.2.2.1, bt470.1, bt475.1, bt475.2.1, bt475.2.2))))
theorem spec_DrawStandsOf_m.mono : ∀ a0 a1 a2 k, LeO (spec_DrawStandsOf_m.f k a0 a1 a2) (spec_DrawStandsOf_m.f (k + 1) a0 a1 a2) := by
 intro a0 a1 a2 k
 unfold spec_DrawStandsOf_m.f
 repeat' with_reducible first | exact spec_l1Cur_arrival.mono .. | exact spec_l1Cur_lineRow.mono .. | exact LeO.refl .. | exact LeO.none .. | refine LeO.ite ?_ ?_ | refine LeO.bind ?_ (fun _ => ?_)
def spec_DrawStandsOf.f (k : Nat) (l0 : List Int) : Option (Int × Bool × List Int × List Int × Bool) := (spec_DrawStandsOf_m.f k l0 0 0).bind fun b => some (b.1, b.2.1, b.2.2.1, b.2.2.2.1, b.2.2.2.2.1)
theorem spec_DrawStandsOf.mono : ∀ a0 k, LeO (spec_DrawStandsOf.f k a0) (spec_DrawStandsOf.f (k + 1) a0) := by
 intro a0 k
 unfold spec_DrawStandsOf.f
 exact LeO.bind (spec_DrawStandsOf_m.mono _ _ _ _) (fun _ => LeO.refl _)
theorem spec_DrawStandsOf.calls (k : Nat) (A0 : Option Addr) (c0 : Nat) (l0 : List Int) (r1 : Int) (r2 : Bool) (r3 : List Int) (r4 : List Int) (r5 : Bool) (w : World) (hr0 : Kd.C (Kd.int .u8) w A0 l0.length l0) (hc0 : l0.length ≤ c0) (h : spec_DrawStandsOf.f k l0 = some (r1, r2, r3, r4, r5)) :
  Calls Tryd.prog 18 #[.slice A0 l0.length c0] w fun e w' => ∃ v2_ v3_ : Value, e = .returned (.tuple #[.agg #[.int .i64 r1, .bool r2, v2_], v3_, .bool r5]) ∧ Kd.R (Kd.int .i64) 3 w' w.heap.size (fun k_ => no_ v3_ k_) v2_ r3 ∧ Kd.R (Kd.int .i64) 3 w' w.heap.size (fun k_ => no_ v2_ k_) v3_ r4 ∧ Below w.heap.size w w' := by
 have hu75 := Tryd.underlying75
 have HB := A0_ (Below.refl w.heap.size w)
 obtain ⟨⟨r1_, r2_, r3_, r4_, r5_, r6, r7⟩, h, h_⟩ := ob_.mp (show (spec_DrawStandsOf_m.f k l0 0 0).bind (fun b => some (b.1, b.2.1, b.2.2.1, b.2.2.2.1, b.2.2.2.2.1)) = some (r1, r2, r3, r4, r5) from h)
 replace h : spec_DrawStandsOf_m.f k l0 0 0 = some (r1, r2, r3, r4, r5, r6, r7) := by rw [h]; cases h_; rfl
 clear h_
 have H : ((spec_l1Cur_lineRow.f k l0 0 0).bind fun bt1 => ((spec_l1Cur_arrival.f k l0 bt1.2.2.2.1 bt1.2.2.2.2 bt1.1 bt1.2.1 bt1.2.2.1).bind fun bt2 => ((spec_l1Cur_one.f l0 bt2.2.1 bt2.2.2 2).bind fun bt3 => (some (bt1.1, bt1.2.1, bt1.2.2.1, bt2.1, bt3.1, bt3.2.1, bt3.2.2))))) = some (r1, r2, r3, r4, r5, r6, r7) := h
 clear h
 obtain ⟨⟨t1, t2, t3, t4, t5⟩, A2, H⟩ := o1_ H
 obtain ⟨⟨t6, t7, t8⟩, A4, H⟩ := o1_ H
 obtain ⟨⟨t9, t10, t11⟩, A6, H⟩ := o1_ H
 replace H : (some (t1, t2, t3, t6, t9, t10, t11)) = some (r1, r2, r3, r4, r5, r6, r7) := H
 simp only [sj_, pj_] at H
 obtain ⟨rfl, rfl, rfl, rfl, rfl, rfl, rfl⟩ := H
 go_enter Tryd.func18, Tryd.ntmps18
 try go_wp2_with (first | ((with_reducible refine gd_ (N := 2) rfl ?_); refine bx_ 2 #[.int .i64 0, .bool false, .slice none 0 0] 28 ?_; intro gb1 hg w1 hbox hb; have n2_ := A0_ (bt_ brt4_ hb); have n3_ := hbox; have n4_ := A0_ ((bwen_ : w.heap.size ≤ gb1)); clear HB; have HB := n2_; have BK1 := n3_; have GW1 := n4_; have GE1 := n4_; clear n2_ n3_ n4_ hb hbox hg) | ((with_reducible refine gd_ (N := 10) rfl ?_); refine be_ ?hg (N := 10) ?hd (cs := #[.slice A0 l0.length c0, .int .i64 0, .int .u64 0]) (t := 75) ?hr ?_; (case hd => rfl); (case hg => rfl); (case hr => go_simp; first | done | rfl); intro g hg wB hbox hb; have n0_ := A0_ (show IsS75 w wB g l0 0 0 from ⟨A0, c0, hbox, bwen_, hr0⟩); have n1_ := A0_ (KeepBut.refl wB g none); have n2_ := A0_ (bt_ brt4_ hb); have HW0 := A0_ (Below.size n2_.out); have m461_ := A0_ (kb_ (g := gb1) (o := .cells #[.int .i64 0, .bool false, .slice none 0 0] 28 (0, 0)) (u1_ BK1) hb); have NB0_1 := A0_ ((bvny_ : g ≠ gb1)); have NB1_0 := A0_ (Ne.symm NB0_1.out); clear HB BK1; have HI0 := n0_; have HK := n1_; have HB := n2_; have BK1 := m461_; clear m461_ n0_ n1_ n2_ hb hbox hg) | ((with_reducible refine gc_ (f := 49) rfl ?_); refine gl_ 12 Tryd.func49 #[.pointer (some ⟨g, 0, none⟩)] ?_; (with_reducible refine (spec_l1Cur_lineRow.calls k g l0 0 0 t1 t2 t3 t4 t5 w _ ?side1 ?side2 A2.out).mono ?_); (case side1 => exact b9yh_); (case side2 => exact bois_); rintro e w2 ⟨v1, rfl, ho0, hi, hb, hk⟩; refine ⟨_, rfl, ?_⟩; replace BK1 := kb1_ BK1 hk NB1_0; have HO1 := A0_ (Kd.R_lower ho0 (keep_size (w := wB) (g := g) (row := none) bcka_)); replace HK := A0_ (KeepBut.trans bcka_ hk (.inl rfl)); replace HB := A0_ (hb); replace HI0 := A0_ (hi); (try clear hb); (try clear hk); (try clear hi); (try clear ho0)) | ((with_reducible refine gd_ (N := 6) rfl ?_); refine bx_ 6 #[.int .i64 0, .bool false, .slice none 0 0] 28 ?_; intro gb2 hg w3 BK2 hb; replace HO1 := A0_ (Kd.R_below bsm5_ hb); replace HB := hb_ hb bois_; have GW2 := A0_ ((bgk2_ : wB.heap.size ≤ gb2)); have GE2 := A0_ ((Nat.le_trans HW0.out (bgk2_ : wB.heap.size ≤ gb2) : w.heap.size ≤ gb2)); replace HK := A0_ (KeepBut.trans bcka_ (KeepBut.of_below hb g none) (.inl rfl)); have NB1_2 := nl_ hg BK1; have NB2_1 := ng_ hg BK1; replace BK1 := k1_ BK1 hb; have NB0_2 := A0_ ((b6wa_ : g ≠ gb2)); have NB2_0 := A0_ ((b6tu_ : gb2 ≠ g)); replace HI0 := A0_ (IsS75.below b9yh_ hb); clear hb hg; have hnb1 := NB2_1.out; have hnc1 := NB1_2.out; have hnb2 := NB2_0.out; have hnc2 := NB0_2.out; have hcz1 := z3_ BK2; obtain ⟨Ao1, co1, eo1⟩ := Kd.R_slice HO1.out; subst eo1) | ((with_reducible refine gc_ (f := 50) rfl ?_); refine gl_ 15 Tryd.func50 #[.pointer (some ⟨g, 0, none⟩), .agg #[.int .i64 t1, .bool t2, .slice Ao1 t3.length co1]] ?_; (with_reducible refine (spec_l1Cur_arrival.calls k g l0 t4 t5 t1 t2 _ _ t3 t6 t7 t8 w _ ?side1 ?side2 ?side3 ?side4 ?side5 A4.out).mono ?_); (case side1 => exact bxkc_); (case side2 => exact b2rv_); (case side3 => refine (rr_ (e := 3) (base := wB.heap.size) (ok := fun k_ => True) (n := t3.length) (c := co1) ?_).2.2; exact byf5_); (case side4 => exact (rr_ HO1.out).2.1); (case side5 => exact far_slice (IsS75.own_ne HI0.out HO1.out bi3y_)); rintro e w4 ⟨v4, rfl, ho0, hi, hb, hk⟩; refine ⟨_, rfl, ?_⟩; replace BK1 := kb1_ BK1 hk NB1_0; have HO2 := A0_ (Kd.R_lower (Kd.R_new' ho0 (Kd.R_lt byf5_)) (keep_size (w := wB) (g := g) (row := none) bgjc_)); replace HO1 := A0_ (Kd.R_mono (Kd.R_told (Kd.R_oldK (IsS75.apart (show IsS75 w _ g l0 t4 t5 from bxkc_) byf5_ bi3y_) hk) (Kd.R_base ho0)) (fun _ h_ => h_.1)); replace BK2 := A0_ (KeepBut.blk hk (g' := gb2) (o := .cells #[.int .i64 t1, .bool t2, .slice Ao1 t3.length co1] 28 (0, 0)) (u1_ BK2) NB2_0.out bxka_); replace HK := A0_ (KeepBut.trans bgjc_ hk (.inl rfl)); replace HB := A0_ (hb); replace HI0 := A0_ (hi); (try clear hb); (try clear hk); (try clear hi); (try clear ho0)))
 replace HO1 := A0_ (rd_ HO1.out)
 replace HO2 := A0_ (rd_ HO2.out)
 replace BK1 := A0_ (kd_ BK1.out)
 replace BK2 := A0_ (kd_ BK2.out)
 replace HI0 := A0_ (IsS75.drew HI0.out)
 replace HK := A0_ (keep_drew HK.out)
 replace HB := A0_ (bd_ HB.out)
 refine start_ (n := 7) (S := fun w' => w'.cell? ⟨gb2, 0, none⟩ = some (.int .i64 t1) ∧ w'.cell? ⟨gb2, 1, none⟩ = some (.bool t2) ∧ w'.cell? ⟨gb2, 2, none⟩ = some (.slice Ao1 t3.length co1)) (ds := []) #[false, false, false, false, false, false, false] bfqv_ rfl rfl ⟨(kc_ BK2.out 0).trans rfl, (kc_ BK2.out 1).trans rfl, (kc_ BK2.out 2).trans rfl⟩ (fun hHeld => ?_)
 generalize w4.drew = w5 at HO1 HO2 BK1 BK2 HI0 HK HB hHeld ⊢
 refine pu_ 1 17 ?_
 refine pu_ 2 18 ?_
 refine tk_ 0 16 hHeld ?_
 refine on_ 3 (some 19) (fun K hK => ?_)
 refine gs_ Tryd.func51 #[.pointer (some ⟨g, 0, none⟩), .int .i64 2] ?_
 with_reducible refine (spec_l1Cur_one.calls g l0 t7 t8 2 t9 t10 t11 w _ ?side1 ?side2 A6.out).mono ?_
 (case side1 => exact bxkc_)
 (case side2 => exact b2rv_)
 rintro e w6 ⟨rfl, hi, hb, hk⟩
 refine ⟨_, rfl, ?_⟩
 replace BK1 := kb1_ BK1 hk NB1_0
 replace HO1 := A0_ (Kd.R_mono (Kd.R_keep (IsS75.apart (show IsS75 w _ g l0 t7 t8 from bxkc_) bsm5_ bi3y_) hk (fun _ h => h.2)) (fun _ h => h.1))
 replace BK2 := kb1_ BK2 hk NB2_0
 replace HO2 := A0_ (Kd.R_mono (Kd.R_keep (IsS75.apart (show IsS75 w _ g l0 t7 t8 from bxkc_) b9so_ bi3y_) hk (fun _ h => h.2)) (fun _ h => h.1))
 replace HK := A0_ (KeepBut.trans bgjc_ hk (.inl rfl))
 replace HB := A0_ (hb)
 replace HI0 := A0_ (hi)
 (try clear hb); (try clear hk); (try clear hi)
 refine hK.out _ _ (c3_ BK2) (fun hHeld => ?_)
 clear hK K
 refine nm_ 19 ?_
 refine on_ 4 none (fun K hK => ?_)
 have hs15 : w6.cell? ⟨gb1, 0, none⟩ = some (.int .i64 0) := (kc_ BK1.out 0).trans rfl
 have hfs15 := kf_ BK1.out 0
 have hns1_1 := NB2_1.out
 have hms1_1 := NB1_2.out
 have hs16 : w6.cell? ⟨gb1, 1, none⟩ = some (.bool false) := (kc_ BK1.out 1).trans rfl
 have hfs16 := kf_ BK1.out 1
 have hns2_1 := NB2_1.out
 have hms2_1 := NB1_2.out
 have hs17 : w6.cell? ⟨gb1, 2, none⟩ = some (.slice none 0 0) := (kc_ BK1.out 2).trans rfl
 have hfs17 := kf_ BK1.out 2
 have hns3_1 := NB2_1.out
 have hms3_1 := NB1_2.out
 refine skip_ (w1 := ?_) b139_ rfl ?_ ?_
 rotate_left
 ·go_simp
  rfl
 refine hK.out _ _ ⟨((cell_far (p := ⟨gb1, _, none⟩) NB2_1.out _).trans (((cell_far (p := ⟨gb1, _, none⟩) NB2_1.out _).trans (((cell_far (p := ⟨gb1, _, none⟩) NB2_1.out _).trans (hHeld.1)))))), ((cell_far (p := ⟨gb1, _, none⟩) NB2_1.out _).trans (((cell_far (p := ⟨gb1, _, none⟩) NB2_1.out _).trans (((cell_far (p := ⟨gb1, _, none⟩) NB2_1.out _).trans (hHeld.2.1)))))), ((cell_far (p := ⟨gb1, _, none⟩) NB2_1.out _).trans (((cell_far (p := ⟨gb1, _, none⟩) NB2_1.out _).trans (((cell_far (p := ⟨gb1, _, none⟩) NB2_1.out _).trans (hHeld.2.2))))))⟩ (fun hHeld => ?_)
 clear hK K
 refine pu_ 5 3 ?_
 refine pu_ 6 4 ?_
 refine done_ bfqv_ ?_
 try go_wp2
 refine bodyPost_ret (results_ctt rfl _ _ gb1 28 #[.int .i64 t1, .bool t2, .slice Ao1 t3.length co1] (0, 0) _ rfl (u1_ BK1) Tryd.underlying28 rfl bfqv_) rfl ?_
 exact ⟨_, _, bnwh_, by (with_reducible repeat (first | apply ra_ | apply rn_ | apply rd_)); exact Kd.R_lower (Kd.R_mono (rf_ (rf_ (rf_ (Kd.R_types HO1.out BK1.out bi3y_) k2_0 _) k2_0 _) k2_0 _) (fun _ hk => hk.1.2)) HW0.out, by (with_reducible repeat (first | apply ra_ | apply rn_ | apply rd_)); exact Kd.R_lower (Kd.R_mono (rf_ (rf_ (rf_ (Kd.R_types HO2.out BK1.out bi3y_) k2_0 _) k2_0 _) k2_0 _) (fun _ hk => hk.1.2)) HW0.out, b2rv_⟩


def impl_areOf.j0 : Nat → List Int → Int → Bool → Option (Bool)
 | 0, _, _, _ => none
 | k + 1, x0, x1, x12 => if x12 = true then (some false) else ((impl_setOf.f k x0).bind fun t462 => (if (Go.bits .andNot .u32 t462 x1) = 0 then ((impl_setOf.f k x0).bind fun t463 => ((impl_set_count.f t463).bind fun t464 => (some (t464 == (x0.length : Int))))) else (some false)))
def impl_areOf.f (k : Nat) (l0 : List Int) (a1 : Int) : Option (Bool) := if (l0.length : Int) > 10 then (impl_areOf.j0 k l0 a1 true) else ((impl_allWithin.f k l0 0 23).bind fun t461 => (impl_areOf.j0 k l0 a1 (!t461)))
theorem impl_areOf.mono_l : ∀ k, (∀ y0 y1 y2, LeO (impl_areOf.j0 k y0 y1 y2) (impl_areOf.j0 (k + 1) y0 y1 y2))
 | 0 => fun _ _ _ r h => by simp [impl_areOf.j0] at h
 | k + 1 => by
  have ih0 := impl_areOf.mono_l k
  ·intro y0 y1 y2
   unfold impl_areOf.j0
   repeat' with_reducible first | exact ih0 .. | exact impl_allWithin.mono .. | exact impl_setOf.mono .. | exact LeO.refl .. | exact LeO.none .. | refine LeO.ite ?_ ?_ | refine LeO.bind ?_ (fun _ => ?_)
theorem impl_areOf.mono : ∀ a0 a1 k, LeO (impl_areOf.f k a0 a1) (impl_areOf.f (k + 1) a0 a1) := by
 intro a0 a1 k
 have ih0 := impl_areOf.mono_l k
 unfold impl_areOf.f
 repeat' with_reducible first | exact ih0 .. | exact impl_allWithin.mono .. | exact impl_setOf.mono .. | exact LeO.refl .. | exact LeO.none .. | refine LeO.ite ?_ ?_ | refine LeO.bind ?_ (fun _ => ?_)
theorem impl_areOf.calls (k : Nat) (A0 : Option Addr) (c0 : Nat) (l0 : List Int) (a1 : Int) (r : Bool) (w : World) (hr0 : Kd.C (Kd.int .i64) w A0 l0.length l0) (hc0 : l0.length ≤ c0) (h : impl_areOf.f k l0 a1 = some r) :
  Calls Tryd.prog 53 #[.slice A0 l0.length c0, .int .u32 a1] w fun e w' => e = .returned (.bool r) ∧ Drawn0 w w' := by
 have HR0 := A0_ hr0
 have HC0 := A0_ hc0
 clear hr0 hc0
 have H : (if (l0.length : Int) > 10 then (impl_areOf.j0 k l0 a1 true) else ((impl_allWithin.f k l0 0 23).bind fun t1 => (impl_areOf.j0 k l0 a1 (!t1)))) = some r := h
 clear h
 have HC3 := A0_ H
 clear H
 go_enter Tryd.func53, Tryd.ntmps53
 go_upto_region 1 with (fail)
 go_cut [12] (fun v1 wc => ∃ (kq : Nat) (x12_2 : Bool), v1 = .bool x12_2 ∧ Aside0 (impl_areOf.j0 kq l0 a1 x12_2 = some r) ∧ Aside0 (kq ≤ k) ∧ Drawn0 w wc)
 case first =>
  have H := HC3.out
  clear HC3
  by_cases c1 : (l0.length : Int) > 10
  ·rw [if_pos c1] at H
   have c1b0 : decide (10 < (l0.length : Int)) = true := dt_ c1
   have c1b1 : decide (10 < l0.length) = true := dt_ bh19_
   clear c1
   (first | rw [c1b0] | (simp only [i64_w, i32_w]; rw [c1b0]) | skip)
   have H' := A0_ H
   clear H
   go_wp2
   go_meet
   exact ⟨_, (true), b2ew_, H', ⟨bbn0_⟩, boaj_⟩
  rw [if_neg c1] at H
  have c1b0 : decide (10 < (l0.length : Int)) = false := decide_eq_false c1
  have c1b1 : decide (10 < l0.length) = false := decide_eq_false bh19_
  clear c1
  (first | rw [c1b0] | (simp only [i64_w, i32_w]; rw [c1b0]) | skip)
  obtain ⟨t1, A2, H⟩ := o1_ H
  have H' := A0_ H
  clear H
  go_wp2_with (first | (go_at_call 79; (with_reducible refine (impl_allWithin.calls k _ _ l0 0 23 t1 _ ?side1 ?side2 A2.out).mono ?_); (case side1 => exact b9lq_); (case side2 => exact HC0.out); rintro e w' ⟨rfl, ⟨nd, rfl⟩⟩))
  go_meet
  exact ⟨_, (!t1), b2ew_, H', ⟨bbn0_⟩, boaj_⟩
 clear HC3
 obtain ⟨kq, x12_2, rfl, HA, HJ1, ⟨mc2, rfl⟩⟩ := hcut
 cases kq with | zero => exact absurd HA.out (by simp [impl_areOf.j0]) | succ kj1 => ?_
 have H := HA.out
 clear HA
 simp only [impl_areOf.j0] at H
 by_cases c1 : x12_2 = true
 ·subst c1
  rw [if_pos rfl] at H
  obtain rfl := si_ H
  go_wp2
  go_ret
  exact ⟨b04z_, boaj_⟩
 obtain rfl := bf_.mpr c1
 rw [if_neg ft_] at H
 obtain ⟨t2, A2, H⟩ := o1_ H
 by_cases c2 : (Go.bits .andNot .u32 t2 a1) = 0
 case neg =>
  rw [if_neg c2] at H
  obtain ⟨c2b0, c2b1⟩ := ef_ c2
  obtain rfl := si_ H
  go_wp2_with (first | ((with_reducible refine gc_ (f := 68) rfl ?_); refine gl_ 14 Tryd.func68 #[.slice A0 l0.length c0] ?_; (with_reducible refine (impl_setOf.calls kj1 _ _ l0 t2 _ ?side1 ?side2 A2.out).mono ?_); (case side1 => exact b9lq_); (case side2 => exact HC0.out); rintro e w' ⟨rfl, ⟨nd, rfl⟩⟩; refine ⟨_, rfl, ?_⟩))
  go_ret
  exact ⟨b04z_, boaj_⟩
 rw [if_pos c2] at H
 obtain ⟨c2b0, c2b1⟩ := et_ c2
 clear c2
 obtain ⟨t3, A4, H⟩ := o1_ H
 obtain ⟨t4, A6, H⟩ := o1_ H
 replace H : (some (t4 == (l0.length : Int))) = some r := H
 obtain rfl := si_ H
 go_wp2_with (first | ((with_reducible refine gc_ (f := 68) rfl ?_); refine gl_ 14 Tryd.func68 #[.slice A0 l0.length c0] ?_; (with_reducible refine (impl_setOf.calls kj1 _ _ l0 t2 _ ?side1 ?side2 A2.out).mono ?_); (case side1 => exact b9lq_); (case side2 => exact HC0.out); rintro e w' ⟨rfl, ⟨nd, rfl⟩⟩; refine ⟨_, rfl, ?_⟩) | (go_at_call 68; (with_reducible refine (impl_setOf.calls kj1 _ _ l0 t3 _ ?side1 ?side2 A4.out).mono ?_); (case side1 => exact b9lq_); (case side2 => exact HC0.out); rintro e w' ⟨rfl, ⟨nd, rfl⟩⟩) | (go_at_call 66; (with_reducible refine (impl_set_count.calls t3 t4 _ A6.out).mono ?_); rintro e w' ⟨rfl, ⟨nd, rfl⟩⟩))
 go_ret
 exact ⟨b04z_, boaj_⟩

mutual
def impl_StandsOf.j0 : Nat → List Int → Bool → Bool → Int → Bool → List Int → Option (List Int × Int × Bool)
 | 0, _, _, _, _, _, _ => none
 | k + 1, x1, x2, x25, x466000, x466001, x466002 => if x25 = true then (some (([] : List Int), 0, false)) else ((impl_Row_taken.f k x466000 x466001 x466002).bind fun t472 => (impl_StandsOf.l0 k x2 (([] : List Int)) 0 t472 x1 (x1.length : Int) 0))
def impl_StandsOf.l0 : Nat → Bool → List Int → Int → Int → List Int → Int → Int → Option (List Int × Int × Bool)
 | 0, _, _, _, _, _, _, _ => none
 | k + 1, x2, x9, x10, x11, x29, x30, x31 => if x31 < x30 then (if 0 ≤ x31 then (if x31 < (x29.length : Int) then ((impl_stands.f x11 (rd x29 x31) x2).bind fun bt474 => (if x9.length < 17592186044416 then (if 0 ≤ (rd x29 x31) then (impl_StandsOf.l0 k x2 (x9 ++ [bt474.1]) (wrap64 (x10 + bt474.1)) (Go.bits .or .u32 x11 (shl .u32 1 (rd x29 x31))) x29 x30 (wrap64 (x31 + 1))) else (none)) else (none))) else (none)) else (none)) else (some (x9, x10, true))
end
def impl_StandsOf.f (k : Nat) (a0_0 : Int) (a0_1 : Bool) (l0_2 : List Int) (l1 : List Int) (a2 : Bool) : Option (List Int × Int × Bool) := (impl_isLine.f k a0_0 a0_1 l0_2).bind fun t466 => (if t466 = true then ((impl_Row_free.f k a0_0 a0_1 l0_2).bind fun t467 => ((impl_areOf.f k l1 t467).bind fun t468 => (impl_StandsOf.j0 k l1 a2 (!t468) a0_0 a0_1 l0_2))) else (impl_StandsOf.j0 k l1 a2 true a0_0 a0_1 l0_2))
theorem impl_StandsOf.mono_l : ∀ k, (∀ y0 y1 y2 y3 y4 y5, LeO (impl_StandsOf.j0 k y0 y1 y2 y3 y4 y5) (impl_StandsOf.j0 (k + 1) y0 y1 y2 y3 y4 y5)) ∧ (∀ y0 y1 y2 y3 y4 y5 y6, LeO (impl_StandsOf.l0 k y0 y1 y2 y3 y4 y5 y6) (impl_StandsOf.l0 (k + 1) y0 y1 y2 y3 y4 y5 y6))
 | 0 => ⟨fun _ _ _ _ _ _ r h => by simp [impl_StandsOf.j0] at h, fun _ _ _ _ _ _ _ r h => by simp [impl_StandsOf.l0] at h⟩
 | k + 1 => by
  obtain ⟨ih0, ih1⟩ := impl_StandsOf.mono_l k
  refine ⟨?_, ?_⟩
  ·intro y0 y1 y2 y3 y4 y5
   unfold impl_StandsOf.j0
   repeat' with_reducible first | exact ih0 .. | exact ih1 .. | exact impl_Row_free.mono .. | exact impl_Row_taken.mono .. | exact impl_areOf.mono .. | exact impl_isLine.mono .. | exact LeO.refl .. | exact LeO.none .. | refine LeO.ite ?_ ?_ | refine LeO.bind ?_ (fun _ => ?_)
  ·intro y0 y1 y2 y3 y4 y5 y6
   unfold impl_StandsOf.l0
   repeat' with_reducible first | exact ih0 .. | exact ih1 .. | exact impl_Row_free.mono .. | exact impl_Row_taken.mono .. | exact impl_areOf.mono .. | exact impl_isLine.mono .. | exact LeO.refl .. | exact LeO.none .. | refine LeO.ite ?_ ?_ | refine LeO.bind ?_ (fun _ => ?_)
theorem impl_StandsOf.mono : ∀ a0 a1 a2 a3 a4 k, LeO (impl_StandsOf.f k a0 a1 a2 a3 a4) (impl_StandsOf.f (k + 1) a0 a1 a2 a3 a4) := by
 intro a0 a1 a2 a3 a4 k
 obtain ⟨ih0, ih1⟩ := impl_StandsOf.mono_l k
 unfold impl_StandsOf.f
 repeat' with_reducible first | exact ih0 .. | exact ih1 .. | exact impl_Row_free.mono .. | exact impl_Row_taken.mono .. | exact impl_areOf.mono .. | exact impl_isLine.mono .. | exact LeO.refl .. | exact LeO.none .. | refine LeO.ite ?_ ?_ | refine LeO.bind ?_ (fun _ => ?_)
def impl_StandsOf.T8 : Bool × List (List Nat × List Nat) := (true, [([], []), ([], []), ([1], [1]), ([0, 2], [0, 2]), ([], []), ([], []), ([4, 5], [4, 5]), ([], []), ([], []), ([8], [8]), ([7, 9], [7, 9]), ([3, 3, 0, 1, 2, 3], [0, 3]), ([6, 11, 0, 1, 2, 3, 4, 5, 6, 11], [4, 6]), ([10, 12, 0, 1, 2, 3, 4, 5, 6, 7, 8, 9, 10, 11, 12], [7, 10])])
def impl_StandsOf.B8 : List Nat := [0, 0, 2, 7, 0, 0, 48, 0, 0, 256, 896, 15, 2175, 8191]
theorem impl_StandsOf.tab8 : rtab .any (opsOf Tryd.f19 8) = impl_StandsOf.T8 := by kernel_rfl
theorem impl_StandsOf.bits8 : waitsOk impl_StandsOf.T8.2 impl_StandsOf.B8 = true := by kernel_rfl
theorem impl_StandsOf.calls (k : Nat) (a0_0 : Int) (a0_1 : Bool) (A0_2 : Option Addr) (c0_2 : Nat) (l0_2 : List Int) (A1 : Option Addr) (c1 : Nat) (l1 : List Int) (a2 : Bool) (r1 : List Int) (r2 : Int) (r3 : Bool) (w : World) (hr0_2 : Kd.C (Kd.int .i64) w A0_2 l0_2.length l0_2) (hc0_2 : l0_2.length ≤ c0_2) (hr1 : Kd.C (Kd.int .i64) w A1 l1.length l1) (hc1 : l1.length ≤ c1) (h : impl_StandsOf.f k a0_0 a0_1 l0_2 l1 a2 = some (r1, r2, r3)) :
  Calls Tryd.prog 19 #[.agg #[.int .i64 a0_0, .bool a0_1, .slice A0_2 l0_2.length c0_2], .slice A1 l1.length c1, .bool a2] w fun e w' => ∃ v0_ : Value, e = .returned (.tuple #[v0_, .int .i64 r2, .bool r3]) ∧ Kd.R (Kd.int .i64) 3 w' w.heap.size (fun _ => True) v0_ r1 ∧ Below w.heap.size w w' := by
 have hu28 := Tryd.underlying28
 have HR0_2 := A0_ hr0_2
 have HC0_2 := A0_ hc0_2
 clear hr0_2 hc0_2
 have HR1 := A0_ hr1
 have HC1 := A0_ hc1
 clear hr1 hc1
 have HB := A0_ (Below.refl w.heap.size w)
 have H : ((impl_isLine.f k a0_0 a0_1 l0_2).bind fun t1 => (if t1 = true then ((impl_Row_free.f k a0_0 a0_1 l0_2).bind fun t2 => ((impl_areOf.f k l1 t2).bind fun t3 => (impl_StandsOf.j0 k l1 a2 (!t3) a0_0 a0_1 l0_2))) else (impl_StandsOf.j0 k l1 a2 true a0_0 a0_1 l0_2))) = some (r1, r2, r3) := h
 clear h
 have HC4 := A0_ H
 clear H
 go_enter Tryd.func19, Tryd.ntmps19
 go_upto_region 1 with (first | ((with_reducible refine gd_ (N := 3) rfl ?_); refine bx_ 3 #[.int .i64 a0_0, .bool a0_1, .slice A0_2 l0_2.length c0_2] 28 ?_; intro gb1 hg w1 BK1 hb; have GW1 := ge_ hg brt4_; have GE1 := GW1; replace HB := hb_ hb brt4_; clear hb hg))
 (try simp only [Act.put, sa_, sz_, ss_])
 go_cut [25] (fun v1 wc => ∃ (kq : Nat) (x25_3 : Bool), v1 = .bool x25_3 ∧ Aside0 (impl_StandsOf.j0 kq l1 a2 x25_3 a0_0 a0_1 l0_2 = some (r1, r2, r3)) ∧ Aside0 (kq ≤ k) ∧ Aside0 (wc.heap[gb1]? = some (.cells #[.int .i64 a0_0, .bool a0_1, (.slice A0_2 l0_2.length c0_2)] 28 (0, 0))) ∧ Aside0 (Below w.heap.size w wc))
 case first =>
  have H := HC4.out
  clear HC4
  obtain ⟨t1, A3, H⟩ := o1_ H
  by_cases c2 : t1 = true
  case neg =>
   obtain rfl := bf_.mpr c2
   rw [if_neg ft_] at H
   have H' := A0_ H
   clear H
   have hcz1 := c3_ BK1
   go_wp2_with (first | ((with_reducible refine gc_ (f := 52) rfl ?_); refine gl_ 17 Tryd.func52 #[.agg #[.int .i64 a0_0, .bool a0_1, .slice A0_2 l0_2.length c0_2]] ?_; (with_reducible refine (impl_isLine.calls k a0_0 a0_1 _ _ l0_2 false _ ?side1 ?side2 A3.out).mono ?_); (case side1 => exact b6n8_); (case side2 => exact HC0_2.out); rintro e w2 ⟨rfl, hb⟩; refine ⟨_, rfl, ?_⟩; replace BK1 := k1_ BK1 hb; replace HB := hb_ hb be6g_; (try clear hb)))
   go_meet
   exact ⟨_, (true), b2ew_, H', ⟨bbn0_⟩, ⟨u1_ BK1⟩, ⟨be6g_⟩⟩
  subst c2
  rw [if_pos rfl] at H
  obtain ⟨t2, A5, H⟩ := o1_ H
  obtain ⟨t3, A7, H⟩ := o1_ H
  have H' := A0_ H
  clear H
  have hcz1 := c3_ BK1
  go_wp2_with (first | ((with_reducible refine gc_ (f := 52) rfl ?_); refine gl_ 17 Tryd.func52 #[.agg #[.int .i64 a0_0, .bool a0_1, .slice A0_2 l0_2.length c0_2]] ?_; (with_reducible refine (impl_isLine.calls k a0_0 a0_1 _ _ l0_2 true _ ?side1 ?side2 A3.out).mono ?_); (case side1 => exact b6n8_); (case side2 => exact HC0_2.out); rintro e w2 ⟨rfl, hb⟩; refine ⟨_, rfl, ?_⟩; replace BK1 := k1_ BK1 hb; replace HB := hb_ hb be6g_; (try clear hb); have hcz2 := c3_ BK1) | (go_at_call 54; (with_reducible refine (impl_Row_free.calls k a0_0 a0_1 _ _ l0_2 t2 _ ?side1 ?side2 A5.out).mono ?_); (case side1 => exact b6n8_); (case side2 => exact HC0_2.out); rintro e w3 ⟨rfl, hb⟩; replace BK1 := k1_ BK1 hb; replace HB := hb_ hb be6g_; (try clear hb)) | (go_at_call 53; (with_reducible refine (impl_areOf.calls k _ _ l1 t2 t3 _ ?side1 ?side2 A7.out).mono ?_); (case side1 => exact b3d8_); (case side2 => exact HC1.out); rintro e w' ⟨rfl, ⟨nd, rfl⟩⟩))
  go_meet
  exact ⟨_, (!t3), b2ew_, H', ⟨bbn0_⟩, ⟨u1_ BK1⟩, ⟨be6g_⟩⟩
 clear HC4
 try clear c1
 obtain ⟨kq, x25_3, rfl, HA, HJ1, BK1, HB⟩ := hcut
 cases kq with | zero => exact absurd HA.out (by simp [impl_StandsOf.j0]) | succ kj1 => ?_
 have H := HA.out
 clear HA
 simp only [impl_StandsOf.j0] at H
 by_cases c2 : x25_3 = true
 ·subst c2
  rw [if_pos rfl] at H
  simp only [sj_, pj_] at H
  obtain ⟨rfl, rfl, rfl⟩ := H
  go_wp2
  go_ret3
  exact ⟨_, bnwh_, bwfe_, be6g_⟩
 obtain rfl := bf_.mpr c2
 rw [if_neg ft_] at H
 obtain ⟨y1, hy1⟩ : ∃ y_ : List Int, y_ = (([] : List Int)) := ⟨_, rfl⟩
 replace H : ((impl_Row_taken.f kj1 a0_0 a0_1 l0_2).bind fun t4 => (impl_StandsOf.l0 kj1 a2 y1 0 t4 l1 (l1.length : Int) 0)) = some (r1, r2, r3) := bgiq_
 have Ny1 := A0_ hy1
 clear hy1
 obtain ⟨t4, A3, H⟩ := o1_ H
 have H' := A0_ H
 clear H
 go_wp2_with (first | ((with_reducible refine gd_ (N := 26) rfl ?_); refine Kd.R_lit (Kd.int .i64) _ 3 ?hg (N := 26) ?hd (xs := ([] : List Int)) (inner := []) (ok := fun _ => True) (okp := fun _ => True) ?hr ?hp (fun _ hk => hk) trivial (Below.refl _ _) (Nat.le_refl _) bxka_ ?_; (case hd => rfl); (case hg => rfl); (case hr => go_simp; first | done | rfl); (case hp => exact (Reps.none _ _)); intro v2 w2 ho19 hb hg_ hnew_; clear hg_ hnew_; (first | rw [← Ny1.out] at ho19 | (simp only [Int.reduceToNat] at ho19; rw [← Ny1.out] at ho19)); have HO1 := A0_ (Kd.R_lower ho19 (bz_ be6g_)); replace BK1 := k1_ BK1 hb; replace HB := hb_ hb be6g_; clear hb ho19; have hcz1 := c3_ BK1) | ((with_reducible refine gc_ (f := 41) rfl ?_); refine gl_ 28 Tryd.func41 #[.agg #[.int .i64 a0_0, .bool a0_1, .slice A0_2 l0_2.length c0_2]] ?_; (with_reducible refine (impl_Row_taken.calls kj1 a0_0 a0_1 _ _ l0_2 t4 _ ?side1 ?side2 A3.out).mono ?_); (case side1 => exact b6n8_); (case side2 => exact HC0_2.out); rintro e w3 ⟨rfl, hb⟩; refine ⟨_, rfl, ?_⟩; replace HO1 := A0_ (Kd.R_below bsm5_ hb); replace BK1 := k1_ BK1 hb; replace HB := hb_ hb be6g_; (try clear hb)))
 go_loopg [9, 10, 11, 31] kj1 (fun kq v3 v4 v5 v6 w' => ∃ (x9_2 : List Int) (x10_2 : Int) (x11_2 : Int) (x31_2 : Int), v4 = .int .i64 x10_2 ∧ v5 = .int .u32 x11_2 ∧ v6 = .int .i64 x31_2 ∧ Aside0 (impl_StandsOf.l0 kq a2 x9_2 x10_2 x11_2 l1 (l1.length : Int) x31_2 = some (r1, r2, r3)) ∧ Aside0 (kq ≤ kj1) ∧ Aside0 (Kd.R (Kd.int .i64) 3 w' w.heap.size (fun _ => True) v3 x9_2) ∧ Aside0 (w'.heap[gb1]? = some (.cells #[.int .i64 a0_0, .bool a0_1, (.slice A0_2 l0_2.length c0_2)] 28 (0, 0))) ∧ Aside0 (Below w.heap.size w w'))
 case atStart => exact ⟨(y1), (0), (t4), (0), b2ew_, b2ew_, b2ew_, H', ⟨Nat.le_refl _⟩, ⟨bsm5_⟩, ⟨u1_ BK1⟩, ⟨be6g_⟩⟩
 clear H'
 try clear c1
 try clear c2
 (try clear hcz1)
 obtain ⟨x9_2, x10_2, x11_2, x31_2, rfl, rfl, rfl, HA, HK1, HO_1, BK1, HB⟩ := hrel
 cases gk with | zero => exact absurd HA.out (by simp [impl_StandsOf.l0]) | succ k2 => ?_
 have H := HA.out
 clear HA
 simp only [impl_StandsOf.l0] at H
 by_cases c3 : x31_2 < (l1.length : Int)
 case neg =>
  rw [if_neg c3] at H
  have c3b0 : decide (x31_2 < (l1.length : Int)) = false := decide_eq_false c3
  clear c3
  simp only [sj_, pj_] at H
  obtain ⟨rfl, rfl, rfl⟩ := H
  go_wp2
  go_ret3
  exact ⟨_, bnwh_, bwik_, be6g_⟩
 rw [if_pos c3] at H
 have c3b0 : decide (x31_2 < (l1.length : Int)) = true := dt_ c3
 clear c3
 by_cases c4 : 0 ≤ x31_2
 case neg =>
  rw [if_neg c4] at H
  exact absurd H bxka_
 rw [if_pos c4] at H
 have c4b0 : decide (0 ≤ x31_2) = true := dt_ c4
 clear c4
 by_cases c5 : x31_2 < (l1.length : Int)
 case neg =>
  rw [if_neg c5] at H
  exact absurd H bxka_
 rw [if_pos c5] at H
 have c5b0 : decide (x31_2 < (l1.length : Int)) = true := dt_ c5
 clear c5
 obtain ⟨⟨t5, t6⟩, A5, H⟩ := o1_ H
 by_cases c6 : x9_2.length < 17592186044416
 case neg =>
  rw [if_neg c6] at H
  exact absurd H bxka_
 rw [if_pos c6] at H
 have LMc1 := A0_ c6
 clear c6
 obtain ⟨y2, hy2⟩ : ∃ y_ : List Int, y_ = (x9_2 ++ [t5]) := ⟨_, rfl⟩
 replace H : (if 0 ≤ (rd l1 x31_2) then (impl_StandsOf.l0 k2 a2 y2 (wrap64 (x10_2 + t5)) (Go.bits .or .u32 x11_2 (shl .u32 1 (rd l1 x31_2))) l1 (l1.length : Int) (wrap64 (x31_2 + 1))) else (none)) = some (r1, r2, r3) := bscs_
 have Ny2 := A0_ hy2
 clear hy2
 by_cases c7 : 0 ≤ (rd l1 x31_2)
 case neg =>
  rw [if_neg c7] at H
  exact absurd H bxka_
 rw [if_pos c7] at H
 have c7b0 := eq_true c7
 have c7b1 : decide (0 ≤ (rd l1 x31_2)) = true := dt_ c7
 clear c7
 obtain ⟨ji1, hji1⟩ : ∃ j_ : Int, (shl .u32 1 (rd l1 x31_2)) = j_ := ⟨_, rfl⟩
 replace H : (impl_StandsOf.l0 k2 a2 y2 (wrap64 (x10_2 + t5)) (Go.bits .or .u32 x11_2 (ji1)) l1 (l1.length : Int) (wrap64 (x31_2 + 1))) = some (r1, r2, r3) := bmns_
 (try rw [hji1] at A5)
 have hji1_ : (IntKind.u32.wrap (1 * 2 ^ min (rd l1 x31_2).toNat 32)) = ji1 := hji1
 have hji28z : (rd l1 x31_2) ≤ 32 → (IntKind.u32.wrap (1 * 2 ^ (rd l1 x31_2).toNat)) = ji1 := shl_small hji1
 have hji28u : (IntKind.u32.wrap (2 ^ min (rd l1 x31_2).toNat 32)) = ji1 := by have h_ := hji1_; rw [Int.one_mul] at h_; exact h_
 have hji28v : (rd l1 x31_2) ≤ 32 → (IntKind.u32.wrap (2 ^ (rd l1 x31_2).toNat)) = ji1 := fun hle_ => by have h_ := hji28z hle_; rw [Int.one_mul] at h_; exact h_
 have H' := A0_ H
 clear H
 have p1 : 0 ≤ (x31_2 : Int) := od_ bpil_
 have q1 : x31_2 < (l1.length : Int) := od_ bpil_
 obtain ⟨ad1, e1, hx1_0⟩ := Kd.at_int HR1.out x31_2 p1 q1
 cases e1
 replace hx1_0 := (HB.out.cell (World.block_lt_of_cell? w _ hx1_0)).trans hx1_0
 replace p1 := eq_true p1
 replace q1 := eq_true q1
 try go_wp2_with (first | ((with_reducible refine gc_ (f := 48) rfl ?_); refine gl_ 39 Tryd.func48 #[.int .u32 x11_2, .int .i64 (rd l1 x31_2), .bool a2] ?_; (with_reducible refine (impl_stands.calls x11_2 (rd l1 x31_2) a2 t5 t6 _ A5.out).mono ?_); rintro e w' ⟨rfl, ⟨nd, rfl⟩⟩; refine ⟨_, rfl, ?_⟩))
 (try (rw [drewN_self wr]; generalize hq_ : World.drewN wr _ = wr; have n0_ : Aside0 (Kd.R (Kd.int .i64) 3 wr w.heap.size (fun _ => True) u9 x9_2) := ⟨bfiv_⟩; have n1_ : Aside0 (wr.heap[gb1]? = some (.cells #[.int .i64 a0_0, .bool a0_1, .slice A0_2 l0_2.length c0_2] 28 (0, 0))) := ⟨by rw [← hq_]; exact (u1_ BK1)⟩; have n2_ : Aside0 (Below w.heap.size w wr) := ⟨bv2n_⟩; clear HO_1 BK1 HB hq_; have HO_1 := n0_; have BK1 := n1_; have HB := n2_; clear n0_ n1_ n2_))
 replace HO_1 := A0_ (rd_ HO_1.out)
 replace BK1 := A0_ (kd_ BK1.out)
 replace HB := A0_ (bd_ HB.out)
 refine start_ (n := 14) (S := fun w' => True) (ds := []) #[false, false, false, false, false, false, false, false, false, false, false, false, false, false] bfqv_ rfl rfl trivial (fun hHeld => ?_); refine with_tabW impl_StandsOf.tab8 impl_StandsOf.bits8 (fun HT_ HW_ => ?_)
 generalize wr.drew = w4 at HO_1 BK1 HB hHeld ⊢
 refine pu_ 0 42 ?_
 refine pu_ 1 43 ?_
 refine pu_ 4 46 ?_
 refine pu_ 5 47 ?_
 refine pu_ 6 48 ?_
 refine pu_ 7 49 ?_
 refine pu_ 8 50 ?_
 refine pu_ 9 51 ?_
 refine pu_ 10 52 ?_
 refine on_ 2 (some 44) (fun K hK => ?_)
 refine value_ (w1 := ?_) (v := ?_) b139_ rfl ?_ ?_
 rotate_left 2
 ·go_simp
  constructor
  ·rfl
  rfl
 refine hK.out _ _ trivial (fun hHeld => ?_)
 clear hK K
 refine nm_ 44 ?_
 refine on_ 3 (some 45) (fun K hK => ?_)
 refine Kd.R_append_step (Kd.int .i64) (w0 := w) w.heap.size b139_ (.tmp 42) (.tmp 44) 22 3 (.int .i64 0) 8 rfl Tryd.underlying22 info3 rfl bi3y_ bh19_ u9 x9_2 t5 [.int .i64 t5] (fun _ => True) (fun _ => False) rfl rfl ?aP (fun _ hk => hk.elim) ?aF ?aO ?aB ?aS ?aL ?_
 (case aP => exact rfl)
 (case aB => exact be6g_)
 (case aF => exact (fun _ _ => trivial))
 (case aO => exact bwik_)
 (case aS => exact (bz_ be6g_))
 (case aL => have := LMc1.out; omega)
 intro v7 w5 ho hb hg hat
 rw [← Ny2.out] at ho
 have n0_ := A0_ (blk_grown (g := gb1) (o := .cells #[.int .i64 a0_0, .bool a0_1, .slice A0_2 l0_2.length c0_2] 28 (0, 0)) (u1_ BK1) hg (Kd.R_ne HO_1.out BK1.out bi3y_))
 have n1_ := A0_ (hb)
 have n2_ := A0_ (ho)
 clear BK1
 clear HB
 clear HO_1
 have BK1 := n0_
 have HB := n1_
 have HO2 := n2_
 clear n0_ n1_ n2_
 clear ho hb hg hat
 refine hK.out _ _ trivial (fun hHeld => ?_)
 clear hK K
 refine nm_ 45 ?_
 refine pu_ 11 9 ?_
 refine pu_ 12 10 ?_
 refine pu_ 13 11 ?_
 refine dn_ ?_
 try go_wp2
 go_roundg k2
 case measure => have := HJ1.out; have := HK1.out; omega
 exact ⟨(y2), (wrap64 (x10_2 + t5)), (Go.bits .or .u32 x11_2 (ji1)), (wrap64 (x31_2 + 1)), b2ew_, b1tc_, b2ew_, H', ⟨by have := HJ1.out; have := HK1.out; omega⟩, ⟨b9so_⟩, ⟨u1_ BK1⟩, ⟨be6g_⟩⟩

def spec_l2Seat.f (k : Nat) (a0_0 : Int) (a0_1 : Bool) (l0_2 : List Int) (a1 : Int) : Option (Bool) := (spec_l2Row.f k a0_0 a0_1 l0_2).bind fun t480 => (if t480 = true then ((spec_l1In.f a1 0 (wrap64 (a0_0 - 1))).bind fun t481 => (some t481)) else (some false))
theorem spec_l2Seat.mono : ∀ a0 a1 a2 a3 k, LeO (spec_l2Seat.f k a0 a1 a2 a3) (spec_l2Seat.f (k + 1) a0 a1 a2 a3) := by
 intro a0 a1 a2 a3 k
 unfold spec_l2Seat.f
 repeat' with_reducible first | exact spec_l2Row.mono .. | exact LeO.refl .. | exact LeO.none .. | refine LeO.ite ?_ ?_ | refine LeO.bind ?_ (fun _ => ?_)
theorem spec_l2Seat.calls (k : Nat) (a0_0 : Int) (a0_1 : Bool) (A0_2 : Option Addr) (c0_2 : Nat) (l0_2 : List Int) (a1 : Int) (r : Bool) (w : World) (hr0_2 : Kd.C (Kd.int .i64) w A0_2 l0_2.length l0_2) (hc0_2 : l0_2.length ≤ c0_2) (h : spec_l2Seat.f k a0_0 a0_1 l0_2 a1 = some r) :
  Calls Tryd.prog 80 #[.agg #[.int .i64 a0_0, .bool a0_1, .slice A0_2 l0_2.length c0_2], .int .i64 a1] w fun e w' => e = .returned (.bool r) ∧ Below w.heap.size w w' := by
 have hu28 := Tryd.underlying28
 have HR0_2 := A0_ hr0_2
 have HC0_2 := A0_ hc0_2
 clear hr0_2 hc0_2
 have HB := A0_ (Below.refl w.heap.size w)
 have H : ((spec_l2Row.f k a0_0 a0_1 l0_2).bind fun t1 => (if t1 = true then ((spec_l1In.f a1 0 (wrap64 (a0_0 - 1))).bind fun t2 => (some t2)) else (some false))) = some r := h
 clear h
 obtain ⟨t1, A2, H⟩ := o1_ H
 by_cases c1 : t1 = true
 case neg =>
  obtain rfl := bf_.mpr c1
  rw [if_neg ft_] at H
  obtain rfl := si_ H
  go_enter Tryd.func80, Tryd.ntmps80
  go_wp2_with (first | ((with_reducible refine gd_ (N := 2) rfl ?_); refine bx_ 2 #[.int .i64 a0_0, .bool a0_1, .slice A0_2 l0_2.length c0_2] 28 ?_; intro gb1 hg w1 BK1 hb; have GW1 := ge_ hg brt4_; have GE1 := GW1; replace HB := hb_ hb brt4_; clear hb hg; have hcz1 := c3_ BK1) | ((with_reducible refine gc_ (f := 81) rfl ?_); refine gl_ 6 Tryd.func81 #[.agg #[.int .i64 a0_0, .bool a0_1, .slice A0_2 l0_2.length c0_2]] ?_; (with_reducible refine (spec_l2Row.calls k a0_0 a0_1 _ _ l0_2 false _ ?side1 ?side2 A2.out).mono ?_); (case side1 => exact b6n8_); (case side2 => exact HC0_2.out); rintro e w2 ⟨rfl, hb⟩; refine ⟨_, rfl, ?_⟩; replace BK1 := k1_ BK1 hb; replace HB := hb_ hb be6g_; (try clear hb)))
  go_ret
  exact ⟨bnwh_, be6g_⟩
 subst c1
 rw [if_pos rfl] at H
 obtain ⟨t2, A4, H⟩ := o1_ H
 replace H : (some t2) = some r := H
 obtain rfl := si_ H
 go_enter Tryd.func80, Tryd.ntmps80
 go_wp2_with (first | ((with_reducible refine gd_ (N := 2) rfl ?_); refine bx_ 2 #[.int .i64 a0_0, .bool a0_1, .slice A0_2 l0_2.length c0_2] 28 ?_; intro gb1 hg w1 BK1 hb; have GW1 := ge_ hg brt4_; have GE1 := GW1; replace HB := hb_ hb brt4_; clear hb hg; have hcz1 := c3_ BK1) | ((with_reducible refine gc_ (f := 81) rfl ?_); refine gl_ 6 Tryd.func81 #[.agg #[.int .i64 a0_0, .bool a0_1, .slice A0_2 l0_2.length c0_2]] ?_; (with_reducible refine (spec_l2Row.calls k a0_0 a0_1 _ _ l0_2 true _ ?side1 ?side2 A2.out).mono ?_); (case side1 => exact b6n8_); (case side2 => exact HC0_2.out); rintro e w2 ⟨rfl, hb⟩; refine ⟨_, rfl, ?_⟩; replace BK1 := k1_ BK1 hb; replace HB := hb_ hb be6g_; (try clear hb); have hcz2 := c3_ BK1) | (go_at_call 65; (with_reducible refine (spec_l1In.calls a1 0 (wrap64 (a0_0 - 1)) t2 _ A4.out).mono ?_); rintro e w' ⟨rfl, ⟨nd, rfl⟩⟩))
 go_ret
 exact ⟨bnwh_, be6g_⟩

mutual
def spec_l10Different.l0 : Nat → List Int → Bool → Int → Int → Bool → List Int → Option (Bool)
 | 0, _, _, _, _, _, _ => none
 | k + 1, x1, x2, x7, x483000, x483001, x483002 => if x7 < (x1.length : Int) then (spec_l10Different.j1 k x1 x2 x7 (decide (x7 ≤ 10)) x483000 x483001 x483002) else (spec_l10Different.j1 k x1 x2 x7 false x483000 x483001 x483002)
def spec_l10Different.j1 : Nat → List Int → Bool → Int → Bool → Int → Bool → List Int → Option (Bool)
 | 0, _, _, _, _, _, _, _ => none
 | k + 1, x1, x2, x7, x15, x483000, x483001, x483002 => if x15 = true then (if 0 ≤ x7 then (if x7 < (x1.length : Int) then ((spec_l2Seat.f k x483000 x483001 x483002 (rd x1 x7)).bind fun t485 => (if t485 = true then ((spec_l2Is.f k x483000 x483001 x483002 (rd x1 x7)).bind fun t487 => (if (t487 != x2) = true then (some false) else (if x7 ≤ (x1.length : Int) then ((spec_l1Has.f k (x1.take (x7 : Int).toNat) (rd x1 x7)).bind fun t490 => (if t490 = true then (some false) else (spec_l10Different.l0 k x1 x2 (wrap64 (x7 + 1)) x483000 x483001 x483002))) else (none)))) else (some false))) else (none)) else (none)) else ((spec_l10Line.f k x483000 x483001 x483002).bind fun t483 => (if t483 = true then (some (decide ((x1.length : Int) ≤ 10))) else (some false)))
end
def spec_l10Different.f (k : Nat) (a0_0 : Int) (a0_1 : Bool) (l0_2 : List Int) (l1 : List Int) (a2 : Bool) : Option (Bool) := spec_l10Different.l0 k l1 a2 0 a0_0 a0_1 l0_2
theorem spec_l10Different.mono_l : ∀ k, (∀ y0 y1 y2 y3 y4 y5, LeO (spec_l10Different.l0 k y0 y1 y2 y3 y4 y5) (spec_l10Different.l0 (k + 1) y0 y1 y2 y3 y4 y5)) ∧ (∀ y0 y1 y2 y3 y4 y5 y6, LeO (spec_l10Different.j1 k y0 y1 y2 y3 y4 y5 y6) (spec_l10Different.j1 (k + 1) y0 y1 y2 y3 y4 y5 y6))
 | 0 => ⟨fun _ _ _ _ _ _ r h => by simp [spec_l10Different.l0] at h, fun _ _ _ _ _ _ _ r h => by simp [spec_l10Different.j1] at h⟩
 | k + 1 => by
  obtain ⟨ih0, ih1⟩ := spec_l10Different.mono_l k
  refine ⟨?_, ?_⟩
  ·intro y0 y1 y2 y3 y4 y5
   unfold spec_l10Different.l0
   repeat' with_reducible first | exact ih0 .. | exact ih1 .. | exact spec_l10Line.mono .. | exact spec_l1Has.mono .. | exact spec_l2Is.mono .. | exact spec_l2Seat.mono .. | exact LeO.refl .. | exact LeO.none .. | refine LeO.ite ?_ ?_ | refine LeO.bind ?_ (fun _ => ?_)
  ·intro y0 y1 y2 y3 y4 y5 y6
   unfold spec_l10Different.j1
   repeat' with_reducible first | exact ih0 .. | exact ih1 .. | exact spec_l10Line.mono .. | exact spec_l1Has.mono .. | exact spec_l2Is.mono .. | exact spec_l2Seat.mono .. | exact LeO.refl .. | exact LeO.none .. | refine LeO.ite ?_ ?_ | refine LeO.bind ?_ (fun _ => ?_)
theorem spec_l10Different.mono : ∀ a0 a1 a2 a3 a4 k, LeO (spec_l10Different.f k a0 a1 a2 a3 a4) (spec_l10Different.f (k + 1) a0 a1 a2 a3 a4) := by
 intro a0 a1 a2 a3 a4 k
 obtain ⟨ih0, ih1⟩ := spec_l10Different.mono_l k
 unfold spec_l10Different.f
 repeat' with_reducible first | exact ih0 .. | exact ih1 .. | exact spec_l10Line.mono .. | exact spec_l1Has.mono .. | exact spec_l2Is.mono .. | exact spec_l2Seat.mono .. | exact LeO.refl .. | exact LeO.none .. | refine LeO.ite ?_ ?_ | refine LeO.bind ?_ (fun _ => ?_)
def spec_l10Different.T4 : Bool × List (List Nat × List Nat) := (true, [([], []), ([], []), ([], []), ([1, 2], [1, 2]), ([3], [3]), ([0, 4], [0, 4]), ([5], [5]), ([6, 5], [6]), ([7], [7]), ([7], [7]), ([7], [7]), ([9, 10, 7], [7, 9, 10]), ([11, 7], [7, 11]), ([8, 12, 7, 7], [7, 8, 12]), ([7], [7]), ([13, 14, 7], [7, 13, 14]), ([7, 15], [7, 15]), ([16, 13], [16]), ([17], [17]), ([17], [17]), ([18, 19, 17], [17, 18, 19]), ([17], [17]), ([17], [17]), ([21, 22, 17], [17, 21, 22]), ([23, 17], [17, 23]), ([20, 24, 17, 17], [17, 20, 24]), ([17, 25], [17, 25])])
def spec_l10Different.B4 : List Nat := [0, 0, 0, 6, 14, 31, 63, 127, 255, 255, 255, 1791, 3839, 8191, 255, 32767, 65535, 131071, 262143, 262143, 1048575, 262143, 262143, 6553599, 14942207, 33554431, 67108863]
theorem spec_l10Different.tab4 : rtab .any (opsOf Tryd.f55 4) = spec_l10Different.T4 := by kernel_rfl
theorem spec_l10Different.bits4 : waitsOk spec_l10Different.T4.2 spec_l10Different.B4 = true := by kernel_rfl
theorem spec_l10Different.calls (k : Nat) (a0_0 : Int) (a0_1 : Bool) (A0_2 : Option Addr) (c0_2 : Nat) (l0_2 : List Int) (A1 : Option Addr) (c1 : Nat) (l1 : List Int) (a2 : Bool) (r : Bool) (w : World) (hr0_2 : Kd.C (Kd.int .i64) w A0_2 l0_2.length l0_2) (hc0_2 : l0_2.length ≤ c0_2) (hr1 : Kd.C (Kd.int .i64) w A1 l1.length l1) (hc1 : l1.length ≤ c1) (h : spec_l10Different.f k a0_0 a0_1 l0_2 l1 a2 = some r) :
  Calls Tryd.prog 55 #[.agg #[.int .i64 a0_0, .bool a0_1, .slice A0_2 l0_2.length c0_2], .slice A1 l1.length c1, .bool a2] w fun e w' => e = .returned (.bool r) ∧ Below w.heap.size w w' := by
 have hu28 := Tryd.underlying28
 have HR0_2 := A0_ hr0_2
 have HC0_2 := A0_ hc0_2
 clear hr0_2 hc0_2
 have HR1 := A0_ hr1
 have HC1 := A0_ hc1
 clear hr1 hc1
 have HB := A0_ (Below.refl w.heap.size w)
 have H : (spec_l10Different.l0 k l1 a2 0 a0_0 a0_1 l0_2) = some r := h
 clear h
 have H' := A0_ H
 clear H
 go_enter Tryd.func55, Tryd.ntmps55
 go_wp2_with (first | ((with_reducible refine gd_ (N := 3) rfl ?_); (try (refine gate_guard b139_ ?_; dsimp only)); refine bx_ 3 #[.int .i64 a0_0, .bool a0_1, .slice A0_2 l0_2.length c0_2] 28 ?_; intro gb1 hg w1 BK1 hb; have GW1 := ge_ hg brt4_; have GE1 := GW1; replace HB := hb_ hb brt4_; clear hb hg))
 go_loopg [7] k (fun kq v1 w' => ∃ (x7_1 : Int), v1 = .int .i64 x7_1 ∧ Aside0 (spec_l10Different.l0 kq l1 a2 x7_1 a0_0 a0_1 l0_2 = some r) ∧ Aside0 (kq ≤ k) ∧ Aside0 (w'.heap[gb1]? = some (.cells #[.int .i64 a0_0, .bool a0_1, (.slice A0_2 l0_2.length c0_2)] 28 (0, 0))) ∧ Aside0 (Below w.heap.size w w'))
 case atStart => exact ⟨(0), b2ew_, H', ⟨Nat.le_refl _⟩, ⟨u1_ BK1⟩, ⟨be6g_⟩⟩
 clear H'
 try clear c1
 obtain ⟨x7_1, rfl, HA, HK1, BK1, HB⟩ := hrel
 cases gk with | zero => exact absurd HA.out (by simp [spec_l10Different.l0]) | succ k1 => ?_
 have H := HA.out
 clear HA
 simp only [spec_l10Different.l0] at H
 have HC5 := A0_ H
 clear H
 go_upto_region 2 with (fail)
 go_cut [15] (fun v2 wc => ∃ (kq : Nat) (x15_4 : Bool), v2 = .bool x15_4 ∧ Aside0 (spec_l10Different.j1 kq l1 a2 x7_1 x15_4 a0_0 a0_1 l0_2 = some r) ∧ Aside0 (kq ≤ k1) ∧ Aside0 (wc.heap[gb1]? = some (.cells #[.int .i64 a0_0, .bool a0_1, (.slice A0_2 l0_2.length c0_2)] 28 (0, 0))) ∧ Aside0 (Below w.heap.size w wc))
 case first =>
  have H := HC5.out
  clear HC5
  by_cases c2 : x7_1 < (l1.length : Int)
  ·rw [if_pos c2] at H
   have c2b0 : decide (x7_1 < (l1.length : Int)) = true := dt_ c2
   clear c2
   (first | rw [c2b0] | (simp only [i64_w, i32_w]; rw [c2b0]) | skip)
   have H' := A0_ H
   clear H
   go_wp2
   go_meet
   exact ⟨_, (decide (x7_1 ≤ 10)), b2ew_, H', ⟨b1kt_⟩, ⟨u1_ BK1⟩, ⟨be6g_⟩⟩
  rw [if_neg c2] at H
  have c2b0 : decide (x7_1 < (l1.length : Int)) = false := decide_eq_false c2
  clear c2
  (first | rw [c2b0] | (simp only [i64_w, i32_w]; rw [c2b0]) | skip)
  have H' := A0_ H
  clear H
  go_wp2
  go_meet
  exact ⟨_, (false), b2ew_, H', ⟨b1kt_⟩, ⟨u1_ BK1⟩, ⟨be6g_⟩⟩
 clear HC5
 try clear c1
 obtain ⟨kq, x15_4, rfl, HA, HJ1, BK1, HB⟩ := hcut
 cases kq with | zero => exact absurd HA.out (by simp [spec_l10Different.j1]) | succ kj1 => ?_
 have H := HA.out
 clear HA
 simp only [spec_l10Different.j1] at H
 by_cases c2 : x15_4 = true
 case neg =>
  obtain rfl := bf_.mpr c2
  rw [if_neg ft_] at H
  obtain ⟨t1, A3, H⟩ := o1_ H
  by_cases c3 : t1 = true
  ·subst c3
   rw [if_pos rfl] at H
   obtain rfl := si_ H
   have hcz1 := c3_ BK1
   go_wp2_with (first | ((with_reducible refine gc_ (f := 56) rfl ?_); refine gl_ 46 Tryd.func56 #[.agg #[.int .i64 a0_0, .bool a0_1, .slice A0_2 l0_2.length c0_2]] ?_; (with_reducible refine (spec_l10Line.calls kj1 a0_0 a0_1 _ _ l0_2 true _ ?side1 ?side2 A3.out).mono ?_); (case side1 => exact b6n8_); (case side2 => exact HC0_2.out); rintro e w2 ⟨rfl, hb⟩; refine ⟨_, rfl, ?_⟩; replace BK1 := k1_ BK1 hb; replace HB := hb_ hb be6g_; (try clear hb)))
   go_ret
   exact ⟨bnwh_, be6g_⟩
  obtain rfl := bf_.mpr c3
  rw [if_neg ft_] at H
  obtain rfl := si_ H
  have hcz1 := c3_ BK1
  go_wp2_with (first | ((with_reducible refine gc_ (f := 56) rfl ?_); refine gl_ 46 Tryd.func56 #[.agg #[.int .i64 a0_0, .bool a0_1, .slice A0_2 l0_2.length c0_2]] ?_; (with_reducible refine (spec_l10Line.calls kj1 a0_0 a0_1 _ _ l0_2 false _ ?side1 ?side2 A3.out).mono ?_); (case side1 => exact b6n8_); (case side2 => exact HC0_2.out); rintro e w2 ⟨rfl, hb⟩; refine ⟨_, rfl, ?_⟩; replace BK1 := k1_ BK1 hb; replace HB := hb_ hb be6g_; (try clear hb)))
  go_ret
  exact ⟨bnwh_, be6g_⟩
 subst c2
 rw [if_pos rfl] at H
 by_cases c3 : 0 ≤ x7_1
 case neg =>
  rw [if_neg c3] at H
  exact absurd H bxka_
 rw [if_pos c3] at H
 have c3b0 : decide (0 ≤ x7_1) = true := dt_ c3
 clear c3
 by_cases c4 : x7_1 < (l1.length : Int)
 case neg =>
  rw [if_neg c4] at H
  exact absurd H bxka_
 rw [if_pos c4] at H
 have c4b0 : decide (x7_1 < (l1.length : Int)) = true := dt_ c4
 clear c4
 obtain ⟨t1, A3, H⟩ := o1_ H
 by_cases c5 : t1 = true
 case neg =>
  obtain rfl := bf_.mpr c5
  rw [if_neg ft_] at H
  obtain rfl := si_ H
  try go_wp2
  replace BK1 := A0_ (kd_ BK1.out)
  replace HB := A0_ (bd_ HB.out)
  have p1 : 0 ≤ (x7_1 : Int) := od_ bpil_
  have q1 : x7_1 < (l1.length : Int) := od_ bpil_
  obtain ⟨ad1, e1, hx1_0⟩ := Kd.at_int HR1.out x7_1 p1 q1
  have hw484_0 := hx1_0
  cases e1
  replace hx1_0 := (HB.out.cell (World.block_lt_of_cell? w _ hx1_0)).trans hx1_0
  replace p1 := eq_true p1
  replace q1 := eq_true q1
  refine start_ (n := 27) (S := fun w' => w'.cell? ⟨gb1, 0, none⟩ = some (.int .i64 a0_0) ∧ w'.cell? ⟨gb1, 1, none⟩ = some (.bool a0_1) ∧ w'.cell? ⟨gb1, 2, none⟩ = some (.slice A0_2 l0_2.length c0_2) ∧ w'.cell? (ad1.add (x7_1).toNat) = some (.int .i64 (rd l1 x7_1))) (ds := []) #[false, false, false, false, false, false, false, false, false, false, false, false, false, false, false, false, false, false, false, false, false, false, false, false, false, false, false] bfqv_ rfl rfl ⟨(kc_ BK1.out 0).trans rfl, (kc_ BK1.out 1).trans rfl, (kc_ BK1.out 2).trans rfl, ((HB.out.cell (World.block_lt_of_cell? w _ hw484_0)).trans hw484_0)⟩ (fun hHeld => ?_); refine with_tabW spec_l10Different.tab4 spec_l10Different.bits4 (fun HT_ HW_ => ?_)
  generalize wc.drew = w2 at BK1 HB hx1_0 hHeld ⊢
  refine pu_ 1 19 ?_
  refine pu_ 2 20 ?_
  refine pu_ 3 21 ?_
  refine tk_ 0 18 hHeld ?_
  refine tk_ 4 22 hHeld ?_
  refine on_ 5 (some 23) (fun K hK => ?_)
  refine gs_ Tryd.func80 #[.agg #[.int .i64 a0_0, .bool a0_1, .slice A0_2 l0_2.length c0_2], .int .i64 (rd l1 x7_1)] ?_
  with_reducible refine (spec_l2Seat.calls kj1 a0_0 a0_1 _ _ l0_2 (rd l1 x7_1) false _ ?side1 ?side2 A3.out).mono ?_
  (case side1 => exact b6n8_)
  (case side2 => exact HC0_2.out)
  rintro e w3 ⟨rfl, hb⟩
  refine ⟨_, rfl, ?_⟩
  replace BK1 := k1_ BK1 hb
  replace HB := hb_ hb be6g_
  (try clear hb)
  refine hK.out _ _ ⟨(kc_ BK1.out 0).trans rfl, (kc_ BK1.out 1).trans rfl, (kc_ BK1.out 2).trans rfl, ((HB.out.cell (World.block_lt_of_cell? w _ hw484_0)).trans hw484_0)⟩ (fun hHeld => ?_)
  clear hK K
  refine nm_ 23 ?_
  refine pu_ 6 24 ?_
  refine pu_ 7 25 ?_
  refine pv_ 8 26 ?_
  refine pv_ 9 27 ?_
  refine pv_ 10 28 ?_
  refine pv_ 11 29 ?_
  refine pv_ 12 30 ?_
  refine pv_ 13 31 ?_
  refine pv_ 14 32 ?_
  refine pv_ 15 33 ?_
  refine pu_ 16 34 ?_
  refine pu_ 17 35 ?_
  refine pv_ 18 36 ?_
  refine pv_ 19 37 ?_
  refine pv_ 20 38 ?_
  refine pv_ 21 39 ?_
  refine pv_ 22 40 ?_
  refine pv_ 23 41 ?_
  refine pv_ 24 42 ?_
  refine pv_ 25 43 ?_
  refine pu_ 26 44 ?_
  refine dn_ ?_
  try go_wp2
  go_ret
  exact ⟨bnwh_, be6g_⟩
 subst c5
 rw [if_pos rfl] at H
 obtain ⟨t2, A5, H⟩ := o1_ H
 by_cases c6 : (t2 != a2) = true
 ·rw [if_pos c6] at H
  have c6b0 : (t2 != a2) = true := c6
  (try (have c6b1 : decide (t2 = a2) = false := by simpa using c6))
  (try (have c6b2 : (t2 == a2) = false := by simpa using c6))
  (try (have c6b3 : ¬ (t2 = a2) := by simpa using c6))
  clear c6
  obtain rfl := si_ H
  try go_wp2
  replace BK1 := A0_ (kd_ BK1.out)
  replace HB := A0_ (bd_ HB.out)
  have p1 : 0 ≤ (x7_1 : Int) := od_ bpil_
  have q1 : x7_1 < (l1.length : Int) := od_ bpil_
  obtain ⟨ad1, e1, hx1_0⟩ := Kd.at_int HR1.out x7_1 p1 q1
  have hw484_0 := hx1_0
  cases e1
  replace hx1_0 := (HB.out.cell (World.block_lt_of_cell? w _ hx1_0)).trans hx1_0
  replace p1 := eq_true p1
  replace q1 := eq_true q1
  have p2 : 0 ≤ (x7_1 : Int) := od_ bpil_
  have q2 : x7_1 < (l1.length : Int) := od_ bpil_
  obtain ⟨ad2, e2, hx2_0⟩ := Kd.at_int HR1.out x7_1 p2 q2
  have hw486_0 := hx2_0
  obtain rfl : ad1 = ad2 := bs6y_
  replace hx2_0 := (HB.out.cell (World.block_lt_of_cell? w _ hx2_0)).trans hx2_0
  replace p2 := eq_true p2
  replace q2 := eq_true q2
  refine start_ (n := 27) (S := fun w' => w'.cell? ⟨gb1, 0, none⟩ = some (.int .i64 a0_0) ∧ w'.cell? ⟨gb1, 1, none⟩ = some (.bool a0_1) ∧ w'.cell? ⟨gb1, 2, none⟩ = some (.slice A0_2 l0_2.length c0_2) ∧ w'.cell? (ad1.add (x7_1).toNat) = some (.int .i64 (rd l1 x7_1)) ∧ w'.cell? (ad1.add (x7_1).toNat) = some (.int .i64 (rd l1 x7_1))) (ds := []) #[false, false, false, false, false, false, false, false, false, false, false, false, false, false, false, false, false, false, false, false, false, false, false, false, false, false, false] bfqv_ rfl rfl ⟨(kc_ BK1.out 0).trans rfl, (kc_ BK1.out 1).trans rfl, (kc_ BK1.out 2).trans rfl, ((HB.out.cell (World.block_lt_of_cell? w _ hw484_0)).trans hw484_0), ((HB.out.cell (World.block_lt_of_cell? w _ hw486_0)).trans hw486_0)⟩ (fun hHeld => ?_); refine with_tabW spec_l10Different.tab4 spec_l10Different.bits4 (fun HT_ HW_ => ?_)
  generalize wc.drew = w2 at BK1 HB hx1_0 hx2_0 hHeld ⊢
  refine pu_ 1 19 ?_
  refine pu_ 2 20 ?_
  refine pu_ 3 21 ?_
  refine tk_ 0 18 hHeld ?_
  refine tk_ 4 22 hHeld ?_
  refine on_ 5 (some 23) (fun K hK => ?_)
  refine gs_ Tryd.func80 #[.agg #[.int .i64 a0_0, .bool a0_1, .slice A0_2 l0_2.length c0_2], .int .i64 (rd l1 x7_1)] ?_
  with_reducible refine (spec_l2Seat.calls kj1 a0_0 a0_1 _ _ l0_2 (rd l1 x7_1) true _ ?side1 ?side2 A3.out).mono ?_
  (case side1 => exact b6n8_)
  (case side2 => exact HC0_2.out)
  rintro e w3 ⟨rfl, hb⟩
  refine ⟨_, rfl, ?_⟩
  replace BK1 := k1_ BK1 hb
  replace HB := hb_ hb be6g_
  (try clear hb)
  refine hK.out _ _ ⟨(kc_ BK1.out 0).trans rfl, (kc_ BK1.out 1).trans rfl, (kc_ BK1.out 2).trans rfl, ((HB.out.cell (World.block_lt_of_cell? w _ hw484_0)).trans hw484_0), ((HB.out.cell (World.block_lt_of_cell? w _ hw486_0)).trans hw486_0)⟩ (fun hHeld => ?_)
  clear hK K
  refine nm_ 23 ?_
  refine pu_ 6 24 ?_
  refine pu_ 7 25 ?_
  refine pu_ 9 27 ?_
  refine pu_ 10 28 ?_
  refine pu_ 11 29 ?_
  refine pu_ 14 32 ?_
  refine tk_ 8 26 hHeld ?_
  refine tk_ 12 30 hHeld ?_
  refine on_ 13 (some 31) (fun K hK => ?_)
  refine gs_ Tryd.func69 #[.agg #[.int .i64 a0_0, .bool a0_1, .slice A0_2 l0_2.length c0_2], .int .i64 (rd l1 x7_1)] ?_
  with_reducible refine (spec_l2Is.calls kj1 a0_0 a0_1 _ _ l0_2 (rd l1 x7_1) t2 _ ?side1 ?side2 A5.out).mono ?_
  (case side1 => exact b6n8_)
  (case side2 => exact HC0_2.out)
  rintro e w4 ⟨rfl, hb⟩
  refine ⟨_, rfl, ?_⟩
  replace BK1 := k1_ BK1 hb
  replace HB := hb_ hb be6g_
  (try clear hb)
  refine hK.out _ _ ⟨(kc_ BK1.out 0).trans rfl, (kc_ BK1.out 1).trans rfl, (kc_ BK1.out 2).trans rfl, ((HB.out.cell (World.block_lt_of_cell? w _ hw484_0)).trans hw484_0), ((HB.out.cell (World.block_lt_of_cell? w _ hw486_0)).trans hw486_0)⟩ (fun hHeld => ?_)
  clear hK K
  refine nm_ 31 ?_
  refine pu_ 15 33 ?_
  refine pu_ 16 34 ?_
  refine pu_ 17 35 ?_
  refine pv_ 18 36 ?_
  refine pv_ 19 37 ?_
  refine pv_ 20 38 ?_
  refine pv_ 21 39 ?_
  refine pv_ 22 40 ?_
  refine pv_ 23 41 ?_
  refine pv_ 24 42 ?_
  refine pv_ 25 43 ?_
  refine pu_ 26 44 ?_
  refine dn_ ?_
  try go_wp2
  go_ret
  exact ⟨bnwh_, be6g_⟩
 rw [if_neg c6] at H
 have c6b0 : (t2 != a2) = false := by simpa using c6
 (try (have c6b1 : decide (t2 = a2) = true := by simpa using c6))
 (try (have c6b2 : (t2 == a2) = true := by simpa using c6))
 clear c6
 have c7b0 := eq_true (od_ bpil_ : 0 ≤ x7_1)
 by_cases c8 : x7_1 ≤ (l1.length : Int)
 case neg =>
  rw [if_neg c8] at H
  exact absurd H bxka_
 rw [if_pos c8] at H
 have c8b0 := eq_true c8
 have c8b1 : decide (x7_1 ≤ (l1.length : Int)) = true := dt_ c8
 clear c8
 obtain ⟨t3, A7, H⟩ := o1_ H
 by_cases c9 : t3 = true
 ·subst c9
  rw [if_pos rfl] at H
  obtain rfl := si_ H
  try go_wp2
  replace BK1 := A0_ (kd_ BK1.out)
  replace HB := A0_ (bd_ HB.out)
  have p1 : 0 ≤ (x7_1 : Int) := od_ bpil_
  have q1 : x7_1 < (l1.length : Int) := od_ bpil_
  obtain ⟨ad1, e1, hx1_0⟩ := Kd.at_int HR1.out x7_1 p1 q1
  have hw484_0 := hx1_0
  cases e1
  replace hx1_0 := (HB.out.cell (World.block_lt_of_cell? w _ hx1_0)).trans hx1_0
  replace p1 := eq_true p1
  replace q1 := eq_true q1
  have p2 : 0 ≤ (x7_1 : Int) := od_ bpil_
  have q2 : x7_1 < (l1.length : Int) := od_ bpil_
  obtain ⟨ad2, e2, hx2_0⟩ := Kd.at_int HR1.out x7_1 p2 q2
  have hw486_0 := hx2_0
  obtain rfl : ad1 = ad2 := bs6y_
  replace hx2_0 := (HB.out.cell (World.block_lt_of_cell? w _ hx2_0)).trans hx2_0
  replace p2 := eq_true p2
  replace q2 := eq_true q2
  have p3 : 0 ≤ (x7_1 : Int) := od_ bpil_
  have q3 : x7_1 < (l1.length : Int) := od_ bpil_
  obtain ⟨ad3, e3, hx3_0⟩ := Kd.at_int HR1.out x7_1 p3 q3
  have hw489_0 := hx3_0
  obtain rfl : ad1 = ad3 := (by injection e3)
  replace hx3_0 := (HB.out.cell (World.block_lt_of_cell? w _ hx3_0)).trans hx3_0
  replace p3 := eq_true p3
  replace q3 := eq_true q3
  refine start_ (n := 27) (S := fun w' => w'.cell? ⟨gb1, 0, none⟩ = some (.int .i64 a0_0) ∧ w'.cell? ⟨gb1, 1, none⟩ = some (.bool a0_1) ∧ w'.cell? ⟨gb1, 2, none⟩ = some (.slice A0_2 l0_2.length c0_2) ∧ w'.cell? (ad1.add (x7_1).toNat) = some (.int .i64 (rd l1 x7_1)) ∧ w'.cell? (ad1.add (x7_1).toNat) = some (.int .i64 (rd l1 x7_1)) ∧ w'.cell? (ad1.add (x7_1).toNat) = some (.int .i64 (rd l1 x7_1))) (ds := []) #[false, false, false, false, false, false, false, false, false, false, false, false, false, false, false, false, false, false, false, false, false, false, false, false, false, false, false] bfqv_ rfl rfl ⟨(kc_ BK1.out 0).trans rfl, (kc_ BK1.out 1).trans rfl, (kc_ BK1.out 2).trans rfl, ((HB.out.cell (World.block_lt_of_cell? w _ hw484_0)).trans hw484_0), ((HB.out.cell (World.block_lt_of_cell? w _ hw486_0)).trans hw486_0), ((HB.out.cell (World.block_lt_of_cell? w _ hw489_0)).trans hw489_0)⟩ (fun hHeld => ?_); refine with_tabW spec_l10Different.tab4 spec_l10Different.bits4 (fun HT_ HW_ => ?_)
  generalize wc.drew = w2 at BK1 HB hx1_0 hx2_0 hx3_0 hHeld ⊢
  refine pu_ 1 19 ?_
  refine pu_ 2 20 ?_
  refine pu_ 3 21 ?_
  refine tk_ 0 18 hHeld ?_
  refine tk_ 4 22 hHeld ?_
  refine on_ 5 (some 23) (fun K hK => ?_)
  refine gs_ Tryd.func80 #[.agg #[.int .i64 a0_0, .bool a0_1, .slice A0_2 l0_2.length c0_2], .int .i64 (rd l1 x7_1)] ?_
  with_reducible refine (spec_l2Seat.calls kj1 a0_0 a0_1 _ _ l0_2 (rd l1 x7_1) true _ ?side1 ?side2 A3.out).mono ?_
  (case side1 => exact b6n8_)
  (case side2 => exact HC0_2.out)
  rintro e w3 ⟨rfl, hb⟩
  refine ⟨_, rfl, ?_⟩
  replace BK1 := k1_ BK1 hb
  replace HB := hb_ hb be6g_
  (try clear hb)
  refine hK.out _ _ ⟨(kc_ BK1.out 0).trans rfl, (kc_ BK1.out 1).trans rfl, (kc_ BK1.out 2).trans rfl, ((HB.out.cell (World.block_lt_of_cell? w _ hw484_0)).trans hw484_0), ((HB.out.cell (World.block_lt_of_cell? w _ hw486_0)).trans hw486_0), ((HB.out.cell (World.block_lt_of_cell? w _ hw489_0)).trans hw489_0)⟩ (fun hHeld => ?_)
  clear hK K
  refine nm_ 23 ?_
  refine pu_ 6 24 ?_
  refine pu_ 7 25 ?_
  refine pu_ 9 27 ?_
  refine pu_ 10 28 ?_
  refine pu_ 11 29 ?_
  refine pu_ 14 32 ?_
  refine tk_ 8 26 hHeld ?_
  refine tk_ 12 30 hHeld ?_
  refine on_ 13 (some 31) (fun K hK => ?_)
  refine gs_ Tryd.func69 #[.agg #[.int .i64 a0_0, .bool a0_1, .slice A0_2 l0_2.length c0_2], .int .i64 (rd l1 x7_1)] ?_
  with_reducible refine (spec_l2Is.calls kj1 a0_0 a0_1 _ _ l0_2 (rd l1 x7_1) t2 _ ?side1 ?side2 A5.out).mono ?_
  (case side1 => exact b6n8_)
  (case side2 => exact HC0_2.out)
  rintro e w4 ⟨rfl, hb⟩
  refine ⟨_, rfl, ?_⟩
  replace BK1 := k1_ BK1 hb
  replace HB := hb_ hb be6g_
  (try clear hb)
  obtain ⟨i024, hi024, _, hsz24, _⟩ := info_parts info3
  obtain ⟨hcut24, hA24, hC24⟩ := print_take_of (P := Tryd.prog) (Value.int .i64) 0 22 3 .i64 Tryd.underlying22 hi024 hsz24 (some ad1) c1 l1 x7_1 (od_ bpil_) (od_ bpil_) HC1.out
  have HR488 := A0_ (Kd.C_of_reads (h1 := fun _ => rfl) (hA24 _ (Kd.reads_of_C HR1.out)))
  have HC488 := A0_ hC24
  clear hA24 hC24 hi024 hsz24
  refine hK.out _ _ ⟨(kc_ BK1.out 0).trans rfl, (kc_ BK1.out 1).trans rfl, (kc_ BK1.out 2).trans rfl, ((HB.out.cell (World.block_lt_of_cell? w _ hw484_0)).trans hw484_0), ((HB.out.cell (World.block_lt_of_cell? w _ hw486_0)).trans hw486_0), ((HB.out.cell (World.block_lt_of_cell? w _ hw489_0)).trans hw489_0)⟩ (fun hHeld => ?_)
  clear hK K
  refine nm_ 31 ?_
  refine pu_ 15 33 ?_
  refine pu_ 16 34 ?_
  refine pu_ 17 35 ?_
  refine pu_ 18 36 ?_
  refine pu_ 19 37 ?_
  refine pu_ 20 38 ?_
  refine pu_ 21 39 ?_
  refine pu_ 22 40 ?_
  refine pu_ 23 41 ?_
  refine tk_ 24 42 hHeld ?_
  refine on_ 25 (some 43) (fun K hK => ?_)
  refine goes_ Tryd.func62 bfqv_ rfl #[.slice (some ad1) (l1.take (x7_1 : Int).toNat).length c1, .int .i64 (rd l1 x7_1)] b139_ rfl rfl bo80_ ?_
  with_reducible refine (spec_l1Has.calls kj1 _ _ (l1.take (x7_1 : Int).toNat) (rd l1 x7_1) true _ ?side1 ?side2 A7.out).mono ?_
  (case side1 => exact b6r6_)
  (case side2 => exact HC488.out)
  rintro e w' ⟨rfl, ⟨nd, rfl⟩⟩
  refine ⟨_, rfl, ?_⟩
  refine hK.out _ _ ⟨(kc_ BK1.out 0).trans rfl, (kc_ BK1.out 1).trans rfl, (kc_ BK1.out 2).trans rfl, ((HB.out.cell (World.block_lt_of_cell? w _ hw484_0)).trans hw484_0), ((HB.out.cell (World.block_lt_of_cell? w _ hw486_0)).trans hw486_0), ((HB.out.cell (World.block_lt_of_cell? w _ hw489_0)).trans hw489_0)⟩ (fun hHeld => ?_)
  clear hK K
  refine nm_ 43 ?_
  refine pu_ 26 44 ?_
  refine dn_ ?_
  try go_wp2
  go_ret
  exact ⟨bnwh_, be6g_⟩
 obtain rfl := bf_.mpr c9
 rw [if_neg ft_] at H
 have H' := A0_ H
 clear H
 try go_wp2
 replace BK1 := A0_ (kd_ BK1.out)
 replace HB := A0_ (bd_ HB.out)
 have p1 : 0 ≤ (x7_1 : Int) := od_ bpil_
 have q1 : x7_1 < (l1.length : Int) := od_ bpil_
 obtain ⟨ad1, e1, hx1_0⟩ := Kd.at_int HR1.out x7_1 p1 q1
 have hw484_0 := hx1_0
 cases e1
 replace hx1_0 := (HB.out.cell (World.block_lt_of_cell? w _ hx1_0)).trans hx1_0
 replace p1 := eq_true p1
 replace q1 := eq_true q1
 have p2 : 0 ≤ (x7_1 : Int) := od_ bpil_
 have q2 : x7_1 < (l1.length : Int) := od_ bpil_
 obtain ⟨ad2, e2, hx2_0⟩ := Kd.at_int HR1.out x7_1 p2 q2
 have hw486_0 := hx2_0
 obtain rfl : ad1 = ad2 := bs6y_
 replace hx2_0 := (HB.out.cell (World.block_lt_of_cell? w _ hx2_0)).trans hx2_0
 replace p2 := eq_true p2
 replace q2 := eq_true q2
 have p3 : 0 ≤ (x7_1 : Int) := od_ bpil_
 have q3 : x7_1 < (l1.length : Int) := od_ bpil_
 obtain ⟨ad3, e3, hx3_0⟩ := Kd.at_int HR1.out x7_1 p3 q3
 have hw489_0 := hx3_0
 obtain rfl : ad1 = ad3 := (by injection e3)
 replace hx3_0 := (HB.out.cell (World.block_lt_of_cell? w _ hx3_0)).trans hx3_0
 replace p3 := eq_true p3
 replace q3 := eq_true q3
 refine start_ (n := 27) (S := fun w' => w'.cell? ⟨gb1, 0, none⟩ = some (.int .i64 a0_0) ∧ w'.cell? ⟨gb1, 1, none⟩ = some (.bool a0_1) ∧ w'.cell? ⟨gb1, 2, none⟩ = some (.slice A0_2 l0_2.length c0_2) ∧ w'.cell? (ad1.add (x7_1).toNat) = some (.int .i64 (rd l1 x7_1)) ∧ w'.cell? (ad1.add (x7_1).toNat) = some (.int .i64 (rd l1 x7_1)) ∧ w'.cell? (ad1.add (x7_1).toNat) = some (.int .i64 (rd l1 x7_1))) (ds := []) #[false, false, false, false, false, false, false, false, false, false, false, false, false, false, false, false, false, false, false, false, false, false, false, false, false, false, false] bfqv_ rfl rfl ⟨(kc_ BK1.out 0).trans rfl, (kc_ BK1.out 1).trans rfl, (kc_ BK1.out 2).trans rfl, ((HB.out.cell (World.block_lt_of_cell? w _ hw484_0)).trans hw484_0), ((HB.out.cell (World.block_lt_of_cell? w _ hw486_0)).trans hw486_0), ((HB.out.cell (World.block_lt_of_cell? w _ hw489_0)).trans hw489_0)⟩ (fun hHeld => ?_); refine with_tabW spec_l10Different.tab4 spec_l10Different.bits4 (fun HT_ HW_ => ?_)
 generalize wc.drew = w2 at BK1 HB hx1_0 hx2_0 hx3_0 hHeld ⊢
 refine pu_ 1 19 ?_
 refine pu_ 2 20 ?_
 refine pu_ 3 21 ?_
 refine tk_ 0 18 hHeld ?_
 refine tk_ 4 22 hHeld ?_
 refine on_ 5 (some 23) (fun K hK => ?_)
 refine gs_ Tryd.func80 #[.agg #[.int .i64 a0_0, .bool a0_1, .slice A0_2 l0_2.length c0_2], .int .i64 (rd l1 x7_1)] ?_
 with_reducible refine (spec_l2Seat.calls kj1 a0_0 a0_1 _ _ l0_2 (rd l1 x7_1) true _ ?side1 ?side2 A3.out).mono ?_
 (case side1 => exact b6n8_)
 (case side2 => exact HC0_2.out)
 rintro e w3 ⟨rfl, hb⟩
 refine ⟨_, rfl, ?_⟩
 replace BK1 := k1_ BK1 hb
 replace HB := hb_ hb be6g_
 (try clear hb)
 refine hK.out _ _ ⟨(kc_ BK1.out 0).trans rfl, (kc_ BK1.out 1).trans rfl, (kc_ BK1.out 2).trans rfl, ((HB.out.cell (World.block_lt_of_cell? w _ hw484_0)).trans hw484_0), ((HB.out.cell (World.block_lt_of_cell? w _ hw486_0)).trans hw486_0), ((HB.out.cell (World.block_lt_of_cell? w _ hw489_0)).trans hw489_0)⟩ (fun hHeld => ?_)
 clear hK K
 refine nm_ 23 ?_
 refine pu_ 6 24 ?_
 refine pu_ 7 25 ?_
 refine pu_ 9 27 ?_
 refine pu_ 10 28 ?_
 refine pu_ 11 29 ?_
 refine pu_ 14 32 ?_
 refine tk_ 8 26 hHeld ?_
 refine tk_ 12 30 hHeld ?_
 refine on_ 13 (some 31) (fun K hK => ?_)
 refine gs_ Tryd.func69 #[.agg #[.int .i64 a0_0, .bool a0_1, .slice A0_2 l0_2.length c0_2], .int .i64 (rd l1 x7_1)] ?_
 with_reducible refine (spec_l2Is.calls kj1 a0_0 a0_1 _ _ l0_2 (rd l1 x7_1) t2 _ ?side1 ?side2 A5.out).mono ?_
 (case side1 => exact b6n8_)
 (case side2 => exact HC0_2.out)
 rintro e w4 ⟨rfl, hb⟩
 refine ⟨_, rfl, ?_⟩
 replace BK1 := k1_ BK1 hb
 replace HB := hb_ hb be6g_
 (try clear hb)
 obtain ⟨i028, hi028, _, hsz28, _⟩ := info_parts info3
 obtain ⟨hcut28, hA28, hC28⟩ := print_take_of (P := Tryd.prog) (Value.int .i64) 0 22 3 .i64 Tryd.underlying22 hi028 hsz28 (some ad1) c1 l1 x7_1 (od_ bpil_) (od_ bpil_) HC1.out
 have HR488 := A0_ (Kd.C_of_reads (h1 := fun _ => rfl) (hA28 _ (Kd.reads_of_C HR1.out)))
 have HC488 := A0_ hC28
 clear hA28 hC28 hi028 hsz28
 refine hK.out _ _ ⟨(kc_ BK1.out 0).trans rfl, (kc_ BK1.out 1).trans rfl, (kc_ BK1.out 2).trans rfl, ((HB.out.cell (World.block_lt_of_cell? w _ hw484_0)).trans hw484_0), ((HB.out.cell (World.block_lt_of_cell? w _ hw486_0)).trans hw486_0), ((HB.out.cell (World.block_lt_of_cell? w _ hw489_0)).trans hw489_0)⟩ (fun hHeld => ?_)
 clear hK K
 refine nm_ 31 ?_
 refine pu_ 15 33 ?_
 refine pu_ 16 34 ?_
 refine pu_ 17 35 ?_
 refine pu_ 18 36 ?_
 refine pu_ 19 37 ?_
 refine pu_ 20 38 ?_
 refine pu_ 21 39 ?_
 refine pu_ 22 40 ?_
 refine pu_ 23 41 ?_
 refine tk_ 24 42 hHeld ?_
 refine on_ 25 (some 43) (fun K hK => ?_)
 refine goes_ Tryd.func62 bfqv_ rfl #[.slice (some ad1) (l1.take (x7_1 : Int).toNat).length c1, .int .i64 (rd l1 x7_1)] b139_ rfl rfl bo80_ ?_
 with_reducible refine (spec_l1Has.calls kj1 _ _ (l1.take (x7_1 : Int).toNat) (rd l1 x7_1) false _ ?side1 ?side2 A7.out).mono ?_
 (case side1 => exact b6r6_)
 (case side2 => exact HC488.out)
 rintro e w' ⟨rfl, ⟨nd, rfl⟩⟩
 refine ⟨_, rfl, ?_⟩
 refine hK.out _ _ ⟨(kc_ BK1.out 0).trans rfl, (kc_ BK1.out 1).trans rfl, (kc_ BK1.out 2).trans rfl, ((HB.out.cell (World.block_lt_of_cell? w _ hw484_0)).trans hw484_0), ((HB.out.cell (World.block_lt_of_cell? w _ hw486_0)).trans hw486_0), ((HB.out.cell (World.block_lt_of_cell? w _ hw489_0)).trans hw489_0)⟩ (fun hHeld => ?_)
 clear hK K
 refine nm_ 43 ?_
 refine pu_ 26 44 ?_
 refine dn_ ?_
 try go_wp2
 go_roundg kj1
 case measure => have := HK1.out; have := HJ1.out; omega
 exact ⟨(wrap64 (x7_1 + 1)), b2ew_, H', ⟨by have := HK1.out; have := HJ1.out; omega⟩, ⟨u1_ BK1⟩, ⟨be6g_⟩⟩

end Go.Proofs.YtohmonfaabofaaaDoor.QFnTheatre
-- packed
-- squeezed
