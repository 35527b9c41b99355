-- Written by px.py, a program of this session, over the kit's printer: some functions have a definition and a proof of this session's own.
import Derived.Test.YtbohmfnjgjijdaaDoorQFnGuestsx0
import Derived.Test.YtbohmfnjgjijdaaDoorQFnGuestsx1
import Derived.Test.YtbohmfnjgjijdaaDoorQFnGuestsx2
import Derived.Test.YtbohmfnjgjijdaaDoorQFnGuestsx3
import Derived.Lib.BitFns
namespace Go.Proofs.YtbohmfnjgjijdaaDoor.QFnGuests
open Go.RowKit Go.Proofs.YtbohmfnjgjijdaaDoorW.PrintWords Go.Proofs.YtbohmfnjgjijdaaDoorW.PrintLast Go.Proofs.YtbohmfnjgjijdaaDoorW.PrintMore
attribute [local go_sem] max2_int min2_int max_two min_two max_three min_three max_four min_four   -- for this text's walks alone
set_option linter.unusedVariables false
set_option linter.unusedSimpArgs false
set_option maxHeartbeats 8000000
set_option maxRecDepth 100000

mutual
def spec_l1Cur_house.l0 : Nat → Bool → Int → List Int → Int → Int → Int → Bool → List Int → List Int → Int → Option (Int × Bool × List Int × List Int × Int × Int × Int)
 | 0, _, _, _, _, _, _, _, _, _, _ => none
 | k + 1, x5, x6, x1000, x1001, x1002, x546000, x546001, x546002, x546003, x546004 => if x6 > 0 then (spec_l1Cur_house.j1 k x5 x6 x5 x1000 x1001 x1002 x546000 x546001 x546002 x546003 x546004) else (spec_l1Cur_house.j1 k x5 x6 false x1000 x1001 x1002 x546000 x546001 x546002 x546003 x546004)
def spec_l1Cur_house.j1 : Nat → Bool → Int → Bool → List Int → Int → Int → Int → Bool → List Int → List Int → Int → Option (Int × Bool × List Int × List Int × Int × Int × Int)
 | 0, _, _, _, _, _, _, _, _, _, _, _ => none
 | k + 1, x5, x6, x26, x1000, x1001, x1002, x546000, x546001, x546002, x546003, x546004 => if x26 = true then ((spec_l1Cur_work12.f k x1000 x1001 x1002 x546000 x546001 x546002 x546003 x546004).bind fun bt549 => ((spec_l12Do.f k x546000 x546001 x546002 x546003 x546004 bt549.1 bt549.2.1 bt549.2.2.1).bind fun bt554 => (if bt554.2.2.2.2.2 = true then (spec_l1Cur_house.l0 k x5 (wrap64 (x6 - 1)) x1000 bt549.2.2.2.1 bt549.2.2.2.2 bt554.1 bt554.2.1 bt554.2.2.1 bt554.2.2.2.1 bt554.2.2.2.2.1) else (spec_l1Cur_house.l0 k x5 (wrap64 (x6 - 1)) x1000 bt549.2.2.2.1 bt549.2.2.2.2 x546000 x546001 x546002 x546003 x546004)))) else ((spec_l1Cur_pick.f x1000 x1001 x1002 48).bind fun bt565 => (if bt565.1 = 0 then ((spec_l1Cur_among.f x1000 bt565.2.1 bt565.2.2 (([(-1), 1000, 1001] : List Int))).bind fun bt571 => (some (x546000, x546001, x546002, x546003, bt571.1, bt571.2.1, bt571.2.2))) else (if bt565.1 = 1 then ((spec_l1Own.f x546003).bind fun t574 => ((spec_l1Cur_among.f x1000 bt565.2.1 bt565.2.2 (([0, (-1), 24] : List Int))).bind fun bt580 => (if t574.length < 17592186044416 then (some (x546000, x546001, x546002, (t574 ++ [bt580.1]), x546004, bt580.2.1, bt580.2.2)) else (none)))) else (if bt565.1 = 2 then (if (x546003.length : Int) > 1 then (if 1 < (x546003.length : Int) then (if 0 < (x546003.length : Int) then (some (x546000, x546001, x546002, (x546003.set (0 : Int).toNat (rd x546003 1)), x546004, bt565.2.1, bt565.2.2)) else (none)) else (none)) else (some (x546000, x546001, x546002, x546003, x546004, bt565.2.1, bt565.2.2))) else (if bt565.1 = 3 then ((spec_l1Cur_among.f x1000 bt565.2.1 bt565.2.2 (([1, 24, 25, 4611686018427387904] : List Int))).bind fun bt591 => (some (bt591.1, x546001, x546002, x546003, x546004, bt591.2.1, bt591.2.2))) else (some (x546000, x546001, x546002, x546003, x546004, bt565.2.1, bt565.2.2)))))))
end
def spec_l1Cur_house.f (k : Nat) (s0_0 : List Int) (s0_1 : Int) (s0_2 : Int) : Option (Int × Bool × List Int × List Int × Int × Int × Int) := (spec_l1Cur_among.f s0_0 s0_1 s0_2 (([6, 8, 5, 10, 4, 7, 3, 12] : List Int))).bind fun bt529 => ((spec_l1Cur_one.f s0_0 bt529.2.1 bt529.2.2 2).bind fun bt532 => ((spec_NewHouse.f k bt529.1 bt532.1).bind fun bt535 => ((spec_l1Cur_pick.f s0_0 bt532.2.1 bt532.2.2 8).bind fun bt546 => (spec_l1Cur_house.l0 k bt535.2.2.2.2.2 (wrap64 (1 + bt546.1)) s0_0 bt546.2.1 bt546.2.2 bt535.1 bt535.2.1 bt535.2.2.1 bt535.2.2.2.1 bt535.2.2.2.2.1))))
theorem spec_l1Cur_house.mono_l : ∀ k, (∀ y0 y1 y2 y3 y4 y5 y6 y7 y8 y9, LeO (spec_l1Cur_house.l0 k y0 y1 y2 y3 y4 y5 y6 y7 y8 y9) (spec_l1Cur_house.l0 (k + 1) y0 y1 y2 y3 y4 y5 y6 y7 y8 y9)) ∧ (∀ y0 y1 y2 y3 y4 y5 y6 y7 y8 y9 y10, LeO (spec_l1Cur_house.j1 k y0 y1 y2 y3 y4 y5 y6 y7 y8 y9 y10) (spec_l1Cur_house.j1 (k + 1) y0 y1 y2 y3 y4 y5 y6 y7 y8 y9 y10))
 | 0 => ⟨fun _ _ _ _ _ _ _ _ _ _ r h => by simp [spec_l1Cur_house.l0] at h, fun _ _ _ _ _ _ _ _ _ _ _ r h => by simp [spec_l1Cur_house.j1] at h⟩
 | k + 1 => by
  obtain ⟨ih0, ih1⟩ := spec_l1Cur_house.mono_l k
  refine ⟨?_, ?_⟩
  ·intro y0 y1 y2 y3 y4 y5 y6 y7 y8 y9
   unfold spec_l1Cur_house.l0
   repeat' with_reducible first | exact ih0 .. | exact ih1 .. | exact spec_NewHouse.mono .. | exact spec_l12Do.mono .. | exact spec_l1Cur_work12.mono .. | exact LeO.refl .. | exact LeO.none .. | refine LeO.ite ?_ ?_ | refine LeO.bind ?_ (fun _ => ?_)
  ·intro y0 y1 y2 y3 y4 y5 y6 y7 y8 y9 y10
   unfold spec_l1Cur_house.j1
   repeat' with_reducible first | exact ih0 .. | exact ih1 .. | exact spec_NewHouse.mono .. | exact spec_l12Do.mono .. | exact spec_l1Cur_work12.mono .. | exact LeO.refl .. | exact LeO.none .. | refine LeO.ite ?_ ?_ | refine LeO.bind ?_ (fun _ => ?_)
theorem spec_l1Cur_house.mono : ∀ a0 a1 a2 k, LeO (spec_l1Cur_house.f k a0 a1 a2) (spec_l1Cur_house.f (k + 1) a0 a1 a2) := by
 intro a0 a1 a2 k
 obtain ⟨ih0, ih1⟩ := spec_l1Cur_house.mono_l k
 unfold spec_l1Cur_house.f
 repeat' with_reducible first | exact ih0 .. | exact ih1 .. | exact spec_NewHouse.mono .. | exact spec_l12Do.mono .. | exact spec_l1Cur_work12.mono .. | exact LeO.refl .. | exact LeO.none .. | refine LeO.ite ?_ ?_ | refine LeO.bind ?_ (fun _ => ?_)
def spec_l1Cur_house.T6 : Bool × List (List Nat × List Nat) := (true, [([], []), ([], []), ([], []), ([1, 2], [1, 2]), ([0, 3, 3], [0, 3]), ([4], [4]), ([5], [5]), ([5], [5]), ([], []), ([8, 6, 4, 0, 1, 2, 3, 4, 5, 6, 8], [6, 8]), ([7, 9, 0, 1, 2, 3, 4, 5, 6, 7, 8, 9], [7])])
def spec_l1Cur_house.B6 : List Nat := [0, 0, 0, 6, 15, 31, 63, 63, 0, 383, 1023]
theorem spec_l1Cur_house.tab6 : rtab .any (opsOf Tryd.f77 6) = spec_l1Cur_house.T6 := by kernel_rfl
theorem spec_l1Cur_house.bits6 : waitsOk spec_l1Cur_house.T6.2 spec_l1Cur_house.B6 = true := by kernel_rfl
def spec_l1Cur_house.T16 : Bool × List (List Nat × List Nat) := (true, [([], []), ([0], [0]), ([], []), ([2], [2]), ([3], [3]), ([4], [4]), ([1, 0, 1, 2, 3, 4, 5], [1]), ([6, 5, 0, 1, 2, 3, 4, 5], [5, 6])])
def spec_l1Cur_house.B16 : List Nat := [0, 1, 0, 4, 12, 28, 63, 127]
theorem spec_l1Cur_house.tab16 : rtab .any (opsOf Tryd.f77 16) = spec_l1Cur_house.T16 := by kernel_rfl
theorem spec_l1Cur_house.bits16 : waitsOk spec_l1Cur_house.T16.2 spec_l1Cur_house.B16 = true := by kernel_rfl
theorem spec_l1Cur_house.calls (k : Nat) (g : Nat) (s0_0 : List Int) (s0_1 : Int) (s0_2 : Int) (r1 : Int) (r2 : Bool) (r3 : List Int) (r4 : List Int) (r5 : Int) (r6 : Int) (r7 : Int) (w0 w : World) (hI : IsS95 w0 w g s0_0 s0_1 s0_2) (hB : Below w0.heap.size w0 w) (h : spec_l1Cur_house.f k s0_0 s0_1 s0_2 = some (r1, r2, r3, r4, r5, r6, r7)) :
  Calls Tryd.prog 77 #[.pointer (some ⟨g, 0, none⟩)] w fun e w' => ∃ v2_ v3_ : Value, e = .returned (.agg #[.int .i64 r1, .bool r2, v2_, v3_, .int .i64 r5]) ∧ Kd.R (Kd.int .i64) 3 w' w.heap.size (fun k_ => no_ v3_ k_) v2_ r3 ∧ Kd.R (Kd.int .i64) 3 w' w.heap.size (fun k_ => no_ v2_ k_) v3_ r4 ∧ IsS95 w0 w' g s0_0 r6 r7 ∧ Below w0.heap.size w0 w' ∧ KeepBut w w' g none := by
 have hu26 := Tryd.underlying26
 have HI0 := A0_ hI
 have HK := A0_ (KeepBut.refl w g none)
 have HL := A0_ hB.size
 clear hI
 have HW0 := A0_ hB.size
 have HB := A0_ hB
 clear hB
 have H : ((spec_l1Cur_among.f s0_0 s0_1 s0_2 (([6, 8, 5, 10, 4, 7, 3, 12] : List Int))).bind fun bt1 => ((spec_l1Cur_one.f s0_0 bt1.2.1 bt1.2.2 2).bind fun bt2 => ((spec_NewHouse.f k bt1.1 bt2.1).bind fun bt3 => ((spec_l1Cur_pick.f s0_0 bt2.2.1 bt2.2.2 8).bind fun bt4 => (spec_l1Cur_house.l0 k bt3.2.2.2.2.2 (wrap64 (1 + bt4.1)) s0_0 bt4.2.1 bt4.2.2 bt3.1 bt3.2.1 bt3.2.2.1 bt3.2.2.2.1 bt3.2.2.2.2.1))))) = some (r1, r2, r3, r4, r5, r6, r7) := h
 clear h
 obtain ⟨y1, hy1⟩ : ∃ y_ : List Int, y_ = (([6, 8, 5, 10, 4, 7, 3, 12] : List Int)) := ⟨_, rfl⟩
 replace H : ((spec_l1Cur_among.f s0_0 s0_1 s0_2 y1).bind fun bt1 => ((spec_l1Cur_one.f s0_0 bt1.2.1 bt1.2.2 2).bind fun bt2 => ((spec_NewHouse.f k bt1.1 bt2.1).bind fun bt3 => ((spec_l1Cur_pick.f s0_0 bt2.2.1 bt2.2.2 8).bind fun bt4 => (spec_l1Cur_house.l0 k bt3.2.2.2.2.2 (wrap64 (1 + bt4.1)) s0_0 bt4.2.1 bt4.2.2 bt3.1 bt3.2.1 bt3.2.2.1 bt3.2.2.2.1 bt3.2.2.2.2.1))))) = some (r1, r2, r3, r4, r5, r6, r7) := bgiq_
 have Ny1 := A0_ hy1
 clear hy1
 obtain ⟨⟨t1, t2, t3⟩, A2, H⟩ := o1_ H
 obtain ⟨⟨t4, t5, t6⟩, A4, H⟩ := o1_ H
 obtain ⟨⟨t7, t8, t9, t10, t11, t12⟩, A6, H⟩ := o1_ H
 obtain ⟨⟨t13, t14, t15⟩, A8, H⟩ := o1_ H
 have H' := A0_ H
 clear H
 go_enter Tryd.func77, Tryd.ntmps77
 go_wp2_with (first | ((with_reducible refine gd_ (N := 2) rfl ?_); refine bx_ 2 #[.int .i64 0, .bool false, .slice none 0 0, .slice none 0 0, .int .i64 0] 26 ?_; intro gb1 hg w1 BK1 hb; replace HB := hb_ hb bg6d_; have GW1 := A0_ ((b7vg_ : w.heap.size ≤ gb1)); have GE1 := A0_ ((Nat.le_trans HW0.out (b7vg_ : w.heap.size ≤ gb1) : w0.heap.size ≤ gb1)); replace HK := A0_ (KeepBut.trans bjmx_ (KeepBut.of_below hb g none) (.inl rfl)); have NB0_1 := A0_ ((bdp5_ : g ≠ gb1)); have NB1_0 := A0_ ((btnc_ : gb1 ≠ g)); replace HI0 := A0_ (IsS95.below bnbf_ hb); clear hb hg) | ((with_reducible refine gd_ (N := 10) rfl ?_); refine Kd.R_lit (Kd.int .i64) _ 3 ?hg (N := 10) ?hd (xs := ([6, 8, 5, 10, 4, 7, 3, 12] : List Int)) (inner := [.int .i64 6, .int .i64 8, .int .i64 5, .int .i64 10, .int .i64 4, .int .i64 7, .int .i64 3, .int .i64 12]) (ok := fun _ => True) (okp := fun _ => True) ?hr ?hp (fun _ hk => hk) trivial (Below.refl _ _) (Nat.le_refl _) bxka_ ?_; (case hd => rfl); (case hg => rfl); (case hr => go_simp; first | done | rfl); (case hp => exact (Reps.one (show Kd.M (Kd.int .i64) _ _ _ 6 [.int .i64 6] from rfl) (Reps.one (show Kd.M (Kd.int .i64) _ _ _ 8 [.int .i64 8] from rfl) (Reps.one (show Kd.M (Kd.int .i64) _ _ _ 5 [.int .i64 5] from rfl) (Reps.one (show Kd.M (Kd.int .i64) _ _ _ 10 [.int .i64 10] from rfl) (Reps.one (show Kd.M (Kd.int .i64) _ _ _ 4 [.int .i64 4] from rfl) (Reps.one (show Kd.M (Kd.int .i64) _ _ _ 7 [.int .i64 7] from rfl) (Reps.one (show Kd.M (Kd.int .i64) _ _ _ 3 [.int .i64 3] from rfl) (Reps.one (show Kd.M (Kd.int .i64) _ _ _ 12 [.int .i64 12] from rfl) (Reps.none _ _)))))))))); intro v1 w2 ho8 hb hg_ hnew_; clear hg_ hnew_; (first | rw [← Ny1.out] at ho8 | (simp only [Int.reduceToNat] at ho8; rw [← Ny1.out] at ho8)); have HO1 := A0_ (Kd.R_lower ho8 (keep_size (w := w) (g := g) (row := none) bcka_)); replace BK1 := k1_ BK1 hb; replace HK := A0_ (KeepBut.trans bcka_ (KeepBut.of_below hb g none) (.inl rfl)); replace HB := hb_ hb bnur_; replace HI0 := A0_ (IsS95.below bn4t_ hb); clear hb ho8; obtain ⟨Ao1, co1, eo1⟩ := Kd.R_slice HO1.out; subst eo1) | ((with_reducible refine gc_ (f := 92) rfl ?_); refine gl_ 11 Tryd.func92 #[.pointer (some ⟨g, 0, none⟩), .slice Ao1 y1.length co1] ?_; (with_reducible refine (spec_l1Cur_among.calls g s0_0 s0_1 s0_2 _ _ y1 t1 t2 t3 w0 _ ?side1 ?side2 ?side3 ?side4 ?side5 A2.out).mono ?_); (case side1 => exact bn4t_); (case side2 => exact bnur_); (case side3 => exact bayy_); (case side4 => exact (rr_ HO1.out).2.1); (case side5 => exact far_slice (IsS95.own_ne HI0.out HO1.out bi3y_)); rintro e w3 ⟨rfl, hi, hb, hk⟩; refine ⟨_, rfl, ?_⟩; replace BK1 := kb1_ BK1 hk NB1_0; replace HO1 := A0_ (Kd.R_mono (Kd.R_keep (IsS95.apart (show IsS95 w0 _ g s0_0 s0_1 s0_2 from bn4t_) bsm5_ bi3y_) hk (fun _ h => h.2)) (fun _ h => h.1)); replace HK := A0_ (KeepBut.trans bcka_ hk (.inl rfl)); replace HB := A0_ (hb); replace HI0 := A0_ (hi); (try clear hb); (try clear hk); (try clear hi)) | ((with_reducible refine gc_ (f := 93) rfl ?_); refine gl_ 15 Tryd.func93 #[.pointer (some ⟨g, 0, none⟩), .int .i64 2] ?_; (with_reducible refine (spec_l1Cur_one.calls g s0_0 t2 t3 2 t4 t5 t6 w0 _ ?side1 ?side2 A4.out).mono ?_); (case side1 => exact bn4t_); (case side2 => exact bnur_); rintro e w4 ⟨rfl, hi, hb, hk⟩; refine ⟨_, rfl, ?_⟩; replace BK1 := kb1_ BK1 hk NB1_0; replace HO1 := A0_ (Kd.R_mono (Kd.R_keep (IsS95.apart (show IsS95 w0 _ g s0_0 t2 t3 from bn4t_) bsm5_ bi3y_) hk (fun _ h => h.2)) (fun _ h => h.1)); replace HK := A0_ (KeepBut.trans bcka_ hk (.inl rfl)); replace HB := A0_ (hb); replace HI0 := A0_ (hi); (try clear hb); (try clear hk); (try clear hi)) | ((with_reducible refine gc_ (f := 7) rfl ?_); refine gl_ 16 Tryd.func7 #[.int .i64 t1, .bool t4] ?_; (with_reducible refine (spec_NewHouse.calls k t1 t4 t7 t8 t9 t10 t11 t12 _ A6.out).mono ?_); rintro e w5 ⟨v4, v5, rfl, ho0, ho1, hb⟩; refine ⟨_, rfl, ?_⟩; have HO2 := A0_ (Kd.R_lower (Kd.R_new' ho0 (Kd.R_lt bsm5_)) (keep_size (w := w) (g := g) (row := none) bcka_)); have HO3 := A0_ (Kd.R_lower (Kd.R_new' ho1 (Kd.R_lt bsm5_)) (keep_size (w := w) (g := g) (row := none) bcka_)); replace HO1 := A0_ (Kd.R_mono (Kd.R_told (Kd.R_told (Kd.R_old bsm5_ hb) (Kd.R_base ho0)) (Kd.R_base ho1)) (fun _ h_ => h_.1)); replace BK1 := k1_ BK1 hb; replace HK := A0_ (KeepBut.trans bcka_ (KeepBut.of_below hb g none) (.inl rfl)); replace HB := hb_ hb bnur_; replace HI0 := A0_ (IsS95.below bn4t_ hb); (try clear hb); (try clear ho0); (try clear ho1)) | ((with_reducible refine gd_ (N := 4) rfl ?_); refine bx_ 4 #[.int .i64 0, .bool false, .slice none 0 0, .slice none 0 0, .int .i64 0] 26 ?_; intro gb2 hg w6 BK2 hb; replace HO1 := A0_ (Kd.R_below bsm5_ hb); replace HO2 := A0_ (Kd.R_below b9so_ hb); replace HO3 := A0_ (Kd.R_below buiy_ hb); replace HB := hb_ hb bnur_; have GW2 := A0_ ((bejl_ : w.heap.size ≤ gb2)); have GE2 := A0_ ((Nat.le_trans HW0.out (bejl_ : w.heap.size ≤ gb2) : w0.heap.size ≤ gb2)); replace HK := A0_ (KeepBut.trans bcka_ (KeepBut.of_below hb g none) (.inl rfl)); have NB1_2 := nl_ hg BK1; have NB2_1 := ng_ hg BK1; replace BK1 := k1_ BK1 hb; have NB0_2 := A0_ ((by rw [hg]; exact Nat.ne_of_lt (IsS95.lt (show IsS95 w0 _ g s0_0 t5 t6 from bn4t_)) : g ≠ gb2)); have NB2_0 := A0_ ((by rw [hg]; exact Nat.ne_of_gt (IsS95.lt (show IsS95 w0 _ g s0_0 t5 t6 from bn4t_)) : gb2 ≠ g)); replace HI0 := A0_ (IsS95.below bn4t_ hb); clear hb hg; have hnb1 := NB2_1.out; have hnc1 := NB1_2.out; have hnb2 := NB2_0.out; have hnc2 := NB0_2.out; have hcz1 := z5_ BK2; obtain ⟨Ao2, co2, eo2⟩ := Kd.R_slice HO2.out; subst eo2; obtain ⟨Ao3, co3, eo3⟩ := Kd.R_slice HO3.out; subst eo3) | ((with_reducible refine gc_ (f := 94) rfl ?_); refine gl_ 20 Tryd.func94 #[.pointer (some ⟨g, 0, none⟩), .int .i64 8] ?_; (with_reducible refine (spec_l1Cur_pick.calls g s0_0 t5 t6 8 t13 t14 t15 w0 _ ?side1 ?side2 A8.out).mono ?_); (case side1 => exact br5r_); (case side2 => exact b6ve_); rintro e w7 ⟨rfl, hi, hb, hk⟩; refine ⟨_, rfl, ?_⟩; replace BK1 := kb1_ BK1 hk NB1_0; replace HO1 := A0_ (Kd.R_mono (Kd.R_keep (IsS95.apart (show IsS95 w0 _ g s0_0 t5 t6 from br5r_) b6sf_ bi3y_) hk (fun _ h => h.2)) (fun _ h => h.1)); replace HO2 := A0_ (Kd.R_mono (Kd.R_keep (IsS95.apart (show IsS95 w0 _ g s0_0 t5 t6 from br5r_) byhc_ bi3y_) hk (fun _ h => h.2)) (fun _ h => h.1)); replace HO3 := A0_ (Kd.R_mono (Kd.R_keep (IsS95.apart (show IsS95 w0 _ g s0_0 t5 t6 from br5r_) (by (with_reducible repeat (first | apply ra_ | apply rn_ | apply rd_)); exact (Kd.R_mono (rf_ (rf_ (rf_ (rf_ (rf_ (Kd.R_types HO3.out BK2.out bi3y_) k2_0 _) k2_0 _) k2_0 _) k2_0 _) k2_0 _) (fun _ h_ => h_.1))) bi3y_) hk (fun _ h => h.2)) (fun _ h => h.1)); replace BK2 := A0_ (KeepBut.blk hk (g' := gb2) (o := .cells #[.int .i64 t7, .bool t8, .slice Ao2 t9.length co2, .slice Ao3 t10.length co3, .int .i64 t11] 26 (0, 0)) (u1_ BK2) NB2_0.out bxka_); replace HK := A0_ (KeepBut.trans bgjc_ hk (.inl rfl)); replace HB := A0_ (hb); replace HI0 := A0_ (hi); (try clear hb); (try clear hk); (try clear hi)))
 go_loopg [6] k (fun kq v6 w' => ∃ (x6_1 : Int) (x1001_1 : Int) (x1002_1 : Int) (x546000_1 : Int) (x546001_1 : Bool) (x546002_1 : List Int) (x546003_1 : List Int) (x546004_1 : Int) (u546002 : Value) (u546003 : Value), v6 = .int .i64 x6_1 ∧ Aside0 (spec_l1Cur_house.l0 kq t12 x6_1 s0_0 x1001_1 x1002_1 x546000_1 x546001_1 x546002_1 x546003_1 x546004_1 = some (r1, r2, r3, r4, r5, r6, r7)) ∧ Aside0 (kq ≤ k) ∧ Aside0 (Kd.R (Kd.int .i64) 3 w' w.heap.size (fun k_ => no_ u546003 k_) u546002 x546002_1) ∧ Aside0 (Kd.R (Kd.int .i64) 3 w' w.heap.size (fun k_ => no_ u546002 k_) u546003 x546003_1) ∧ Aside0 (w'.heap[gb1]? = some (.cells #[.int .i64 0, .bool false, (.slice none 0 0), (.slice none 0 0), .int .i64 0] 26 (0, 0))) ∧ Aside0 (w'.heap[gb2]? = some (.cells #[.int .i64 x546000_1, .bool x546001_1, u546002, u546003, .int .i64 x546004_1] 26 (0, 0))) ∧ Aside0 (IsS95 w0 w' g s0_0 x1001_1 x1002_1) ∧ Aside0 (KeepBut w w' g none) ∧ Aside0 (Below w0.heap.size w0 w'))
 case atStart => exact ⟨(wrap64 (1 + t13)), (t14), (t15), (t7), (t8), (t9), (t10), (t11), (.slice Ao2 t9.length co2), (.slice Ao3 t10.length co3), b2ew_, H', ⟨Nat.le_refl _⟩, ⟨by (with_reducible repeat (first | apply ra_ | apply rn_ | apply rd_)); exact Kd.R_mono HO2.out (fun _ hk => hk.1)⟩, ⟨by (with_reducible repeat (first | apply ra_ | apply rn_ | apply rd_)); exact Kd.R_mono HO3.out (fun _ hk => hk.1)⟩, ⟨u1_ BK1⟩, ⟨u1_ BK2⟩, ⟨br5r_⟩, ⟨bgjc_⟩, ⟨b6ve_⟩⟩
 clear H'
 (try clear hcz1); (try clear hfz1)
 obtain ⟨x6_1, x1001_1, x1002_1, x546000_1, x546001_1, x546002_1, x546003_1, x546004_1, u546002, u546003, rfl, HA, HK1, HO_1, HO_2, BK1, BK2, HI0, HK, HB⟩ := hrel
 cases gk with | zero => exact absurd HA.out (by simp [spec_l1Cur_house.l0]) | succ k1 => ?_
 have H := HA.out
 clear HA
 simp only [spec_l1Cur_house.l0] at H
 have HC20 := A0_ H
 clear H
 go_upto_region 4 with (fail)
 go_cut [26] (fun v7 wc => ∃ (kq : Nat) (x26_19 : Bool), v7 = .bool x26_19 ∧ Aside0 (spec_l1Cur_house.j1 kq t12 x6_1 x26_19 s0_0 x1001_1 x1002_1 x546000_1 x546001_1 x546002_1 x546003_1 x546004_1 = some (r1, r2, r3, r4, r5, r6, r7)) ∧ Aside0 (kq ≤ k1) ∧ Aside0 (Kd.R (Kd.int .i64) 3 wc w.heap.size (fun k_ => no_ u546003 k_) u546002 x546002_1) ∧ Aside0 (Kd.R (Kd.int .i64) 3 wc w.heap.size (fun k_ => no_ u546002 k_) u546003 x546003_1) ∧ Aside0 (wc.heap[gb1]? = some (.cells #[.int .i64 0, .bool false, (.slice none 0 0), (.slice none 0 0), .int .i64 0] 26 (0, 0))) ∧ Aside0 (wc.heap[gb2]? = some (.cells #[.int .i64 x546000_1, .bool x546001_1, u546002, u546003, .int .i64 x546004_1] 26 (0, 0))) ∧ Aside0 (IsS95 w0 wc g s0_0 x1001_1 x1002_1) ∧ Aside0 (KeepBut w wc g none) ∧ Aside0 (Below w0.heap.size w0 wc))
 case first =>
  have H := HC20.out
  clear HC20
  by_cases c1 : x6_1 > 0
  ·rw [if_pos c1] at H
   have c1b0 : decide (0 < x6_1) = true := dt_ c1
   clear c1
   (first | rw [c1b0] | (simp only [i64_w, i32_w]; rw [c1b0]) | skip)
   have H' := A0_ H
   clear H
   go_wp2
   go_meet
   exact ⟨_, (t12), b2ew_, H', ⟨by have := HK1.out; first | omega | exact Nat.le_refl _⟩, ⟨bwik_⟩, ⟨b7sq_⟩, ⟨u1_ BK1⟩, ⟨u1_ BK2⟩, ⟨br5r_⟩, ⟨bgjc_⟩, ⟨b6ve_⟩⟩
  rw [if_neg c1] at H
  have c1b0 : decide (0 < x6_1) = false := decide_eq_false c1
  clear c1
  (first | rw [c1b0] | (simp only [i64_w, i32_w]; rw [c1b0]) | skip)
  have H' := A0_ H
  clear H
  go_wp2
  go_meet
  exact ⟨_, (false), b2ew_, H', ⟨by have := HK1.out; first | omega | exact Nat.le_refl _⟩, ⟨bwik_⟩, ⟨b7sq_⟩, ⟨u1_ BK1⟩, ⟨u1_ BK2⟩, ⟨br5r_⟩, ⟨bgjc_⟩, ⟨b6ve_⟩⟩
 clear HC20
 (try clear hcz1); (try clear hfz1)
 obtain ⟨kq, x26_19, rfl, HA, HJ1, HO_1, HO_2, BK1, BK2, HI0, HK, HB⟩ := hcut
 cases kq with | zero => exact absurd HA.out (by simp [spec_l1Cur_house.j1]) | succ kj1 => ?_
 have H := HA.out
 clear HA
 simp only [spec_l1Cur_house.j1] at H
 by_cases c1 : x26_19 = true
 case neg =>
  obtain rfl := bf_.mpr c1
  rw [if_neg ft_] at H
  obtain ⟨⟨t16, t17, t18⟩, A10, H⟩ := o1_ H
  by_cases c2 : t16 = 0
  ·rw [if_pos c2] at H
   obtain ⟨c2b0, c2b1⟩ := et_ c2
   clear c2
   obtain ⟨y2, hy2⟩ : ∃ y_ : List Int, y_ = (([(-1), 1000, 1001] : List Int)) := ⟨_, rfl⟩
   replace H : ((spec_l1Cur_among.f s0_0 t17 t18 y2).bind fun bt5 => (some (x546000_1, x546001_1, x546002_1, x546003_1, bt5.1, bt5.2.1, bt5.2.2))) = some (r1, r2, r3, r4, r5, r6, r7) := bscs_
   have Ny2 := A0_ hy2
   clear hy2
   obtain ⟨⟨t19, t20, t21⟩, A12, H⟩ := o1_ H
   replace H : (some (x546000_1, x546001_1, x546002_1, x546003_1, t19, t20, t21)) = some (r1, r2, r3, r4, r5, r6, r7) := H
   simp only [sj_, pj_] at H
   obtain ⟨rfl, rfl, rfl, rfl, rfl, rfl, rfl⟩ := H
   go_wp2_with (first | ((with_reducible refine gc_ (f := 94) rfl ?_); refine gl_ 40 Tryd.func94 #[.pointer (some ⟨g, 0, none⟩), .int .i64 48] ?_; (with_reducible refine (spec_l1Cur_pick.calls g s0_0 x1001_1 x1002_1 48 t16 t17 t18 w0 _ ?side1 ?side2 A10.out).mono ?_); (case side1 => exact br5r_); (case side2 => exact b6ve_); rintro e w8 ⟨rfl, hi, hb, hk⟩; refine ⟨_, rfl, ?_⟩; replace HO_1 := A0_ (Kd.R_mono (Kd.R_keep (IsS95.apart (show IsS95 w0 _ g s0_0 x1001_1 x1002_1 from br5r_) bwik_ bi3y_) hk (fun _ h => h.2)) (fun _ h => h.1)); replace HO_2 := A0_ (Kd.R_mono (Kd.R_keep (IsS95.apart (show IsS95 w0 _ g s0_0 x1001_1 x1002_1 from br5r_) b7sq_ bi3y_) hk (fun _ h => h.2)) (fun _ h => h.1)); replace BK1 := kb1_ BK1 hk NB1_0; replace BK2 := kb1_ BK2 hk NB2_0; replace HK := A0_ (KeepBut.trans bgjc_ hk (.inl rfl)); replace HB := A0_ (hb); replace HI0 := A0_ (hi); (try clear hb); (try clear hk); (try clear hi)) | ((with_reducible refine gd_ (N := 44) rfl ?_); refine Kd.R_lit (Kd.int .i64) _ 3 ?hg (N := 44) ?hd (xs := ([(-1), 1000, 1001] : List Int)) (inner := [.int .i64 (-1), .int .i64 1000, .int .i64 1001]) (ok := fun _ => True) (okp := fun _ => True) ?hr ?hp (fun _ hk => hk) trivial (Below.refl _ _) (Nat.le_refl _) bxka_ ?_; (case hd => rfl); (case hg => rfl); (case hr => go_simp; first | done | rfl); (case hp => exact (Reps.one (show Kd.M (Kd.int .i64) _ _ _ (-1) [.int .i64 (-1)] from rfl) (Reps.one (show Kd.M (Kd.int .i64) _ _ _ 1000 [.int .i64 1000] from rfl) (Reps.one (show Kd.M (Kd.int .i64) _ _ _ 1001 [.int .i64 1001] from rfl) (Reps.none _ _))))); intro v8 w9 ho66 hb hg_ hnew_; clear hg_ hnew_; (first | rw [← Ny2.out] at ho66 | (simp only [Int.reduceToNat] at ho66; rw [← Ny2.out] at ho66)); have HO4 := A0_ (Kd.R_lower (Kd.R_new' (Kd.R_new' ho66 (Kd.R_lt bwik_)) (Kd.R_lt b7sq_)) (keep_size (w := w) (g := g) (row := none) bgjc_)); replace HO_1 := A0_ (Kd.R_elder' bwik_ (Kd.R_base ho66) hb); replace HO_2 := A0_ (Kd.R_elder' b7sq_ (Kd.R_base ho66) hb); replace BK1 := k1_ BK1 hb; replace BK2 := k1_ BK2 hb; replace HK := A0_ (KeepBut.trans bgjc_ (KeepBut.of_below hb g none) (.inl rfl)); replace HB := hb_ hb b6ve_; replace HI0 := A0_ (IsS95.below br5r_ hb); clear hb ho66; obtain ⟨Ao4, co4, eo4⟩ := Kd.R_slice HO4.out; subst eo4) | ((with_reducible refine gc_ (f := 92) rfl ?_); refine gl_ 45 Tryd.func92 #[.pointer (some ⟨g, 0, none⟩), .slice Ao4 y2.length co4] ?_; (with_reducible refine (spec_l1Cur_among.calls g s0_0 t17 t18 _ _ y2 t19 t20 t21 w0 _ ?side1 ?side2 ?side3 ?side4 ?side5 A12.out).mono ?_); (case side1 => exact br5r_); (case side2 => exact b6ve_); (case side3 => exact byjq_); (case side4 => exact (rr_ HO4.out).2.1); (case side5 => exact far_slice (IsS95.own_ne HI0.out HO4.out bi3y_)); rintro e w10 ⟨rfl, hi, hb, hk⟩; refine ⟨_, rfl, ?_⟩; replace HO_1 := A0_ (Kd.R_mono (Kd.R_keep (IsS95.apart (show IsS95 w0 _ g s0_0 t17 t18 from br5r_) bwik_ bi3y_) hk (fun _ h => h.2)) (fun _ h => h.1)); replace HO_2 := A0_ (Kd.R_mono (Kd.R_keep (IsS95.apart (show IsS95 w0 _ g s0_0 t17 t18 from br5r_) b7sq_ bi3y_) hk (fun _ h => h.2)) (fun _ h => h.1)); replace BK1 := kb1_ BK1 hk NB1_0; replace BK2 := kb1_ BK2 hk NB2_0; replace HO4 := A0_ (Kd.R_mono (Kd.R_keep (IsS95.apart (show IsS95 w0 _ g s0_0 t17 t18 from br5r_) b6ip_ bi3y_) hk (fun _ h => h.2)) (fun _ h => h.1)); replace HK := A0_ (KeepBut.trans bgjc_ hk (.inl rfl)); replace HB := A0_ (hb); replace HI0 := A0_ (hi); (try clear hb); (try clear hk); (try clear hi); have hnb3 := NB2_1.out; have hnc3 := NB1_2.out; have hnb4 := NB2_0.out; have hnc4 := NB0_2.out; have hcz2 := z5_ BK2; have hnb5 := NB1_0.out; have hnc5 := NB0_1.out; have hcz3_0 : w10.cell? ⟨gb1, 0, none⟩ = some (.int .i64 0) := (kc_ BK1.out 0).trans rfl; have hcz3_1 : w10.cell? ⟨gb1, 1, none⟩ = some (.bool false) := (kc_ BK1.out 1).trans rfl; have hcz3_2 : w10.cell? ⟨gb1, 2, none⟩ = some (.slice none 0 0) := (kc_ BK1.out 2).trans rfl; have hcz3_3 : w10.cell? ⟨gb1, 3, none⟩ = some (.slice none 0 0) := (kc_ BK1.out 3).trans rfl; have hcz3_4 : w10.cell? ⟨gb1, 4, none⟩ = some (.int .i64 0) := (kc_ BK1.out 4).trans rfl; have hfz3_0 := kf_ BK1.out 0; have hfz3_1 := kf_ BK1.out 1; have hfz3_2 := kf_ BK1.out 2; have hfz3_3 := kf_ BK1.out 3; have hfz3_4 := kf_ BK1.out 4; obtain ⟨Ao5, co5, eo5⟩ := Kd.R_slice HO_1.out; subst eo5; obtain ⟨Ao6, co6, eo6⟩ := Kd.R_slice HO_2.out; subst eo6))
   refine bodyPost_ret (results_cell_row rfl _ _ gb1 26 #[.int .i64 x546000_1, .bool x546001_1, .slice Ao5 x546002_1.length co5, .slice Ao6 x546003_1.length co6, .int .i64 t19] (0, 0) _ rfl (u1_ BK1) Tryd.underlying26 rfl bfqv_) rfl ?_
   exact ⟨_, _, bnwh_, bwhs_, b7ur_, br5r_, b6ve_, bgjc_⟩
  rw [if_neg c2] at H
  obtain ⟨c2b0, c2b1⟩ := ef_ c2
  by_cases c3 : t16 = 1
  ·rw [if_pos c3] at H
   obtain ⟨c3b0, c3b1⟩ := et_ c3
   clear c3
   obtain ⟨t19, A12, H⟩ := o1_ H
   obtain ⟨y2, hy2⟩ : ∃ y_ : List Int, y_ = (([0, (-1), 24] : List Int)) := ⟨_, rfl⟩
   replace H : ((spec_l1Cur_among.f s0_0 t17 t18 y2).bind fun bt5 => (if t19.length < 17592186044416 then (some (x546000_1, x546001_1, x546002_1, (t19 ++ [bt5.1]), x546004_1, bt5.2.1, bt5.2.2)) else (none))) = some (r1, r2, r3, r4, r5, r6, r7) := bscs_
   have Ny2 := A0_ hy2
   clear hy2
   obtain ⟨⟨t20, t21, t22⟩, A14, H⟩ := o1_ H
   by_cases c4 : t19.length < 17592186044416
   case neg =>
    rw [if_neg c4] at H
    exact absurd H bxka_
   rw [if_pos c4] at H
   have LMc1 := A0_ c4
   clear c4
   obtain ⟨y3, hy3⟩ : ∃ y_ : List Int, y_ = (t19 ++ [t20]) := ⟨_, rfl⟩
   replace H : (some (x546000_1, x546001_1, x546002_1, y3, x546004_1, t21, t22)) = some (r1, r2, r3, r4, r5, r6, r7) := b2x6_
   have Ny3 := A0_ hy3
   clear hy3
   simp only [sj_, pj_] at H
   obtain ⟨rfl, rfl, rfl, rfl, rfl, rfl, rfl⟩ := H
   go_wp2_with (first | ((with_reducible refine gc_ (f := 94) rfl ?_); refine gl_ 40 Tryd.func94 #[.pointer (some ⟨g, 0, none⟩), .int .i64 48] ?_; (with_reducible refine (spec_l1Cur_pick.calls g s0_0 x1001_1 x1002_1 48 t16 t17 t18 w0 _ ?side1 ?side2 A10.out).mono ?_); (case side1 => exact br5r_); (case side2 => exact b6ve_); rintro e w8 ⟨rfl, hi, hb, hk⟩; refine ⟨_, rfl, ?_⟩; replace HO_1 := A0_ (Kd.R_mono (Kd.R_keep (IsS95.apart (show IsS95 w0 _ g s0_0 x1001_1 x1002_1 from br5r_) bwik_ bi3y_) hk (fun _ h => h.2)) (fun _ h => h.1)); replace HO_2 := A0_ (Kd.R_mono (Kd.R_keep (IsS95.apart (show IsS95 w0 _ g s0_0 x1001_1 x1002_1 from br5r_) b7sq_ bi3y_) hk (fun _ h => h.2)) (fun _ h => h.1)); replace BK1 := kb1_ BK1 hk NB1_0; replace BK2 := kb1_ BK2 hk NB2_0; replace HK := A0_ (KeepBut.trans bgjc_ hk (.inl rfl)); replace HB := A0_ (hb); replace HI0 := A0_ (hi); (try clear hb); (try clear hk); (try clear hi); have hnb3 := NB2_1.out; have hnc3 := NB1_2.out; have hnb4 := NB2_0.out; have hnc4 := NB0_2.out; have hcz2 := z5_ BK2; obtain ⟨Ao4, co4, eo4⟩ := Kd.R_slice HO_2.out; subst eo4) | ((with_reducible refine gc_ (f := 58) rfl ?_); refine gl_ 51 Tryd.func58 #[.slice Ao4 x546003_1.length co4] ?_; (with_reducible refine (spec_l1Own.calls _ _ x546003_1 t19 _ ?side1 ?side2 A12.out).mono ?_); (case side1 => exact bqlu_); (case side2 => exact (rr_ HO_2.out).2.1); rintro e w9 ⟨v8, rfl, ho0, hb⟩; refine ⟨_, rfl, ?_⟩; have HO4 := A0_ (Kd.R_lower (Kd.R_new' (Kd.R_new' ho0 (Kd.R_lt bwik_)) (Kd.R_lt b7sq_)) (keep_size (w := w) (g := g) (row := none) bgjc_)); replace HO_1 := A0_ (Kd.R_elder' bwik_ (Kd.R_base ho0) hb); replace HO_2 := A0_ (Kd.R_elder' b7sq_ (Kd.R_base ho0) hb); replace BK1 := k1_ BK1 hb; replace BK2 := k1_ BK2 hb; replace HK := A0_ (KeepBut.trans bgjc_ (KeepBut.of_below hb g none) (.inl rfl)); replace HB := hb_ hb b6ve_; replace HI0 := A0_ (IsS95.below br5r_ hb); (try clear hb); (try clear ho0)) | ((with_reducible refine gd_ (N := 53) rfl ?_); refine Kd.R_lit (Kd.int .i64) _ 3 ?hg (N := 53) ?hd (xs := ([0, (-1), 24] : List Int)) (inner := [.int .i64 0, .int .i64 (-1), .int .i64 24]) (ok := fun _ => True) (okp := fun _ => True) ?hr ?hp (fun _ hk => hk) trivial (Below.refl _ _) (Nat.le_refl _) bxka_ ?_; (case hd => rfl); (case hg => rfl); (case hr => go_simp; first | done | rfl); (case hp => exact (Reps.one (show Kd.M (Kd.int .i64) _ _ _ 0 [.int .i64 0] from rfl) (Reps.one (show Kd.M (Kd.int .i64) _ _ _ (-1) [.int .i64 (-1)] from rfl) (Reps.one (show Kd.M (Kd.int .i64) _ _ _ 24 [.int .i64 24] from rfl) (Reps.none _ _))))); intro v9 w10 ho87 hb hg_ hnew_; clear hg_ hnew_; (first | rw [← Ny2.out] at ho87 | (simp only [Int.reduceToNat] at ho87; rw [← Ny2.out] at ho87)); have HO5 := A0_ (Kd.R_lower (Kd.R_new' (Kd.R_new' (Kd.R_new' ho87 (Kd.R_lt bwik_)) (Kd.R_lt b7sq_)) (Kd.R_lt b6ip_)) (keep_size (w := w) (g := g) (row := none) bgjc_)); replace HO_1 := A0_ (Kd.R_elder' bwik_ (Kd.R_base ho87) hb); replace HO_2 := A0_ (Kd.R_elder' b7sq_ (Kd.R_base ho87) hb); replace HO4 := A0_ (Kd.R_elder' b6ip_ (Kd.R_base ho87) hb); replace BK1 := k1_ BK1 hb; replace BK2 := k1_ BK2 hb; replace HK := A0_ (KeepBut.trans bgjc_ (KeepBut.of_below hb g none) (.inl rfl)); replace HB := hb_ hb b6ve_; replace HI0 := A0_ (IsS95.below br5r_ hb); clear hb ho87; obtain ⟨Ao5, co5, eo5⟩ := Kd.R_slice HO5.out; subst eo5) | ((with_reducible refine gc_ (f := 92) rfl ?_); refine gl_ 54 Tryd.func92 #[.pointer (some ⟨g, 0, none⟩), .slice Ao5 y2.length co5] ?_; (with_reducible refine (spec_l1Cur_among.calls g s0_0 t17 t18 _ _ y2 t20 t21 t22 w0 _ ?side1 ?side2 ?side3 ?side4 ?side5 A14.out).mono ?_); (case side1 => exact br5r_); (case side2 => exact b6ve_); (case side3 => exact beqy_); (case side4 => exact (rr_ HO5.out).2.1); (case side5 => exact far_slice (IsS95.own_ne HI0.out HO5.out bi3y_)); rintro e w11 ⟨rfl, hi, hb, hk⟩; refine ⟨_, rfl, ?_⟩; replace HO_1 := A0_ (Kd.R_mono (Kd.R_keep (IsS95.apart (show IsS95 w0 _ g s0_0 t17 t18 from br5r_) bwik_ bi3y_) hk (fun _ h => h.2)) (fun _ h => h.1)); replace HO_2 := A0_ (Kd.R_mono (Kd.R_keep (IsS95.apart (show IsS95 w0 _ g s0_0 t17 t18 from br5r_) b7sq_ bi3y_) hk (fun _ h => h.2)) (fun _ h => h.1)); replace BK1 := kb1_ BK1 hk NB1_0; replace BK2 := kb1_ BK2 hk NB2_0; replace HO4 := A0_ (Kd.R_mono (Kd.R_keep (IsS95.apart (show IsS95 w0 _ g s0_0 t17 t18 from br5r_) b6ip_ bi3y_) hk (fun _ h => h.2)) (fun _ h => h.1)); replace HO5 := A0_ (Kd.R_mono (Kd.R_keep (IsS95.apart (show IsS95 w0 _ g s0_0 t17 t18 from br5r_) bzg4_ bi3y_) hk (fun _ h => h.2)) (fun _ h => h.1)); replace HK := A0_ (KeepBut.trans bgjc_ hk (.inl rfl)); replace HB := A0_ (hb); replace HI0 := A0_ (hi); (try clear hb); (try clear hk); (try clear hi)) | ((with_reducible refine gate_builtin (b := .append) (xs := #[.tmp 51, .tmp 55]) rfl ?_); at_builtin; refine Kd.R_append (Kd.int .i64) w.heap.size rfl (.tmp 51) (.tmp 55) 22 3 (.int .i64 0) 8 rfl Tryd.underlying22 info3 rfl bi3y_ bh19_ v8 t19 t20 [.int .i64 t20] (fun k_ => no_ u546002 k_ ∧ no_ (.slice Ao4 x546003_1.length co4) k_ ∧ no_ (.slice Ao5 y2.length co5) k_) (fun _ => False) rfl rfl ?aP (fun _ hk => hk.elim) ?aF ?aO (Below.refl _ _) ?aS ?aL ?_; (case aP => exact rfl); (case aF => exact (fun k_ hk => ⟨Kd.fresh' (Kd.R_lt bwik_) k_ hk, Kd.fresh' (Kd.R_lt b7sq_) k_ hk, Kd.fresh' (Kd.R_lt bzg4_) k_ hk⟩)); (case aO => exact (by (with_reducible repeat (first | apply ra_ | apply rn_ | apply rd_)); exact Kd.R_mono HO4.out (fun _ hk => ⟨hk.1.1.2, ⟨hk.1.2, hk.2⟩⟩))); (case aS => exact (keep_size (w := w) (g := g) (row := none) bgjc_)); (case aL => have := LMc1.out; omega); intro v10 w12 ho hb hg hat; rw [← Ny3.out] at ho; have n0_ := A0_ (Kd.R_after (ok := (fun k_ => no_ (.slice Ao4 x546003_1.length co4) k_ ∧ no_ (.slice Ao5 y2.length co5) k_)) (by (with_reducible repeat (first | apply ra_ | apply rn_ | apply rd_)); exact Kd.R_mono HO_1.out (fun _ hk => ⟨⟨hk.1.1, hk.2⟩, hk.1.2⟩)) hg hat); have n1_ := A0_ (Kd.R_after (ok := (fun k_ => no_ u546002 k_ ∧ no_ (.slice Ao5 y2.length co5) k_)) (by (with_reducible repeat (first | apply ra_ | apply rn_ | apply rd_)); exact Kd.R_mono HO_2.out (fun _ hk => ⟨⟨hk.1.1, hk.2⟩, hk.1.2⟩)) hg hat); have n2_ := A0_ (blk_grown (g := gb1) (o := .cells #[.int .i64 0, .bool false, .slice none 0 0, .slice none 0 0, .int .i64 0] 26 (0, 0)) (u1_ BK1) hg (Kd.R_ne HO4.out BK1.out bi3y_)); have n3_ := A0_ (blk_grown (g := gb2) (o := .cells #[.int .i64 x546000_1, .bool x546001_1, u546002, .slice Ao4 x546003_1.length co4, .int .i64 x546004_1] 26 (0, 0)) (u1_ BK2) hg (Kd.R_ne HO4.out BK2.out bi3y_)); have n4_ := A0_ (IsS95.grown br5r_ hg (IsS95.own_ne HI0.out HO4.out bi3y_)); have n5_ := A0_ (Kd.R_after (ok := (fun k_ => no_ u546002 k_ ∧ no_ (.slice Ao4 x546003_1.length co4) k_)) (by (with_reducible repeat (first | apply ra_ | apply rn_ | apply rd_)); exact Kd.R_mono HO5.out (fun _ hk => ⟨⟨hk.1.1.2, hk.1.2⟩, hk.2⟩)) hg hat); have n6_ := A0_ (below_weaken b6ve_ HL.out hb); have n7_ := A0_ (KeepBut.trans bgjc_ (KeepBut.of_grown hg g) (Kd.R_base2 HO4.out)); have n8_ := A0_ (ho); clear HO_1 HO_2 BK1 BK2 HI0 HO5 HB HK HO4; have HO_1 := n0_; have HO_2 := n1_; have BK1 := n2_; have BK2 := n3_; have HI0 := n4_; have HO5 := n5_; have HB := n6_; have HK := n7_; have HO6 := n8_; clear n0_ n1_ n2_ n3_ n4_ n5_ n6_ n7_ n8_ ho hb hg hat; obtain ⟨Ao6, co6, eo6⟩ := Kd.R_slice HO6.out; subst eo6; have hcz3 := z5_ BK2; have hnb5 := NB1_0.out; have hnc5 := NB0_1.out; have hcz4_0 : w12.cell? ⟨gb1, 0, none⟩ = some (.int .i64 0) := (kc_ BK1.out 0).trans rfl; have hcz4_1 : w12.cell? ⟨gb1, 1, none⟩ = some (.bool false) := (kc_ BK1.out 1).trans rfl; have hcz4_2 : w12.cell? ⟨gb1, 2, none⟩ = some (.slice none 0 0) := (kc_ BK1.out 2).trans rfl; have hcz4_3 : w12.cell? ⟨gb1, 3, none⟩ = some (.slice none 0 0) := (kc_ BK1.out 3).trans rfl; have hcz4_4 : w12.cell? ⟨gb1, 4, none⟩ = some (.int .i64 0) := (kc_ BK1.out 4).trans rfl; have hfz4_0 := kf_ BK1.out 0; have hfz4_1 := kf_ BK1.out 1; have hfz4_2 := kf_ BK1.out 2; have hfz4_3 := kf_ BK1.out 3; have hfz4_4 := kf_ BK1.out 4; obtain ⟨Ao7, co7, eo7⟩ := Kd.R_slice HO_1.out; subst eo7))
   refine bodyPost_ret (results_cell_row rfl _ _ gb1 26 #[.int .i64 x546000_1, .bool x546001_1, .slice Ao7 x546002_1.length co7, .slice Ao6 y3.length co6, .int .i64 x546004_1] (0, 0) _ rfl (u1_ BK1) Tryd.underlying26 rfl bfqv_) rfl ?_
   exact ⟨_, _, bnwh_, by (with_reducible repeat (first | apply ra_ | apply rn_ | apply rd_)); exact Kd.R_mono (rf_ (rf_ (rf_ (rf_ (rf_ (rf_ (Kd.R_types (Kd.R_types HO_1.out BK2.out bi3y_) BK1.out bi3y_) (fun _ hk => hk.1.2) (.slice Ao6 y3.length co6)) k2_0 _) k2_0 _) k2_0 _) k2_0 _) k2_0 _) (fun _ hk => hk.1.1.2), by (with_reducible repeat (first | apply ra_ | apply rn_ | apply rd_)); exact Kd.R_mono (rf_ (rf_ (rf_ (rf_ (rf_ (rf_ (Kd.R_types (Kd.R_types HO6.out BK2.out bi3y_) BK1.out bi3y_) (fun _ hk => hk.1.2) (.slice Ao6 y3.length co6)) k2_0 _) k2_0 _) k2_0 _) k2_0 _) k2_0 _) (fun _ hk => hk.1.1.1), br5r_, b6ve_, bgjc_⟩
  rw [if_neg c3] at H
  obtain ⟨c3b0, c3b1⟩ := ef_ c3
  by_cases c4 : t16 = 2
  case neg =>
   rw [if_neg c4] at H
   obtain ⟨c4b0, c4b1⟩ := ef_ c4
   by_cases c5 : t16 = 3
   case neg =>
    rw [if_neg c5] at H
    obtain ⟨c5b0, c5b1⟩ := ef_ c5
    simp only [sj_, pj_] at H
    obtain ⟨rfl, rfl, rfl, rfl, rfl, rfl, rfl⟩ := H
    go_wp2_with (first | ((with_reducible refine gc_ (f := 94) rfl ?_); refine gl_ 40 Tryd.func94 #[.pointer (some ⟨g, 0, none⟩), .int .i64 48] ?_; (with_reducible refine (spec_l1Cur_pick.calls g s0_0 x1001_1 x1002_1 48 t16 t17 t18 w0 _ ?side1 ?side2 A10.out).mono ?_); (case side1 => exact br5r_); (case side2 => exact b6ve_); rintro e w8 ⟨rfl, hi, hb, hk⟩; refine ⟨_, rfl, ?_⟩; replace HO_1 := A0_ (Kd.R_mono (Kd.R_keep (IsS95.apart (show IsS95 w0 _ g s0_0 x1001_1 x1002_1 from br5r_) bwik_ bi3y_) hk (fun _ h => h.2)) (fun _ h => h.1)); replace HO_2 := A0_ (Kd.R_mono (Kd.R_keep (IsS95.apart (show IsS95 w0 _ g s0_0 x1001_1 x1002_1 from br5r_) b7sq_ bi3y_) hk (fun _ h => h.2)) (fun _ h => h.1)); replace BK1 := kb1_ BK1 hk NB1_0; replace BK2 := kb1_ BK2 hk NB2_0; replace HK := A0_ (KeepBut.trans bgjc_ hk (.inl rfl)); replace HB := A0_ (hb); replace HI0 := A0_ (hi); (try clear hb); (try clear hk); (try clear hi); have hnb3 := NB2_1.out; have hnc3 := NB1_2.out; have hnb4 := NB2_0.out; have hnc4 := NB0_2.out; have hcz2 := z5_ BK2; have hnb5 := NB1_0.out; have hnc5 := NB0_1.out; have hcz3_0 : w8.cell? ⟨gb1, 0, none⟩ = some (.int .i64 0) := (kc_ BK1.out 0).trans rfl; have hcz3_1 : w8.cell? ⟨gb1, 1, none⟩ = some (.bool false) := (kc_ BK1.out 1).trans rfl; have hcz3_2 : w8.cell? ⟨gb1, 2, none⟩ = some (.slice none 0 0) := (kc_ BK1.out 2).trans rfl; have hcz3_3 : w8.cell? ⟨gb1, 3, none⟩ = some (.slice none 0 0) := (kc_ BK1.out 3).trans rfl; have hcz3_4 : w8.cell? ⟨gb1, 4, none⟩ = some (.int .i64 0) := (kc_ BK1.out 4).trans rfl; have hfz3_0 := kf_ BK1.out 0; have hfz3_1 := kf_ BK1.out 1; have hfz3_2 := kf_ BK1.out 2; have hfz3_3 := kf_ BK1.out 3; have hfz3_4 := kf_ BK1.out 4; obtain ⟨Ao4, co4, eo4⟩ := Kd.R_slice HO_1.out; subst eo4; obtain ⟨Ao5, co5, eo5⟩ := Kd.R_slice HO_2.out; subst eo5))
    refine bodyPost_ret (results_cell_row rfl _ _ gb1 26 #[.int .i64 x546000_1, .bool x546001_1, .slice Ao4 x546002_1.length co4, .slice Ao5 x546003_1.length co5, .int .i64 x546004_1] (0, 0) _ rfl (u1_ BK1) Tryd.underlying26 rfl bfqv_) rfl ?_
    exact ⟨_, _, bnwh_, bjdl_, bnt9_, br5r_, b6ve_, bgjc_⟩
   rw [if_pos c5] at H
   obtain ⟨c5b0, c5b1⟩ := et_ c5
   clear c5
   obtain ⟨y2, hy2⟩ : ∃ y_ : List Int, y_ = (([1, 24, 25, 4611686018427387904] : List Int)) := ⟨_, rfl⟩
   replace H : ((spec_l1Cur_among.f s0_0 t17 t18 y2).bind fun bt5 => (some (bt5.1, x546001_1, x546002_1, x546003_1, x546004_1, bt5.2.1, bt5.2.2))) = some (r1, r2, r3, r4, r5, r6, r7) := bscs_
   have Ny2 := A0_ hy2
   clear hy2
   obtain ⟨⟨t19, t20, t21⟩, A12, H⟩ := o1_ H
   replace H : (some (t19, x546001_1, x546002_1, x546003_1, x546004_1, t20, t21)) = some (r1, r2, r3, r4, r5, r6, r7) := H
   simp only [sj_, pj_] at H
   obtain ⟨rfl, rfl, rfl, rfl, rfl, rfl, rfl⟩ := H
   go_wp2_with (first | ((with_reducible refine gc_ (f := 94) rfl ?_); refine gl_ 40 Tryd.func94 #[.pointer (some ⟨g, 0, none⟩), .int .i64 48] ?_; (with_reducible refine (spec_l1Cur_pick.calls g s0_0 x1001_1 x1002_1 48 t16 t17 t18 w0 _ ?side1 ?side2 A10.out).mono ?_); (case side1 => exact br5r_); (case side2 => exact b6ve_); rintro e w8 ⟨rfl, hi, hb, hk⟩; refine ⟨_, rfl, ?_⟩; replace HO_1 := A0_ (Kd.R_mono (Kd.R_keep (IsS95.apart (show IsS95 w0 _ g s0_0 x1001_1 x1002_1 from br5r_) bwik_ bi3y_) hk (fun _ h => h.2)) (fun _ h => h.1)); replace HO_2 := A0_ (Kd.R_mono (Kd.R_keep (IsS95.apart (show IsS95 w0 _ g s0_0 x1001_1 x1002_1 from br5r_) b7sq_ bi3y_) hk (fun _ h => h.2)) (fun _ h => h.1)); replace BK1 := kb1_ BK1 hk NB1_0; replace BK2 := kb1_ BK2 hk NB2_0; replace HK := A0_ (KeepBut.trans bgjc_ hk (.inl rfl)); replace HB := A0_ (hb); replace HI0 := A0_ (hi); (try clear hb); (try clear hk); (try clear hi)) | ((with_reducible refine gd_ (N := 74) rfl ?_); refine Kd.R_lit (Kd.int .i64) _ 3 ?hg (N := 74) ?hd (xs := ([1, 24, 25, 4611686018427387904] : List Int)) (inner := [.int .i64 1, .int .i64 24, .int .i64 25, .int .i64 4611686018427387904]) (ok := fun _ => True) (okp := fun _ => True) ?hr ?hp (fun _ hk => hk) trivial (Below.refl _ _) (Nat.le_refl _) bxka_ ?_; (case hd => rfl); (case hg => rfl); (case hr => go_simp; first | done | rfl); (case hp => exact (Reps.one (show Kd.M (Kd.int .i64) _ _ _ 1 [.int .i64 1] from rfl) (Reps.one (show Kd.M (Kd.int .i64) _ _ _ 24 [.int .i64 24] from rfl) (Reps.one (show Kd.M (Kd.int .i64) _ _ _ 25 [.int .i64 25] from rfl) (Reps.one (show Kd.M (Kd.int .i64) _ _ _ 4611686018427387904 [.int .i64 4611686018427387904] from rfl) (Reps.none _ _)))))); intro v8 w9 ho125 hb hg_ hnew_; clear hg_ hnew_; (first | rw [← Ny2.out] at ho125 | (simp only [Int.reduceToNat] at ho125; rw [← Ny2.out] at ho125)); have HO4 := A0_ (Kd.R_lower (Kd.R_new' (Kd.R_new' ho125 (Kd.R_lt bwik_)) (Kd.R_lt b7sq_)) (keep_size (w := w) (g := g) (row := none) bgjc_)); replace HO_1 := A0_ (Kd.R_elder' bwik_ (Kd.R_base ho125) hb); replace HO_2 := A0_ (Kd.R_elder' b7sq_ (Kd.R_base ho125) hb); replace BK1 := k1_ BK1 hb; replace BK2 := k1_ BK2 hb; replace HK := A0_ (KeepBut.trans bgjc_ (KeepBut.of_below hb g none) (.inl rfl)); replace HB := hb_ hb b6ve_; replace HI0 := A0_ (IsS95.below br5r_ hb); clear hb ho125; obtain ⟨Ao4, co4, eo4⟩ := Kd.R_slice HO4.out; subst eo4) | ((with_reducible refine gc_ (f := 92) rfl ?_); refine gl_ 75 Tryd.func92 #[.pointer (some ⟨g, 0, none⟩), .slice Ao4 y2.length co4] ?_; (with_reducible refine (spec_l1Cur_among.calls g s0_0 t17 t18 _ _ y2 t19 t20 t21 w0 _ ?side1 ?side2 ?side3 ?side4 ?side5 A12.out).mono ?_); (case side1 => exact br5r_); (case side2 => exact b6ve_); (case side3 => exact byjq_); (case side4 => exact (rr_ HO4.out).2.1); (case side5 => exact far_slice (IsS95.own_ne HI0.out HO4.out bi3y_)); rintro e w10 ⟨rfl, hi, hb, hk⟩; refine ⟨_, rfl, ?_⟩; replace HO_1 := A0_ (Kd.R_mono (Kd.R_keep (IsS95.apart (show IsS95 w0 _ g s0_0 t17 t18 from br5r_) bwik_ bi3y_) hk (fun _ h => h.2)) (fun _ h => h.1)); replace HO_2 := A0_ (Kd.R_mono (Kd.R_keep (IsS95.apart (show IsS95 w0 _ g s0_0 t17 t18 from br5r_) b7sq_ bi3y_) hk (fun _ h => h.2)) (fun _ h => h.1)); replace BK1 := kb1_ BK1 hk NB1_0; replace BK2 := kb1_ BK2 hk NB2_0; replace HO4 := A0_ (Kd.R_mono (Kd.R_keep (IsS95.apart (show IsS95 w0 _ g s0_0 t17 t18 from br5r_) b6ip_ bi3y_) hk (fun _ h => h.2)) (fun _ h => h.1)); replace HK := A0_ (KeepBut.trans bgjc_ hk (.inl rfl)); replace HB := A0_ (hb); replace HI0 := A0_ (hi); (try clear hb); (try clear hk); (try clear hi); have hnb3 := NB2_1.out; have hnc3 := NB1_2.out; have hnb4 := NB2_0.out; have hnc4 := NB0_2.out; have hcz2 := z5_ BK2; have hnb5 := NB1_0.out; have hnc5 := NB0_1.out; have hcz3_0 : w10.cell? ⟨gb1, 0, none⟩ = some (.int .i64 0) := (kc_ BK1.out 0).trans rfl; have hcz3_1 : w10.cell? ⟨gb1, 1, none⟩ = some (.bool false) := (kc_ BK1.out 1).trans rfl; have hcz3_2 : w10.cell? ⟨gb1, 2, none⟩ = some (.slice none 0 0) := (kc_ BK1.out 2).trans rfl; have hcz3_3 : w10.cell? ⟨gb1, 3, none⟩ = some (.slice none 0 0) := (kc_ BK1.out 3).trans rfl; have hcz3_4 : w10.cell? ⟨gb1, 4, none⟩ = some (.int .i64 0) := (kc_ BK1.out 4).trans rfl; have hfz3_0 := kf_ BK1.out 0; have hfz3_1 := kf_ BK1.out 1; have hfz3_2 := kf_ BK1.out 2; have hfz3_3 := kf_ BK1.out 3; have hfz3_4 := kf_ BK1.out 4; obtain ⟨Ao5, co5, eo5⟩ := Kd.R_slice HO_1.out; subst eo5; obtain ⟨Ao6, co6, eo6⟩ := Kd.R_slice HO_2.out; subst eo6))
   refine bodyPost_ret (results_cell_row rfl _ _ gb1 26 #[.int .i64 t19, .bool x546001_1, .slice Ao5 x546002_1.length co5, .slice Ao6 x546003_1.length co6, .int .i64 x546004_1] (0, 0) _ rfl (u1_ BK1) Tryd.underlying26 rfl bfqv_) rfl ?_
   exact ⟨_, _, bnwh_, bwhs_, b7ur_, br5r_, b6ve_, bgjc_⟩
  rw [if_pos c4] at H
  obtain ⟨c4b0, c4b1⟩ := et_ c4
  clear c4
  by_cases c5 : (x546003_1.length : Int) > 1
  case neg =>
   rw [if_neg c5] at H
   have c5b0 : decide (1 < (x546003_1.length : Int)) = false := decide_eq_false c5
   have c5b1 : decide (1 < x546003_1.length) = false := decide_eq_false bh19_
   clear c5
   simp only [sj_, pj_] at H
   obtain ⟨rfl, rfl, rfl, rfl, rfl, rfl, rfl⟩ := H
   go_wp2_with (first | ((with_reducible refine gc_ (f := 94) rfl ?_); refine gl_ 40 Tryd.func94 #[.pointer (some ⟨g, 0, none⟩), .int .i64 48] ?_; (with_reducible refine (spec_l1Cur_pick.calls g s0_0 x1001_1 x1002_1 48 t16 t17 t18 w0 _ ?side1 ?side2 A10.out).mono ?_); (case side1 => exact br5r_); (case side2 => exact b6ve_); rintro e w8 ⟨rfl, hi, hb, hk⟩; refine ⟨_, rfl, ?_⟩; replace HO_1 := A0_ (Kd.R_mono (Kd.R_keep (IsS95.apart (show IsS95 w0 _ g s0_0 x1001_1 x1002_1 from br5r_) bwik_ bi3y_) hk (fun _ h => h.2)) (fun _ h => h.1)); replace HO_2 := A0_ (Kd.R_mono (Kd.R_keep (IsS95.apart (show IsS95 w0 _ g s0_0 x1001_1 x1002_1 from br5r_) b7sq_ bi3y_) hk (fun _ h => h.2)) (fun _ h => h.1)); replace BK1 := kb1_ BK1 hk NB1_0; replace BK2 := kb1_ BK2 hk NB2_0; replace HK := A0_ (KeepBut.trans bgjc_ hk (.inl rfl)); replace HB := A0_ (hb); replace HI0 := A0_ (hi); (try clear hb); (try clear hk); (try clear hi); have hnb3 := NB2_1.out; have hnc3 := NB1_2.out; have hnb4 := NB2_0.out; have hnc4 := NB0_2.out; have hcz2 := z5_ BK2; obtain ⟨Ao4, co4, eo4⟩ := Kd.R_slice HO_2.out; subst eo4; have hnb5 := NB1_0.out; have hnc5 := NB0_1.out; have hcz3_0 : w8.cell? ⟨gb1, 0, none⟩ = some (.int .i64 0) := (kc_ BK1.out 0).trans rfl; have hcz3_1 : w8.cell? ⟨gb1, 1, none⟩ = some (.bool false) := (kc_ BK1.out 1).trans rfl; have hcz3_2 : w8.cell? ⟨gb1, 2, none⟩ = some (.slice none 0 0) := (kc_ BK1.out 2).trans rfl; have hcz3_3 : w8.cell? ⟨gb1, 3, none⟩ = some (.slice none 0 0) := (kc_ BK1.out 3).trans rfl; have hcz3_4 : w8.cell? ⟨gb1, 4, none⟩ = some (.int .i64 0) := (kc_ BK1.out 4).trans rfl; have hfz3_0 := kf_ BK1.out 0; have hfz3_1 := kf_ BK1.out 1; have hfz3_2 := kf_ BK1.out 2; have hfz3_3 := kf_ BK1.out 3; have hfz3_4 := kf_ BK1.out 4; obtain ⟨Ao5, co5, eo5⟩ := Kd.R_slice HO_1.out; subst eo5))
   refine bodyPost_ret (results_cell_row rfl _ _ gb1 26 #[.int .i64 x546000_1, .bool x546001_1, .slice Ao5 x546002_1.length co5, .slice Ao4 x546003_1.length co4, .int .i64 x546004_1] (0, 0) _ rfl (u1_ BK1) Tryd.underlying26 rfl bfqv_) rfl ?_
   exact ⟨_, _, bnwh_, bjdl_, bnt9_, br5r_, b6ve_, bgjc_⟩
  rw [if_pos c5] at H
  have c5b0 : decide (1 < (x546003_1.length : Int)) = true := dt_ c5
  have c5b1 : decide (1 < x546003_1.length) = true := dt_ bh19_
  clear c5
  by_cases c6 : 1 < (x546003_1.length : Int)
  case neg =>
   rw [if_neg c6] at H
   exact absurd H bxka_
  rw [if_pos c6] at H
  have c6b0 : decide (1 < (x546003_1.length : Int)) = true := dt_ c6
  have c6b1 : decide (1 < x546003_1.length) = true := dt_ bh19_
  clear c6
  by_cases c7 : 0 < (x546003_1.length : Int)
  case neg =>
   rw [if_neg c7] at H
   exact absurd H bxka_
  rw [if_pos c7] at H
  have c7b0 : decide (0 < (x546003_1.length : Int)) = true := dt_ c7
  have c7b1 : decide (0 < x546003_1.length) = true := dt_ bh19_
  clear c7
  obtain ⟨y2, hy2⟩ : ∃ y_ : List Int, y_ = (x546003_1.set (0 : Int).toNat (rd x546003_1 1)) := ⟨_, rfl⟩
  replace H : (some (x546000_1, x546001_1, x546002_1, y2, x546004_1, t17, t18)) = some (r1, r2, r3, r4, r5, r6, r7) := bscs_
  have Ny2 := A0_ hy2
  clear hy2
  simp only [sj_, pj_] at H
  obtain ⟨rfl, rfl, rfl, rfl, rfl, rfl, rfl⟩ := H
  try go_wp2_with (first | ((with_reducible refine gc_ (f := 94) rfl ?_); refine gl_ 40 Tryd.func94 #[.pointer (some ⟨g, 0, none⟩), .int .i64 48] ?_; (with_reducible refine (spec_l1Cur_pick.calls g s0_0 x1001_1 x1002_1 48 t16 t17 t18 w0 _ ?side1 ?side2 A10.out).mono ?_); (case side1 => exact br5r_); (case side2 => exact b6ve_); rintro e w8 ⟨rfl, hi, hb, hk⟩; refine ⟨_, rfl, ?_⟩; replace HO_1 := A0_ (Kd.R_mono (Kd.R_keep (IsS95.apart (show IsS95 w0 _ g s0_0 x1001_1 x1002_1 from br5r_) bwik_ bi3y_) hk (fun _ h => h.2)) (fun _ h => h.1)); replace HO_2 := A0_ (Kd.R_mono (Kd.R_keep (IsS95.apart (show IsS95 w0 _ g s0_0 x1001_1 x1002_1 from br5r_) b7sq_ bi3y_) hk (fun _ h => h.2)) (fun _ h => h.1)); replace BK1 := kb1_ BK1 hk NB1_0; replace BK2 := kb1_ BK2 hk NB2_0; replace HK := A0_ (KeepBut.trans bgjc_ hk (.inl rfl)); replace HB := A0_ (hb); replace HI0 := A0_ (hi); (try clear hb); (try clear hk); (try clear hi); have hnb3 := NB2_1.out; have hnc3 := NB1_2.out; have hnb4 := NB2_0.out; have hnc4 := NB0_2.out; have hcz2 := z5_ BK2; obtain ⟨Ao4, co4, eo4⟩ := Kd.R_slice HO_2.out; subst eo4))
  replace HO_1 := A0_ (rd_ HO_1.out)
  replace HO_2 := A0_ (rd_ HO_2.out)
  replace BK1 := A0_ (kd_ BK1.out)
  replace BK2 := A0_ (kd_ BK2.out)
  replace HI0 := A0_ (IsS95.drew HI0.out)
  replace HK := A0_ (keep_drew HK.out)
  replace HB := A0_ (bd_ HB.out)
  have p1 : 0 ≤ (1 : Int) := bh19_
  have q1 : 1 < (x546003_1.length : Int) := od_ bpil_
  obtain ⟨ad1, e1, hx1_0⟩ := Kd.at_int (rr_ HO_2.out).2.2 1 p1 q1
  cases e1
  (try simp only [show (1 : Int).toNat = 1 from rfl, Nat.reduceMul, Nat.reduceEqDiff, Go.Addr.add, ↓reduceIte] at hx1_0)
  have qi586 : (1 < x546003_1.length) = True := eq_true bh19_
  (try rw [show ((1 : Int)).toNat = 1 from rfl] at hx1_0)
  replace p1 := eq_true p1
  replace q1 := eq_true q1
  have p2 : 0 ≤ (0 : Int) := bh19_
  have q2 : (0 : Int) < ((x546003_1.length : Int) : Int) := od_ bpil_
  have qi100 : (0 < x546003_1.length) = True := eq_true bh19_
  obtain ⟨go100, co5, eo5, gb3, gl100, cl100, HG100⟩ := Kd.R_form HO_2.out bh19_
  (first | cases eo5 | (injection eo5 with ea_ en_ ec_; (first | subst ea_ | (injection ea_ with ea_; subst ea_)); subst ec_; clear en_))
  have GB100 := A0_ gb3
  have GG100 := A0_ HG100
  clear gb3 gl100 HG100
  (first | simp only [add_plain] at hx1_0 | skip)
  obtain ⟨hx2_0, hf1_0⟩ := Kd.R_celln 0 HO_2.out (0 : Int) p2 q2
  (try rw [show ((0 : Int)).toNat = 0 from rfl] at hx2_0)
  (try simp only [Nat.reduceMul, Nat.zero_mul, Nat.zero_add, Nat.reduceAdd] at hx2_0)
  (try rw [show ((0 : Int)).toNat = 0 from rfl] at hf1_0)
  (try simp only [Nat.reduceMul, Nat.zero_mul, Nat.zero_add, Nat.reduceAdd] at hf1_0)
  replace p2 := eq_true p2
  replace q2 := eq_true q2
  have HN0_go100 := A0_ (show g ≠ go100 from by have h_ := IsS95.own_ne HI0.out HO_2.out bi3y_; intro e_; exact h_ (by rw [e_]; rfl))
  have HP1 := Kd.R_putn HO_2.out (0 : Int) (rd x546003_1 1)
  rw [← Ny2.out] at HP1
  have HQ107 := A0_ HP1
  clear HP1
  refine start_ (n := 8) (S := fun w' => w'.cell? ⟨gb2, 0, none⟩ = some (.int .i64 x546000_1) ∧ w'.cell? ⟨gb2, 1, none⟩ = some (.bool x546001_1) ∧ w'.cell? ⟨gb2, 2, none⟩ = some (u546002) ∧ w'.cell? ⟨gb2, 3, none⟩ = some (.slice (some ⟨go100, 0, none⟩) x546003_1.length co4) ∧ w'.cell? ⟨gb2, 4, none⟩ = some (.int .i64 x546004_1) ∧ w'.cell? ⟨go100, 1, none⟩ = some (.int .i64 (rd x546003_1 1))) (ds := [7]) #[false, false, false, false, false, false, false, false] bfqv_ rfl rfl ⟨(kc_ BK2.out 0).trans rfl, (kc_ BK2.out 1).trans rfl, (kc_ BK2.out 2).trans rfl, (kc_ BK2.out 3).trans rfl, (kc_ BK2.out 4).trans rfl, hx1_0⟩ (fun hHeld => ?_); refine with_tabW spec_l1Cur_house.tab16 spec_l1Cur_house.bits16 (fun HT_ HW_ => ?_)
  generalize w8.drew = w9 at HO_1 HO_2 BK1 BK2 HI0 HK HB GG100 HQ107 hf1_0 hx2_0 hx1_0 hHeld ⊢
  refine pu_ 0 64 ?_
  refine pu_ 2 66 ?_
  refine tk_ 1 65 hHeld ?_
  refine tk_ 3 67 hHeld ?_
  refine pu_ 4 68 ?_
  refine tk_ 5 69 hHeld ?_
  refine pu_ 6 70 ?_
  refine last_ (i := 7) (N := none) #[true, true, true, true, true, true, true, true] rfl rfl (one_of HT_.out bfqv_) bi3y_ (fun K hK => ?_)
  refine skip_ (w1 := ?_) (by rfl) rfl ?_ ?_
  rotate_left
  ·go_simp
   rfl
  refine hK.out _ _ ?_
  clear hK K
  refine dn_ ?_
  have n0_ : Aside0 (Kd.R (Kd.int .i64) 3 (w9.setCell ⟨go100, 0, none⟩ (.int .i64 (rd x546003_1 1))) w.heap.size (fun k_ => some k_ ≠ (.slice (some ⟨go100, 0, none⟩) x546003_1.length co4 : Value).ownBlock) u546002 x546002_1) := ⟨by (with_reducible repeat (first | apply ra_ | apply rn_ | apply rd_)); exact Kd.R_mono (Kd.R_far (p := ⟨go100, 0, none⟩) (Kd.R_mono HO_1.out (fun k_ hk => (⟨hk, fun e_ => hk (by rw [e_]; rfl)⟩ : _ ∧ k_ ≠ go100))) k2_0 _) (fun _ hk => hk.1)⟩
  have n1_ : Aside0 (Kd.R (Kd.int .i64) 3 (w9.setCell ⟨go100, 0, none⟩ (.int .i64 (rd x546003_1 1))) w.heap.size (fun k_ => no_ u546002 k_) (.slice (some ⟨go100, 0, none⟩) x546003_1.length co4) y2) := ⟨by (with_reducible repeat (first | apply ra_ | apply rn_ | apply rd_)); exact HQ107.out⟩
  have n2_ : Aside0 ((w9.setCell ⟨go100, 0, none⟩ (.int .i64 (rd x546003_1 1))).heap[gb1]? = some (.cells #[.int .i64 0, .bool false, .slice none 0 0, .slice none 0 0, .int .i64 0] 26 (0, 0))) := ⟨by (with_reducible repeat (first | apply kn_ | apply kd_ | apply ka_)); refine blk_far ?_ (by have h_ := Kd.R_ne HO_2.out BK1.out bi3y_; intro e_; exact h_ (by rw [e_]; rfl)) _; (with_reducible repeat (first | apply kn_ | apply kd_ | apply ka_)); exact BK1.out⟩
  have n3_ : Aside0 ((w9.setCell ⟨go100, 0, none⟩ (.int .i64 (rd x546003_1 1))).heap[gb2]? = some (.cells #[.int .i64 x546000_1, .bool x546001_1, u546002, .slice (some ⟨go100, 0, none⟩) x546003_1.length co4, .int .i64 x546004_1] 26 (0, 0))) := ⟨by (with_reducible repeat (first | apply kn_ | apply kd_ | apply ka_)); refine blk_far ?_ (by have h_ := Kd.R_ne HO_2.out BK2.out bi3y_; intro e_; exact h_ (by rw [e_]; rfl)) _; (with_reducible repeat (first | apply kn_ | apply kd_ | apply ka_)); exact BK2.out⟩
  have n4_ : Aside0 (IsS95 w0 (w9.setCell ⟨go100, 0, none⟩ (.int .i64 (rd x546003_1 1))) g s0_0 t17 t18) := ⟨by repeat (with_reducible first | exact HI0.out | apply IsS95.alloc | apply IsS95.drewN | apply IsS95.drew | apply IsS95.set_1 | apply IsS95.set_2 | refine IsS95.far ?_ HN0_go100.out _ | refine IsS95.far ?_ NB0_1.out _ | refine IsS95.far ?_ NB0_2.out _)⟩
  have n5_ : Aside0 (KeepBut w (w9.setCell ⟨go100, 0, none⟩ (.int .i64 (rd x546003_1 1))) g none) := ⟨by repeat (with_reducible first | exact HK.out | apply KeepBut.set_ | apply keep_drewN | apply keep_drew | apply keep_alloc | refine keep_far ?_ GB100.out _ | refine keep_far ?_ GW1.out _ | refine keep_far ?_ GW2.out _)⟩
  have n6_ : Aside0 (Below w0.heap.size w0 (w9.setCell ⟨go100, 0, none⟩ (.int .i64 (rd x546003_1 1)))) := ⟨by repeat (with_reducible first | exact HB.out | apply ba_ | apply bn_ | apply bd_ | refine bs_ ?_ (Nat.le_trans HL.out GB100.out) | refine bs_ ?_ (IsS95.ge HI0.out) | refine bs_ ?_ GE1.out | refine bs_ ?_ GE2.out)⟩
  (try clear HO_1)
  (try clear HO_2)
  (try clear BK1)
  (try clear BK2)
  (try clear HI0)
  (try clear HK)
  (try clear HB)
  generalize (w9.setCell ⟨go100, 0, none⟩ (.int .i64 (rd x546003_1 1))) = w10 at n0_ n1_ n2_ n3_ n4_ n5_ n6_ ⊢
  have HO_1 := n0_
  have HO_2 := n1_
  have BK1 := n2_
  have BK2 := n3_
  have HI0 := n4_
  have HK := n5_
  have HB := n6_
  clear n0_ n1_ n2_ n3_ n4_ n5_ n6_
  have hcz3 := z5_ BK2
  have hnb5 := NB1_0.out
  have hnc5 := NB0_1.out
  have hcz4 := z5_ BK1
  obtain ⟨Ao5, co6, eo6⟩ := Kd.R_slice HO_1.out
  subst eo6
  try go_wp2
  refine bodyPost_ret (results_cell_row rfl _ _ gb1 26 #[.int .i64 x546000_1, .bool x546001_1, .slice Ao5 x546002_1.length co6, .slice (some ⟨go100, 0, none⟩) x546003_1.length co4, .int .i64 x546004_1] (0, 0) _ rfl (u1_ BK1) Tryd.underlying26 rfl bfqv_) rfl ?_
  exact ⟨_, _, bnwh_, bjdl_, bnt9_, br5r_, b6ve_, bgjc_⟩
 subst c1
 rw [if_pos rfl] at H
 obtain ⟨⟨t16, t17, t18, t19, t20⟩, A10, H⟩ := o1_ H
 obtain ⟨⟨t21, t22, t23, t24, t25, t26⟩, A12, H⟩ := o1_ H
 by_cases c2 : t26 = true
 case neg =>
  obtain rfl := bf_.mpr c2
  rw [if_neg ft_] at H
  have H' := A0_ H
  clear H
  obtain ⟨Ao4, co4, eo4⟩ := Kd.R_slice HO_1.out
  subst eo4
  obtain ⟨Ao5, co5, eo5⟩ := Kd.R_slice HO_2.out
  subst eo5
  try go_wp2
  replace HO_1 := A0_ (rd_ HO_1.out)
  replace HO_2 := A0_ (rd_ HO_2.out)
  replace BK1 := A0_ (kd_ BK1.out)
  replace BK2 := A0_ (kd_ BK2.out)
  replace HI0 := A0_ (IsS95.drew HI0.out)
  replace HK := A0_ (keep_drew HK.out)
  replace HB := A0_ (bd_ HB.out)
  refine s5_ 11 [] BK2 spec_l1Cur_house.tab6 spec_l1Cur_house.bits6 (fun hHeld HT_ HW_ => ?_)
  generalize wc.drew = w8 at HO_1 HO_2 BK1 BK2 HI0 HK HB hHeld ⊢
  refine pu_ 1 31 ?_
  refine tk_ 0 30 hHeld ?_
  refine tk_ 2 32 hHeld ?_
  refine join_ (σ := Value × Value × Nat) 2 #[true, true, true, true, true, true, true, true, true, false, false] (fun s_ => [(33, .agg #[.int .i64 t16, .int .i64 t17, .int .i64 t18]), (34, .tuple #[.agg #[.int .i64 t21, .bool t22, s_.1, s_.2.1, .int .i64 t25], .bool false]), (7, .pointer (some ⟨s_.2.2, 0, none⟩)), (29, .tuple #[.agg #[.int .i64 t21, .bool t22, s_.1, s_.2.1, .int .i64 t25], .bool false]), (35, .agg #[.int .i64 t21, .bool t22, s_.1, s_.2.1, .int .i64 t25]), (36, .bool false)]) (fun s_ w' => (w'.cell? ⟨gb2, 0, none⟩ = some (.int .i64 x546000_1) ∧ w'.cell? ⟨gb2, 1, none⟩ = some (.bool x546001_1) ∧ w'.cell? ⟨gb2, 2, none⟩ = some (.slice Ao4 x546002_1.length co4) ∧ w'.cell? ⟨gb2, 3, none⟩ = some (.slice Ao5 x546003_1.length co5) ∧ w'.cell? ⟨gb2, 4, none⟩ = some (.int .i64 x546004_1)) ∧ (Kd.R (Kd.int .i64) 3 w' w.heap.size (fun k_ => some k_ ≠ (s_.2.1 : Value).ownBlock ∧ no_ (.slice Ao4 x546002_1.length co4) k_ ∧ no_ (.slice Ao5 x546003_1.length co5) k_) s_.1 t23) ∧ (Kd.R (Kd.int .i64) 3 w' w.heap.size (fun k_ => some k_ ≠ (s_.1 : Value).ownBlock ∧ no_ (.slice Ao4 x546002_1.length co4) k_ ∧ no_ (.slice Ao5 x546003_1.length co5) k_) s_.2.1 t24) ∧ (Kd.R (Kd.int .i64) 3 w' w.heap.size (fun k_ => some k_ ≠ (s_.1 : Value).ownBlock ∧ some k_ ≠ (s_.2.1 : Value).ownBlock ∧ no_ (.slice Ao5 x546003_1.length co5) k_) (.slice Ao4 x546002_1.length co4) x546002_1) ∧ (Kd.R (Kd.int .i64) 3 w' w.heap.size (fun k_ => some k_ ≠ (s_.1 : Value).ownBlock ∧ some k_ ≠ (s_.2.1 : Value).ownBlock ∧ no_ (.slice Ao4 x546002_1.length co4) k_) (.slice Ao5 x546003_1.length co5) x546003_1) ∧ (w'.heap[gb1]? = some (.cells #[.int .i64 0, .bool false, .slice none 0 0, .slice none 0 0, .int .i64 0] 26 (0, 0))) ∧ (w'.heap[gb2]? = some (.cells #[.int .i64 x546000_1, .bool x546001_1, .slice Ao4 x546002_1.length co4, .slice Ao5 x546003_1.length co5, .int .i64 x546004_1] 26 (0, 0))) ∧ (w'.heap[s_.2.2]? = some (.cells #[.int .i64 0, .bool false, .slice none 0 0, .slice none 0 0, .int .i64 0] 26 (0, 0))) ∧ (w.heap.size ≤ s_.2.2) ∧ (w0.heap.size ≤ s_.2.2) ∧ (g ≠ s_.2.2) ∧ (s_.2.2 ≠ g) ∧ (gb1 ≠ s_.2.2) ∧ (s_.2.2 ≠ gb1) ∧ (gb2 ≠ s_.2.2) ∧ (s_.2.2 ≠ gb2) ∧ (IsS95 w0 w' g s0_0 t19 t20) ∧ (KeepBut w w' g none) ∧ (Below w0.heap.size w0 w')) ?_ ?_
  rotate_left
  ·intro hCont
   refine two_ (i := 3) (j := 8) (Ni := some 33) (Nj := some 7) #[true, true, true, true, false, false, false, false, false, false, false] #[true, true, true, false, false, false, false, false, true, false, false] rfl rfl rfl rfl (two_of HT_.out bfqv_) bi3y_ bi3y_ (fun K hK => ?_) (fun K hK => ?_)
   ·refine gs_ Tryd.func95 #[.pointer (some ⟨g, 0, none⟩), .agg #[.int .i64 x546000_1, .bool x546001_1, .slice Ao4 x546002_1.length co4, .slice Ao5 x546003_1.length co5, .int .i64 x546004_1]] ?_
    with_reducible refine (spec_l1Cur_work12.calls kj1 g s0_0 x1001_1 x1002_1 x546000_1 x546001_1 _ _ x546002_1 _ _ x546003_1 x546004_1 t16 t17 t18 t19 t20 w0 _ ?side1 ?side2 ?side3 ?side4 ?side5 ?side6 ?side7 ?side8 A10.out).mono ?_
    (case side1 => exact br5r_)
    (case side2 => exact b6ve_)
    (case side3 => exact btcf_)
    (case side4 => exact (rr_ HO_1.out).2.1)
    (case side5 => exact far_slice (IsS95.own_ne HI0.out HO_1.out bi3y_))
    (case side6 => exact bqlu_)
    (case side7 => exact (rr_ HO_2.out).2.1)
    (case side8 => exact far_slice (IsS95.own_ne HI0.out HO_2.out bi3y_))
    rintro e w9 ⟨rfl, hi, hb, hk⟩
    refine ⟨_, rfl, ?_⟩
    replace HO_1 := A0_ (Kd.R_mono (Kd.R_keep (IsS95.apart (show IsS95 w0 _ g s0_0 x1001_1 x1002_1 from br5r_) bwik_ bi3y_) hk (fun _ h => h.2)) (fun _ h => h.1))
    replace HO_2 := A0_ (Kd.R_mono (Kd.R_keep (IsS95.apart (show IsS95 w0 _ g s0_0 x1001_1 x1002_1 from br5r_) b7sq_ bi3y_) hk (fun _ h => h.2)) (fun _ h => h.1))
    replace BK1 := kb1_ BK1 hk NB1_0
    replace BK2 := kb1_ BK2 hk NB2_0
    replace HK := A0_ (KeepBut.trans bgjc_ hk (.inl rfl))
    replace HB := A0_ (hb)
    replace HI0 := A0_ (hi)
    (try clear hb); (try clear hk); (try clear hi)
    refine hK.out _ _ (c5_ BK2) (fun hHeld => ?_)
    clear hK K
    refine nm_ 33 ?_
    refine two_ (i := 4) (j := 8) (Ni := some 34) (Nj := some 7) #[true, true, true, true, true, false, false, false, false, false, false] #[true, true, true, true, false, false, false, false, true, false, false] rfl rfl rfl rfl (two_of HT_.out bfqv_) bi3y_ bi3y_ (fun K hK => ?_) (fun K hK => ?_)
    ·refine gs_ Tryd.func48 #[.agg #[.int .i64 x546000_1, .bool x546001_1, .slice Ao4 x546002_1.length co4, .slice Ao5 x546003_1.length co5, .int .i64 x546004_1], .agg #[.int .i64 t16, .int .i64 t17, .int .i64 t18]] ?_
     with_reducible refine (spec_l12Do.calls kj1 x546000_1 x546001_1 _ _ x546002_1 _ _ x546003_1 x546004_1 t16 t17 t18 t21 t22 t23 t24 t25 false _ ?side1 ?side2 ?side3 ?side4 A12.out).mono ?_
     (case side1 => exact btcf_)
     (case side2 => exact (rr_ HO_1.out).2.1)
     (case side3 => exact bqlu_)
     (case side4 => exact (rr_ HO_2.out).2.1)
     rintro e w10 ⟨v8, v9, rfl, ho0, ho1, hb⟩
     refine ⟨_, rfl, ?_⟩
     have HO4 := A0_ (Kd.R_lower (Kd.R_new' (Kd.R_new' ho0 (Kd.R_lt bwik_)) (Kd.R_lt b7sq_)) (keep_size (w := w) (g := g) (row := none) bgjc_))
     have HO5 := A0_ (Kd.R_lower (Kd.R_new' (Kd.R_new' ho1 (Kd.R_lt bwik_)) (Kd.R_lt b7sq_)) (keep_size (w := w) (g := g) (row := none) bgjc_))
     replace HO_1 := A0_ (Kd.R_mono (Kd.R_told (Kd.R_told (Kd.R_old bwik_ hb) (Kd.R_base ho0)) (Kd.R_base ho1)) (fun _ h_ => h_.1))
     replace HO_2 := A0_ (Kd.R_mono (Kd.R_told (Kd.R_told (Kd.R_old b7sq_ hb) (Kd.R_base ho0)) (Kd.R_base ho1)) (fun _ h_ => h_.1))
     replace BK1 := k1_ BK1 hb
     replace BK2 := k1_ BK2 hb
     replace HK := A0_ (KeepBut.trans bgjc_ (KeepBut.of_below hb g none) (.inl rfl))
     replace HB := hb_ hb b6ve_
     replace HI0 := A0_ (IsS95.below br5r_ hb)
     (try clear hb); (try clear ho0); (try clear ho1)
     refine hK.out _ _ (c5_ BK2) (fun hHeld => ?_)
     clear hK K
     refine nm_ 34 ?_
     refine pu_ 5 29 ?_
     refine pu_ 6 35 ?_
     refine pu_ 7 36 ?_
     refine on_ 8 (some 7) (fun K hK => ?_)
     refine bp_ 7 #[.int .i64 0, .bool false, .slice none 0 0, .slice none 0 0, .int .i64 0] 26 ?_
     intro gb3 hg w11 hbox hb
     replace HO_1 := A0_ (Kd.R_below bwik_ hb)
     replace HO_2 := A0_ (Kd.R_below b7sq_ hb)
     replace HO4 := A0_ (Kd.R_below b6ip_ hb)
     replace HO5 := A0_ (Kd.R_below bzg4_ hb)
     replace HB := hb_ hb b6ve_
     have BK3 := A0_ (hbox)
     have GW3 := A0_ ((b1ye_ : w.heap.size ≤ gb3))
     have GE3 := A0_ ((Nat.le_trans HW0.out (b1ye_ : w.heap.size ≤ gb3) : w0.heap.size ≤ gb3))
     replace HK := A0_ (KeepBut.trans bgjc_ (KeepBut.of_below hb g none) (.inl rfl))
     have NB1_3 := nl_ hg BK1
     have NB3_1 := ng_ hg BK1
     replace BK1 := k1_ BK1 hb
     have NB2_3 := nl_ hg BK2
     have NB3_2 := ng_ hg BK2
     replace BK2 := k1_ BK2 hb
     have NB0_3 := A0_ ((bc23_ : g ≠ gb3))
     have NB3_0 := A0_ ((bf98_ : gb3 ≠ g))
     replace HI0 := A0_ (IsS95.below br5r_ hb)
     clear hb hbox hg
     refine hK.out _ _ (c5_ BK2) (fun hHeld => ?_)
     clear hK K
     refine nm_ 7 ?_
     exact norm_ bh00_ (hCont (v8, v9, gb3) _ ⟨hHeld, b3bh_, bigu_, bjg6_, bnfj_, (u1_ BK1), (u1_ BK2), (u1_ BK3), GW3.out, GE3.out, NB0_3.out, NB3_0.out, NB1_3.out, NB3_1.out, NB2_3.out, NB3_2.out, bnex_, bjzi_, bypc_⟩)
    refine bp_ 7 #[.int .i64 0, .bool false, .slice none 0 0, .slice none 0 0, .int .i64 0] 26 ?_
    intro gb3 hg w10 hbox hb
    replace HO_1 := A0_ (Kd.R_below bwik_ hb)
    replace HO_2 := A0_ (Kd.R_below b7sq_ hb)
    replace HB := hb_ hb b6ve_
    have BK3 := A0_ (hbox)
    have GW3 := A0_ ((b1ye_ : w.heap.size ≤ gb3))
    have GE3 := A0_ ((Nat.le_trans HW0.out (b1ye_ : w.heap.size ≤ gb3) : w0.heap.size ≤ gb3))
    replace HK := A0_ (KeepBut.trans bgjc_ (KeepBut.of_below hb g none) (.inl rfl))
    have NB1_3 := nl_ hg BK1
    have NB3_1 := ng_ hg BK1
    replace BK1 := k1_ BK1 hb
    have NB2_3 := nl_ hg BK2
    have NB3_2 := ng_ hg BK2
    replace BK2 := k1_ BK2 hb
    have NB0_3 := A0_ ((bc23_ : g ≠ gb3))
    have NB3_0 := A0_ ((bf98_ : gb3 ≠ g))
    replace HI0 := A0_ (IsS95.below br5r_ hb)
    clear hb hbox hg
    refine hK.out _ _ (c5_ BK2) (fun hHeld => ?_)
    clear hK K
    refine nm_ 7 ?_
    refine on_ 4 (some 34) (fun K hK => ?_)
    refine gs_ Tryd.func48 #[.agg #[.int .i64 x546000_1, .bool x546001_1, .slice Ao4 x546002_1.length co4, .slice Ao5 x546003_1.length co5, .int .i64 x546004_1], .agg #[.int .i64 t16, .int .i64 t17, .int .i64 t18]] ?_
    with_reducible refine (spec_l12Do.calls kj1 x546000_1 x546001_1 _ _ x546002_1 _ _ x546003_1 x546004_1 t16 t17 t18 t21 t22 t23 t24 t25 false _ ?side1 ?side2 ?side3 ?side4 A12.out).mono ?_
    (case side1 => exact btcf_)
    (case side2 => exact (rr_ HO_1.out).2.1)
    (case side3 => exact bqlu_)
    (case side4 => exact (rr_ HO_2.out).2.1)
    rintro e w11 ⟨v8, v9, rfl, ho0, ho1, hb⟩
    refine ⟨_, rfl, ?_⟩
    have HO4 := A0_ (Kd.R_lower (Kd.R_new' (Kd.R_new' ho0 (Kd.R_lt bwik_)) (Kd.R_lt b7sq_)) (keep_size (w := w) (g := g) (row := none) bjzi_))
    have HO5 := A0_ (Kd.R_lower (Kd.R_new' (Kd.R_new' ho1 (Kd.R_lt bwik_)) (Kd.R_lt b7sq_)) (keep_size (w := w) (g := g) (row := none) bjzi_))
    replace HO_1 := A0_ (Kd.R_mono (Kd.R_told (Kd.R_told (Kd.R_old bwik_ hb) (Kd.R_base ho0)) (Kd.R_base ho1)) (fun _ h_ => h_.1))
    replace HO_2 := A0_ (Kd.R_mono (Kd.R_told (Kd.R_told (Kd.R_old b7sq_ hb) (Kd.R_base ho0)) (Kd.R_base ho1)) (fun _ h_ => h_.1))
    replace BK1 := k1_ BK1 hb
    replace BK2 := k1_ BK2 hb
    replace BK3 := k1_ BK3 hb
    replace HK := A0_ (KeepBut.trans bjzi_ (KeepBut.of_below hb g none) (.inl rfl))
    replace HB := hb_ hb bypc_
    replace HI0 := A0_ (IsS95.below bnex_ hb)
    (try clear hb); (try clear ho0); (try clear ho1)
    refine hK.out _ _ (c5_ BK2) (fun hHeld => ?_)
    clear hK K
    refine nm_ 34 ?_
    refine pu_ 5 29 ?_
    refine pu_ 6 35 ?_
    refine pu_ 7 36 ?_
    exact norm_ bh00_ (hCont (v8, v9, gb3) _ ⟨hHeld, b3bh_, bigu_, bjg6_, bnfj_, (u1_ BK1), (u1_ BK2), (u1_ BK3), GW3.out, GE3.out, NB0_3.out, NB3_0.out, NB1_3.out, NB3_1.out, NB2_3.out, NB3_2.out, bnex_, bjzi_, bypc_⟩)
   refine bp_ 7 #[.int .i64 0, .bool false, .slice none 0 0, .slice none 0 0, .int .i64 0] 26 ?_
   intro gb3 hg w9 hbox hb
   replace HO_1 := A0_ (Kd.R_below bwik_ hb)
   replace HO_2 := A0_ (Kd.R_below b7sq_ hb)
   replace HB := hb_ hb b6ve_
   have BK3 := A0_ (hbox)
   have GW3 := A0_ ((b1ye_ : w.heap.size ≤ gb3))
   have GE3 := A0_ ((Nat.le_trans HW0.out (b1ye_ : w.heap.size ≤ gb3) : w0.heap.size ≤ gb3))
   replace HK := A0_ (KeepBut.trans bgjc_ (KeepBut.of_below hb g none) (.inl rfl))
   have NB1_3 := nl_ hg BK1
   have NB3_1 := ng_ hg BK1
   replace BK1 := k1_ BK1 hb
   have NB2_3 := nl_ hg BK2
   have NB3_2 := ng_ hg BK2
   replace BK2 := k1_ BK2 hb
   have NB0_3 := A0_ ((b7id_ : g ≠ gb3))
   have NB3_0 := A0_ ((bjzo_ : gb3 ≠ g))
   replace HI0 := A0_ (IsS95.below br5r_ hb)
   clear hb hbox hg
   refine hK.out _ _ (c5_ BK2) (fun hHeld => ?_)
   clear hK K
   refine nm_ 7 ?_
   refine on_ 3 (some 33) (fun K hK => ?_)
   refine gs_ Tryd.func95 #[.pointer (some ⟨g, 0, none⟩), .agg #[.int .i64 x546000_1, .bool x546001_1, .slice Ao4 x546002_1.length co4, .slice Ao5 x546003_1.length co5, .int .i64 x546004_1]] ?_
   with_reducible refine (spec_l1Cur_work12.calls kj1 g s0_0 x1001_1 x1002_1 x546000_1 x546001_1 _ _ x546002_1 _ _ x546003_1 x546004_1 t16 t17 t18 t19 t20 w0 _ ?side1 ?side2 ?side3 ?side4 ?side5 ?side6 ?side7 ?side8 A10.out).mono ?_
   (case side1 => exact bnex_)
   (case side2 => exact bypc_)
   (case side3 => exact btcf_)
   (case side4 => exact (rr_ HO_1.out).2.1)
   (case side5 => exact far_slice (IsS95.own_ne HI0.out HO_1.out bi3y_))
   (case side6 => exact bqlu_)
   (case side7 => exact (rr_ HO_2.out).2.1)
   (case side8 => exact far_slice (IsS95.own_ne HI0.out HO_2.out bi3y_))
   rintro e w10 ⟨rfl, hi, hb, hk⟩
   refine ⟨_, rfl, ?_⟩
   replace HO_1 := A0_ (Kd.R_mono (Kd.R_keep (IsS95.apart (show IsS95 w0 _ g s0_0 x1001_1 x1002_1 from bnex_) bwik_ bi3y_) hk (fun _ h => h.2)) (fun _ h => h.1))
   replace HO_2 := A0_ (Kd.R_mono (Kd.R_keep (IsS95.apart (show IsS95 w0 _ g s0_0 x1001_1 x1002_1 from bnex_) b7sq_ bi3y_) hk (fun _ h => h.2)) (fun _ h => h.1))
   replace BK1 := kb1_ BK1 hk NB1_0
   replace BK2 := kb1_ BK2 hk NB2_0
   replace BK3 := kb1_ BK3 hk NB3_0
   replace HK := A0_ (KeepBut.trans bjzi_ hk (.inl rfl))
   replace HB := A0_ (hb)
   replace HI0 := A0_ (hi)
   (try clear hb); (try clear hk); (try clear hi)
   refine hK.out _ _ (c5_ BK2) (fun hHeld => ?_)
   clear hK K
   refine nm_ 33 ?_
   refine on_ 4 (some 34) (fun K hK => ?_)
   refine gs_ Tryd.func48 #[.agg #[.int .i64 x546000_1, .bool x546001_1, .slice Ao4 x546002_1.length co4, .slice Ao5 x546003_1.length co5, .int .i64 x546004_1], .agg #[.int .i64 t16, .int .i64 t17, .int .i64 t18]] ?_
   with_reducible refine (spec_l12Do.calls kj1 x546000_1 x546001_1 _ _ x546002_1 _ _ x546003_1 x546004_1 t16 t17 t18 t21 t22 t23 t24 t25 false _ ?side1 ?side2 ?side3 ?side4 A12.out).mono ?_
   (case side1 => exact btcf_)
   (case side2 => exact (rr_ HO_1.out).2.1)
   (case side3 => exact bqlu_)
   (case side4 => exact (rr_ HO_2.out).2.1)
   rintro e w11 ⟨v8, v9, rfl, ho0, ho1, hb⟩
   refine ⟨_, rfl, ?_⟩
   have HO4 := A0_ (Kd.R_lower (Kd.R_new' (Kd.R_new' ho0 (Kd.R_lt bwik_)) (Kd.R_lt b7sq_)) (keep_size (w := w) (g := g) (row := none) bjzi_))
   have HO5 := A0_ (Kd.R_lower (Kd.R_new' (Kd.R_new' ho1 (Kd.R_lt bwik_)) (Kd.R_lt b7sq_)) (keep_size (w := w) (g := g) (row := none) bjzi_))
   replace HO_1 := A0_ (Kd.R_mono (Kd.R_told (Kd.R_told (Kd.R_old bwik_ hb) (Kd.R_base ho0)) (Kd.R_base ho1)) (fun _ h_ => h_.1))
   replace HO_2 := A0_ (Kd.R_mono (Kd.R_told (Kd.R_told (Kd.R_old b7sq_ hb) (Kd.R_base ho0)) (Kd.R_base ho1)) (fun _ h_ => h_.1))
   replace BK1 := k1_ BK1 hb
   replace BK2 := k1_ BK2 hb
   replace BK3 := k1_ BK3 hb
   replace HK := A0_ (KeepBut.trans bjzi_ (KeepBut.of_below hb g none) (.inl rfl))
   replace HB := hb_ hb bypc_
   replace HI0 := A0_ (IsS95.below bnex_ hb)
   (try clear hb); (try clear ho0); (try clear ho1)
   refine hK.out _ _ (c5_ BK2) (fun hHeld => ?_)
   clear hK K
   refine nm_ 34 ?_
   refine pu_ 5 29 ?_
   refine pu_ 6 35 ?_
   refine pu_ 7 36 ?_
   exact norm_ bh00_ (hCont (v8, v9, gb3) _ ⟨hHeld, b3bh_, bigu_, bjg6_, bnfj_, (u1_ BK1), (u1_ BK2), (u1_ BK3), GW3.out, GE3.out, NB0_3.out, NB3_0.out, NB1_3.out, NB3_1.out, NB2_3.out, NB3_2.out, bnex_, bjzi_, bypc_⟩)
  rintro ⟨v8, v9, gb3⟩ w9 ⟨hS_, h0_, h1_, h2_, h3_, h4_, h5_, h6_, h7_, h8_, h9_, h10_, h11_, h12_, h13_, h14_, h15_, h16_, h17_⟩
  try dsimp only at h0_ h1_ h2_ h3_ h4_ h5_ h6_ h7_ h8_ h9_ h10_ h11_ h12_ h13_ h14_ h15_ h16_ h17_
  have HO4 := A0_ h0_
  have HO5 := A0_ h1_
  replace HO_1 := A0_ h2_
  replace HO_2 := A0_ h3_
  replace BK1 := A0_ h4_
  replace BK2 := A0_ h5_
  have BK3 := A0_ h6_
  have GW3 := A0_ h7_
  have GE3 := A0_ h8_
  have NB0_3 := A0_ h9_
  have NB3_0 := A0_ h10_
  have NB1_3 := A0_ h11_
  have NB3_1 := A0_ h12_
  have NB2_3 := A0_ h13_
  have NB3_2 := A0_ h14_
  replace HI0 := A0_ h15_
  replace HK := A0_ h16_
  replace HB := A0_ h17_
  clear h0_ h1_ h2_ h3_ h4_ h5_ h6_ h7_ h8_ h9_ h10_ h11_ h12_ h13_ h14_ h15_ h16_ h17_
  have hHeld : w9.cell? ⟨gb2, 0, none⟩ = some (.int .i64 x546000_1) ∧ w9.cell? ⟨gb2, 1, none⟩ = some (.bool x546001_1) ∧ w9.cell? ⟨gb2, 2, none⟩ = some (.slice Ao4 x546002_1.length co4) ∧ w9.cell? ⟨gb2, 3, none⟩ = some (.slice Ao5 x546003_1.length co5) ∧ w9.cell? ⟨gb2, 4, none⟩ = some (.int .i64 x546004_1) := hS_
  obtain ⟨Ao6, co6, eo6⟩ := Kd.R_slice HO4.out
  (first | subst eo6 | (injection eo6 with f1_ f2_ f3_; have f4_ := f1_.symm; have f5_ := f3_.symm; clear f1_ f2_ f3_; subst f4_; subst f5_))
  obtain ⟨Ao7, co7, eo7⟩ := Kd.R_slice HO5.out
  (first | subst eo7 | (injection eo7 with f1_ f2_ f3_; have f4_ := f1_.symm; have f5_ := f3_.symm; clear f1_ f2_ f3_; subst f4_; subst f5_))
  refine nq_ ?_
  refine on_ 9 none (fun K hK => ?_)
  have hs54 : w9.cell? ⟨gb3, 0, none⟩ = some (.int .i64 0) := (kc_ BK3.out 0).trans rfl
  have hfs54 := kf_ BK3.out 0
  have hns1_0 := NB1_3.out
  have hns1_1 := NB2_3.out
  have hms1_0 := NB3_1.out
  have hms1_1 := NB3_2.out
  have hs55 : w9.cell? ⟨gb3, 1, none⟩ = some (.bool false) := (kc_ BK3.out 1).trans rfl
  have hfs55 := kf_ BK3.out 1
  have hns2_0 := NB1_3.out
  have hns2_1 := NB2_3.out
  have hms2_0 := NB3_1.out
  have hms2_1 := NB3_2.out
  have hs57 : w9.cell? ⟨gb3, 2, none⟩ = some (.slice none 0 0) := (kc_ BK3.out 2).trans rfl
  have hfs57 := kf_ BK3.out 2
  have hns3_0 := NB1_3.out
  have hns3_1 := NB2_3.out
  have hms3_0 := NB3_1.out
  have hms3_1 := NB3_2.out
  have hs59 : w9.cell? ⟨gb3, 3, none⟩ = some (.slice none 0 0) := (kc_ BK3.out 3).trans rfl
  have hfs59 := kf_ BK3.out 3
  have hns4_0 := NB1_3.out
  have hns4_1 := NB2_3.out
  have hms4_0 := NB3_1.out
  have hms4_1 := NB3_2.out
  have hs60 : w9.cell? ⟨gb3, 4, none⟩ = some (.int .i64 0) := (kc_ BK3.out 4).trans rfl
  have hfs60 := kf_ BK3.out 4
  have hns5_0 := NB1_3.out
  have hns5_1 := NB2_3.out
  have hms5_0 := NB3_1.out
  have hms5_1 := NB3_2.out
  refine skip_ (w1 := ?_) (by rfl) rfl ?_ ?_
  rotate_left
  ·go_simp
   rfl
  refine hK.out _ _ ⟨((cell_far (p := ⟨gb3, _, none⟩) NB2_3.out _).trans (((cell_far (p := ⟨gb3, _, none⟩) NB2_3.out _).trans (((cell_far (p := ⟨gb3, _, none⟩) NB2_3.out _).trans (((cell_far (p := ⟨gb3, _, none⟩) NB2_3.out _).trans (((cell_far (p := ⟨gb3, _, none⟩) NB2_3.out _).trans (hHeld.1)))))))))), ((cell_far (p := ⟨gb3, _, none⟩) NB2_3.out _).trans (((cell_far (p := ⟨gb3, _, none⟩) NB2_3.out _).trans (((cell_far (p := ⟨gb3, _, none⟩) NB2_3.out _).trans (((cell_far (p := ⟨gb3, _, none⟩) NB2_3.out _).trans (((cell_far (p := ⟨gb3, _, none⟩) NB2_3.out _).trans (hHeld.2.1)))))))))), ((cell_far (p := ⟨gb3, _, none⟩) NB2_3.out _).trans (((cell_far (p := ⟨gb3, _, none⟩) NB2_3.out _).trans (((cell_far (p := ⟨gb3, _, none⟩) NB2_3.out _).trans (((cell_far (p := ⟨gb3, _, none⟩) NB2_3.out _).trans (((cell_far (p := ⟨gb3, _, none⟩) NB2_3.out _).trans (hHeld.2.2.1)))))))))), ((cell_far (p := ⟨gb3, _, none⟩) NB2_3.out _).trans (((cell_far (p := ⟨gb3, _, none⟩) NB2_3.out _).trans (((cell_far (p := ⟨gb3, _, none⟩) NB2_3.out _).trans (((cell_far (p := ⟨gb3, _, none⟩) NB2_3.out _).trans (((cell_far (p := ⟨gb3, _, none⟩) NB2_3.out _).trans (hHeld.2.2.2.1)))))))))), ((cell_far (p := ⟨gb3, _, none⟩) NB2_3.out _).trans (((cell_far (p := ⟨gb3, _, none⟩) NB2_3.out _).trans (((cell_far (p := ⟨gb3, _, none⟩) NB2_3.out _).trans (((cell_far (p := ⟨gb3, _, none⟩) NB2_3.out _).trans (((cell_far (p := ⟨gb3, _, none⟩) NB2_3.out _).trans (hHeld.2.2.2.2))))))))))⟩ (fun hHeld => ?_)
  clear hK K
  refine pu_ 10 8 ?_
  refine dn_ ?_
  try go_wp2
  go_roundg kj1
  case measure => have := HK1.out; have := HJ1.out; omega
  exact ⟨(wrap64 (x6_1 - 1)), (t19), (t20), (x546000_1), (x546001_1), (x546002_1), (x546003_1), (x546004_1), (.slice Ao4 x546002_1.length co4), (.slice Ao5 x546003_1.length co5), b2ew_, H', ⟨by have := HK1.out; have := HJ1.out; omega⟩, ⟨by (with_reducible repeat (first | apply ra_ | apply rn_ | apply rd_)); exact Kd.R_mono (rf_ (rf_ (rf_ (rf_ (rf_ (Kd.R_types HO_1.out BK3.out bi3y_) k2_0 _) k2_0 _) k2_0 _) k2_0 _) k2_0 _) (fun _ hk => hk.1.2.2)⟩, ⟨by (with_reducible repeat (first | apply ra_ | apply rn_ | apply rd_)); exact Kd.R_mono (rf_ (rf_ (rf_ (rf_ (rf_ (Kd.R_types HO_2.out BK3.out bi3y_) k2_0 _) k2_0 _) k2_0 _) k2_0 _) k2_0 _) (fun _ hk => hk.1.2.2)⟩, ⟨u1_ BK1⟩, ⟨u1_ BK2⟩, ⟨bnex_⟩, ⟨bjzi_⟩, ⟨bypc_⟩⟩
 subst c2
 rw [if_pos rfl] at H
 have H' := A0_ H
 clear H
 obtain ⟨Ao4, co4, eo4⟩ := Kd.R_slice HO_1.out
 subst eo4
 obtain ⟨Ao5, co5, eo5⟩ := Kd.R_slice HO_2.out
 subst eo5
 try go_wp2
 replace HO_1 := A0_ (rd_ HO_1.out)
 replace HO_2 := A0_ (rd_ HO_2.out)
 replace BK1 := A0_ (kd_ BK1.out)
 replace BK2 := A0_ (kd_ BK2.out)
 replace HI0 := A0_ (IsS95.drew HI0.out)
 replace HK := A0_ (keep_drew HK.out)
 replace HB := A0_ (bd_ HB.out)
 refine s5_ 11 [] BK2 spec_l1Cur_house.tab6 spec_l1Cur_house.bits6 (fun hHeld HT_ HW_ => ?_)
 generalize wc.drew = w8 at HO_1 HO_2 BK1 BK2 HI0 HK HB hHeld ⊢
 refine pu_ 1 31 ?_
 refine tk_ 0 30 hHeld ?_
 refine tk_ 2 32 hHeld ?_
 refine join_ (σ := Value × Value × Nat) 2 #[true, true, true, true, true, true, true, true, true, false, false] (fun s_ => [(33, .agg #[.int .i64 t16, .int .i64 t17, .int .i64 t18]), (34, .tuple #[.agg #[.int .i64 t21, .bool t22, s_.1, s_.2.1, .int .i64 t25], .bool true]), (7, .pointer (some ⟨s_.2.2, 0, none⟩)), (29, .tuple #[.agg #[.int .i64 t21, .bool t22, s_.1, s_.2.1, .int .i64 t25], .bool true]), (35, .agg #[.int .i64 t21, .bool t22, s_.1, s_.2.1, .int .i64 t25]), (36, .bool true)]) (fun s_ w' => (w'.cell? ⟨gb2, 0, none⟩ = some (.int .i64 x546000_1) ∧ w'.cell? ⟨gb2, 1, none⟩ = some (.bool x546001_1) ∧ w'.cell? ⟨gb2, 2, none⟩ = some (.slice Ao4 x546002_1.length co4) ∧ w'.cell? ⟨gb2, 3, none⟩ = some (.slice Ao5 x546003_1.length co5) ∧ w'.cell? ⟨gb2, 4, none⟩ = some (.int .i64 x546004_1)) ∧ (Kd.R (Kd.int .i64) 3 w' w.heap.size (fun k_ => some k_ ≠ (s_.2.1 : Value).ownBlock ∧ no_ (.slice Ao4 x546002_1.length co4) k_ ∧ no_ (.slice Ao5 x546003_1.length co5) k_) s_.1 t23) ∧ (Kd.R (Kd.int .i64) 3 w' w.heap.size (fun k_ => some k_ ≠ (s_.1 : Value).ownBlock ∧ no_ (.slice Ao4 x546002_1.length co4) k_ ∧ no_ (.slice Ao5 x546003_1.length co5) k_) s_.2.1 t24) ∧ (Kd.R (Kd.int .i64) 3 w' w.heap.size (fun k_ => some k_ ≠ (s_.1 : Value).ownBlock ∧ some k_ ≠ (s_.2.1 : Value).ownBlock ∧ no_ (.slice Ao5 x546003_1.length co5) k_) (.slice Ao4 x546002_1.length co4) x546002_1) ∧ (Kd.R (Kd.int .i64) 3 w' w.heap.size (fun k_ => some k_ ≠ (s_.1 : Value).ownBlock ∧ some k_ ≠ (s_.2.1 : Value).ownBlock ∧ no_ (.slice Ao4 x546002_1.length co4) k_) (.slice Ao5 x546003_1.length co5) x546003_1) ∧ (w'.heap[gb1]? = some (.cells #[.int .i64 0, .bool false, .slice none 0 0, .slice none 0 0, .int .i64 0] 26 (0, 0))) ∧ (w'.heap[gb2]? = some (.cells #[.int .i64 x546000_1, .bool x546001_1, .slice Ao4 x546002_1.length co4, .slice Ao5 x546003_1.length co5, .int .i64 x546004_1] 26 (0, 0))) ∧ (w'.heap[s_.2.2]? = some (.cells #[.int .i64 0, .bool false, .slice none 0 0, .slice none 0 0, .int .i64 0] 26 (0, 0))) ∧ (w.heap.size ≤ s_.2.2) ∧ (w0.heap.size ≤ s_.2.2) ∧ (g ≠ s_.2.2) ∧ (s_.2.2 ≠ g) ∧ (gb1 ≠ s_.2.2) ∧ (s_.2.2 ≠ gb1) ∧ (gb2 ≠ s_.2.2) ∧ (s_.2.2 ≠ gb2) ∧ (IsS95 w0 w' g s0_0 t19 t20) ∧ (KeepBut w w' g none) ∧ (Below w0.heap.size w0 w')) ?_ ?_
 rotate_left
 ·intro hCont
  refine two_ (i := 3) (j := 8) (Ni := some 33) (Nj := some 7) #[true, true, true, true, false, false, false, false, false, false, false] #[true, true, true, false, false, false, false, false, true, false, false] rfl rfl rfl rfl (two_of HT_.out bfqv_) bi3y_ bi3y_ (fun K hK => ?_) (fun K hK => ?_)
  ·refine gs_ Tryd.func95 #[.pointer (some ⟨g, 0, none⟩), .agg #[.int .i64 x546000_1, .bool x546001_1, .slice Ao4 x546002_1.length co4, .slice Ao5 x546003_1.length co5, .int .i64 x546004_1]] ?_
   with_reducible refine (spec_l1Cur_work12.calls kj1 g s0_0 x1001_1 x1002_1 x546000_1 x546001_1 _ _ x546002_1 _ _ x546003_1 x546004_1 t16 t17 t18 t19 t20 w0 _ ?side1 ?side2 ?side3 ?side4 ?side5 ?side6 ?side7 ?side8 A10.out).mono ?_
   (case side1 => exact br5r_)
   (case side2 => exact b6ve_)
   (case side3 => exact btcf_)
   (case side4 => exact (rr_ HO_1.out).2.1)
   (case side5 => exact far_slice (IsS95.own_ne HI0.out HO_1.out bi3y_))
   (case side6 => exact bqlu_)
   (case side7 => exact (rr_ HO_2.out).2.1)
   (case side8 => exact far_slice (IsS95.own_ne HI0.out HO_2.out bi3y_))
   rintro e w9 ⟨rfl, hi, hb, hk⟩
   refine ⟨_, rfl, ?_⟩
   replace HO_1 := A0_ (Kd.R_mono (Kd.R_keep (IsS95.apart (show IsS95 w0 _ g s0_0 x1001_1 x1002_1 from br5r_) bwik_ bi3y_) hk (fun _ h => h.2)) (fun _ h => h.1))
   replace HO_2 := A0_ (Kd.R_mono (Kd.R_keep (IsS95.apart (show IsS95 w0 _ g s0_0 x1001_1 x1002_1 from br5r_) b7sq_ bi3y_) hk (fun _ h => h.2)) (fun _ h => h.1))
   replace BK1 := kb1_ BK1 hk NB1_0
   replace BK2 := kb1_ BK2 hk NB2_0
   replace HK := A0_ (KeepBut.trans bgjc_ hk (.inl rfl))
   replace HB := A0_ (hb)
   replace HI0 := A0_ (hi)
   (try clear hb); (try clear hk); (try clear hi)
   refine hK.out _ _ (c5_ BK2) (fun hHeld => ?_)
   clear hK K
   refine nm_ 33 ?_
   refine two_ (i := 4) (j := 8) (Ni := some 34) (Nj := some 7) #[true, true, true, true, true, false, false, false, false, false, false] #[true, true, true, true, false, false, false, false, true, false, false] rfl rfl rfl rfl (two_of HT_.out bfqv_) bi3y_ bi3y_ (fun K hK => ?_) (fun K hK => ?_)
   ·refine gs_ Tryd.func48 #[.agg #[.int .i64 x546000_1, .bool x546001_1, .slice Ao4 x546002_1.length co4, .slice Ao5 x546003_1.length co5, .int .i64 x546004_1], .agg #[.int .i64 t16, .int .i64 t17, .int .i64 t18]] ?_
    with_reducible refine (spec_l12Do.calls kj1 x546000_1 x546001_1 _ _ x546002_1 _ _ x546003_1 x546004_1 t16 t17 t18 t21 t22 t23 t24 t25 true _ ?side1 ?side2 ?side3 ?side4 A12.out).mono ?_
    (case side1 => exact btcf_)
    (case side2 => exact (rr_ HO_1.out).2.1)
    (case side3 => exact bqlu_)
    (case side4 => exact (rr_ HO_2.out).2.1)
    rintro e w10 ⟨v8, v9, rfl, ho0, ho1, hb⟩
    refine ⟨_, rfl, ?_⟩
    have HO4 := A0_ (Kd.R_lower (Kd.R_new' (Kd.R_new' ho0 (Kd.R_lt bwik_)) (Kd.R_lt b7sq_)) (keep_size (w := w) (g := g) (row := none) bgjc_))
    have HO5 := A0_ (Kd.R_lower (Kd.R_new' (Kd.R_new' ho1 (Kd.R_lt bwik_)) (Kd.R_lt b7sq_)) (keep_size (w := w) (g := g) (row := none) bgjc_))
    replace HO_1 := A0_ (Kd.R_mono (Kd.R_told (Kd.R_told (Kd.R_old bwik_ hb) (Kd.R_base ho0)) (Kd.R_base ho1)) (fun _ h_ => h_.1))
    replace HO_2 := A0_ (Kd.R_mono (Kd.R_told (Kd.R_told (Kd.R_old b7sq_ hb) (Kd.R_base ho0)) (Kd.R_base ho1)) (fun _ h_ => h_.1))
    replace BK1 := k1_ BK1 hb
    replace BK2 := k1_ BK2 hb
    replace HK := A0_ (KeepBut.trans bgjc_ (KeepBut.of_below hb g none) (.inl rfl))
    replace HB := hb_ hb b6ve_
    replace HI0 := A0_ (IsS95.below br5r_ hb)
    (try clear hb); (try clear ho0); (try clear ho1)
    refine hK.out _ _ (c5_ BK2) (fun hHeld => ?_)
    clear hK K
    refine nm_ 34 ?_
    refine pu_ 5 29 ?_
    refine pu_ 6 35 ?_
    refine pu_ 7 36 ?_
    refine on_ 8 (some 7) (fun K hK => ?_)
    refine bp_ 7 #[.int .i64 0, .bool false, .slice none 0 0, .slice none 0 0, .int .i64 0] 26 ?_
    intro gb3 hg w11 hbox hb
    replace HO_1 := A0_ (Kd.R_below bwik_ hb)
    replace HO_2 := A0_ (Kd.R_below b7sq_ hb)
    replace HO4 := A0_ (Kd.R_below b6ip_ hb)
    replace HO5 := A0_ (Kd.R_below bzg4_ hb)
    replace HB := hb_ hb b6ve_
    have BK3 := A0_ (hbox)
    have GW3 := A0_ ((b1ye_ : w.heap.size ≤ gb3))
    have GE3 := A0_ ((Nat.le_trans HW0.out (b1ye_ : w.heap.size ≤ gb3) : w0.heap.size ≤ gb3))
    replace HK := A0_ (KeepBut.trans bgjc_ (KeepBut.of_below hb g none) (.inl rfl))
    have NB1_3 := nl_ hg BK1
    have NB3_1 := ng_ hg BK1
    replace BK1 := k1_ BK1 hb
    have NB2_3 := nl_ hg BK2
    have NB3_2 := ng_ hg BK2
    replace BK2 := k1_ BK2 hb
    have NB0_3 := A0_ ((bc23_ : g ≠ gb3))
    have NB3_0 := A0_ ((bf98_ : gb3 ≠ g))
    replace HI0 := A0_ (IsS95.below br5r_ hb)
    clear hb hbox hg
    refine hK.out _ _ (c5_ BK2) (fun hHeld => ?_)
    clear hK K
    refine nm_ 7 ?_
    exact norm_ bh00_ (hCont (v8, v9, gb3) _ ⟨hHeld, b3bh_, bigu_, bjg6_, bnfj_, (u1_ BK1), (u1_ BK2), (u1_ BK3), GW3.out, GE3.out, NB0_3.out, NB3_0.out, NB1_3.out, NB3_1.out, NB2_3.out, NB3_2.out, bnex_, bjzi_, bypc_⟩)
   refine bp_ 7 #[.int .i64 0, .bool false, .slice none 0 0, .slice none 0 0, .int .i64 0] 26 ?_
   intro gb3 hg w10 hbox hb
   replace HO_1 := A0_ (Kd.R_below bwik_ hb)
   replace HO_2 := A0_ (Kd.R_below b7sq_ hb)
   replace HB := hb_ hb b6ve_
   have BK3 := A0_ (hbox)
   have GW3 := A0_ ((b1ye_ : w.heap.size ≤ gb3))
   have GE3 := A0_ ((Nat.le_trans HW0.out (b1ye_ : w.heap.size ≤ gb3) : w0.heap.size ≤ gb3))
   replace HK := A0_ (KeepBut.trans bgjc_ (KeepBut.of_below hb g none) (.inl rfl))
   have NB1_3 := nl_ hg BK1
   have NB3_1 := ng_ hg BK1
   replace BK1 := k1_ BK1 hb
   have NB2_3 := nl_ hg BK2
   have NB3_2 := ng_ hg BK2
   replace BK2 := k1_ BK2 hb
   have NB0_3 := A0_ ((bc23_ : g ≠ gb3))
   have NB3_0 := A0_ ((bf98_ : gb3 ≠ g))
   replace HI0 := A0_ (IsS95.below br5r_ hb)
   clear hb hbox hg
   refine hK.out _ _ (c5_ BK2) (fun hHeld => ?_)
   clear hK K
   refine nm_ 7 ?_
   refine on_ 4 (some 34) (fun K hK => ?_)
   refine gs_ Tryd.func48 #[.agg #[.int .i64 x546000_1, .bool x546001_1, .slice Ao4 x546002_1.length co4, .slice Ao5 x546003_1.length co5, .int .i64 x546004_1], .agg #[.int .i64 t16, .int .i64 t17, .int .i64 t18]] ?_
   with_reducible refine (spec_l12Do.calls kj1 x546000_1 x546001_1 _ _ x546002_1 _ _ x546003_1 x546004_1 t16 t17 t18 t21 t22 t23 t24 t25 true _ ?side1 ?side2 ?side3 ?side4 A12.out).mono ?_
   (case side1 => exact btcf_)
   (case side2 => exact (rr_ HO_1.out).2.1)
   (case side3 => exact bqlu_)
   (case side4 => exact (rr_ HO_2.out).2.1)
   rintro e w11 ⟨v8, v9, rfl, ho0, ho1, hb⟩
   refine ⟨_, rfl, ?_⟩
   have HO4 := A0_ (Kd.R_lower (Kd.R_new' (Kd.R_new' ho0 (Kd.R_lt bwik_)) (Kd.R_lt b7sq_)) (keep_size (w := w) (g := g) (row := none) bjzi_))
   have HO5 := A0_ (Kd.R_lower (Kd.R_new' (Kd.R_new' ho1 (Kd.R_lt bwik_)) (Kd.R_lt b7sq_)) (keep_size (w := w) (g := g) (row := none) bjzi_))
   replace HO_1 := A0_ (Kd.R_mono (Kd.R_told (Kd.R_told (Kd.R_old bwik_ hb) (Kd.R_base ho0)) (Kd.R_base ho1)) (fun _ h_ => h_.1))
   replace HO_2 := A0_ (Kd.R_mono (Kd.R_told (Kd.R_told (Kd.R_old b7sq_ hb) (Kd.R_base ho0)) (Kd.R_base ho1)) (fun _ h_ => h_.1))
   replace BK1 := k1_ BK1 hb
   replace BK2 := k1_ BK2 hb
   replace BK3 := k1_ BK3 hb
   replace HK := A0_ (KeepBut.trans bjzi_ (KeepBut.of_below hb g none) (.inl rfl))
   replace HB := hb_ hb bypc_
   replace HI0 := A0_ (IsS95.below bnex_ hb)
   (try clear hb); (try clear ho0); (try clear ho1)
   refine hK.out _ _ (c5_ BK2) (fun hHeld => ?_)
   clear hK K
   refine nm_ 34 ?_
   refine pu_ 5 29 ?_
   refine pu_ 6 35 ?_
   refine pu_ 7 36 ?_
   exact norm_ bh00_ (hCont (v8, v9, gb3) _ ⟨hHeld, b3bh_, bigu_, bjg6_, bnfj_, (u1_ BK1), (u1_ BK2), (u1_ BK3), GW3.out, GE3.out, NB0_3.out, NB3_0.out, NB1_3.out, NB3_1.out, NB2_3.out, NB3_2.out, bnex_, bjzi_, bypc_⟩)
  refine bp_ 7 #[.int .i64 0, .bool false, .slice none 0 0, .slice none 0 0, .int .i64 0] 26 ?_
  intro gb3 hg w9 hbox hb
  replace HO_1 := A0_ (Kd.R_below bwik_ hb)
  replace HO_2 := A0_ (Kd.R_below b7sq_ hb)
  replace HB := hb_ hb b6ve_
  have BK3 := A0_ (hbox)
  have GW3 := A0_ ((b1ye_ : w.heap.size ≤ gb3))
  have GE3 := A0_ ((Nat.le_trans HW0.out (b1ye_ : w.heap.size ≤ gb3) : w0.heap.size ≤ gb3))
  replace HK := A0_ (KeepBut.trans bgjc_ (KeepBut.of_below hb g none) (.inl rfl))
  have NB1_3 := nl_ hg BK1
  have NB3_1 := ng_ hg BK1
  replace BK1 := k1_ BK1 hb
  have NB2_3 := nl_ hg BK2
  have NB3_2 := ng_ hg BK2
  replace BK2 := k1_ BK2 hb
  have NB0_3 := A0_ ((b7id_ : g ≠ gb3))
  have NB3_0 := A0_ ((bjzo_ : gb3 ≠ g))
  replace HI0 := A0_ (IsS95.below br5r_ hb)
  clear hb hbox hg
  refine hK.out _ _ (c5_ BK2) (fun hHeld => ?_)
  clear hK K
  refine nm_ 7 ?_
  refine on_ 3 (some 33) (fun K hK => ?_)
  refine gs_ Tryd.func95 #[.pointer (some ⟨g, 0, none⟩), .agg #[.int .i64 x546000_1, .bool x546001_1, .slice Ao4 x546002_1.length co4, .slice Ao5 x546003_1.length co5, .int .i64 x546004_1]] ?_
  with_reducible refine (spec_l1Cur_work12.calls kj1 g s0_0 x1001_1 x1002_1 x546000_1 x546001_1 _ _ x546002_1 _ _ x546003_1 x546004_1 t16 t17 t18 t19 t20 w0 _ ?side1 ?side2 ?side3 ?side4 ?side5 ?side6 ?side7 ?side8 A10.out).mono ?_
  (case side1 => exact bnex_)
  (case side2 => exact bypc_)
  (case side3 => exact btcf_)
  (case side4 => exact (rr_ HO_1.out).2.1)
  (case side5 => exact far_slice (IsS95.own_ne HI0.out HO_1.out bi3y_))
  (case side6 => exact bqlu_)
  (case side7 => exact (rr_ HO_2.out).2.1)
  (case side8 => exact far_slice (IsS95.own_ne HI0.out HO_2.out bi3y_))
  rintro e w10 ⟨rfl, hi, hb, hk⟩
  refine ⟨_, rfl, ?_⟩
  replace HO_1 := A0_ (Kd.R_mono (Kd.R_keep (IsS95.apart (show IsS95 w0 _ g s0_0 x1001_1 x1002_1 from bnex_) bwik_ bi3y_) hk (fun _ h => h.2)) (fun _ h => h.1))
  replace HO_2 := A0_ (Kd.R_mono (Kd.R_keep (IsS95.apart (show IsS95 w0 _ g s0_0 x1001_1 x1002_1 from bnex_) b7sq_ bi3y_) hk (fun _ h => h.2)) (fun _ h => h.1))
  replace BK1 := kb1_ BK1 hk NB1_0
  replace BK2 := kb1_ BK2 hk NB2_0
  replace BK3 := kb1_ BK3 hk NB3_0
  replace HK := A0_ (KeepBut.trans bjzi_ hk (.inl rfl))
  replace HB := A0_ (hb)
  replace HI0 := A0_ (hi)
  (try clear hb); (try clear hk); (try clear hi)
  refine hK.out _ _ (c5_ BK2) (fun hHeld => ?_)
  clear hK K
  refine nm_ 33 ?_
  refine on_ 4 (some 34) (fun K hK => ?_)
  refine gs_ Tryd.func48 #[.agg #[.int .i64 x546000_1, .bool x546001_1, .slice Ao4 x546002_1.length co4, .slice Ao5 x546003_1.length co5, .int .i64 x546004_1], .agg #[.int .i64 t16, .int .i64 t17, .int .i64 t18]] ?_
  with_reducible refine (spec_l12Do.calls kj1 x546000_1 x546001_1 _ _ x546002_1 _ _ x546003_1 x546004_1 t16 t17 t18 t21 t22 t23 t24 t25 true _ ?side1 ?side2 ?side3 ?side4 A12.out).mono ?_
  (case side1 => exact btcf_)
  (case side2 => exact (rr_ HO_1.out).2.1)
  (case side3 => exact bqlu_)
  (case side4 => exact (rr_ HO_2.out).2.1)
  rintro e w11 ⟨v8, v9, rfl, ho0, ho1, hb⟩
  refine ⟨_, rfl, ?_⟩
  have HO4 := A0_ (Kd.R_lower (Kd.R_new' (Kd.R_new' ho0 (Kd.R_lt bwik_)) (Kd.R_lt b7sq_)) (keep_size (w := w) (g := g) (row := none) bjzi_))
  have HO5 := A0_ (Kd.R_lower (Kd.R_new' (Kd.R_new' ho1 (Kd.R_lt bwik_)) (Kd.R_lt b7sq_)) (keep_size (w := w) (g := g) (row := none) bjzi_))
  replace HO_1 := A0_ (Kd.R_mono (Kd.R_told (Kd.R_told (Kd.R_old bwik_ hb) (Kd.R_base ho0)) (Kd.R_base ho1)) (fun _ h_ => h_.1))
  replace HO_2 := A0_ (Kd.R_mono (Kd.R_told (Kd.R_told (Kd.R_old b7sq_ hb) (Kd.R_base ho0)) (Kd.R_base ho1)) (fun _ h_ => h_.1))
  replace BK1 := k1_ BK1 hb
  replace BK2 := k1_ BK2 hb
  replace BK3 := k1_ BK3 hb
  replace HK := A0_ (KeepBut.trans bjzi_ (KeepBut.of_below hb g none) (.inl rfl))
  replace HB := hb_ hb bypc_
  replace HI0 := A0_ (IsS95.below bnex_ hb)
  (try clear hb); (try clear ho0); (try clear ho1)
  refine hK.out _ _ (c5_ BK2) (fun hHeld => ?_)
  clear hK K
  refine nm_ 34 ?_
  refine pu_ 5 29 ?_
  refine pu_ 6 35 ?_
  refine pu_ 7 36 ?_
  exact norm_ bh00_ (hCont (v8, v9, gb3) _ ⟨hHeld, b3bh_, bigu_, bjg6_, bnfj_, (u1_ BK1), (u1_ BK2), (u1_ BK3), GW3.out, GE3.out, NB0_3.out, NB3_0.out, NB1_3.out, NB3_1.out, NB2_3.out, NB3_2.out, bnex_, bjzi_, bypc_⟩)
 rintro ⟨v8, v9, gb3⟩ w9 ⟨hS_, h0_, h1_, h2_, h3_, h4_, h5_, h6_, h7_, h8_, h9_, h10_, h11_, h12_, h13_, h14_, h15_, h16_, h17_⟩
 try dsimp only at h0_ h1_ h2_ h3_ h4_ h5_ h6_ h7_ h8_ h9_ h10_ h11_ h12_ h13_ h14_ h15_ h16_ h17_
 have HO4 := A0_ h0_
 have HO5 := A0_ h1_
 replace HO_1 := A0_ h2_
 replace HO_2 := A0_ h3_
 replace BK1 := A0_ h4_
 replace BK2 := A0_ h5_
 have BK3 := A0_ h6_
 have GW3 := A0_ h7_
 have GE3 := A0_ h8_
 have NB0_3 := A0_ h9_
 have NB3_0 := A0_ h10_
 have NB1_3 := A0_ h11_
 have NB3_1 := A0_ h12_
 have NB2_3 := A0_ h13_
 have NB3_2 := A0_ h14_
 replace HI0 := A0_ h15_
 replace HK := A0_ h16_
 replace HB := A0_ h17_
 clear h0_ h1_ h2_ h3_ h4_ h5_ h6_ h7_ h8_ h9_ h10_ h11_ h12_ h13_ h14_ h15_ h16_ h17_
 have hHeld : w9.cell? ⟨gb2, 0, none⟩ = some (.int .i64 x546000_1) ∧ w9.cell? ⟨gb2, 1, none⟩ = some (.bool x546001_1) ∧ w9.cell? ⟨gb2, 2, none⟩ = some (.slice Ao4 x546002_1.length co4) ∧ w9.cell? ⟨gb2, 3, none⟩ = some (.slice Ao5 x546003_1.length co5) ∧ w9.cell? ⟨gb2, 4, none⟩ = some (.int .i64 x546004_1) := hS_
 obtain ⟨Ao6, co6, eo6⟩ := Kd.R_slice HO4.out
 (first | subst eo6 | (injection eo6 with f1_ f2_ f3_; have f4_ := f1_.symm; have f5_ := f3_.symm; clear f1_ f2_ f3_; subst f4_; subst f5_))
 obtain ⟨Ao7, co7, eo7⟩ := Kd.R_slice HO5.out
 (first | subst eo7 | (injection eo7 with f1_ f2_ f3_; have f4_ := f1_.symm; have f5_ := f3_.symm; clear f1_ f2_ f3_; subst f4_; subst f5_))
 refine nq_ ?_
 refine on_ 9 none (fun K hK => ?_)
 have hs33 : w9.cell? ⟨gb3, 0, none⟩ = some (.int .i64 0) := (kc_ BK3.out 0).trans rfl
 have hfs33 := kf_ BK3.out 0
 have hns1_0 := NB1_3.out
 have hns1_1 := NB2_3.out
 have hms1_0 := NB3_1.out
 have hms1_1 := NB3_2.out
 have hs34 : w9.cell? ⟨gb3, 1, none⟩ = some (.bool false) := (kc_ BK3.out 1).trans rfl
 have hfs34 := kf_ BK3.out 1
 have hns2_0 := NB1_3.out
 have hns2_1 := NB2_3.out
 have hms2_0 := NB3_1.out
 have hms2_1 := NB3_2.out
 have hs36 : w9.cell? ⟨gb3, 2, none⟩ = some (.slice none 0 0) := (kc_ BK3.out 2).trans rfl
 have hfs36 := kf_ BK3.out 2
 have hns3_0 := NB1_3.out
 have hns3_1 := NB2_3.out
 have hms3_0 := NB3_1.out
 have hms3_1 := NB3_2.out
 have hs38 : w9.cell? ⟨gb3, 3, none⟩ = some (.slice none 0 0) := (kc_ BK3.out 3).trans rfl
 have hfs38 := kf_ BK3.out 3
 have hns4_0 := NB1_3.out
 have hns4_1 := NB2_3.out
 have hms4_0 := NB3_1.out
 have hms4_1 := NB3_2.out
 have hs39 : w9.cell? ⟨gb3, 4, none⟩ = some (.int .i64 0) := (kc_ BK3.out 4).trans rfl
 have hfs39 := kf_ BK3.out 4
 have hns5_0 := NB1_3.out
 have hns5_1 := NB2_3.out
 have hms5_0 := NB3_1.out
 have hms5_1 := NB3_2.out
 refine skip_ (w1 := ?_) (by rfl) rfl ?_ ?_
 rotate_left
 ·go_simp
  rfl
 refine hK.out _ _ ⟨((cell_far (p := ⟨gb3, _, none⟩) NB2_3.out _).trans (((cell_far (p := ⟨gb3, _, none⟩) NB2_3.out _).trans (((cell_far (p := ⟨gb3, _, none⟩) NB2_3.out _).trans (((cell_far (p := ⟨gb3, _, none⟩) NB2_3.out _).trans (((cell_far (p := ⟨gb3, _, none⟩) NB2_3.out _).trans (hHeld.1)))))))))), ((cell_far (p := ⟨gb3, _, none⟩) NB2_3.out _).trans (((cell_far (p := ⟨gb3, _, none⟩) NB2_3.out _).trans (((cell_far (p := ⟨gb3, _, none⟩) NB2_3.out _).trans (((cell_far (p := ⟨gb3, _, none⟩) NB2_3.out _).trans (((cell_far (p := ⟨gb3, _, none⟩) NB2_3.out _).trans (hHeld.2.1)))))))))), ((cell_far (p := ⟨gb3, _, none⟩) NB2_3.out _).trans (((cell_far (p := ⟨gb3, _, none⟩) NB2_3.out _).trans (((cell_far (p := ⟨gb3, _, none⟩) NB2_3.out _).trans (((cell_far (p := ⟨gb3, _, none⟩) NB2_3.out _).trans (((cell_far (p := ⟨gb3, _, none⟩) NB2_3.out _).trans (hHeld.2.2.1)))))))))), ((cell_far (p := ⟨gb3, _, none⟩) NB2_3.out _).trans (((cell_far (p := ⟨gb3, _, none⟩) NB2_3.out _).trans (((cell_far (p := ⟨gb3, _, none⟩) NB2_3.out _).trans (((cell_far (p := ⟨gb3, _, none⟩) NB2_3.out _).trans (((cell_far (p := ⟨gb3, _, none⟩) NB2_3.out _).trans (hHeld.2.2.2.1)))))))))), ((cell_far (p := ⟨gb3, _, none⟩) NB2_3.out _).trans (((cell_far (p := ⟨gb3, _, none⟩) NB2_3.out _).trans (((cell_far (p := ⟨gb3, _, none⟩) NB2_3.out _).trans (((cell_far (p := ⟨gb3, _, none⟩) NB2_3.out _).trans (((cell_far (p := ⟨gb3, _, none⟩) NB2_3.out _).trans (hHeld.2.2.2.2))))))))))⟩ (fun hHeld => ?_)
 clear hK K
 refine pu_ 10 8 ?_
 refine dn_ ?_
 have hnb3 := NB3_1.out
 have hnc3 := NB1_3.out
 have hnb4 := NB3_2.out
 have hnc4 := NB2_3.out
 have hnb5 := NB3_0.out
 have hnc5 := NB0_3.out
 have hcz2 := z5_ BK3
 have hnb6 := NB2_1.out
 have hnc6 := NB1_2.out
 have hnb7 := NB2_0.out
 have hnc7 := NB0_2.out
 have hcz3 := z5_ BK2
 try go_wp2
 go_roundg kj1
 case measure => have := HK1.out; have := HJ1.out; omega
 exact ⟨(wrap64 (x6_1 - 1)), (t19), (t20), (t21), (t22), (t23), (t24), (t25), (.slice Ao6 t23.length co6), (.slice Ao7 t24.length co7), b2ew_, H', ⟨by have := HK1.out; have := HJ1.out; omega⟩, ⟨by (with_reducible repeat (first | apply ra_ | apply rn_ | apply rd_)); exact Kd.R_mono (rf_ (rf_ (rf_ (rf_ (rf_ (rf_ (rf_ (rf_ (rf_ (rf_ (Kd.R_types (Kd.R_types HO4.out BK3.out bi3y_) BK2.out bi3y_) (fun _ hk => hk.1.2) (.int .i64 t21)) (fun _ hk => hk.1.2) (.bool t22)) (fun _ hk => hk.1.2) (.slice Ao6 t23.length co6)) (fun _ hk => hk.1.2) (.slice Ao7 t24.length co7)) (fun _ hk => hk.1.2) (.int .i64 t25)) k2_0 _) k2_0 _) k2_0 _) k2_0 _) k2_0 _) (fun _ hk => hk.1.1.1)⟩, ⟨by (with_reducible repeat (first | apply ra_ | apply rn_ | apply rd_)); exact Kd.R_mono (rf_ (rf_ (rf_ (rf_ (rf_ (rf_ (rf_ (rf_ (rf_ (rf_ (Kd.R_types (Kd.R_types HO5.out BK3.out bi3y_) BK2.out bi3y_) (fun _ hk => hk.1.2) (.int .i64 t21)) (fun _ hk => hk.1.2) (.bool t22)) (fun _ hk => hk.1.2) (.slice Ao6 t23.length co6)) (fun _ hk => hk.1.2) (.slice Ao7 t24.length co7)) (fun _ hk => hk.1.2) (.int .i64 t25)) k2_0 _) k2_0 _) k2_0 _) k2_0 _) k2_0 _) (fun _ hk => hk.1.1.1)⟩, ⟨u1_ BK1⟩, ⟨u1_ BK2⟩, ⟨bnex_⟩, ⟨bjzi_⟩, ⟨bypc_⟩⟩

def spec_DrawIsHouse_m.f (k : Nat) (s0_0 : List Int) (s0_1 : Int) (s0_2 : Int) : Option (Int × Bool × List Int × List Int × Int × Int × Int) := (spec_l1Cur_house.f k s0_0 s0_1 s0_2).bind fun bt595 => (some (bt595.1, bt595.2.1, bt595.2.2.1, bt595.2.2.2.1, bt595.2.2.2.2.1, bt595.2.2.2.2.2.1, bt595.2.2.2.2.2.2))
theorem spec_DrawIsHouse_m.mono : ∀ a0 a1 a2 k, LeO (spec_DrawIsHouse_m.f k a0 a1 a2) (spec_DrawIsHouse_m.f (k + 1) a0 a1 a2) := by
 intro a0 a1 a2 k
 unfold spec_DrawIsHouse_m.f
 repeat' with_reducible first | exact spec_l1Cur_house.mono .. | exact LeO.refl .. | exact LeO.none .. | refine LeO.ite ?_ ?_ | refine LeO.bind ?_ (fun _ => ?_)
def spec_DrawIsHouse.f (k : Nat) (l0 : List Int) : Option (Int × Bool × List Int × List Int × Int) := (spec_DrawIsHouse_m.f k l0 0 0).bind fun b => some (b.1, b.2.1, b.2.2.1, b.2.2.2.1, b.2.2.2.2.1)
theorem spec_DrawIsHouse.mono : ∀ a0 k, LeO (spec_DrawIsHouse.f k a0) (spec_DrawIsHouse.f (k + 1) a0) := by
 intro a0 k
 unfold spec_DrawIsHouse.f
 exact LeO.bind (spec_DrawIsHouse_m.mono _ _ _ _) (fun _ => LeO.refl _)
theorem spec_DrawIsHouse.calls (k : Nat) (A0 : Option Addr) (c0 : Nat) (l0 : List Int) (r1 : Int) (r2 : Bool) (r3 : List Int) (r4 : List Int) (r5 : Int) (w : World) (hr0 : Kd.C (Kd.int .u8) w A0 l0.length l0) (hc0 : l0.length ≤ c0) (h : spec_DrawIsHouse.f k l0 = some (r1, r2, r3, r4, r5)) :
  Calls Tryd.prog 50 #[.slice A0 l0.length c0] w fun e w' => ∃ v2_ v3_ : Value, e = .returned (.agg #[.int .i64 r1, .bool r2, v2_, v3_, .int .i64 r5]) ∧ Kd.R (Kd.int .i64) 3 w' w.heap.size (fun k_ => no_ v3_ k_) v2_ r3 ∧ Kd.R (Kd.int .i64) 3 w' w.heap.size (fun k_ => no_ v2_ k_) v3_ r4 ∧ Below w.heap.size w w' := by
 have hu95 := Tryd.underlying95
 have hu26 := Tryd.underlying26
 have HB := A0_ (Below.refl w.heap.size w)
 obtain ⟨⟨r1_, r2_, r3_, r4_, r5_, r6, r7⟩, h, h_⟩ := ob_.mp (show (spec_DrawIsHouse_m.f k l0 0 0).bind (fun b => some (b.1, b.2.1, b.2.2.1, b.2.2.2.1, b.2.2.2.2.1)) = some (r1, r2, r3, r4, r5) from h)
 replace h : spec_DrawIsHouse_m.f k l0 0 0 = some (r1, r2, r3, r4, r5, r6, r7) := by rw [h]; cases h_; rfl
 clear h_
 have H : ((spec_l1Cur_house.f k l0 0 0).bind fun bt1 => (some (bt1.1, bt1.2.1, bt1.2.2.1, bt1.2.2.2.1, bt1.2.2.2.2.1, bt1.2.2.2.2.2.1, bt1.2.2.2.2.2.2))) = some (r1, r2, r3, r4, r5, r6, r7) := h
 clear h
 obtain ⟨⟨t1, t2, t3, t4, t5, t6, t7⟩, A2, H⟩ := o1_ H
 replace H : (some (t1, t2, t3, t4, t5, t6, t7)) = some (r1, r2, r3, r4, r5, r6, r7) := H
 simp only [sj_, pj_] at H
 obtain ⟨rfl, rfl, rfl, rfl, rfl, rfl, rfl⟩ := H
 go_enter Tryd.func50, Tryd.ntmps50
 go_wp2_with (first | ((with_reducible refine gd_ (N := 2) rfl ?_); refine bx_ 2 #[.int .i64 0, .bool false, .slice none 0 0, .slice none 0 0, .int .i64 0] 26 ?_; intro gb1 hg w1 hbox hb; have n2_ := A0_ (bt_ brt4_ hb); have n3_ := hbox; have n4_ := A0_ ((bwen_ : w.heap.size ≤ gb1)); clear HB; have HB := n2_; have BK1 := n3_; have GW1 := n4_; have GE1 := n4_; clear n2_ n3_ n4_ hb hbox hg) | ((with_reducible refine gd_ (N := 6) rfl ?_); refine be_ ?hg (N := 6) ?hd (cs := #[.slice A0 l0.length c0, .int .i64 0, .int .u64 0]) (t := 95) ?hr ?_; (case hd => rfl); (case hg => rfl); (case hr => go_simp; first | done | rfl); intro g hg wB hbox hb; have n0_ := A0_ (show IsS95 w wB g l0 0 0 from ⟨A0, c0, hbox, bwen_, hr0⟩); have n1_ := A0_ (KeepBut.refl wB g none); have n2_ := A0_ (bt_ brt4_ hb); have HW0 := A0_ (Below.size n2_.out); have m594_ := A0_ (kb_ (g := gb1) (o := .cells #[.int .i64 0, .bool false, .slice none 0 0, .slice none 0 0, .int .i64 0] 26 (0, 0)) (u1_ BK1) hb); have NB0_1 := A0_ ((by rw [hg]; exact Nat.ne_of_gt (blk_lt (g := gb1) (o := .cells #[.int .i64 0, .bool false, .slice none 0 0, .slice none 0 0, .int .i64 0] 26 (0, 0)) (u1_ BK1)) : g ≠ gb1)); have NB1_0 := A0_ (Ne.symm NB0_1.out); clear HB BK1; have HI0 := n0_; have HK := n1_; have HB := n2_; have BK1 := m594_; clear m594_ n0_ n1_ n2_ hb hbox hg) | ((with_reducible refine gc_ (f := 77) rfl ?_); refine gl_ 8 Tryd.func77 #[.pointer (some ⟨g, 0, none⟩)] ?_; (with_reducible refine (spec_l1Cur_house.calls k g l0 0 0 t1 t2 t3 t4 t5 t6 t7 w _ ?side1 ?side2 A2.out).mono ?_); (case side1 => exact bn4t_); (case side2 => exact bnur_); rintro e w2 ⟨v1, v4, rfl, ho0, ho1, hi, hb, hk⟩; refine ⟨_, rfl, ?_⟩; replace BK1 := kb1_ BK1 hk NB1_0; have HO1 := A0_ (Kd.R_lower ho0 (keep_size (w := wB) (g := g) (row := none) bcka_)); have HO2 := A0_ (Kd.R_lower ho1 (keep_size (w := wB) (g := g) (row := none) bcka_)); replace HK := A0_ (KeepBut.trans bcka_ hk (.inl rfl)); replace HB := A0_ (hb); replace HI0 := A0_ (hi); (try clear hb); (try clear hk); (try clear hi); (try clear ho0); (try clear ho1); have hnb1 := NB1_0.out; have hnc1 := NB0_1.out; have hcz1 := z5_ BK1; obtain ⟨Ao1, co1, eo1⟩ := Kd.R_slice HO1.out; subst eo1; obtain ⟨Ao2, co2, eo2⟩ := Kd.R_slice HO2.out; subst eo2))
 refine bodyPost_ret (results_cell_row rfl _ _ gb1 26 #[.int .i64 t1, .bool t2, .slice Ao1 t3.length co1, .slice Ao2 t4.length co2, .int .i64 t5] (0, 0) _ rfl (u1_ BK1) Tryd.underlying26 rfl bfqv_) rfl ?_
 exact ⟨_, _, bnwh_, by (with_reducible repeat (first | apply ra_ | apply rn_ | apply rd_)); exact Kd.R_lower (Kd.R_mono (rf_ (rf_ (rf_ (rf_ (rf_ (Kd.R_types HO1.out BK1.out bi3y_) k2_0 _) k2_0 _) k2_0 _) k2_0 _) k2_0 _) (fun _ hk => hk.1)) HW0.out, by (with_reducible repeat (first | apply ra_ | apply rn_ | apply rd_)); exact Kd.R_lower (Kd.R_mono (rf_ (rf_ (rf_ (rf_ (rf_ (Kd.R_types HO2.out BK1.out bi3y_) k2_0 _) k2_0 _) k2_0 _) k2_0 _) k2_0 _) (fun _ hk => hk.1)) HW0.out, bnur_⟩


def spec_DrawGuestOrder.f (k : Nat) (l0 : List Int) : Option (Int × Bool × List Int × List Int × Int) := (spec_DrawIsHouse.f k l0).bind fun bt595 => (some (bt595.1, bt595.2.1, bt595.2.2.1, bt595.2.2.2.1, bt595.2.2.2.2))
theorem spec_DrawGuestOrder.mono : ∀ a0 k, LeO (spec_DrawGuestOrder.f k a0) (spec_DrawGuestOrder.f (k + 1) a0) := by
 intro a0 k
 unfold spec_DrawGuestOrder.f
 repeat' with_reducible first | exact spec_DrawIsHouse.mono .. | exact LeO.refl .. | exact LeO.none .. | refine LeO.ite ?_ ?_ | refine LeO.bind ?_ (fun _ => ?_)
theorem spec_DrawGuestOrder.calls (k : Nat) (A0 : Option Addr) (c0 : Nat) (l0 : List Int) (r1 : Int) (r2 : Bool) (r3 : List Int) (r4 : List Int) (r5 : Int) (w : World) (hr0 : Kd.C (Kd.int .u8) w A0 l0.length l0) (hc0 : l0.length ≤ c0) (h : spec_DrawGuestOrder.f k l0 = some (r1, r2, r3, r4, r5)) :
  Calls Tryd.prog 23 #[.slice A0 l0.length c0] w fun e w' => ∃ v2_ v3_ : Value, e = .returned (.agg #[.int .i64 r1, .bool r2, v2_, v3_, .int .i64 r5]) ∧ Kd.R (Kd.int .i64) 3 w' w.heap.size (fun k_ => no_ v3_ k_) v2_ r3 ∧ Kd.R (Kd.int .i64) 3 w' w.heap.size (fun k_ => no_ v2_ k_) v3_ r4 ∧ Below w.heap.size w w' := by
 have hu26 := Tryd.underlying26
 have HR0 := A0_ hr0
 have HC0 := A0_ hc0
 clear hr0 hc0
 have HB := A0_ (Below.refl w.heap.size w)
 have H : ((spec_DrawIsHouse.f k l0).bind fun bt1 => (some (bt1.1, bt1.2.1, bt1.2.2.1, bt1.2.2.2.1, bt1.2.2.2.2))) = some (r1, r2, r3, r4, r5) := h
 clear h
 obtain ⟨⟨t1, t2, t3, t4, t5⟩, A2, H⟩ := o1_ H
 replace H : (some (t1, t2, t3, t4, t5)) = some (r1, r2, r3, r4, r5) := H
 simp only [sj_, pj_] at H
 obtain ⟨rfl, rfl, rfl, rfl, rfl⟩ := H
 go_enter Tryd.func23, Tryd.ntmps23
 go_wp2_with (first | ((with_reducible refine gd_ (N := 2) rfl ?_); refine bx_ 2 #[.int .i64 0, .bool false, .slice none 0 0, .slice none 0 0, .int .i64 0] 26 ?_; intro gb1 hg w1 BK1 hb; have GW1 := ge_ hg brt4_; have GE1 := GW1; replace HB := hb_ hb brt4_; clear hb hg) | ((with_reducible refine gc_ (f := 50) rfl ?_); refine gl_ 4 Tryd.func50 #[.slice A0 l0.length c0] ?_; (with_reducible refine (spec_DrawIsHouse.calls k _ _ l0 t1 t2 t3 t4 t5 _ ?side1 ?side2 A2.out).mono ?_); (case side1 => exact bg0z_); (case side2 => exact HC0.out); rintro e w2 ⟨v1, v4, rfl, ho0, ho1, hb⟩; refine ⟨_, rfl, ?_⟩; have HO1 := A0_ (Kd.R_lower ho0 (bz_ be6g_)); have HO2 := A0_ (Kd.R_lower ho1 (bz_ be6g_)); replace BK1 := k1_ BK1 hb; replace HB := hb_ hb be6g_; (try clear hb); (try clear ho0); (try clear ho1); have hcz1 := z5_ BK1; obtain ⟨Ao1, co1, eo1⟩ := Kd.R_slice HO1.out; subst eo1; obtain ⟨Ao2, co2, eo2⟩ := Kd.R_slice HO2.out; subst eo2))
 refine bodyPost_ret (results_cell_row rfl _ _ gb1 26 #[.int .i64 t1, .bool t2, .slice Ao1 t3.length co1, .slice Ao2 t4.length co2, .int .i64 t5] (0, 0) _ rfl (u1_ BK1) Tryd.underlying26 rfl bfqv_) rfl ?_
 exact ⟨_, _, bnwh_, b69g_, b2f0_, be6g_⟩

def slices_Index_int_int.l0 : Nat → List Int → Int → Int → Int → Option (Int)
 | 0, _, _, _, _ => none
 | k + 1, x0, x1, x7, x8 => if x8 < x7 then (if 0 ≤ x8 then (if x8 < (x0.length : Int) then (if x1 = (rd x0 x8) then (some x8) else (slices_Index_int_int.l0 k x0 x1 x7 (wrap64 (x8 + 1)))) else (none)) else (none)) else (some (-1))
def slices_Index_int_int.f (k : Nat) (l0 : List Int) (a1 : Int) : Option (Int) := slices_Index_int_int.l0 k l0 a1 (l0.length : Int) 0
theorem slices_Index_int_int.mono_l : ∀ k, (∀ y0 y1 y2 y3, LeO (slices_Index_int_int.l0 k y0 y1 y2 y3) (slices_Index_int_int.l0 (k + 1) y0 y1 y2 y3))
 | 0 => fun _ _ _ _ r h => by simp [slices_Index_int_int.l0] at h
 | k + 1 => by
  have ih0 := slices_Index_int_int.mono_l k
  ·intro y0 y1 y2 y3
   unfold slices_Index_int_int.l0
   repeat' with_reducible first | exact ih0 .. | exact LeO.refl .. | exact LeO.none .. | refine LeO.ite ?_ ?_ | refine LeO.bind ?_ (fun _ => ?_)
theorem slices_Index_int_int.mono : ∀ a0 a1 k, LeO (slices_Index_int_int.f k a0 a1) (slices_Index_int_int.f (k + 1) a0 a1) := by
 intro a0 a1 k
 have ih0 := slices_Index_int_int.mono_l k
 unfold slices_Index_int_int.f
 repeat' with_reducible first | exact ih0 .. | exact LeO.refl .. | exact LeO.none .. | refine LeO.ite ?_ ?_ | refine LeO.bind ?_ (fun _ => ?_)
theorem slices_Index_int_int.calls (k : Nat) (A0 : Option Addr) (c0 : Nat) (l0 : List Int) (a1 : Int) (r : Int) (w : World) (hr0 : Kd.C (Kd.int .i64) w A0 l0.length l0) (hc0 : l0.length ≤ c0) (h : slices_Index_int_int.f k l0 a1 = some r) :
  Calls Tryd.prog 51 #[.slice A0 l0.length c0, .int .i64 a1] w fun e w' => e = .returned (.int .i64 r) ∧ Drawn0 w w' := by
 have HR0 := A0_ hr0
 have HC0 := A0_ hc0
 clear hr0 hc0
 have H : (slices_Index_int_int.l0 k l0 a1 (l0.length : Int) 0) = some r := h
 clear h
 have H' := A0_ H
 clear H
 go_enter Tryd.func51, Tryd.ntmps51
 go_wp2
 go_loopg [8] k (fun kq v1 w' => ∃ (x8_1 : Int), v1 = .int .i64 x8_1 ∧ Aside0 (slices_Index_int_int.l0 kq l0 a1 (l0.length : Int) x8_1 = some r) ∧ Aside0 (kq ≤ k) ∧ Drawn0 w w')
 case atStart => exact ⟨(0), b2ew_, H', ⟨Nat.le_refl _⟩, boaj_⟩
 clear H'
 obtain ⟨x8_1, rfl, HA, HK1, ⟨m1, rfl⟩⟩ := hrel
 cases gk with | zero => exact absurd HA.out (by simp [slices_Index_int_int.l0]) | succ k1 => ?_
 have H := HA.out
 clear HA
 simp only [slices_Index_int_int.l0] at H
 by_cases c1 : x8_1 < (l0.length : Int)
 case neg =>
  rw [if_neg c1] at H
  have c1b0 : decide (x8_1 < (l0.length : Int)) = false := decide_eq_false c1
  clear c1
  obtain rfl := si_ H
  go_wp2
  go_ret
  exact ⟨b04z_, boaj_⟩
 rw [if_pos c1] at H
 have c1b0 : decide (x8_1 < (l0.length : Int)) = true := dt_ c1
 clear c1
 by_cases c2 : 0 ≤ x8_1
 case neg =>
  rw [if_neg c2] at H
  exact absurd H bxka_
 rw [if_pos c2] at H
 have c2b0 : decide (0 ≤ x8_1) = true := dt_ c2
 clear c2
 by_cases c3 : x8_1 < (l0.length : Int)
 case neg =>
  rw [if_neg c3] at H
  exact absurd H bxka_
 rw [if_pos c3] at H
 have c3b0 : decide (x8_1 < (l0.length : Int)) = true := dt_ c3
 clear c3
 by_cases c4 : a1 = (rd l0 x8_1)
 ·rw [if_pos c4] at H
  obtain ⟨c4b0, c4b1⟩ := et_ c4
  clear c4
  obtain rfl := si_ H
  have p1 : 0 ≤ (x8_1 : Int) := od_ bpil_
  have q1 : x8_1 < (l0.length : Int) := od_ bpil_
  obtain ⟨ad1, e1, hx1_0⟩ := Kd.at_int HR0.out x8_1 p1 q1
  cases e1
  replace p1 := eq_true p1
  replace q1 := eq_true q1
  go_wp2
  go_ret
  exact ⟨b04z_, boaj_⟩
 rw [if_neg c4] at H
 obtain ⟨c4b0, c4b1⟩ := ef_ c4
 have H' := A0_ H
 clear H
 have p1 : 0 ≤ (x8_1 : Int) := od_ bpil_
 have q1 : x8_1 < (l0.length : Int) := od_ bpil_
 obtain ⟨ad1, e1, hx1_0⟩ := Kd.at_int HR0.out x8_1 p1 q1
 cases e1
 replace p1 := eq_true p1
 replace q1 := eq_true q1
 go_wp2
 go_roundg k1
 case measure => have := HK1.out; omega
 exact ⟨(wrap64 (x8_1 + 1)), b2ew_, H', ⟨bxjq_⟩, boaj_⟩

def impl_GuestOrder.l0 : Nat → List Int → List Int → Int → Int → Int → Bool → List Int → List Int → Int → Option (List Int × Bool)
 | 0, _, _, _, _, _, _, _, _, _ => none
 | k + 1, x4, x13, x14, x15, x606000, x606001, x606002, x606003, x606004 => if x15 < x14 then (if 0 ≤ x15 then (if x15 < (x13.length : Int) then ((slices_Index_int_int.f k x606003 (rd x13 x15)).bind fun t611 => (if x4.length < 17592186044416 then (impl_GuestOrder.l0 k (x4 ++ [t611]) x13 x14 (wrap64 (x15 + 1)) x606000 x606001 x606002 x606003 x606004) else (none))) else (none)) else (none)) else (some (x4, true))
def impl_GuestOrder.f (k : Nat) (a0_0 : Int) (a0_1 : Bool) (l0_2 : List Int) (l0_3 : List Int) (a0_4 : Int) : Option (List Int × Bool) := (impl_IsHouse.f k a0_0 a0_1 l0_2 l0_3 a0_4).bind fun t606 => (if t606 = true then (impl_GuestOrder.l0 k (([] : List Int)) l0_2 (l0_2.length : Int) 0 a0_0 a0_1 l0_2 l0_3 a0_4) else (some (([] : List Int), false)))
theorem impl_GuestOrder.mono_l : ∀ k, (∀ y0 y1 y2 y3 y4 y5 y6 y7 y8, LeO (impl_GuestOrder.l0 k y0 y1 y2 y3 y4 y5 y6 y7 y8) (impl_GuestOrder.l0 (k + 1) y0 y1 y2 y3 y4 y5 y6 y7 y8))
 | 0 => fun _ _ _ _ _ _ _ _ _ r h => by simp [impl_GuestOrder.l0] at h
 | k + 1 => by
  have ih0 := impl_GuestOrder.mono_l k
  ·intro y0 y1 y2 y3 y4 y5 y6 y7 y8
   unfold impl_GuestOrder.l0
   repeat' with_reducible first | exact ih0 .. | exact impl_IsHouse.mono .. | exact slices_Index_int_int.mono .. | exact LeO.refl .. | exact LeO.none .. | refine LeO.ite ?_ ?_ | refine LeO.bind ?_ (fun _ => ?_)
theorem impl_GuestOrder.mono : ∀ a0 a1 a2 a3 a4 k, LeO (impl_GuestOrder.f k a0 a1 a2 a3 a4) (impl_GuestOrder.f (k + 1) a0 a1 a2 a3 a4) := by
 intro a0 a1 a2 a3 a4 k
 have ih0 := impl_GuestOrder.mono_l k
 unfold impl_GuestOrder.f
 repeat' with_reducible first | exact ih0 .. | exact impl_IsHouse.mono .. | exact slices_Index_int_int.mono .. | exact LeO.refl .. | exact LeO.none .. | refine LeO.ite ?_ ?_ | refine LeO.bind ?_ (fun _ => ?_)
theorem impl_GuestOrder.calls (k : Nat) (a0_0 : Int) (a0_1 : Bool) (A0_2 : Option Addr) (c0_2 : Nat) (l0_2 : List Int) (A0_3 : Option Addr) (c0_3 : Nat) (l0_3 : List Int) (a0_4 : Int) (r1 : List Int) (r2 : Bool) (w : World) (hr0_2 : Kd.C (Kd.int .i64) w A0_2 l0_2.length l0_2) (hc0_2 : l0_2.length ≤ c0_2) (hr0_3 : Kd.C (Kd.int .i64) w A0_3 l0_3.length l0_3) (hc0_3 : l0_3.length ≤ c0_3) (h : impl_GuestOrder.f k a0_0 a0_1 l0_2 l0_3 a0_4 = some (r1, r2)) :
  Calls Tryd.prog 24 #[.agg #[.int .i64 a0_0, .bool a0_1, .slice A0_2 l0_2.length c0_2, .slice A0_3 l0_3.length c0_3, .int .i64 a0_4]] w fun e w' => ∃ v0_ : Value, e = .returned (.tuple #[v0_, .bool r2]) ∧ Kd.R (Kd.int .i64) 3 w' w.heap.size (fun _ => True) v0_ r1 ∧ Below w.heap.size w w' := by
 have hu26 := Tryd.underlying26
 have HR0_2 := A0_ hr0_2
 have HC0_2 := A0_ hc0_2
 clear hr0_2 hc0_2
 have HR0_3 := A0_ hr0_3
 have HC0_3 := A0_ hc0_3
 clear hr0_3 hc0_3
 have HB := A0_ (Below.refl w.heap.size w)
 have H : ((impl_IsHouse.f k a0_0 a0_1 l0_2 l0_3 a0_4).bind fun t1 => (if t1 = true then (impl_GuestOrder.l0 k (([] : List Int)) l0_2 (l0_2.length : Int) 0 a0_0 a0_1 l0_2 l0_3 a0_4) else (some (([] : List Int), false)))) = some (r1, r2) := h
 clear h
 obtain ⟨t1, A2, H⟩ := o1_ H
 by_cases c1 : t1 = true
 case neg =>
  obtain rfl := bf_.mpr c1
  rw [if_neg ft_] at H
  simp only [sj_, pj_] at H
  obtain ⟨rfl, rfl⟩ := H
  go_enter Tryd.func24, Tryd.ntmps24
  go_wp2_with (first | ((with_reducible refine gd_ (N := 1) rfl ?_); refine bx_ 1 #[.int .i64 a0_0, .bool a0_1, .slice A0_2 l0_2.length c0_2, .slice A0_3 l0_3.length c0_3, .int .i64 a0_4] 26 ?_; intro gb1 hg w1 BK1 hb; have GW1 := ge_ hg brt4_; have GE1 := GW1; replace HB := hb_ hb brt4_; clear hb hg; have hcz1 := c5_ BK1) | ((with_reducible refine gc_ (f := 43) rfl ?_); refine gl_ 8 Tryd.func43 #[.agg #[.int .i64 a0_0, .bool a0_1, .slice A0_2 l0_2.length c0_2, .slice A0_3 l0_3.length c0_3, .int .i64 a0_4]] ?_; (with_reducible refine (impl_IsHouse.calls k a0_0 a0_1 _ _ l0_2 _ _ l0_3 a0_4 false _ ?side1 ?side2 ?side3 ?side4 A2.out).mono ?_); (case side1 => exact b6n8_); (case side2 => exact HC0_2.out); (case side3 => exact bkan_); (case side4 => exact HC0_3.out); rintro e w2 ⟨rfl, hb⟩; refine ⟨_, rfl, ?_⟩; replace BK1 := k1_ BK1 hb; replace HB := hb_ hb be6g_; (try clear hb)))
  go_ret2
  exact ⟨_, bnwh_, bwfe_, be6g_⟩
 subst c1
 rw [if_pos rfl] at H
 obtain ⟨y1, hy1⟩ : ∃ y_ : List Int, y_ = (([] : List Int)) := ⟨_, rfl⟩
 replace H : (impl_GuestOrder.l0 k y1 l0_2 (l0_2.length : Int) 0 a0_0 a0_1 l0_2 l0_3 a0_4) = some (r1, r2) := bgiq_
 have Ny1 := A0_ hy1
 clear hy1
 have H' := A0_ H
 clear H
 go_enter Tryd.func24, Tryd.ntmps24
 go_wp2_with (first | ((with_reducible refine gd_ (N := 1) rfl ?_); refine bx_ 1 #[.int .i64 a0_0, .bool a0_1, .slice A0_2 l0_2.length c0_2, .slice A0_3 l0_3.length c0_3, .int .i64 a0_4] 26 ?_; intro gb1 hg w1 BK1 hb; have GW1 := ge_ hg brt4_; have GE1 := GW1; replace HB := hb_ hb brt4_; clear hb hg; have hcz1 := c5_ BK1) | ((with_reducible refine gc_ (f := 43) rfl ?_); refine gl_ 8 Tryd.func43 #[.agg #[.int .i64 a0_0, .bool a0_1, .slice A0_2 l0_2.length c0_2, .slice A0_3 l0_3.length c0_3, .int .i64 a0_4]] ?_; (with_reducible refine (impl_IsHouse.calls k a0_0 a0_1 _ _ l0_2 _ _ l0_3 a0_4 true _ ?side1 ?side2 ?side3 ?side4 A2.out).mono ?_); (case side1 => exact b6n8_); (case side2 => exact HC0_2.out); (case side3 => exact bkan_); (case side4 => exact HC0_3.out); rintro e w2 ⟨rfl, hb⟩; refine ⟨_, rfl, ?_⟩; replace BK1 := k1_ BK1 hb; replace HB := hb_ hb be6g_; (try clear hb)) | ((with_reducible refine gd_ (N := 10) rfl ?_); refine Kd.R_lit (Kd.int .i64) _ 3 ?hg (N := 10) ?hd (xs := ([] : List Int)) (inner := []) (ok := fun _ => True) (okp := fun _ => True) ?hr ?hp (fun _ hk => hk) trivial (Below.refl _ _) (Nat.le_refl _) bxka_ ?_; (case hd => rfl); (case hg => rfl); (case hr => go_simp; first | done | rfl); (case hp => exact (Reps.none _ _)); intro v1 w3 ho8 hb hg_ hnew_; clear hg_ hnew_; (first | rw [← Ny1.out] at ho8 | (simp only [Int.reduceToNat] at ho8; rw [← Ny1.out] at ho8)); have HO1 := A0_ (Kd.R_lower ho8 (bz_ be6g_)); replace BK1 := k1_ BK1 hb; replace HB := hb_ hb be6g_; clear hb ho8; have hcz2 := c5_ BK1))
 go_loopg [4, 15] k (fun kq v2 v3 w' => ∃ (x4_1 : List Int) (x15_1 : Int), v3 = .int .i64 x15_1 ∧ Aside0 (impl_GuestOrder.l0 kq x4_1 l0_2 (l0_2.length : Int) x15_1 a0_0 a0_1 l0_2 l0_3 a0_4 = some (r1, r2)) ∧ Aside0 (kq ≤ k) ∧ Aside0 (Kd.R (Kd.int .i64) 3 w' w.heap.size (fun _ => True) v2 x4_1) ∧ Aside0 (w'.heap[gb1]? = some (.cells #[.int .i64 a0_0, .bool a0_1, (.slice A0_2 l0_2.length c0_2), (.slice A0_3 l0_3.length c0_3), .int .i64 a0_4] 26 (0, 0))) ∧ Aside0 (Below w.heap.size w w'))
 case atStart => exact ⟨(y1), (0), b2ew_, H', ⟨Nat.le_refl _⟩, ⟨bsm5_⟩, ⟨u1_ BK1⟩, ⟨be6g_⟩⟩
 clear H'
 try clear c1
 (try clear hcz1); (try clear hcz2)
 obtain ⟨x4_1, x15_1, rfl, HA, HK1, HO_1, BK1, HB⟩ := hrel
 cases gk with | zero => exact absurd HA.out (by simp [impl_GuestOrder.l0]) | succ k1 => ?_
 have H := HA.out
 clear HA
 simp only [impl_GuestOrder.l0] at H
 by_cases c2 : x15_1 < (l0_2.length : Int)
 case neg =>
  rw [if_neg c2] at H
  have c2b0 : decide (x15_1 < (l0_2.length : Int)) = false := decide_eq_false c2
  clear c2
  simp only [sj_, pj_] at H
  obtain ⟨rfl, rfl⟩ := H
  go_wp2
  go_ret2
  exact ⟨_, bnwh_, bwik_, be6g_⟩
 rw [if_pos c2] at H
 have c2b0 : decide (x15_1 < (l0_2.length : Int)) = true := dt_ c2
 clear c2
 by_cases c3 : 0 ≤ x15_1
 case neg =>
  rw [if_neg c3] at H
  exact absurd H bxka_
 rw [if_pos c3] at H
 have c3b0 : decide (0 ≤ x15_1) = true := dt_ c3
 clear c3
 by_cases c4 : x15_1 < (l0_2.length : Int)
 case neg =>
  rw [if_neg c4] at H
  exact absurd H bxka_
 rw [if_pos c4] at H
 have c4b0 : decide (x15_1 < (l0_2.length : Int)) = true := dt_ c4
 clear c4
 obtain ⟨t2, A4, H⟩ := o1_ H
 by_cases c5 : x4_1.length < 17592186044416
 case neg =>
  rw [if_neg c5] at H
  exact absurd H bxka_
 rw [if_pos c5] at H
 have LMc1 := A0_ c5
 clear c5
 obtain ⟨y2, hy2⟩ : ∃ y_ : List Int, y_ = (x4_1 ++ [t2]) := ⟨_, rfl⟩
 replace H : (impl_GuestOrder.l0 k1 y2 l0_2 (l0_2.length : Int) (wrap64 (x15_1 + 1)) a0_0 a0_1 l0_2 l0_3 a0_4) = some (r1, r2) := bscs_
 have Ny2 := A0_ hy2
 clear hy2
 have H' := A0_ H
 clear H
 have p1 : 0 ≤ (x15_1 : Int) := od_ bpil_
 have q1 : x15_1 < (l0_2.length : Int) := od_ bpil_
 obtain ⟨ad1, e1, hx1_0⟩ := Kd.at_int HR0_2.out x15_1 p1 q1
 cases e1
 replace hx1_0 := (HB.out.cell (World.block_lt_of_cell? w _ hx1_0)).trans hx1_0
 replace p1 := eq_true p1
 replace q1 := eq_true q1
 have hcz3 := c5_ BK1
 go_wp2_with (first | ((with_reducible refine gc_ (f := 51) rfl ?_); refine gl_ 23 Tryd.func51 #[.slice A0_3 l0_3.length c0_3, .int .i64 (rd l0_2 x15_1)] ?_; (with_reducible refine (slices_Index_int_int.calls k1 _ _ l0_3 (rd l0_2 x15_1) t2 _ ?side1 ?side2 A4.out).mono ?_); (case side1 => exact bkan_); (case side2 => exact HC0_3.out); rintro e w' ⟨rfl, ⟨nd, rfl⟩⟩; refine ⟨_, rfl, ?_⟩) | ((with_reducible refine gate_builtin (b := .append) (xs := #[.tmp 19, .tmp 24]) rfl ?_); at_builtin; refine Kd.R_append (Kd.int .i64) (w0 := w) w.heap.size rfl (.tmp 19) (.tmp 24) 22 3 (.int .i64 0) 8 rfl Tryd.underlying22 info3 rfl bi3y_ bh19_ u4 x4_1 t2 [.int .i64 t2] (fun _ => True) (fun _ => False) rfl rfl ?aP (fun _ hk => hk.elim) ?aF ?aO ?aB ?aS ?aL ?_; (case aP => exact rfl); (case aB => exact be6g_); (case aF => exact (fun _ _ => trivial)); (case aO => exact bwik_); (case aS => exact (bz_ be6g_)); (case aL => have := LMc1.out; omega); intro v4 w4 ho hb hg hat; rw [← Ny2.out] at ho; have n0_ := A0_ (blk_grown (g := gb1) (o := .cells #[.int .i64 a0_0, .bool a0_1, .slice (some ad1) l0_2.length c0_2, .slice A0_3 l0_3.length c0_3, .int .i64 a0_4] 26 (0, 0)) (u1_ BK1) hg (Kd.R_ne HO_1.out BK1.out bi3y_)); have n1_ := A0_ (hb); have n2_ := A0_ (ho); clear BK1 HB HO_1; have BK1 := n0_; have HB := n1_; have HO2 := n2_; clear n0_ n1_ n2_ ho hb hg hat))
 go_roundg k1
 case measure => have := HK1.out; omega
 exact ⟨(y2), (wrap64 (x15_1 + 1)), b2ew_, H', ⟨bxjq_⟩, ⟨b9so_⟩, ⟨u1_ BK1⟩, ⟨be6g_⟩⟩

def spec_GuestOrder.l0 : Nat → List Int → Int → Int → Bool → List Int → List Int → Int → Option (List Int × Bool)
 | 0, _, _, _, _, _, _, _ => none
 | k + 1, x4, x5, x616000, x616001, x616002, x616003, x616004 => if x5 < (x616002.length : Int) then (if 0 ≤ x5 then ((spec_l12Place.f k x616003 (rd x616002 x5)).bind fun t621 => (if x4.length < 17592186044416 then (spec_GuestOrder.l0 k (x4 ++ [t621]) (wrap64 (x5 + 1)) x616000 x616001 x616002 x616003 x616004) else (none))) else (none)) else (some (x4, true))
def spec_GuestOrder.f (k : Nat) (a0_0 : Int) (a0_1 : Bool) (l0_2 : List Int) (l0_3 : List Int) (a0_4 : Int) : Option (List Int × Bool) := (some (([] : List Int) : List Int)).bind fun y616 => ((spec_l12Good.f k a0_0 a0_1 l0_2 l0_3 a0_4).bind fun t619 => (if t619 = true then (spec_GuestOrder.l0 k y616 0 a0_0 a0_1 l0_2 l0_3 a0_4) else (some (y616, false))))
theorem spec_GuestOrder.mono_l : ∀ k, (∀ y0 y1 y2 y3 y4 y5 y6, LeO (spec_GuestOrder.l0 k y0 y1 y2 y3 y4 y5 y6) (spec_GuestOrder.l0 (k + 1) y0 y1 y2 y3 y4 y5 y6))
 | 0 => fun _ _ _ _ _ _ _ r h => by simp [spec_GuestOrder.l0] at h
 | k + 1 => by
  have ih0 := spec_GuestOrder.mono_l k
  ·intro y0 y1 y2 y3 y4 y5 y6
   unfold spec_GuestOrder.l0
   repeat' with_reducible first | exact ih0 .. | exact spec_l12Good.mono .. | exact spec_l12Place.mono .. | exact LeO.refl .. | exact LeO.none .. | refine LeO.ite ?_ ?_ | refine LeO.bind ?_ (fun _ => ?_)
theorem spec_GuestOrder.mono : ∀ a0 a1 a2 a3 a4 k, LeO (spec_GuestOrder.f k a0 a1 a2 a3 a4) (spec_GuestOrder.f (k + 1) a0 a1 a2 a3 a4) := by
 intro a0 a1 a2 a3 a4 k
 have ih0 := spec_GuestOrder.mono_l k
 unfold spec_GuestOrder.f
 repeat' with_reducible first | exact ih0 .. | exact spec_l12Good.mono .. | exact spec_l12Place.mono .. | exact LeO.refl .. | exact LeO.none .. | refine LeO.ite ?_ ?_ | refine LeO.bind ?_ (fun _ => ?_)
def spec_GuestOrder.T7 : Bool × List (List Nat × List Nat) := (true, [([], []), ([], []), ([1], [1]), ([], []), ([3], [3]), ([4], [4]), ([], []), ([5, 6], [5, 6]), ([7], [7]), ([2, 8], [2, 8]), ([9], [9]), ([0, 10, 9], [0, 10]), ([11, 11, 0, 1, 2, 3, 4, 5, 6, 7, 8, 9, 10, 11], [0, 11])])
def spec_GuestOrder.B7 : List Nat := [0, 0, 2, 0, 8, 24, 0, 120, 248, 510, 1022, 2047, 4095]
theorem spec_GuestOrder.tab7 : rtab .any (opsOf Tryd.f25 7) = spec_GuestOrder.T7 := by kernel_rfl
theorem spec_GuestOrder.bits7 : waitsOk spec_GuestOrder.T7.2 spec_GuestOrder.B7 = true := by kernel_rfl
theorem spec_GuestOrder.calls (k : Nat) (a0_0 : Int) (a0_1 : Bool) (A0_2 : Option Addr) (c0_2 : Nat) (l0_2 : List Int) (A0_3 : Option Addr) (c0_3 : Nat) (l0_3 : List Int) (a0_4 : Int) (r1 : List Int) (r2 : Bool) (w : World) (hr0_2 : Kd.C (Kd.int .i64) w A0_2 l0_2.length l0_2) (hc0_2 : l0_2.length ≤ c0_2) (hr0_3 : Kd.C (Kd.int .i64) w A0_3 l0_3.length l0_3) (hc0_3 : l0_3.length ≤ c0_3) (h : spec_GuestOrder.f k a0_0 a0_1 l0_2 l0_3 a0_4 = some (r1, r2)) :
  Calls Tryd.prog 25 #[.agg #[.int .i64 a0_0, .bool a0_1, .slice A0_2 l0_2.length c0_2, .slice A0_3 l0_3.length c0_3, .int .i64 a0_4]] w fun e w' => ∃ v0_ : Value, e = .returned (.tuple #[v0_, .bool r2]) ∧ Kd.R (Kd.int .i64) 3 w' w.heap.size (fun _ => True) v0_ r1 ∧ Below w.heap.size w w' := by
 have hu26 := Tryd.underlying26
 have HR0_2 := A0_ hr0_2
 have HC0_2 := A0_ hc0_2
 clear hr0_2 hc0_2
 have HR0_3 := A0_ hr0_3
 have HC0_3 := A0_ hc0_3
 clear hr0_3 hc0_3
 have HB := A0_ (Below.refl w.heap.size w)
 have H : ((some (([] : List Int) : List Int)).bind fun y1 => ((spec_l12Good.f k a0_0 a0_1 l0_2 l0_3 a0_4).bind fun t1 => (if t1 = true then (spec_GuestOrder.l0 k y1 0 a0_0 a0_1 l0_2 l0_3 a0_4) else (some (y1, false))))) = some (r1, r2) := h
 clear h
 obtain ⟨y1, hy1⟩ : ∃ y_ : List Int, y_ = (([] : List Int)) := ⟨_, rfl⟩
 replace H : ((spec_l12Good.f k a0_0 a0_1 l0_2 l0_3 a0_4).bind fun t1 => (if t1 = true then (spec_GuestOrder.l0 k y1 0 a0_0 a0_1 l0_2 l0_3 a0_4) else (some (y1, false)))) = some (r1, r2) := bgiq_
 have Ny1 := A0_ hy1
 clear hy1
 obtain ⟨t1, A2, H⟩ := o1_ H
 by_cases c1 : t1 = true
 case neg =>
  obtain rfl := bf_.mpr c1
  rw [if_neg ft_] at H
  simp only [sj_, pj_] at H
  obtain ⟨rfl, rfl⟩ := H
  go_enter Tryd.func25, Tryd.ntmps25
  go_wp2_with (first | ((with_reducible refine gd_ (N := 1) rfl ?_); refine bx_ 1 #[.int .i64 a0_0, .bool a0_1, .slice A0_2 l0_2.length c0_2, .slice A0_3 l0_3.length c0_3, .int .i64 a0_4] 26 ?_; intro gb1 hg w1 BK1 hb; have GW1 := ge_ hg brt4_; have GE1 := GW1; replace HB := hb_ hb brt4_; clear hb hg) | ((with_reducible refine gd_ (N := 6) rfl ?_); refine Kd.R_lit (Kd.int .i64) _ 3 ?hg (N := 6) ?hd (xs := ([] : List Int)) (inner := []) (ok := fun _ => True) (okp := fun _ => True) ?hr ?hp (fun _ hk => hk) trivial (Below.refl _ _) (Nat.le_refl _) bxka_ ?_; (case hd => rfl); (case hg => rfl); (case hr => go_simp; first | done | rfl); (case hp => exact (Reps.none _ _)); intro v1 w2 ho19 hb hg_ hnew_; clear hg_ hnew_; (first | rw [← Ny1.out] at ho19 | (simp only [Int.reduceToNat] at ho19; rw [← Ny1.out] at ho19)); have HO1 := A0_ (Kd.R_lower ho19 (bz_ be6g_)); replace BK1 := k1_ BK1 hb; replace HB := hb_ hb be6g_; clear hb ho19; have hcz1 := c5_ BK1) | ((with_reducible refine gc_ (f := 32) rfl ?_); refine gl_ 8 Tryd.func32 #[.agg #[.int .i64 a0_0, .bool a0_1, .slice A0_2 l0_2.length c0_2, .slice A0_3 l0_3.length c0_3, .int .i64 a0_4]] ?_; (with_reducible refine (spec_l12Good.calls k a0_0 a0_1 _ _ l0_2 _ _ l0_3 a0_4 false _ ?side1 ?side2 ?side3 ?side4 A2.out).mono ?_); (case side1 => exact b6n8_); (case side2 => exact HC0_2.out); (case side3 => exact bkan_); (case side4 => exact HC0_3.out); rintro e w3 ⟨rfl, hb⟩; refine ⟨_, rfl, ?_⟩; replace HO1 := A0_ (Kd.R_below bsm5_ hb); replace BK1 := k1_ BK1 hb; replace HB := hb_ hb be6g_; (try clear hb)))
  go_ret2
  exact ⟨_, bnwh_, bsm5_, be6g_⟩
 subst c1
 rw [if_pos rfl] at H
 have H' := A0_ H
 clear H
 go_enter Tryd.func25, Tryd.ntmps25
 go_wp2_with (first | ((with_reducible refine gd_ (N := 1) rfl ?_); refine bx_ 1 #[.int .i64 a0_0, .bool a0_1, .slice A0_2 l0_2.length c0_2, .slice A0_3 l0_3.length c0_3, .int .i64 a0_4] 26 ?_; intro gb1 hg w1 BK1 hb; have GW1 := ge_ hg brt4_; have GE1 := GW1; replace HB := hb_ hb brt4_; clear hb hg) | ((with_reducible refine gd_ (N := 6) rfl ?_); refine Kd.R_lit (Kd.int .i64) _ 3 ?hg (N := 6) ?hd (xs := ([] : List Int)) (inner := []) (ok := fun _ => True) (okp := fun _ => True) ?hr ?hp (fun _ hk => hk) trivial (Below.refl _ _) (Nat.le_refl _) bxka_ ?_; (case hd => rfl); (case hg => rfl); (case hr => go_simp; first | done | rfl); (case hp => exact (Reps.none _ _)); intro v1 w2 ho6 hb hg_ hnew_; clear hg_ hnew_; (first | rw [← Ny1.out] at ho6 | (simp only [Int.reduceToNat] at ho6; rw [← Ny1.out] at ho6)); have HO1 := A0_ (Kd.R_lower ho6 (bz_ be6g_)); replace BK1 := k1_ BK1 hb; replace HB := hb_ hb be6g_; clear hb ho6; have hcz1 := c5_ BK1) | ((with_reducible refine gc_ (f := 32) rfl ?_); refine gl_ 8 Tryd.func32 #[.agg #[.int .i64 a0_0, .bool a0_1, .slice A0_2 l0_2.length c0_2, .slice A0_3 l0_3.length c0_3, .int .i64 a0_4]] ?_; (with_reducible refine (spec_l12Good.calls k a0_0 a0_1 _ _ l0_2 _ _ l0_3 a0_4 true _ ?side1 ?side2 ?side3 ?side4 A2.out).mono ?_); (case side1 => exact b6n8_); (case side2 => exact HC0_2.out); (case side3 => exact bkan_); (case side4 => exact HC0_3.out); rintro e w3 ⟨rfl, hb⟩; refine ⟨_, rfl, ?_⟩; replace HO1 := A0_ (Kd.R_below bsm5_ hb); replace BK1 := k1_ BK1 hb; replace HB := hb_ hb be6g_; (try clear hb)))
 go_loopg [4, 5] k (fun kq v2 v3 w' => ∃ (x4_1 : List Int) (x5_1 : Int), v3 = .int .i64 x5_1 ∧ Aside0 (spec_GuestOrder.l0 kq x4_1 x5_1 a0_0 a0_1 l0_2 l0_3 a0_4 = some (r1, r2)) ∧ Aside0 (kq ≤ k) ∧ Aside0 (Kd.R (Kd.int .i64) 3 w' w.heap.size (fun _ => True) v2 x4_1) ∧ Aside0 (w'.heap[gb1]? = some (.cells #[.int .i64 a0_0, .bool a0_1, (.slice A0_2 l0_2.length c0_2), (.slice A0_3 l0_3.length c0_3), .int .i64 a0_4] 26 (0, 0))) ∧ Aside0 (Below w.heap.size w w'))
 case atStart => exact ⟨(y1), (0), b2ew_, H', ⟨Nat.le_refl _⟩, ⟨bsm5_⟩, ⟨u1_ BK1⟩, ⟨be6g_⟩⟩
 clear H'
 try clear c1
 (try clear hcz1)
 obtain ⟨x4_1, x5_1, rfl, HA, HK1, HO_1, BK1, HB⟩ := hrel
 cases gk with | zero => exact absurd HA.out (by simp [spec_GuestOrder.l0]) | succ k1 => ?_
 have H := HA.out
 clear HA
 simp only [spec_GuestOrder.l0] at H
 by_cases c2 : x5_1 < (l0_2.length : Int)
 case neg =>
  rw [if_neg c2] at H
  have c2b0 : decide (x5_1 < (l0_2.length : Int)) = false := decide_eq_false c2
  clear c2
  simp only [sj_, pj_] at H
  obtain ⟨rfl, rfl⟩ := H
  have hcz2 := c5_ BK1
  go_wp2
  go_ret2
  exact ⟨_, bnwh_, bwik_, be6g_⟩
 rw [if_pos c2] at H
 have c2b0 : decide (x5_1 < (l0_2.length : Int)) = true := dt_ c2
 clear c2
 by_cases c3 : 0 ≤ x5_1
 case neg =>
  rw [if_neg c3] at H
  exact absurd H bxka_
 rw [if_pos c3] at H
 have c3b0 : decide (0 ≤ x5_1) = true := dt_ c3
 clear c3
 obtain ⟨t2, A4, H⟩ := o1_ H
 by_cases c4 : x4_1.length < 17592186044416
 case neg =>
  rw [if_neg c4] at H
  exact absurd H bxka_
 rw [if_pos c4] at H
 have LMc1 := A0_ c4
 clear c4
 obtain ⟨y2, hy2⟩ : ∃ y_ : List Int, y_ = (x4_1 ++ [t2]) := ⟨_, rfl⟩
 replace H : (spec_GuestOrder.l0 k1 y2 (wrap64 (x5_1 + 1)) a0_0 a0_1 l0_2 l0_3 a0_4) = some (r1, r2) := bscs_
 have Ny2 := A0_ hy2
 clear hy2
 have H' := A0_ H
 clear H
 have hcz2 := c5_ BK1
 try go_wp2
 replace HO_1 := A0_ (rd_ HO_1.out)
 replace BK1 := A0_ (kd_ BK1.out)
 replace HB := A0_ (bd_ HB.out)
 have p1 : 0 ≤ (x5_1 : Int) := od_ bpil_
 have q1 : x5_1 < (l0_2.length : Int) := od_ bpil_
 obtain ⟨ad1, e1, hx1_0⟩ := Kd.at_int HR0_2.out x5_1 p1 q1
 have hw620_0 := hx1_0
 cases e1
 replace hx1_0 := (HB.out.cell (World.block_lt_of_cell? w _ hx1_0)).trans hx1_0
 replace p1 := eq_true p1
 replace q1 := eq_true q1
 refine start_ (n := 13) (S := fun w' => w'.cell? ⟨gb1, 0, none⟩ = some (.int .i64 a0_0) ∧ w'.cell? ⟨gb1, 1, none⟩ = some (.bool a0_1) ∧ w'.cell? ⟨gb1, 2, none⟩ = some (.slice (some ad1) l0_2.length c0_2) ∧ w'.cell? ⟨gb1, 3, none⟩ = some (.slice A0_3 l0_3.length c0_3) ∧ w'.cell? ⟨gb1, 4, none⟩ = some (.int .i64 a0_4) ∧ w'.cell? (ad1.add (x5_1).toNat) = some (.int .i64 (rd l0_2 x5_1))) (ds := []) #[false, false, false, false, false, false, false, false, false, false, false, false, false] bfqv_ rfl rfl ⟨(kc_ BK1.out 0).trans rfl, (kc_ BK1.out 1).trans rfl, (kc_ BK1.out 2).trans rfl, (kc_ BK1.out 3).trans rfl, (kc_ BK1.out 4).trans rfl, ((HB.out.cell (World.block_lt_of_cell? w _ hw620_0)).trans hw620_0)⟩ (fun hHeld => ?_); refine with_tabW spec_GuestOrder.tab7 spec_GuestOrder.bits7 (fun HT_ HW_ => ?_)
 generalize wr.drew = w4 at HO_1 BK1 HB hx1_0 hHeld ⊢
 refine pu_ 0 19 ?_
 refine pu_ 1 20 ?_
 refine pu_ 3 22 ?_
 refine pu_ 4 23 ?_
 refine pu_ 6 25 ?_
 refine tk_ 2 21 hHeld ?_
 refine tk_ 5 24 hHeld ?_
 refine pu_ 7 26 ?_
 refine tk_ 8 27 hHeld ?_
 refine on_ 9 (some 28) (fun K hK => ?_)
 refine gs_ Tryd.func52 #[.slice A0_3 l0_3.length c0_3, .int .i64 (rd l0_2 x5_1)] ?_
 with_reducible refine (spec_l12Place.calls k1 _ _ l0_3 (rd l0_2 x5_1) t2 _ ?side1 ?side2 A4.out).mono ?_
 (case side1 => exact bkan_)
 (case side2 => exact HC0_3.out)
 rintro e w' ⟨rfl, ⟨nd, rfl⟩⟩
 refine ⟨_, rfl, ?_⟩
 refine hK.out _ _ ⟨(kc_ BK1.out 0).trans rfl, (kc_ BK1.out 1).trans rfl, (kc_ BK1.out 2).trans rfl, (kc_ BK1.out 3).trans rfl, (kc_ BK1.out 4).trans rfl, ((HB.out.cell (World.block_lt_of_cell? w _ hw620_0)).trans hw620_0)⟩ (fun hHeld => ?_)
 clear hK K
 refine nm_ 28 ?_
 refine on_ 10 (some 29) (fun K hK => ?_)
 refine value_ (w1 := ?_) (v := ?_) (by rfl) rfl ?_ ?_
 rotate_left 2
 ·go_simp
  constructor
  ·rfl
  rfl
 refine hK.out _ _ ⟨(kc_ (ka_ BK1.out _) 0).trans rfl, (kc_ (ka_ BK1.out _) 1).trans rfl, (kc_ (ka_ BK1.out _) 2).trans rfl, (kc_ (ka_ BK1.out _) 3).trans rfl, (kc_ (ka_ BK1.out _) 4).trans rfl, (World.cell?_alloc_lt _ _ _ (World.block_lt_of_cell? _ _ (((HB.out.cell (World.block_lt_of_cell? w _ hw620_0)).trans hw620_0)))).trans (((HB.out.cell (World.block_lt_of_cell? w _ hw620_0)).trans hw620_0))⟩ (fun hHeld => ?_)
 clear hK K
 refine nm_ 29 ?_
 refine on_ 11 (some 30) (fun K hK => ?_)
 refine Kd.R_append_step (Kd.int .i64) (w0 := w) w.heap.size (by rfl) (.tmp 19) (.tmp 29) 22 3 (.int .i64 0) 8 rfl Tryd.underlying22 info3 rfl bi3y_ bh19_ u4 x4_1 t2 [.int .i64 t2] (fun _ => True) (fun _ => False) rfl rfl ?aP (fun _ hk => hk.elim) ?aF ?aO ?aB ?aS ?aL ?_
 (case aP => exact rfl)
 (case aB => exact be6g_)
 (case aF => exact (fun _ _ => trivial))
 (case aO => exact bwik_)
 (case aS => exact (bz_ be6g_))
 (case aL => have := LMc1.out; omega)
 intro v4 w5 ho hb hg hat
 rw [← Ny2.out] at ho
 have n0_ := A0_ (blk_grown (g := gb1) (o := .cells #[.int .i64 a0_0, .bool a0_1, .slice (some ad1) l0_2.length c0_2, .slice A0_3 l0_3.length c0_3, .int .i64 a0_4] 26 (0, 0)) (u1_ BK1) hg (Kd.R_ne HO_1.out BK1.out bi3y_))
 have n1_ := A0_ (hb)
 have n2_ := A0_ (ho)
 clear BK1
 clear HB
 clear HO_1
 have BK1 := n0_
 have HB := n1_
 have HO2 := n2_
 clear n0_ n1_ n2_
 clear ho hb hg hat
 refine hK.out _ _ ⟨(kc_ BK1.out 0).trans rfl, (kc_ BK1.out 1).trans rfl, (kc_ BK1.out 2).trans rfl, (kc_ BK1.out 3).trans rfl, (kc_ BK1.out 4).trans rfl, ((HB.out.cell (World.block_lt_of_cell? w _ hw620_0)).trans hw620_0)⟩ (fun hHeld => ?_)
 clear hK K
 refine nm_ 30 ?_
 refine pu_ 12 4 ?_
 refine dn_ ?_
 try go_wp2
 go_roundg k1
 case measure => have := HK1.out; omega
 exact ⟨(y2), (wrap64 (x5_1 + 1)), b2ew_, H', ⟨bxjq_⟩, ⟨b9so_⟩, ⟨u1_ BK1⟩, ⟨be6g_⟩⟩

def laws_vInts.l0 : Nat → List Int → List Int → Int → Option (Bool)
 | 0, _, _, _ => none
 | k + 1, x0, x1, x5 => if x5 < (x0.length : Int) then (if 0 ≤ x5 then (if x5 < (x1.length : Int) then (if (rd x0 x5) = (rd x1 x5) then (laws_vInts.l0 k x0 x1 (wrap64 (x5 + 1))) else (some false)) else (none)) else (none)) else (some true)
def laws_vInts.f (k : Nat) (l0 : List Int) (l1 : List Int) : Option (Bool) := if (l0.length : Int) = (l1.length : Int) then (laws_vInts.l0 k l0 l1 0) else (some false)
theorem laws_vInts.mono_l : ∀ k, (∀ y0 y1 y2, LeO (laws_vInts.l0 k y0 y1 y2) (laws_vInts.l0 (k + 1) y0 y1 y2))
 | 0 => fun _ _ _ r h => by simp [laws_vInts.l0] at h
 | k + 1 => by
  have ih0 := laws_vInts.mono_l k
  ·intro y0 y1 y2
   unfold laws_vInts.l0
   repeat' with_reducible first | exact ih0 .. | exact LeO.refl .. | exact LeO.none .. | refine LeO.ite ?_ ?_ | refine LeO.bind ?_ (fun _ => ?_)
theorem laws_vInts.mono : ∀ a0 a1 k, LeO (laws_vInts.f k a0 a1) (laws_vInts.f (k + 1) a0 a1) := by
 intro a0 a1 k
 have ih0 := laws_vInts.mono_l k
 unfold laws_vInts.f
 repeat' with_reducible first | exact ih0 .. | exact LeO.refl .. | exact LeO.none .. | refine LeO.ite ?_ ?_ | refine LeO.bind ?_ (fun _ => ?_)
theorem laws_vInts.calls (k : Nat) (A0 : Option Addr) (c0 : Nat) (l0 : List Int) (A1 : Option Addr) (c1 : Nat) (l1 : List Int) (r : Bool) (w : World) (hr0 : Kd.C (Kd.int .i64) w A0 l0.length l0) (hc0 : l0.length ≤ c0) (hr1 : Kd.C (Kd.int .i64) w A1 l1.length l1) (hc1 : l1.length ≤ c1) (h : laws_vInts.f k l0 l1 = some r) :
  Calls Tryd.prog 26 #[.slice A0 l0.length c0, .slice A1 l1.length c1] w fun e w' => e = .returned (.bool r) ∧ Drawn0 w w' := by
 have HR0 := A0_ hr0
 have HC0 := A0_ hc0
 clear hr0 hc0
 have HR1 := A0_ hr1
 have HC1 := A0_ hc1
 clear hr1 hc1
 have H : (if (l0.length : Int) = (l1.length : Int) then (laws_vInts.l0 k l0 l1 0) else (some false)) = some r := h
 clear h
 by_cases c2 : (l0.length : Int) = (l1.length : Int)
 case neg =>
  rw [if_neg c2] at H
  obtain ⟨c2b0, c2b1⟩ := ef_ c2
  have c2b2 : (l0.length == l1.length) = false := bds5_
  obtain rfl := si_ H
  go_enter Tryd.func26, Tryd.ntmps26
  go_wp2
  repeat (go_quiet (fail); try go_wp2)
  go_ret
  exact ⟨b04z_, boaj_⟩
 rw [if_pos c2] at H
 obtain ⟨c2b0, c2b1⟩ := et_ c2
 have c2b2 : (l0.length == l1.length) = true := bds5_
 clear c2
 have H' := A0_ H
 clear H
 go_enter Tryd.func26, Tryd.ntmps26
 go_wp2
 repeat (go_quiet (fail); try go_wp2)
 go_loopg [5] k (fun kq v1 w' => ∃ (x5_1 : Int), v1 = .int .i64 x5_1 ∧ Aside0 (laws_vInts.l0 kq l0 l1 x5_1 = some r) ∧ Aside0 (kq ≤ k) ∧ Drawn0 w w')
 case atStart => exact ⟨(0), b2ew_, H', ⟨Nat.le_refl _⟩, boaj_⟩
 clear H'
 try clear c1
 try clear c2
 try clear c2b0
 try clear c2b1
 try clear c2b2
 obtain ⟨x5_1, rfl, HA, HK1, ⟨m1, rfl⟩⟩ := hrel
 cases gk with | zero => exact absurd HA.out (by simp [laws_vInts.l0]) | succ k1 => ?_
 have H := HA.out
 clear HA
 simp only [laws_vInts.l0] at H
 by_cases c3 : x5_1 < (l0.length : Int)
 case neg =>
  rw [if_neg c3] at H
  have c3b0 : decide (x5_1 < (l0.length : Int)) = false := decide_eq_false c3
  clear c3
  obtain rfl := si_ H
  go_wp2
  repeat (go_quiet (fail); try go_wp2)
  go_ret
  exact ⟨b04z_, boaj_⟩
 rw [if_pos c3] at H
 have c3b0 : decide (x5_1 < (l0.length : Int)) = true := dt_ c3
 clear c3
 by_cases c4 : 0 ≤ x5_1
 case neg =>
  rw [if_neg c4] at H
  exact absurd H bxka_
 rw [if_pos c4] at H
 have c4b0 : decide (0 ≤ x5_1) = true := dt_ c4
 clear c4
 by_cases c5 : x5_1 < (l1.length : Int)
 case neg =>
  rw [if_neg c5] at H
  exact absurd H bxka_
 rw [if_pos c5] at H
 have c5b0 : decide (x5_1 < (l1.length : Int)) = true := dt_ c5
 clear c5
 by_cases c6 : (rd l0 x5_1) = (rd l1 x5_1)
 case neg =>
  rw [if_neg c6] at H
  obtain ⟨c6b0, c6b1⟩ := ef_ c6
  obtain rfl := si_ H
  have p1 : 0 ≤ (x5_1 : Int) := od_ bpil_
  have q1 : x5_1 < (l0.length : Int) := od_ bpil_
  obtain ⟨ad1, e1, hx1_0⟩ := Kd.at_int HR0.out x5_1 p1 q1
  cases e1
  replace p1 := eq_true p1
  replace q1 := eq_true q1
  have p2 : 0 ≤ (x5_1 : Int) := od_ bpil_
  have q2 : x5_1 < (l1.length : Int) := od_ bpil_
  obtain ⟨ad2, e2, hx2_0⟩ := Kd.at_int HR1.out x5_1 p2 q2
  cases e2
  replace p2 := eq_true p2
  replace q2 := eq_true q2
  go_wp2
  repeat (go_quiet (fail); try go_wp2)
  go_ret
  exact ⟨b04z_, boaj_⟩
 rw [if_pos c6] at H
 obtain ⟨c6b0, c6b1⟩ := et_ c6
 clear c6
 have H' := A0_ H
 clear H
 have p1 : 0 ≤ (x5_1 : Int) := od_ bpil_
 have q1 : x5_1 < (l0.length : Int) := od_ bpil_
 obtain ⟨ad1, e1, hx1_0⟩ := Kd.at_int HR0.out x5_1 p1 q1
 cases e1
 replace p1 := eq_true p1
 replace q1 := eq_true q1
 have p2 : 0 ≤ (x5_1 : Int) := od_ bpil_
 have q2 : x5_1 < (l1.length : Int) := od_ bpil_
 obtain ⟨ad2, e2, hx2_0⟩ := Kd.at_int HR1.out x5_1 p2 q2
 cases e2
 replace p2 := eq_true p2
 replace q2 := eq_true q2
 go_wp2
 repeat (go_quiet (fail); try go_wp2)
 go_roundg k1
 case measure => have := HK1.out; omega
 exact ⟨(wrap64 (x5_1 + 1)), b2ew_, H', ⟨bxjq_⟩, boaj_⟩

def spec_IsHouse.f (k : Nat) (a0_0 : Int) (a0_1 : Bool) (l0_2 : List Int) (l0_3 : List Int) (a0_4 : Int) : Option (Bool) := (spec_l12Good.f k a0_0 a0_1 l0_2 l0_3 a0_4).bind fun t628 => (some t628)
theorem spec_IsHouse.mono : ∀ a0 a1 a2 a3 a4 k, LeO (spec_IsHouse.f k a0 a1 a2 a3 a4) (spec_IsHouse.f (k + 1) a0 a1 a2 a3 a4) := by
 intro a0 a1 a2 a3 a4 k
 unfold spec_IsHouse.f
 repeat' with_reducible first | exact spec_l12Good.mono .. | exact LeO.refl .. | exact LeO.none .. | refine LeO.ite ?_ ?_ | refine LeO.bind ?_ (fun _ => ?_)
theorem spec_IsHouse.calls (k : Nat) (a0_0 : Int) (a0_1 : Bool) (A0_2 : Option Addr) (c0_2 : Nat) (l0_2 : List Int) (A0_3 : Option Addr) (c0_3 : Nat) (l0_3 : List Int) (a0_4 : Int) (r : Bool) (w : World) (hr0_2 : Kd.C (Kd.int .i64) w A0_2 l0_2.length l0_2) (hc0_2 : l0_2.length ≤ c0_2) (hr0_3 : Kd.C (Kd.int .i64) w A0_3 l0_3.length l0_3) (hc0_3 : l0_3.length ≤ c0_3) (h : spec_IsHouse.f k a0_0 a0_1 l0_2 l0_3 a0_4 = some r) :
  Calls Tryd.prog 27 #[.agg #[.int .i64 a0_0, .bool a0_1, .slice A0_2 l0_2.length c0_2, .slice A0_3 l0_3.length c0_3, .int .i64 a0_4]] w fun e w' => e = .returned (.bool r) ∧ Below w.heap.size w w' := by
 have hu26 := Tryd.underlying26
 have HR0_2 := A0_ hr0_2
 have HC0_2 := A0_ hc0_2
 clear hr0_2 hc0_2
 have HR0_3 := A0_ hr0_3
 have HC0_3 := A0_ hc0_3
 clear hr0_3 hc0_3
 have HB := A0_ (Below.refl w.heap.size w)
 have H : ((spec_l12Good.f k a0_0 a0_1 l0_2 l0_3 a0_4).bind fun t1 => (some t1)) = some r := h
 clear h
 obtain ⟨t1, A2, H⟩ := o1_ H
 replace H : (some t1) = some r := H
 obtain rfl := si_ H
 go_enter Tryd.func27, Tryd.ntmps27
 go_wp2_with (first | ((with_reducible refine gd_ (N := 1) rfl ?_); refine bx_ 1 #[.int .i64 a0_0, .bool a0_1, .slice A0_2 l0_2.length c0_2, .slice A0_3 l0_3.length c0_3, .int .i64 a0_4] 26 ?_; intro gb1 hg w1 BK1 hb; have GW1 := ge_ hg brt4_; have GE1 := GW1; replace HB := hb_ hb brt4_; clear hb hg; have hcz1 := c5_ BK1) | ((with_reducible refine gc_ (f := 32) rfl ?_); refine gl_ 4 Tryd.func32 #[.agg #[.int .i64 a0_0, .bool a0_1, .slice A0_2 l0_2.length c0_2, .slice A0_3 l0_3.length c0_3, .int .i64 a0_4]] ?_; (with_reducible refine (spec_l12Good.calls k a0_0 a0_1 _ _ l0_2 _ _ l0_3 a0_4 t1 _ ?side1 ?side2 ?side3 ?side4 A2.out).mono ?_); (case side1 => exact b6n8_); (case side2 => exact HC0_2.out); (case side3 => exact bkan_); (case side4 => exact HC0_3.out); rintro e w2 ⟨rfl, hb⟩; refine ⟨_, rfl, ?_⟩; replace BK1 := k1_ BK1 hb; replace HB := hb_ hb be6g_; (try clear hb)))
 go_ret
 exact ⟨bnwh_, be6g_⟩

def impl_isSeat.f (k : Nat) (a0_0 : Int) (a0_1 : Bool) (l0_2 : List Int) (l1 : List Int) : Option (Bool) := (impl_IsRow.f k a0_0 a0_1 l0_2).bind fun t630 => (if t630 = true then ((impl_Row_bench.f a0_0 a0_1 l0_2).bind fun bt631 => ((impl_bench_has.f k bt631.1 bt631.2 l1).bind fun t633 => (some t633))) else (some false))
theorem impl_isSeat.mono : ∀ a0 a1 a2 a3 k, LeO (impl_isSeat.f k a0 a1 a2 a3) (impl_isSeat.f (k + 1) a0 a1 a2 a3) := by
 intro a0 a1 a2 a3 k
 unfold impl_isSeat.f
 repeat' with_reducible first | exact impl_IsRow.mono .. | exact impl_bench_has.mono .. | exact LeO.refl .. | exact LeO.none .. | refine LeO.ite ?_ ?_ | refine LeO.bind ?_ (fun _ => ?_)
theorem impl_isSeat.calls (k : Nat) (a0_0 : Int) (a0_1 : Bool) (A0_2 : Option Addr) (c0_2 : Nat) (l0_2 : List Int) (A1 : Option Addr) (c1 : Nat) (l1 : List Int) (r : Bool) (w : World) (hr0_2 : Kd.C (Kd.int .i64) w A0_2 l0_2.length l0_2) (hc0_2 : l0_2.length ≤ c0_2) (hr1 : Kd.C (Kd.int .i64) w A1 l1.length l1) (hc1 : l1.length ≤ c1) (h : impl_isSeat.f k a0_0 a0_1 l0_2 l1 = some r) :
  Calls Tryd.prog 53 #[.agg #[.int .i64 a0_0, .bool a0_1, .slice A0_2 l0_2.length c0_2], .slice A1 l1.length c1] w fun e w' => e = .returned (.bool r) ∧ Below w.heap.size w w' := by
 have hu24 := Tryd.underlying24
 have HR0_2 := A0_ hr0_2
 have HC0_2 := A0_ hc0_2
 clear hr0_2 hc0_2
 have HR1 := A0_ hr1
 have HC1 := A0_ hc1
 clear hr1 hc1
 have HB := A0_ (Below.refl w.heap.size w)
 have H : ((impl_IsRow.f k a0_0 a0_1 l0_2).bind fun t1 => (if t1 = true then ((impl_Row_bench.f a0_0 a0_1 l0_2).bind fun bt1 => ((impl_bench_has.f k bt1.1 bt1.2 l1).bind fun t2 => (some t2))) else (some false))) = some r := h
 clear h
 obtain ⟨t1, A3, H⟩ := o1_ H
 by_cases c2 : t1 = true
 case neg =>
  obtain rfl := bf_.mpr c2
  rw [if_neg ft_] at H
  obtain rfl := si_ H
  go_enter Tryd.func53, Tryd.ntmps53
  go_wp2_with (first | ((with_reducible refine gd_ (N := 2) rfl ?_); refine bx_ 2 #[.int .i64 a0_0, .bool a0_1, .slice A0_2 l0_2.length c0_2] 24 ?_; intro gb1 hg w1 BK1 hb; have GW1 := ge_ hg brt4_; have GE1 := GW1; replace HB := hb_ hb brt4_; clear hb hg; have hcz1 := c3_ BK1) | ((with_reducible refine gc_ (f := 55) rfl ?_); refine gl_ 6 Tryd.func55 #[.agg #[.int .i64 a0_0, .bool a0_1, .slice A0_2 l0_2.length c0_2]] ?_; (with_reducible refine (impl_IsRow.calls k a0_0 a0_1 _ _ l0_2 false _ ?side1 ?side2 A3.out).mono ?_); (case side1 => exact b6n8_); (case side2 => exact HC0_2.out); rintro e w2 ⟨rfl, hb⟩; refine ⟨_, rfl, ?_⟩; replace BK1 := k1_ BK1 hb; replace HB := hb_ hb be6g_; (try clear hb)))
  go_ret
  exact ⟨bnwh_, be6g_⟩
 subst c2
 rw [if_pos rfl] at H
 obtain ⟨⟨t3, t4⟩, A5, H⟩ := o1_ H
 obtain ⟨t2, A7, H⟩ := o1_ H
 replace H : (some t2) = some r := H
 obtain rfl := si_ H
 go_enter Tryd.func53, Tryd.ntmps53
 go_wp2_with (first | ((with_reducible refine gd_ (N := 2) rfl ?_); refine bx_ 2 #[.int .i64 a0_0, .bool a0_1, .slice A0_2 l0_2.length c0_2] 24 ?_; intro gb1 hg w1 BK1 hb; have GW1 := ge_ hg brt4_; have GE1 := GW1; replace HB := hb_ hb brt4_; clear hb hg; have hcz1 := c3_ BK1) | ((with_reducible refine gc_ (f := 55) rfl ?_); refine gl_ 6 Tryd.func55 #[.agg #[.int .i64 a0_0, .bool a0_1, .slice A0_2 l0_2.length c0_2]] ?_; (with_reducible refine (impl_IsRow.calls k a0_0 a0_1 _ _ l0_2 true _ ?side1 ?side2 A3.out).mono ?_); (case side1 => exact b6n8_); (case side2 => exact HC0_2.out); rintro e w2 ⟨rfl, hb⟩; refine ⟨_, rfl, ?_⟩; replace BK1 := k1_ BK1 hb; replace HB := hb_ hb be6g_; (try clear hb); have hcz2 := c3_ BK1) | (go_at_call 44; (with_reducible refine (impl_Row_bench.calls a0_0 a0_1 _ _ l0_2 t3 t4 _ ?side1 ?side2 A5.out).mono ?_); (case side1 => exact b6n8_); (case side2 => exact HC0_2.out); rintro e w3 ⟨rfl, hb⟩; replace BK1 := k1_ BK1 hb; replace HB := hb_ hb be6g_; (try clear hb)) | (go_at_call 73; (with_reducible refine (impl_bench_has.calls k t3 t4 _ _ l1 t2 _ ?side1 ?side2 A7.out).mono ?_); (case side1 => exact b3d8_); (case side2 => exact HC1.out); rintro e w4 ⟨rfl, hb⟩; replace BK1 := k1_ BK1 hb; replace HB := hb_ hb be6g_; (try clear hb)))
 go_ret
 exact ⟨bnwh_, be6g_⟩

def impl_SeatGap.f (k : Nat) (a0_0 : Int) (a0_1 : Bool) (l0_2 : List Int) (a1 : Int) (a2 : Int) : Option (Int × Bool) := (impl_isSeat.f k a0_0 a0_1 l0_2 (([a1, a2] : List Int))).bind fun t638 => (if t638 = true then ((impl_Row_bench.f a0_0 a0_1 l0_2).bind fun bt639 => ((impl_bench_gap.f bt639.1 bt639.2 a1 a2).bind fun t641 => (some (t641, true)))) else (some (0, false)))
theorem impl_SeatGap.mono : ∀ a0 a1 a2 a3 a4 k, LeO (impl_SeatGap.f k a0 a1 a2 a3 a4) (impl_SeatGap.f (k + 1) a0 a1 a2 a3 a4) := by
 intro a0 a1 a2 a3 a4 k
 unfold impl_SeatGap.f
 repeat' with_reducible first | exact impl_isSeat.mono .. | exact LeO.refl .. | exact LeO.none .. | refine LeO.ite ?_ ?_ | refine LeO.bind ?_ (fun _ => ?_)
theorem impl_SeatGap.calls (k : Nat) (a0_0 : Int) (a0_1 : Bool) (A0_2 : Option Addr) (c0_2 : Nat) (l0_2 : List Int) (a1 : Int) (a2 : Int) (r1 : Int) (r2 : Bool) (w : World) (hr0_2 : Kd.C (Kd.int .i64) w A0_2 l0_2.length l0_2) (hc0_2 : l0_2.length ≤ c0_2) (h : impl_SeatGap.f k a0_0 a0_1 l0_2 a1 a2 = some (r1, r2)) :
  Calls Tryd.prog 28 #[.agg #[.int .i64 a0_0, .bool a0_1, .slice A0_2 l0_2.length c0_2], .int .i64 a1, .int .i64 a2] w fun e w' => e = .returned (.tuple #[.int .i64 r1, .bool r2]) ∧ Below w.heap.size w w' := by
 have hu24 := Tryd.underlying24
 have HR0_2 := A0_ hr0_2
 have HC0_2 := A0_ hc0_2
 clear hr0_2 hc0_2
 have HB := A0_ (Below.refl w.heap.size w)
 have H : ((impl_isSeat.f k a0_0 a0_1 l0_2 (([a1, a2] : List Int))).bind fun t1 => (if t1 = true then ((impl_Row_bench.f a0_0 a0_1 l0_2).bind fun bt1 => ((impl_bench_gap.f bt1.1 bt1.2 a1 a2).bind fun t2 => (some (t2, true)))) else (some (0, false)))) = some (r1, r2) := h
 clear h
 obtain ⟨y1, hy1⟩ : ∃ y_ : List Int, y_ = (([a1, a2] : List Int)) := ⟨_, rfl⟩
 replace H : ((impl_isSeat.f k a0_0 a0_1 l0_2 y1).bind fun t1 => (if t1 = true then ((impl_Row_bench.f a0_0 a0_1 l0_2).bind fun bt1 => ((impl_bench_gap.f bt1.1 bt1.2 a1 a2).bind fun t2 => (some (t2, true)))) else (some (0, false)))) = some (r1, r2) := bgiq_
 have Ny1 := A0_ hy1
 clear hy1
 obtain ⟨t1, A2, H⟩ := o1_ H
 by_cases c1 : t1 = true
 case neg =>
  obtain rfl := bf_.mpr c1
  rw [if_neg ft_] at H
  simp only [sj_, pj_] at H
  obtain ⟨rfl, rfl⟩ := H
  go_enter Tryd.func28, Tryd.ntmps28
  go_wp2_with (first | ((with_reducible refine gd_ (N := 3) rfl ?_); refine bx_ 3 #[.int .i64 a0_0, .bool a0_1, .slice A0_2 l0_2.length c0_2] 24 ?_; intro gb1 hg w1 BK1 hb; have GW1 := ge_ hg brt4_; have GE1 := GW1; replace HB := hb_ hb brt4_; clear hb hg; have hcz1 := c3_ BK1) | ((with_reducible refine gd_ (N := 11) rfl ?_); refine Kd.R_lit (Kd.int .i64) _ 3 ?hg (N := 11) ?hd (xs := ([a1, a2] : List Int)) (inner := [.int .i64 a1, .int .i64 a2]) (ok := fun _ => True) (okp := fun _ => True) ?hr ?hp (fun _ hk => hk) trivial (Below.refl _ _) (Nat.le_refl _) bxka_ ?_; (case hd => rfl); (case hg => rfl); (case hr => go_simp; first | done | rfl); (case hp => exact (Reps.one (show Kd.M (Kd.int .i64) _ _ _ a1 [.int .i64 a1] from rfl) (Reps.one (show Kd.M (Kd.int .i64) _ _ _ a2 [.int .i64 a2] from rfl) (Reps.none _ _)))); intro v1 w2 ho20 hb hg_ hnew_; clear hg_ hnew_; (first | rw [← Ny1.out] at ho20 | (simp only [Int.reduceToNat] at ho20; rw [← Ny1.out] at ho20)); have HO1 := A0_ (Kd.R_lower ho20 (bz_ be6g_)); replace BK1 := k1_ BK1 hb; replace HB := hb_ hb be6g_; clear hb ho20; obtain ⟨Ao1, co1, eo1⟩ := Kd.R_slice HO1.out; subst eo1) | ((with_reducible refine gc_ (f := 53) rfl ?_); refine gl_ 12 Tryd.func53 #[.agg #[.int .i64 a0_0, .bool a0_1, .slice A0_2 l0_2.length c0_2], .slice Ao1 y1.length co1] ?_; (with_reducible refine (impl_isSeat.calls k a0_0 a0_1 _ _ l0_2 _ _ y1 false _ ?side1 ?side2 ?side3 ?side4 A2.out).mono ?_); (case side1 => exact b6n8_); (case side2 => exact HC0_2.out); (case side3 => exact bayy_); (case side4 => exact (rr_ HO1.out).2.1); rintro e w3 ⟨rfl, hb⟩; refine ⟨_, rfl, ?_⟩; replace HO1 := A0_ (Kd.R_below bsm5_ hb); replace BK1 := k1_ BK1 hb; replace HB := hb_ hb be6g_; (try clear hb)))
  go_ret2
  exact ⟨bnwh_, be6g_⟩
 subst c1
 rw [if_pos rfl] at H
 obtain ⟨⟨t3, t4⟩, A4, H⟩ := o1_ H
 obtain ⟨t2, A6, H⟩ := o1_ H
 replace H : (some (t2, true)) = some (r1, r2) := H
 simp only [sj_, pj_] at H
 obtain ⟨rfl, rfl⟩ := H
 go_enter Tryd.func28, Tryd.ntmps28
 go_wp2_with (first | ((with_reducible refine gd_ (N := 3) rfl ?_); refine bx_ 3 #[.int .i64 a0_0, .bool a0_1, .slice A0_2 l0_2.length c0_2] 24 ?_; intro gb1 hg w1 BK1 hb; have GW1 := ge_ hg brt4_; have GE1 := GW1; replace HB := hb_ hb brt4_; clear hb hg; have hcz1 := c3_ BK1) | ((with_reducible refine gd_ (N := 11) rfl ?_); refine Kd.R_lit (Kd.int .i64) _ 3 ?hg (N := 11) ?hd (xs := ([a1, a2] : List Int)) (inner := [.int .i64 a1, .int .i64 a2]) (ok := fun _ => True) (okp := fun _ => True) ?hr ?hp (fun _ hk => hk) trivial (Below.refl _ _) (Nat.le_refl _) bxka_ ?_; (case hd => rfl); (case hg => rfl); (case hr => go_simp; first | done | rfl); (case hp => exact (Reps.one (show Kd.M (Kd.int .i64) _ _ _ a1 [.int .i64 a1] from rfl) (Reps.one (show Kd.M (Kd.int .i64) _ _ _ a2 [.int .i64 a2] from rfl) (Reps.none _ _)))); intro v1 w2 ho11 hb hg_ hnew_; clear hg_ hnew_; (first | rw [← Ny1.out] at ho11 | (simp only [Int.reduceToNat] at ho11; rw [← Ny1.out] at ho11)); have HO1 := A0_ (Kd.R_lower ho11 (bz_ be6g_)); replace BK1 := k1_ BK1 hb; replace HB := hb_ hb be6g_; clear hb ho11; obtain ⟨Ao1, co1, eo1⟩ := Kd.R_slice HO1.out; subst eo1) | ((with_reducible refine gc_ (f := 53) rfl ?_); refine gl_ 12 Tryd.func53 #[.agg #[.int .i64 a0_0, .bool a0_1, .slice A0_2 l0_2.length c0_2], .slice Ao1 y1.length co1] ?_; (with_reducible refine (impl_isSeat.calls k a0_0 a0_1 _ _ l0_2 _ _ y1 true _ ?side1 ?side2 ?side3 ?side4 A2.out).mono ?_); (case side1 => exact b6n8_); (case side2 => exact HC0_2.out); (case side3 => exact bayy_); (case side4 => exact (rr_ HO1.out).2.1); rintro e w3 ⟨rfl, hb⟩; refine ⟨_, rfl, ?_⟩; replace HO1 := A0_ (Kd.R_below bsm5_ hb); replace BK1 := k1_ BK1 hb; replace HB := hb_ hb be6g_; (try clear hb); have hcz2 := c3_ BK1) | ((with_reducible refine gc_ (f := 44) rfl ?_); refine gl_ 15 Tryd.func44 #[.agg #[.int .i64 a0_0, .bool a0_1, .slice A0_2 l0_2.length c0_2]] ?_; (with_reducible refine (impl_Row_bench.calls a0_0 a0_1 _ _ l0_2 t3 t4 _ ?side1 ?side2 A4.out).mono ?_); (case side1 => exact b6n8_); (case side2 => exact HC0_2.out); rintro e w4 ⟨rfl, hb⟩; refine ⟨_, rfl, ?_⟩; replace HO1 := A0_ (Kd.R_below bsm5_ hb); replace BK1 := k1_ BK1 hb; replace HB := hb_ hb be6g_; (try clear hb)) | ((with_reducible refine gc_ (f := 54) rfl ?_); refine gl_ 18 Tryd.func54 #[.agg #[.int .i64 t3, .bool t4], .int .i64 a1, .int .i64 a2] ?_; (with_reducible refine (impl_bench_gap.calls t3 t4 a1 a2 t2 _ A6.out).mono ?_); rintro e w5 ⟨rfl, hb⟩; refine ⟨_, rfl, ?_⟩; replace HO1 := A0_ (Kd.R_below bsm5_ hb); replace BK1 := k1_ BK1 hb; replace HB := hb_ hb be6g_; (try clear hb)))
 go_ret2
 exact ⟨bnwh_, be6g_⟩

def laws_vHas.l0 : Nat → List Int → Int → Int → Option (Bool)
 | 0, _, _, _ => none
 | k + 1, x0, x1, x5 => if x5 < (x0.length : Int) then (if 0 ≤ x5 then (if (rd x0 x5) = x1 then (some true) else (laws_vHas.l0 k x0 x1 (wrap64 (x5 + 1)))) else (none)) else (some false)
def laws_vHas.f (k : Nat) (l0 : List Int) (a1 : Int) : Option (Bool) := laws_vHas.l0 k l0 a1 0
theorem laws_vHas.mono_l : ∀ k, (∀ y0 y1 y2, LeO (laws_vHas.l0 k y0 y1 y2) (laws_vHas.l0 (k + 1) y0 y1 y2))
 | 0 => fun _ _ _ r h => by simp [laws_vHas.l0] at h
 | k + 1 => by
  have ih0 := laws_vHas.mono_l k
  ·intro y0 y1 y2
   unfold laws_vHas.l0
   repeat' with_reducible first | exact ih0 .. | exact LeO.refl .. | exact LeO.none .. | refine LeO.ite ?_ ?_ | refine LeO.bind ?_ (fun _ => ?_)
theorem laws_vHas.mono : ∀ a0 a1 k, LeO (laws_vHas.f k a0 a1) (laws_vHas.f (k + 1) a0 a1) := by
 intro a0 a1 k
 have ih0 := laws_vHas.mono_l k
 unfold laws_vHas.f
 repeat' with_reducible first | exact ih0 .. | exact LeO.refl .. | exact LeO.none .. | refine LeO.ite ?_ ?_ | refine LeO.bind ?_ (fun _ => ?_)
theorem laws_vHas.calls (k : Nat) (A0 : Option Addr) (c0 : Nat) (l0 : List Int) (a1 : Int) (r : Bool) (w : World) (hr0 : Kd.C (Kd.int .i64) w A0 l0.length l0) (hc0 : l0.length ≤ c0) (h : laws_vHas.f k l0 a1 = some r) :
  Calls Tryd.prog 29 #[.slice A0 l0.length c0, .int .i64 a1] w fun e w' => e = .returned (.bool r) ∧ Drawn0 w w' := by
 have HR0 := A0_ hr0
 have HC0 := A0_ hc0
 clear hr0 hc0
 have H : (laws_vHas.l0 k l0 a1 0) = some r := h
 clear h
 have H' := A0_ H
 clear H
 go_enter Tryd.func29, Tryd.ntmps29
 go_wp2
 go_loopg [5] k (fun kq v1 w' => ∃ (x5_1 : Int), v1 = .int .i64 x5_1 ∧ Aside0 (laws_vHas.l0 kq l0 a1 x5_1 = some r) ∧ Aside0 (kq ≤ k) ∧ Drawn0 w w')
 case atStart => exact ⟨(0), b2ew_, H', ⟨Nat.le_refl _⟩, boaj_⟩
 clear H'
 obtain ⟨x5_1, rfl, HA, HK1, ⟨m1, rfl⟩⟩ := hrel
 cases gk with | zero => exact absurd HA.out (by simp [laws_vHas.l0]) | succ k1 => ?_
 have H := HA.out
 clear HA
 simp only [laws_vHas.l0] at H
 by_cases c1 : x5_1 < (l0.length : Int)
 case neg =>
  rw [if_neg c1] at H
  have c1b0 : decide (x5_1 < (l0.length : Int)) = false := decide_eq_false c1
  clear c1
  obtain rfl := si_ H
  go_wp2
  go_ret
  exact ⟨b04z_, boaj_⟩
 rw [if_pos c1] at H
 have c1b0 : decide (x5_1 < (l0.length : Int)) = true := dt_ c1
 clear c1
 by_cases c2 : 0 ≤ x5_1
 case neg =>
  rw [if_neg c2] at H
  exact absurd H bxka_
 rw [if_pos c2] at H
 have c2b0 : decide (0 ≤ x5_1) = true := dt_ c2
 clear c2
 by_cases c3 : (rd l0 x5_1) = a1
 ·rw [if_pos c3] at H
  obtain ⟨c3b0, c3b1⟩ := et_ c3
  clear c3
  obtain rfl := si_ H
  have p1 : 0 ≤ (x5_1 : Int) := od_ bpil_
  have q1 : x5_1 < (l0.length : Int) := od_ bpil_
  obtain ⟨ad1, e1, hx1_0⟩ := Kd.at_int HR0.out x5_1 p1 q1
  cases e1
  replace p1 := eq_true p1
  replace q1 := eq_true q1
  go_wp2
  go_ret
  exact ⟨b04z_, boaj_⟩
 rw [if_neg c3] at H
 obtain ⟨c3b0, c3b1⟩ := ef_ c3
 have H' := A0_ H
 clear H
 have p1 : 0 ≤ (x5_1 : Int) := od_ bpil_
 have q1 : x5_1 < (l0.length : Int) := od_ bpil_
 obtain ⟨ad1, e1, hx1_0⟩ := Kd.at_int HR0.out x5_1 p1 q1
 cases e1
 replace p1 := eq_true p1
 replace q1 := eq_true q1
 go_wp2
 go_roundg k1
 case measure => have := HK1.out; omega
 exact ⟨(wrap64 (x5_1 + 1)), b2ew_, H', ⟨bxjq_⟩, boaj_⟩

def impl_Row_taken.f (k : Nat) (a0_0 : Int) (a0_1 : Bool) (l0_2 : List Int) : Option (Int) := (impl_setOf.f k l0_2).bind fun t644 => (some t644)
theorem impl_Row_taken.mono : ∀ a0 a1 a2 k, LeO (impl_Row_taken.f k a0 a1 a2) (impl_Row_taken.f (k + 1) a0 a1 a2) := by
 intro a0 a1 a2 k
 unfold impl_Row_taken.f
 repeat' with_reducible first | exact impl_setOf.mono .. | exact LeO.refl .. | exact LeO.none .. | refine LeO.ite ?_ ?_ | refine LeO.bind ?_ (fun _ => ?_)
theorem impl_Row_taken.calls (k : Nat) (a0_0 : Int) (a0_1 : Bool) (A0_2 : Option Addr) (c0_2 : Nat) (l0_2 : List Int) (r : Int) (w : World) (hr0_2 : Kd.C (Kd.int .i64) w A0_2 l0_2.length l0_2) (hc0_2 : l0_2.length ≤ c0_2) (h : impl_Row_taken.f k a0_0 a0_1 l0_2 = some r) :
  Calls Tryd.prog 56 #[.agg #[.int .i64 a0_0, .bool a0_1, .slice A0_2 l0_2.length c0_2]] w fun e w' => e = .returned (.int .u32 r) ∧ Below w.heap.size w w' := by
 have hu24 := Tryd.underlying24
 have HR0_2 := A0_ hr0_2
 have HC0_2 := A0_ hc0_2
 clear hr0_2 hc0_2
 have HB := A0_ (Below.refl w.heap.size w)
 have H : ((impl_setOf.f k l0_2).bind fun t1 => (some t1)) = some r := h
 clear h
 obtain ⟨t1, A2, H⟩ := o1_ H
 replace H : (some t1) = some r := H
 obtain rfl := si_ H
 go_enter Tryd.func56, Tryd.ntmps56
 go_wp2_with (first | ((with_reducible refine gd_ (N := 1) rfl ?_); refine bx_ 1 #[.int .i64 a0_0, .bool a0_1, .slice A0_2 l0_2.length c0_2] 24 ?_; intro gb1 hg w1 BK1 hb; have GW1 := ge_ hg brt4_; have GE1 := GW1; replace HB := hb_ hb brt4_; clear hb hg; have hcz1 := c3_ BK1) | ((with_reducible refine gc_ (f := 46) rfl ?_); refine gl_ 5 Tryd.func46 #[.slice A0_2 l0_2.length c0_2] ?_; (with_reducible refine (impl_setOf.calls k _ _ l0_2 t1 _ ?side1 ?side2 A2.out).mono ?_); (case side1 => exact b6n8_); (case side2 => exact HC0_2.out); rintro e w' ⟨rfl, ⟨nd, rfl⟩⟩; refine ⟨_, rfl, ?_⟩))
 go_ret
 exact ⟨bnwh_, be6g_⟩

theorem popAux_add (m : Nat) : ∀ (n x : Nat), Lib.popAux (n + m) x = Lib.popAux n x + Lib.popAux m (x / 2 ^ n)
 | 0, x => by simp [Lib.popAux]
 | n + 1, x => by
  rw [show n + 1 + m = (n + m) + 1 from by omega, Lib.popAux, Lib.popAux, popAux_add m n, Nat.pow_succ', Nat.div_div_eq_div_mul]
  omega
theorem popAux_mod : ∀ (n x : Nat), Lib.popAux n (x % 2 ^ n) = Lib.popAux n x
 | 0, x => by simp [Lib.popAux]
 | n + 1, x => by
  have h1 : x % 2 ^ (n + 1) % 2 = x % 2 := Nat.mod_mod_of_dvd x ⟨2 ^ n, Nat.pow_succ'⟩
  have h2 : x % 2 ^ (n + 1) / 2 = x / 2 % 2 ^ n := by rw [Nat.pow_succ', Nat.mod_mul_right_div_self]
  rw [Lib.popAux, Lib.popAux, h1, h2, popAux_mod n]
theorem popAux_zero : ∀ n, Lib.popAux n 0 = 0
 | 0 => rfl
 | n + 1 => by rw [Lib.popAux, popAux_zero n]
theorem onesCount_four (x : Nat) (h : x < 4294967296) : Lib.onesCount x = Lib.onesCount (x / 16777216) + Lib.onesCount (x / 65536 % 256) + Lib.onesCount (x / 256 % 256) + Lib.onesCount (x % 256) := by
 have e1 : ∀ y, y < 256 → Lib.onesCount y = Lib.popAux 8 y := fun y hy => by
  have h0 := popAux_add 56 8 y
  rw [show y / 2 ^ 8 = 0 from Nat.div_eq_of_lt hy, popAux_zero, Nat.add_zero] at h0
  exact h0
 have m8 : ∀ y, Lib.popAux 8 (y % 256) = Lib.popAux 8 y := fun y => popAux_mod 8 y
 rw [e1 (x / 16777216) bh19_, e1 _ (Nat.mod_lt _ bh19_), e1 _ (Nat.mod_lt _ bh19_), e1 _ (Nat.mod_lt _ bh19_), m8, m8, m8]
 have h1 := popAux_add 56 8 x
 have h2 := popAux_add 48 8 (x / 2 ^ 8)
 have h3 := popAux_add 40 8 (x / 2 ^ 8 / 2 ^ 8)
 have h4 := popAux_add 32 8 (x / 2 ^ 8 / 2 ^ 8 / 2 ^ 8)
 rw [show x / 2 ^ 8 / 2 ^ 8 / 2 ^ 8 / 2 ^ 8 = 0 from by omega, popAux_zero] at h4
 rw [show x / 16777216 = x / 2 ^ 8 / 2 ^ 8 / 2 ^ 8 from by omega, show x / 65536 = x / 2 ^ 8 / 2 ^ 8 from by omega, show x / 256 = x / 2 ^ 8 from by omega]
 unfold Lib.onesCount
 rw [show (64 : Nat) = 8 + 56 from rfl, h1, show (56 : Nat) = 8 + 48 from rfl, h2, show (48 : Nat) = 8 + 40 from rfl, h3, show (40 : Nat) = 8 + 32 from rfl, h4]
 omega
theorem pop8_ones (b : Int) (h0 : 0 ≤ b) (h1 : b ≤ 255) : Lib.pop8 b = (Lib.onesCount b.toNat : Int) := by
 have e := Lib.pop8_eq ⟨b.toNat, bh19_⟩
 simp only [Int.toNat_of_nonneg h0] at e
 exact e
theorem mask8 (x : Int) (h0 : 0 ≤ x) (h1 : x < 4294967296) : Go.bits .and .u32 x 255 = x % 256 :=
 bits_mask .u32 32 bi3y_ (fun n h h' => by rw [IntKind.wrap_u32]; omega) 8 bi3y_ x h0 h1
theorem pop_four (a : Int) (h0 : 0 ≤ a) (h1 : a < 4294967296) : (Lib.pop8 (a / 16777216) + Lib.pop8 (a / 65536 % 256) + Lib.pop8 (a / 256 % 256) + Lib.pop8 (a % 256)) % 256 = (Lib.onesCount a.toNat : Int) := by
 rw [pop8_ones _ bh19_ bh19_, pop8_ones _ bh19_ bh19_, pop8_ones _ bh19_ bh19_, pop8_ones _ bh19_ bh19_]
 have e := onesCount_four a.toNat bh19_
 have l1 := Lib.onesCount_le8 ⟨(a / 16777216).toNat, bh19_⟩
 have l2 := Lib.onesCount_le8 ⟨(a / 65536 % 256).toNat, bh19_⟩
 have l3 := Lib.onesCount_le8 ⟨(a / 256 % 256).toNat, bh19_⟩
 have l4 := Lib.onesCount_le8 ⟨(a % 256).toNat, bh19_⟩
 simp only at l1 l2 l3 l4
 rw [show (a / 16777216).toNat = a.toNat / 16777216 from by omega] at l1 ⊢
 rw [show (a / 65536 % 256).toNat = a.toNat / 65536 % 256 from by omega] at l2 ⊢
 rw [show (a / 256 % 256).toNat = a.toNat / 256 % 256 from by omega] at l3 ⊢
 rw [show (a % 256).toNat = a.toNat % 256 from by omega] at l4 ⊢
 omega
def bits_OnesCount32.f (a0 : Int) : Option (Int) := if 0 ≤ a0 ∧ a0 < 4294967296 then some (Lib.onesCount a0.toNat : Int) else none
set_option maxHeartbeats 400000 in
set_option maxRecDepth 100000 in
theorem bits_OnesCount32.calls (a0 : Int) (r : Int) (w : World) (h : bits_OnesCount32.f a0 = some r) :
  Calls Tryd.prog 78 #[.int .u32 a0] w fun e w' => e = .returned (.int .i64 r) ∧ Drawn0 w w' := by
 unfold bits_OnesCount32.f at h
 split at h
 ·rename_i hh
  obtain ⟨h0, h1⟩ := hh
  obtain rfl := si_ h
  have P := A0_ (pop_four a0 h0 h1)
  clear h
  have p1 : 0 ≤ a0 / 16777216 := by omega
  have p2 : a0 / 16777216 ≤ 255 := by omega
  have e1 := mask8 (a0 / 65536) bh19_ bh19_
  have e2 := mask8 (a0 / 256) bh19_ bh19_
  have e3 := mask8 a0 bh19_ bh19_
  go_enter Tryd.func78, Tryd.ntmps78
  go_wp2
  go_quiet (fail)
  go_wp2
  go_ret
  exact ⟨congrArg Ending.returned (congrArg (Value.int IntKind.i64) P.out), (Drawn0.refl _).step _⟩
 cases h


def impl_set_count.f (a0 : Int) : Option (Int) := (bits_OnesCount32.f a0).bind fun t645 => (some t645)
theorem impl_set_count.calls (a0 : Int) (r : Int) (w : World) (h : impl_set_count.f a0 = some r) :
  Calls Tryd.prog 57 #[.int .u32 a0] w fun e w' => e = .returned (.int .i64 r) ∧ Drawn0 w w' := by
 have H : ((bits_OnesCount32.f a0).bind fun t1 => (some t1)) = some r := h
 clear h
 obtain ⟨t1, A2, H⟩ := o1_ H
 replace H : (some t1) = some r := H
 obtain rfl := si_ H
 go_enter Tryd.func57, Tryd.ntmps57
 go_wp2_with (first | ((with_reducible refine gc_ (f := 78) rfl ?_); refine gl_ 4 Tryd.func78 #[.int .u32 a0] ?_; (with_reducible refine (bits_OnesCount32.calls a0 t1 _ A2.out).mono ?_); rintro e w' ⟨rfl, ⟨nd, rfl⟩⟩; refine ⟨_, rfl, ?_⟩))
 go_ret
 exact ⟨b04z_, boaj_⟩

def impl_TouchingPairs.l0 : Nat → Int → List Int → Int → Int → Int → Bool → List Int → Option (Int × Bool)
 | 0, _, _, _, _, _, _, _ => none
 | k + 1, x4, x11, x12, x13, x647000, x647001, x647002 => if x13 < x12 then (if 0 ≤ x13 then (if x13 < (x11.length : Int) then ((impl_Row_bench.f x647000 x647001 x647002).bind fun bt649 => ((impl_bench_near.f k bt649.1 bt649.2 (rd x11 x13)).bind fun t651 => ((impl_Row_taken.f k x647000 x647001 x647002).bind fun t652 => ((impl_set_count.f (Go.bits .and .u32 t651 t652)).bind fun t653 => (impl_TouchingPairs.l0 k (wrap64 (x4 + t653)) x11 x12 (wrap64 (x13 + 1)) x647000 x647001 x647002))))) else (none)) else (none)) else (some (wrap64 (Int.tdiv x4 2), true))
def impl_TouchingPairs.f (k : Nat) (a0_0 : Int) (a0_1 : Bool) (l0_2 : List Int) : Option (Int × Bool) := (impl_IsRow.f k a0_0 a0_1 l0_2).bind fun t647 => (if t647 = true then (impl_TouchingPairs.l0 k 0 l0_2 (l0_2.length : Int) 0 a0_0 a0_1 l0_2) else (some (0, false)))
theorem impl_TouchingPairs.mono_l : ∀ k, (∀ y0 y1 y2 y3 y4 y5 y6, LeO (impl_TouchingPairs.l0 k y0 y1 y2 y3 y4 y5 y6) (impl_TouchingPairs.l0 (k + 1) y0 y1 y2 y3 y4 y5 y6))
 | 0 => fun _ _ _ _ _ _ _ r h => by simp [impl_TouchingPairs.l0] at h
 | k + 1 => by
  have ih0 := impl_TouchingPairs.mono_l k
  ·intro y0 y1 y2 y3 y4 y5 y6
   unfold impl_TouchingPairs.l0
   repeat' with_reducible first | exact ih0 .. | exact impl_IsRow.mono .. | exact impl_Row_taken.mono .. | exact impl_bench_near.mono .. | exact LeO.refl .. | exact LeO.none .. | refine LeO.ite ?_ ?_ | refine LeO.bind ?_ (fun _ => ?_)
theorem impl_TouchingPairs.mono : ∀ a0 a1 a2 k, LeO (impl_TouchingPairs.f k a0 a1 a2) (impl_TouchingPairs.f (k + 1) a0 a1 a2) := by
 intro a0 a1 a2 k
 have ih0 := impl_TouchingPairs.mono_l k
 unfold impl_TouchingPairs.f
 repeat' with_reducible first | exact ih0 .. | exact impl_IsRow.mono .. | exact impl_Row_taken.mono .. | exact impl_bench_near.mono .. | exact LeO.refl .. | exact LeO.none .. | refine LeO.ite ?_ ?_ | refine LeO.bind ?_ (fun _ => ?_)
def impl_TouchingPairs.T7 : Bool × List (List Nat × List Nat) := (true, [([], []), ([], []), ([1], [1]), ([], []), ([2, 3, 2], [2, 3]), ([], []), ([5, 4], [5]), ([4, 6], [4, 6]), ([7, 6], [7]), ([0, 8], [0, 8]), ([9, 8, 0, 1, 2, 3, 4, 5, 6, 7, 8, 9], [0, 9])])
def impl_TouchingPairs.B7 : List Nat := [0, 0, 2, 0, 14, 0, 62, 126, 254, 511, 1023]
theorem impl_TouchingPairs.tab7 : rtab .any (opsOf Tryd.f30 7) = impl_TouchingPairs.T7 := by kernel_rfl
theorem impl_TouchingPairs.bits7 : waitsOk impl_TouchingPairs.T7.2 impl_TouchingPairs.B7 = true := by kernel_rfl
theorem impl_TouchingPairs.calls (k : Nat) (a0_0 : Int) (a0_1 : Bool) (A0_2 : Option Addr) (c0_2 : Nat) (l0_2 : List Int) (r1 : Int) (r2 : Bool) (w : World) (hr0_2 : Kd.C (Kd.int .i64) w A0_2 l0_2.length l0_2) (hc0_2 : l0_2.length ≤ c0_2) (h : impl_TouchingPairs.f k a0_0 a0_1 l0_2 = some (r1, r2)) :
  Calls Tryd.prog 30 #[.agg #[.int .i64 a0_0, .bool a0_1, .slice A0_2 l0_2.length c0_2]] w fun e w' => e = .returned (.tuple #[.int .i64 r1, .bool r2]) ∧ Below w.heap.size w w' := by
 have hu24 := Tryd.underlying24
 have HR0_2 := A0_ hr0_2
 have HC0_2 := A0_ hc0_2
 clear hr0_2 hc0_2
 have HB := A0_ (Below.refl w.heap.size w)
 have H : ((impl_IsRow.f k a0_0 a0_1 l0_2).bind fun t1 => (if t1 = true then (impl_TouchingPairs.l0 k 0 l0_2 (l0_2.length : Int) 0 a0_0 a0_1 l0_2) else (some (0, false)))) = some (r1, r2) := h
 clear h
 obtain ⟨t1, A2, H⟩ := o1_ H
 by_cases c1 : t1 = true
 case neg =>
  obtain rfl := bf_.mpr c1
  rw [if_neg ft_] at H
  simp only [sj_, pj_] at H
  obtain ⟨rfl, rfl⟩ := H
  go_enter Tryd.func30, Tryd.ntmps30
  go_wp2_with (first | ((with_reducible refine gd_ (N := 1) rfl ?_); refine bx_ 1 #[.int .i64 a0_0, .bool a0_1, .slice A0_2 l0_2.length c0_2] 24 ?_; intro gb1 hg w1 BK1 hb; have GW1 := ge_ hg brt4_; have GE1 := GW1; replace HB := hb_ hb brt4_; clear hb hg; have hcz1 := c3_ BK1) | ((with_reducible refine gc_ (f := 55) rfl ?_); refine gl_ 8 Tryd.func55 #[.agg #[.int .i64 a0_0, .bool a0_1, .slice A0_2 l0_2.length c0_2]] ?_; (with_reducible refine (impl_IsRow.calls k a0_0 a0_1 _ _ l0_2 false _ ?side1 ?side2 A2.out).mono ?_); (case side1 => exact b6n8_); (case side2 => exact HC0_2.out); rintro e w2 ⟨rfl, hb⟩; refine ⟨_, rfl, ?_⟩; replace BK1 := k1_ BK1 hb; replace HB := hb_ hb be6g_; (try clear hb)))
  go_ret2
  exact ⟨bnwh_, be6g_⟩
 subst c1
 rw [if_pos rfl] at H
 have H' := A0_ H
 clear H
 go_enter Tryd.func30, Tryd.ntmps30
 go_wp2_with (first | ((with_reducible refine gd_ (N := 1) rfl ?_); refine bx_ 1 #[.int .i64 a0_0, .bool a0_1, .slice A0_2 l0_2.length c0_2] 24 ?_; intro gb1 hg w1 BK1 hb; have GW1 := ge_ hg brt4_; have GE1 := GW1; replace HB := hb_ hb brt4_; clear hb hg; have hcz1 := c3_ BK1) | ((with_reducible refine gc_ (f := 55) rfl ?_); refine gl_ 8 Tryd.func55 #[.agg #[.int .i64 a0_0, .bool a0_1, .slice A0_2 l0_2.length c0_2]] ?_; (with_reducible refine (impl_IsRow.calls k a0_0 a0_1 _ _ l0_2 true _ ?side1 ?side2 A2.out).mono ?_); (case side1 => exact b6n8_); (case side2 => exact HC0_2.out); rintro e w2 ⟨rfl, hb⟩; refine ⟨_, rfl, ?_⟩; replace BK1 := k1_ BK1 hb; replace HB := hb_ hb be6g_; (try clear hb); have hcz2 := c3_ BK1))
 go_loopg [4, 13] k (fun kq v1 v2 w' => ∃ (x4_1 : Int) (x13_1 : Int), v1 = .int .i64 x4_1 ∧ v2 = .int .i64 x13_1 ∧ Aside0 (impl_TouchingPairs.l0 kq x4_1 l0_2 (l0_2.length : Int) x13_1 a0_0 a0_1 l0_2 = some (r1, r2)) ∧ Aside0 (kq ≤ k) ∧ Aside0 (w'.heap[gb1]? = some (.cells #[.int .i64 a0_0, .bool a0_1, (.slice A0_2 l0_2.length c0_2)] 24 (0, 0))) ∧ Aside0 (Below w.heap.size w w'))
 case atStart => exact ⟨(0), (0), b2ew_, b2ew_, H', ⟨Nat.le_refl _⟩, ⟨u1_ BK1⟩, ⟨be6g_⟩⟩
 clear H'
 try clear c1
 (try clear hcz1); (try clear hcz2)
 obtain ⟨x4_1, x13_1, rfl, rfl, HA, HK1, BK1, HB⟩ := hrel
 cases gk with | zero => exact absurd HA.out (by simp [impl_TouchingPairs.l0]) | succ k1 => ?_
 have H := HA.out
 clear HA
 simp only [impl_TouchingPairs.l0] at H
 by_cases c2 : x13_1 < (l0_2.length : Int)
 case neg =>
  rw [if_neg c2] at H
  have c2b0 : decide (x13_1 < (l0_2.length : Int)) = false := decide_eq_false c2
  clear c2
  simp only [sj_, pj_] at H
  obtain ⟨rfl, rfl⟩ := H
  go_wp2
  go_ret2
  exact ⟨bnwh_, be6g_⟩
 rw [if_pos c2] at H
 have c2b0 : decide (x13_1 < (l0_2.length : Int)) = true := dt_ c2
 clear c2
 by_cases c3 : 0 ≤ x13_1
 case neg =>
  rw [if_neg c3] at H
  exact absurd H bxka_
 rw [if_pos c3] at H
 have c3b0 : decide (0 ≤ x13_1) = true := dt_ c3
 clear c3
 by_cases c4 : x13_1 < (l0_2.length : Int)
 case neg =>
  rw [if_neg c4] at H
  exact absurd H bxka_
 rw [if_pos c4] at H
 have c4b0 : decide (x13_1 < (l0_2.length : Int)) = true := dt_ c4
 clear c4
 obtain ⟨⟨t2, t3⟩, A4, H⟩ := o1_ H
 obtain ⟨t4, A6, H⟩ := o1_ H
 obtain ⟨t5, A8, H⟩ := o1_ H
 obtain ⟨t6, A10, H⟩ := o1_ H
 have H' := A0_ H
 clear H
 have p1 : 0 ≤ (x13_1 : Int) := od_ bpil_
 have q1 : x13_1 < (l0_2.length : Int) := od_ bpil_
 obtain ⟨ad1, e1, hx1_0⟩ := Kd.at_int HR0_2.out x13_1 p1 q1
 cases e1
 replace hx1_0 := (HB.out.cell (World.block_lt_of_cell? w _ hx1_0)).trans hx1_0
 replace p1 := eq_true p1
 replace q1 := eq_true q1
 try go_wp2
 replace BK1 := A0_ (kd_ BK1.out)
 replace HB := A0_ (bd_ HB.out)
 refine s3_ 11 [] BK1 impl_TouchingPairs.tab7 impl_TouchingPairs.bits7 (fun hHeld HT_ HW_ => ?_)
 generalize wr.drew = w3 at BK1 HB hHeld ⊢
 refine pu_ 0 17 ?_
 refine pu_ 3 20 ?_
 refine tk_ 1 18 hHeld ?_
 refine tk_ 5 22 hHeld ?_
 refine on_ 2 (some 19) (fun K hK => ?_)
 refine gs_ Tryd.func44 #[.agg #[.int .i64 a0_0, .bool a0_1, .slice (some ad1) l0_2.length c0_2]] ?_
 with_reducible refine (impl_Row_bench.calls a0_0 a0_1 _ _ l0_2 t2 t3 _ ?side1 ?side2 A4.out).mono ?_
 (case side1 => exact b6n8_)
 (case side2 => exact HC0_2.out)
 rintro e w4 ⟨rfl, hb⟩
 refine ⟨_, rfl, ?_⟩
 replace BK1 := k1_ BK1 hb
 replace HB := hb_ hb be6g_
 (try clear hb)
 refine hK.out _ _ (c3_ BK1) (fun hHeld => ?_)
 clear hK K
 refine nm_ 19 ?_
 refine on_ 4 (some 21) (fun K hK => ?_)
 refine gs_ Tryd.func45 #[.agg #[.int .i64 t2, .bool t3], .int .i64 (rd l0_2 x13_1)] ?_
 with_reducible refine (impl_bench_near.calls k1 t2 t3 (rd l0_2 x13_1) t4 _ A6.out).mono ?_
 rintro e w5 ⟨rfl, hb⟩
 refine ⟨_, rfl, ?_⟩
 replace BK1 := k1_ BK1 hb
 replace HB := hb_ hb be6g_
 (try clear hb)
 refine hK.out _ _ (c3_ BK1) (fun hHeld => ?_)
 clear hK K
 refine nm_ 21 ?_
 refine on_ 6 (some 23) (fun K hK => ?_)
 refine gs_ Tryd.func56 #[.agg #[.int .i64 a0_0, .bool a0_1, .slice (some ad1) l0_2.length c0_2]] ?_
 with_reducible refine (impl_Row_taken.calls k1 a0_0 a0_1 _ _ l0_2 t5 _ ?side1 ?side2 A8.out).mono ?_
 (case side1 => exact b6n8_)
 (case side2 => exact HC0_2.out)
 rintro e w6 ⟨rfl, hb⟩
 refine ⟨_, rfl, ?_⟩
 replace BK1 := k1_ BK1 hb
 replace HB := hb_ hb be6g_
 (try clear hb)
 refine hK.out _ _ (c3_ BK1) (fun hHeld => ?_)
 clear hK K
 refine nm_ 23 ?_
 refine pu_ 7 24 ?_
 refine on_ 8 (some 25) (fun K hK => ?_)
 refine gs_ Tryd.func57 #[.int .u32 (Go.bits .and .u32 t4 t5)] ?_
 with_reducible refine (impl_set_count.calls (Go.bits .and .u32 t4 t5) t6 _ A10.out).mono ?_
 rintro e w' ⟨rfl, ⟨nd, rfl⟩⟩
 refine ⟨_, rfl, ?_⟩
 refine hK.out _ _ (c3_ BK1) (fun hHeld => ?_)
 clear hK K
 refine nm_ 25 ?_
 refine pu_ 9 26 ?_
 refine pu_ 10 4 ?_
 refine dn_ ?_
 try go_wp2
 go_roundg k1
 case measure => have := HK1.out; omega
 exact ⟨(wrap64 (x4_1 + t6)), (wrap64 (x13_1 + 1)), b2ew_, b2ew_, H', ⟨bxjq_⟩, ⟨u1_ BK1⟩, ⟨be6g_⟩⟩

end Go.Proofs.YtbohmfnjgjijdaaDoor.QFnGuests
-- packed
-- squeezed
