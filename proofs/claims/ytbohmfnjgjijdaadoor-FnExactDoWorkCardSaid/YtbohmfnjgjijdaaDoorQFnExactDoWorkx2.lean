-- Written by px.py, a program of this session, over the kit's printer: some functions have a definition and a proof of this session's own.
import Derived.Test.YtbohmfnjgjijdaaDoorQFnExactDoWorkx0
import Derived.Test.YtbohmfnjgjijdaaDoorQFnExactDoWorkx1
import Derived.Lib.TrailingZeros
import Derived.Laws.Bits64b
namespace Go.Proofs.YtbohmfnjgjijdaaDoor.QFnExactDoWork
open Go.RowKit Go.Proofs.YtbohmfnjgjijdaaDoorW.PrintWords Go.Proofs.YtbohmfnjgjijdaaDoorW.PrintLast Go.Proofs.YtbohmfnjgjijdaaDoorW.PrintMore
attribute [local go_sem] max2_int min2_int max_two min_two max_three min_three max_four min_four   -- for this text's walks alone
set_option linter.unusedVariables false
set_option linter.unusedSimpArgs false
set_option maxHeartbeats 8000000
set_option maxRecDepth 100000

def spec_l2With.f (k : Nat) (a0_0 : Int) (a0_1 : Bool) (l0_2 : List Int) (a1 : Int) : Option (Int × Bool × List Int) := (spec_l1Own.f l0_2).bind fun t200 => ((spec_l1Put.f k t200 a1).bind fun t203 => ((spec_l2Made.f a0_0 a0_1 l0_2 t203).bind fun bt206 => (some (bt206.1, bt206.2.1, bt206.2.2))))
theorem spec_l2With.mono : ∀ a0 a1 a2 a3 k, LeO (spec_l2With.f k a0 a1 a2 a3) (spec_l2With.f (k + 1) a0 a1 a2 a3) := by
 intro a0 a1 a2 a3 k
 unfold spec_l2With.f
 repeat' with_reducible first | exact spec_l1Put.mono .. | exact LeO.refl .. | exact LeO.none .. | refine LeO.ite ?_ ?_ | refine LeO.bind ?_ (fun _ => ?_)
def spec_l2With.T1 : Bool × List (List Nat × List Nat) := (true, [([], []), ([], []), ([1], [1]), ([2], [2]), ([], []), ([3, 4, 3], [3, 4]), ([0, 5, 5], [0, 5]), ([6, 6, 0, 1, 2, 3, 4, 5, 6], [6])])
def spec_l2With.B1 : List Nat := [0, 0, 2, 6, 0, 30, 63, 127]
theorem spec_l2With.tab1 : rtab .any (opsOf Tryd.f89 1) = spec_l2With.T1 := by kernel_rfl
theorem spec_l2With.bits1 : waitsOk spec_l2With.T1.2 spec_l2With.B1 = true := by kernel_rfl
theorem spec_l2With.calls (k : Nat) (a0_0 : Int) (a0_1 : Bool) (A0_2 : Option Addr) (c0_2 : Nat) (l0_2 : List Int) (a1 : Int) (r1 : Int) (r2 : Bool) (r3 : List Int) (w : World) (hr0_2 : Kd.C (Kd.int .i64) w A0_2 l0_2.length l0_2) (hc0_2 : l0_2.length ≤ c0_2) (h : spec_l2With.f k a0_0 a0_1 l0_2 a1 = some (r1, r2, r3)) :
  Calls Tryd.prog 89 #[.agg #[.int .i64 a0_0, .bool a0_1, .slice A0_2 l0_2.length c0_2], .int .i64 a1] w fun e w' => ∃ v2_ : Value, e = .returned (.agg #[.int .i64 r1, .bool r2, v2_]) ∧ Kd.R (Kd.int .i64) 3 w' w.heap.size (fun _ => True) v2_ r3 ∧ Below w.heap.size w w' := by
 have hu24 := Tryd.underlying24
 have HR0_2 := A0_ hr0_2
 have HC0_2 := A0_ hc0_2
 clear hr0_2 hc0_2
 have HB := A0_ (Below.refl w.heap.size w)
 have H : ((spec_l1Own.f l0_2).bind fun t1 => ((spec_l1Put.f k t1 a1).bind fun t2 => ((spec_l2Made.f a0_0 a0_1 l0_2 t2).bind fun bt1 => (some (bt1.1, bt1.2.1, bt1.2.2))))) = some (r1, r2, r3) := h
 clear h
 obtain ⟨t1, A2, H⟩ := o1_ H
 obtain ⟨t2, A4, H⟩ := o1_ H
 obtain ⟨⟨t3, t4, t5⟩, A6, H⟩ := o1_ H
 replace H : (some (t3, t4, t5)) = some (r1, r2, r3) := H
 simp only [sj_, pj_] at H
 obtain ⟨rfl, rfl, rfl⟩ := H
 go_enter Tryd.func89, Tryd.ntmps89
 try go_wp2_with (first | ((with_reducible refine gd_ (N := 2) rfl ?_); refine bx_ 2 #[.int .i64 a0_0, .bool a0_1, .slice A0_2 l0_2.length c0_2] 24 ?_; intro gb1 hg w1 BK1 hb; have GW1 := ge_ hg brt4_; have GE1 := GW1; replace HB := hb_ hb brt4_; clear hb hg) | ((with_reducible refine gd_ (N := 4) rfl ?_); refine bx_ 4 #[.int .i64 0, .bool false, .slice none 0 0] 24 ?_; intro gb2 hg w2 BK2 hb; have GW2 := ge_ hg be6g_; have GE2 := GW2; replace HB := hb_ hb be6g_; have NB1_2 := nl_ hg BK1; have NB2_1 := ng_ hg BK1; replace BK1 := k1_ BK1 hb; clear hb hg))
 replace BK1 := A0_ (kd_ BK1.out)
 replace BK2 := A0_ (kd_ BK2.out)
 replace HB := A0_ (bd_ HB.out)
 refine s3_ 8 [] BK1 spec_l2With.tab1 spec_l2With.bits1 (fun hHeld HT_ HW_ => ?_)
 generalize w2.drew = w3 at BK1 BK2 HB hHeld ⊢
 refine pu_ 1 6 ?_
 refine pu_ 4 9 ?_
 refine tk_ 0 5 hHeld ?_
 refine tk_ 2 7 hHeld ?_
 refine on_ 3 (some 8) (fun K hK => ?_)
 refine gs_ Tryd.func58 #[.slice A0_2 l0_2.length c0_2] ?_
 with_reducible refine (spec_l1Own.calls _ _ l0_2 t1 _ ?side1 ?side2 A2.out).mono ?_
 (case side1 => exact b6n8_)
 (case side2 => exact HC0_2.out)
 rintro e w4 ⟨v1, rfl, ho0, hb⟩
 refine ⟨_, rfl, ?_⟩
 have HO1 := A0_ (Kd.R_lower ho0 (bz_ bfnq_))
 replace BK1 := k1_ BK1 hb
 replace BK2 := k1_ BK2 hb
 replace HB := hb_ hb bfnq_
 (try clear hb); (try clear ho0)
 obtain ⟨Ao1, co1, eo1⟩ := Kd.R_slice HO1.out
 (first | subst eo1 | (injection eo1 with f1_ f2_ f3_; have f4_ := f1_.symm; have f5_ := f3_.symm; clear f1_ f2_ f3_; subst f4_; subst f5_))
 refine hK.out _ _ (c3_ BK1) (fun hHeld => ?_)
 clear hK K
 refine nm_ 8 ?_
 refine on_ 5 (some 10) (fun K hK => ?_)
 refine gs_ Tryd.func103 #[.slice Ao1 t1.length co1, .int .i64 a1] ?_
 with_reducible refine (spec_l1Put.calls k _ _ t1 a1 t2 _ ?side1 ?side2 A4.out).mono ?_
 (case side1 => exact bayy_)
 (case side2 => exact (rr_ HO1.out).2.1)
 rintro e w5 ⟨v3, rfl, ho0, hb⟩
 refine ⟨_, rfl, ?_⟩
 have HO2 := A0_ (Kd.R_lower (Kd.R_new' ho0 (Kd.R_lt bsm5_)) (bz_ bfnq_))
 replace HO1 := A0_ (Kd.R_elder' bsm5_ (Kd.R_base ho0) hb)
 replace BK1 := k1_ BK1 hb
 replace BK2 := k1_ BK2 hb
 replace HB := hb_ hb bfnq_
 (try clear hb); (try clear ho0)
 obtain ⟨Ao2, co2, eo2⟩ := Kd.R_slice HO2.out
 (first | subst eo2 | (injection eo2 with f1_ f2_ f3_; have f4_ := f1_.symm; have f5_ := f3_.symm; clear f1_ f2_ f3_; subst f4_; subst f5_))
 refine hK.out _ _ (c3_ BK1) (fun hHeld => ?_)
 clear hK K
 refine nm_ 10 ?_
 refine on_ 6 (some 11) (fun K hK => ?_)
 refine gs_ Tryd.func102 #[.agg #[.int .i64 a0_0, .bool a0_1, .slice A0_2 l0_2.length c0_2], .slice Ao2 t2.length co2] ?_
 with_reducible refine (spec_l2Made.calls a0_0 a0_1 _ _ l0_2 (fun k_ => some k_ = (.slice Ao2 t2.length co2 : Value).ownBlock) (.slice Ao2 t2.length co2) t2 t3 t4 t5 w _ ?side1 ?side2 ?side3 ?side4 A6.out).mono ?_
 (case side1 => exact bfnq_)
 (case side2 => exact Kd.C_kept_came (Kd.heap_int .i64) HR0_2.out bfnq_ (fun k_ hs_ => (fun e_ => Kd.R_base HO2.out k_ e_.symm) hs_))
 (case side3 => exact HC0_2.out)
 (case side4 => exact Kd.R_tight rfl HO2.out)
 rintro e w6 ⟨v4, rfl, ho0, hb, hkp⟩
 refine ⟨_, rfl, ?_⟩
 have n0_ := A0_ (blk_kept (u1_ BK1) hkp (fun hs_ => (fun e_ => (Kd.R_ne HO2.out BK1.out bi3y_) e_) hs_))
 have n1_ := A0_ (blk_kept (u1_ BK2) hkp (fun hs_ => (fun e_ => (Kd.R_ne HO2.out BK2.out bi3y_) e_) hs_))
 have n2_ := A0_ (Kd.R_mono (ok' := fun k_ => no_ v4 k_) (Kd.R_keptB (HO1.out) hkp (fun k_ hk_ hs_ => (hk_.2) hs_)) (fun k_ hk_ => fun e_ => Or.elim (ho0.1 k_ e_.symm) (fun hs_ => hk_.2.1 hs_) (fun hn_ => Nat.not_le.2 hk_.2.2 hn_)))
 have n3_ := A0_ (Kd.R_mono (ok' := fun k_ => no_ (.slice Ao1 t1.length co1) k_) ho0 (fun k_ hk_ => Or.elim hk_ (fun hs_ => fun e_ => (((HO1.out).1 k_ e_.symm).2) hs_) (fun hn_ => (Kd.fresh' (Kd.R_lt bsm5_) k_ hn_))))
 have n4_ := A0_ (hb)
 clear BK1
 clear BK2
 clear HO1
 clear HB
 clear HO2
 have BK1 := n0_
 have BK2 := n1_
 have HO1 := n2_
 have HO3 := n3_
 have HB := n4_
 clear n0_ n1_ n2_ n3_ n4_
 (try clear hb)
 (try clear hkp)
 (try clear ho0)
 obtain ⟨Ao3, co3, eo3⟩ := Kd.R_slice HO3.out
 (first | subst eo3 | (injection eo3 with f1_ f2_ f3_; have f4_ := f1_.symm; have f5_ := f3_.symm; clear f1_ f2_ f3_; subst f4_; subst f5_))
 refine hK.out _ _ (c3_ BK1) (fun hHeld => ?_)
 clear hK K
 refine nm_ 11 ?_
 refine on_ 7 none (fun K hK => ?_)
 have hs14 : w6.cell? ⟨gb2, 0, none⟩ = some (.int .i64 0) := (kc_ BK2.out 0).trans rfl
 have hfs14 := kf_ BK2.out 0
 have hns1_0 := NB1_2.out
 have hms1_0 := NB2_1.out
 have hs15 : w6.cell? ⟨gb2, 1, none⟩ = some (.bool false) := (kc_ BK2.out 1).trans rfl
 have hfs15 := kf_ BK2.out 1
 have hns2_0 := NB1_2.out
 have hms2_0 := NB2_1.out
 have hs17 : w6.cell? ⟨gb2, 2, none⟩ = some (.slice none 0 0) := (kc_ BK2.out 2).trans rfl
 have hfs17 := kf_ BK2.out 2
 have hns3_0 := NB1_2.out
 have hms3_0 := NB2_1.out
 refine skip_ (w1 := ?_) (by rfl) rfl ?_ ?_
 rotate_left
 ·go_simp
  rfl
 refine hK.out _ _ ⟨((cell_far (p := ⟨gb2, _, none⟩) NB1_2.out _).trans (((cell_far (p := ⟨gb2, _, none⟩) NB1_2.out _).trans (((cell_far (p := ⟨gb2, _, none⟩) NB1_2.out _).trans (hHeld.1)))))), ((cell_far (p := ⟨gb2, _, none⟩) NB1_2.out _).trans (((cell_far (p := ⟨gb2, _, none⟩) NB1_2.out _).trans (((cell_far (p := ⟨gb2, _, none⟩) NB1_2.out _).trans (hHeld.2.1)))))), ((cell_far (p := ⟨gb2, _, none⟩) NB1_2.out _).trans (((cell_far (p := ⟨gb2, _, none⟩) NB1_2.out _).trans (((cell_far (p := ⟨gb2, _, none⟩) NB1_2.out _).trans (hHeld.2.2))))))⟩ (fun hHeld => ?_)
 clear hK K
 refine dn_ ?_
 try go_wp2
 refine bodyPost_ret (results_cell_row rfl _ _ gb2 24 #[.int .i64 t3, .bool t4, .slice Ao3 t5.length co3] (0, 0) _ rfl (u1_ BK2) Tryd.underlying24 rfl bfqv_) rfl ?_
 exact ⟨_, bnwh_, by (with_reducible repeat (first | apply ra_ | apply rn_ | apply rd_)); exact Kd.R_mono (rf_ (rf_ (rf_ (Kd.R_types HO3.out BK2.out bi3y_) k2_0 _) k2_0 _) k2_0 _) (fun _ hk => trivial), bfnq_⟩

def spec_l12Sit.f (k : Nat) (a0_0 : Int) (a0_1 : Bool) (l0_2 : List Int) (l0_3 : List Int) (a0_4 : Int) (a1 : Int) : Option (Int × Bool × List Int × List Int × Int) := (spec_l2With.f k a0_0 a0_1 l0_2 a1).bind fun bt214 => ((spec_l1Own.f l0_3).bind fun t219 => (if t219.length < 17592186044416 then (some (bt214.1, bt214.2.1, bt214.2.2, (t219 ++ [a1]), a0_4)) else (none)))
theorem spec_l12Sit.mono : ∀ a0 a1 a2 a3 a4 a5 k, LeO (spec_l12Sit.f k a0 a1 a2 a3 a4 a5) (spec_l12Sit.f (k + 1) a0 a1 a2 a3 a4 a5) := by
 intro a0 a1 a2 a3 a4 a5 k
 unfold spec_l12Sit.f
 repeat' with_reducible first | exact spec_l2With.mono .. | exact LeO.refl .. | exact LeO.none .. | refine LeO.ite ?_ ?_ | refine LeO.bind ?_ (fun _ => ?_)
theorem spec_l12Sit.calls (k : Nat) (a0_0 : Int) (a0_1 : Bool) (A0_2 : Option Addr) (c0_2 : Nat) (l0_2 : List Int) (A0_3 : Option Addr) (c0_3 : Nat) (l0_3 : List Int) (a0_4 : Int) (a1 : Int) (r1 : Int) (r2 : Bool) (r3 : List Int) (r4 : List Int) (r5 : Int) (w : World) (hr0_2 : Kd.C (Kd.int .i64) w A0_2 l0_2.length l0_2) (hc0_2 : l0_2.length ≤ c0_2) (hr0_3 : Kd.C (Kd.int .i64) w A0_3 l0_3.length l0_3) (hc0_3 : l0_3.length ≤ c0_3) (h : spec_l12Sit.f k a0_0 a0_1 l0_2 l0_3 a0_4 a1 = some (r1, r2, r3, r4, r5)) :
  Calls Tryd.prog 86 #[.agg #[.int .i64 a0_0, .bool a0_1, .slice A0_2 l0_2.length c0_2, .slice A0_3 l0_3.length c0_3, .int .i64 a0_4], .int .i64 a1] w fun e w' => ∃ v2_ v3_ : Value, e = .returned (.agg #[.int .i64 r1, .bool r2, v2_, v3_, .int .i64 r5]) ∧ Kd.R (Kd.int .i64) 3 w' w.heap.size (fun k_ => no_ v3_ k_) v2_ r3 ∧ Kd.R (Kd.int .i64) 3 w' w.heap.size (fun k_ => no_ v2_ k_) v3_ r4 ∧ Below w.heap.size w w' := by
 have hu26 := Tryd.underlying26
 have hu24 := Tryd.underlying24
 have HR0_2 := A0_ hr0_2
 have HC0_2 := A0_ hc0_2
 clear hr0_2 hc0_2
 have HR0_3 := A0_ hr0_3
 have HC0_3 := A0_ hc0_3
 clear hr0_3 hc0_3
 have HB := A0_ (Below.refl w.heap.size w)
 have H : ((spec_l2With.f k a0_0 a0_1 l0_2 a1).bind fun bt1 => ((spec_l1Own.f l0_3).bind fun t1 => (if t1.length < 17592186044416 then (some (bt1.1, bt1.2.1, bt1.2.2, (t1 ++ [a1]), a0_4)) else (none)))) = some (r1, r2, r3, r4, r5) := h
 clear h
 obtain ⟨⟨t2, t3, t4⟩, A2, H⟩ := o1_ H
 obtain ⟨t1, A4, H⟩ := o1_ H
 by_cases c1 : t1.length < 17592186044416
 case neg =>
  rw [if_neg c1] at H
  exact absurd H bxka_
 rw [if_pos c1] at H
 have LMc1 := A0_ c1
 clear c1
 obtain ⟨y1, hy1⟩ : ∃ y_ : List Int, y_ = (t1 ++ [a1]) := ⟨_, rfl⟩
 replace H : (some (t2, t3, t4, y1, a0_4)) = some (r1, r2, r3, r4, r5) := bgiq_
 have Ny1 := A0_ hy1
 clear hy1
 simp only [sj_, pj_] at H
 obtain ⟨rfl, rfl, rfl, rfl, rfl⟩ := H
 go_enter Tryd.func86, Tryd.ntmps86
 go_wp2_with (first | ((with_reducible refine gd_ (N := 2) rfl ?_); refine bx_ 2 #[.int .i64 a0_0, .bool a0_1, .slice A0_2 l0_2.length c0_2, .slice A0_3 l0_3.length c0_3, .int .i64 a0_4] 26 ?_; intro gb1 hg w1 BK1 hb; have GW1 := ge_ hg brt4_; have GE1 := GW1; replace HB := hb_ hb brt4_; clear hb hg) | ((with_reducible refine gd_ (N := 4) rfl ?_); refine bx_ 4 #[.int .i64 0, .bool false, .slice none 0 0, .slice none 0 0, .int .i64 0] 26 ?_; intro gb2 hg w2 BK2 hb; have GW2 := ge_ hg be6g_; have GE2 := GW2; replace HB := hb_ hb be6g_; have NB1_2 := nl_ hg BK1; have NB2_1 := ng_ hg BK1; replace BK1 := k1_ BK1 hb; clear hb hg; have hnb1 := NB1_2.out; have hnc1 := NB2_1.out; have hcz1 := z5_ BK1) | ((with_reducible refine gd_ (N := 5) rfl ?_); refine bx_ 5 #[.int .i64 0, .bool false, .slice none 0 0, .slice none 0 0, .int .i64 0] 26 ?_; intro gb3 hg w3 BK3 hb; have GW3 := ge_ hg bfnq_; have GE3 := GW3; replace HB := hb_ hb bfnq_; have NB1_3 := nl_ hg BK1; have NB3_1 := ng_ hg BK1; replace BK1 := k1_ BK1 hb; have NB2_3 := nl_ hg BK2; have NB3_2 := ng_ hg BK2; replace BK2 := k1_ BK2 hb; clear hb hg; have hnb2 := NB3_1.out; have hnc2 := NB1_3.out; have hnb3 := NB3_2.out; have hnc3 := NB2_3.out; have hcz2 := z5_ BK3; have hcz3 := z5_ BK1) | ((with_reducible refine gc_ (f := 89) rfl ?_); refine gl_ 10 Tryd.func89 #[.agg #[.int .i64 a0_0, .bool a0_1, .slice A0_2 l0_2.length c0_2], .int .i64 a1] ?_; (with_reducible refine (spec_l2With.calls k a0_0 a0_1 _ _ l0_2 a1 t2 t3 t4 _ ?side1 ?side2 A2.out).mono ?_); (case side1 => exact cb_ HR0_2.out b850_); (case side2 => exact HC0_2.out); rintro e w4 ⟨v1, rfl, ho0, hb⟩; refine ⟨_, rfl, ?_⟩; have HO1 := A0_ (Kd.R_lower ho0 (bz_ b850_)); replace BK1 := k1_ BK1 hb; replace BK2 := k1_ BK2 hb; replace BK3 := k2_ (.cells #[.int .i64 a0_0, .bool a0_1, .slice A0_2 l0_2.length c0_2, .slice A0_3 l0_3.length c0_3, .int .i64 a0_4] 26 (0, 0)) BK3 hb; replace HB := hb_ hb b850_; (try clear hb); (try clear ho0); have hcz4 := z5_ BK3; obtain ⟨Ao1, co1, eo1⟩ := Kd.R_slice HO1.out; subst eo1; have hcz5_0 : w4.cell? ⟨gb1, 0, none⟩ = some (.int .i64 a0_0) := (kc_ BK1.out 0).trans rfl; have hcz5_1 : w4.cell? ⟨gb1, 1, none⟩ = some (.bool a0_1) := (kc_ BK1.out 1).trans rfl; have hcz5_2 : w4.cell? ⟨gb1, 2, none⟩ = some (.slice A0_2 l0_2.length c0_2) := (kc_ BK1.out 2).trans rfl; have hcz5_3 : w4.cell? ⟨gb1, 3, none⟩ = some (.slice A0_3 l0_3.length c0_3) := (kc_ BK1.out 3).trans rfl; have hcz5_4 : w4.cell? ⟨gb1, 4, none⟩ = some (.int .i64 a0_4) := (kc_ BK1.out 4).trans rfl; have hfz5_0 := kf_ BK1.out 0; have hfz5_1 := kf_ BK1.out 1; have hfz5_2 := kf_ BK1.out 2; have hfz5_3 := kf_ BK1.out 3; have hfz5_4 := kf_ BK1.out 4) | ((with_reducible refine gc_ (f := 58) rfl ?_); refine gl_ 14 Tryd.func58 #[.slice A0_3 l0_3.length c0_3] ?_; (with_reducible refine (spec_l1Own.calls _ _ l0_3 t1 _ ?side1 ?side2 A4.out).mono ?_); (case side1 => exact cb_ HR0_3.out b850_); (case side2 => exact HC0_3.out); rintro e w5 ⟨v4, rfl, ho0, hb⟩; refine ⟨_, rfl, ?_⟩; have HO2 := A0_ (Kd.R_lower (Kd.R_new' ho0 (Kd.R_lt boj0_)) (bz_ b850_)); replace HO1 := A0_ (Kd.R_elder' boj0_ (Kd.R_base ho0) hb); replace BK1 := k1_ BK1 hb; replace BK2 := k1_ BK2 hb; replace BK3 := k2_ (.cells #[.int .i64 t2, .bool t3, .slice Ao1 t4.length co1, .slice A0_3 l0_3.length c0_3, .int .i64 a0_4] 26 (0, 0)) BK3 hb; replace HB := hb_ hb b850_; (try clear hb); (try clear ho0)) | ((with_reducible refine gate_builtin (b := .append) (xs := #[.tmp 14, .tmp 16]) rfl ?_); at_builtin; refine Kd.R_append (Kd.int .i64) (w0 := w) w.heap.size rfl (.tmp 14) (.tmp 16) 22 3 (.int .i64 0) 8 rfl Tryd.underlying22 info3 rfl bi3y_ bh19_ v4 t1 a1 [.int .i64 a1] (fun k_ => no_ (.slice Ao1 t4.length co1) k_) (fun _ => False) rfl rfl ?aP (fun _ hk => hk.elim) ?aF ?aO ?aB ?aS ?aL ?_; (case aP => exact rfl); (case aB => exact b850_); (case aF => exact (fun k_ hk => Kd.fresh' (Kd.R_lt bsm5_) k_ hk)); (case aO => exact b61e_); (case aS => exact (bz_ b850_)); (case aL => have := LMc1.out; omega); intro v5 w6 ho hb hg hat; rw [← Ny1.out] at ho; have n0_ := A0_ (blk_grown (g := gb1) (o := .cells #[.int .i64 a0_0, .bool a0_1, .slice A0_2 l0_2.length c0_2, .slice A0_3 l0_3.length c0_3, .int .i64 a0_4] 26 (0, 0)) (u1_ BK1) hg (Kd.R_ne HO2.out BK1.out bi3y_)); have n1_ := A0_ (blk_grown (g := gb2) (o := .cells #[.int .i64 0, .bool false, .slice none 0 0, .slice none 0 0, .int .i64 0] 26 (0, 0)) (u1_ BK2) hg (Kd.R_ne HO2.out BK2.out bi3y_)); have n2_ := A0_ (blk_grown (g := gb3) (o := .cells #[.int .i64 t2, .bool t3, .slice Ao1 t4.length co1, .slice A0_3 l0_3.length c0_3, .int .i64 a0_4] 26 (0, 0)) (u1_ BK3) hg (Kd.R_ne HO2.out BK3.out bi3y_)); have n3_ := A0_ (Kd.R_after (ok := (fun _ => True)) bsm5_ hg hat); have n4_ := A0_ (hb); have n5_ := A0_ (ho); clear BK1 BK2 BK3 HO1 HB HO2; have BK1 := n0_; have BK2 := n1_; have BK3 := n2_; have HO1 := n3_; have HB := n4_; have HO3 := n5_; clear n0_ n1_ n2_ n3_ n4_ n5_ ho hb hg hat; obtain ⟨Ao2, co2, eo2⟩ := Kd.R_slice HO3.out; subst eo2; have hcz6 := z5_ BK3; have hcz7 := z5_ BK2))
 refine bodyPost_ret (results_cell_row rfl _ _ gb2 26 #[.int .i64 t2, .bool t3, .slice Ao1 t4.length co1, .slice Ao2 y1.length co2, .int .i64 a0_4] (0, 0) _ rfl (u1_ BK2) Tryd.underlying26 rfl bfqv_) rfl ?_
 exact ⟨_, _, bnwh_, by (with_reducible repeat (first | apply ra_ | apply rn_ | apply rd_)); exact Kd.R_mono (rf_ (rf_ (rf_ (rf_ (rf_ (rf_ (Kd.R_types (Kd.R_types HO1.out BK3.out bi3y_) BK2.out bi3y_) (fun _ hk => hk.1.2) (.slice Ao2 y1.length co2)) k2_0 _) k2_0 _) k2_0 _) k2_0 _) k2_0 _) (fun _ hk => hk.1.1.2), by (with_reducible repeat (first | apply ra_ | apply rn_ | apply rd_)); exact Kd.R_mono (rf_ (rf_ (rf_ (rf_ (rf_ (rf_ (Kd.R_types (Kd.R_types HO3.out BK3.out bi3y_) BK2.out bi3y_) (fun _ hk => hk.1.2) (.slice Ao2 y1.length co2)) k2_0 _) k2_0 _) k2_0 _) k2_0 _) k2_0 _) (fun _ hk => hk.1.1), b850_⟩

def spec_l1Most.f (a0 : Int) (a1 : Int) : Option (Int) := if a0 > a1 then (some a0) else (some a1)
theorem spec_l1Most.calls (a0 : Int) (a1 : Int) (r : Int) (w : World) (h : spec_l1Most.f a0 a1 = some r) :
  Calls Tryd.prog 96 #[.int .i64 a0, .int .i64 a1] w fun e w' => e = .returned (.int .i64 r) ∧ Drawn0 w w' := by
 have H : (if a0 > a1 then (some a0) else (some a1)) = some r := h
 clear h
 by_cases c1 : a0 > a1
 ·rw [if_pos c1] at H
  have c1b0 : decide (a1 < a0) = true := dt_ c1
  clear c1
  obtain rfl := si_ H
  go_enter Tryd.func96, Tryd.ntmps96
  go_wp2
  go_ret
  exact ⟨b04z_, boaj_⟩
 rw [if_neg c1] at H
 have c1b0 : decide (a1 < a0) = false := decide_eq_false c1
 clear c1
 obtain rfl := si_ H
 go_enter Tryd.func96, Tryd.ntmps96
 go_wp2
 go_ret
 exact ⟨b04z_, boaj_⟩

def spec_l1Least.f (a0 : Int) (a1 : Int) : Option (Int) := if a0 < a1 then (some a0) else (some a1)
theorem spec_l1Least.calls (a0 : Int) (a1 : Int) (r : Int) (w : World) (h : spec_l1Least.f a0 a1 = some r) :
  Calls Tryd.prog 97 #[.int .i64 a0, .int .i64 a1] w fun e w' => e = .returned (.int .i64 r) ∧ Drawn0 w w' := by
 have H : (if a0 < a1 then (some a0) else (some a1)) = some r := h
 clear h
 by_cases c1 : a0 < a1
 ·rw [if_pos c1] at H
  have c1b0 : decide (a0 < a1) = true := dt_ c1
  clear c1
  obtain rfl := si_ H
  go_enter Tryd.func97, Tryd.ntmps97
  go_wp2
  go_ret
  exact ⟨b04z_, boaj_⟩
 rw [if_neg c1] at H
 have c1b0 : decide (a0 < a1) = false := decide_eq_false c1
 clear c1
 obtain rfl := si_ H
 go_enter Tryd.func97, Tryd.ntmps97
 go_wp2
 go_ret
 exact ⟨b04z_, boaj_⟩

def spec_l2Gap.f (a0_0 : Int) (a0_1 : Bool) (l0_2 : List Int) (a1 : Int) (a2 : Int) : Option (Int) := (spec_l1Most.f (wrap64 (a1 - a2)) (wrap64 (a2 - a1))).bind fun t226 => (if a0_1 = true then ((spec_l1Least.f t226 (wrap64 (a0_0 - t226))).bind fun t227 => (some t227)) else (some t226))
theorem spec_l2Gap.calls (a0_0 : Int) (a0_1 : Bool) (A0_2 : Option Addr) (c0_2 : Nat) (l0_2 : List Int) (a1 : Int) (a2 : Int) (r : Int) (w : World) (hr0_2 : Kd.C (Kd.int .i64) w A0_2 l0_2.length l0_2) (hc0_2 : l0_2.length ≤ c0_2) (h : spec_l2Gap.f a0_0 a0_1 l0_2 a1 a2 = some r) :
  Calls Tryd.prog 80 #[.agg #[.int .i64 a0_0, .bool a0_1, .slice A0_2 l0_2.length c0_2], .int .i64 a1, .int .i64 a2] w fun e w' => e = .returned (.int .i64 r) ∧ Below w.heap.size w w' := by
 have hu24 := Tryd.underlying24
 have HR0_2 := A0_ hr0_2
 have HC0_2 := A0_ hc0_2
 clear hr0_2 hc0_2
 have HB := A0_ (Below.refl w.heap.size w)
 have H : ((spec_l1Most.f (wrap64 (a1 - a2)) (wrap64 (a2 - a1))).bind fun t1 => (if a0_1 = true then ((spec_l1Least.f t1 (wrap64 (a0_0 - t1))).bind fun t2 => (some t2)) else (some t1))) = some r := h
 clear h
 obtain ⟨t1, A2, H⟩ := o1_ H
 by_cases c1 : a0_1 = true
 case neg =>
  obtain rfl := bf_.mpr c1
  rw [if_neg ft_] at H
  obtain rfl := si_ H
  go_enter Tryd.func80, Tryd.ntmps80
  go_wp2_with (first | ((with_reducible refine gd_ (N := 3) rfl ?_); refine bx_ 3 #[.int .i64 a0_0, .bool false, .slice A0_2 l0_2.length c0_2] 24 ?_; intro gb1 hg w1 BK1 hb; have GW1 := ge_ hg brt4_; have GE1 := GW1; replace HB := hb_ hb brt4_; clear hb hg) | ((with_reducible refine gc_ (f := 96) rfl ?_); refine gl_ 14 Tryd.func96 #[.int .i64 (wrap64 (a1 - a2)), .int .i64 (wrap64 (a2 - a1))] ?_; (with_reducible refine (spec_l1Most.calls (wrap64 (a1 - a2)) (wrap64 (a2 - a1)) t1 _ A2.out).mono ?_); rintro e w' ⟨rfl, ⟨nd, rfl⟩⟩; refine ⟨_, rfl, ?_⟩; have hcz1 := c3_ BK1))
  go_ret
  exact ⟨bnwh_, be6g_⟩
 subst c1
 rw [if_pos rfl] at H
 obtain ⟨t2, A4, H⟩ := o1_ H
 replace H : (some t2) = some r := H
 obtain rfl := si_ H
 go_enter Tryd.func80, Tryd.ntmps80
 go_wp2_with (first | ((with_reducible refine gd_ (N := 3) rfl ?_); refine bx_ 3 #[.int .i64 a0_0, .bool true, .slice A0_2 l0_2.length c0_2] 24 ?_; intro gb1 hg w1 BK1 hb; have GW1 := ge_ hg brt4_; have GE1 := GW1; replace HB := hb_ hb brt4_; clear hb hg) | ((with_reducible refine gc_ (f := 96) rfl ?_); refine gl_ 14 Tryd.func96 #[.int .i64 (wrap64 (a1 - a2)), .int .i64 (wrap64 (a2 - a1))] ?_; (with_reducible refine (spec_l1Most.calls (wrap64 (a1 - a2)) (wrap64 (a2 - a1)) t1 _ A2.out).mono ?_); rintro e w' ⟨rfl, ⟨nd, rfl⟩⟩; refine ⟨_, rfl, ?_⟩; have hcz1 := c3_ BK1) | ((with_reducible refine gc_ (f := 97) rfl ?_); refine gl_ 22 Tryd.func97 #[.int .i64 t1, .int .i64 (wrap64 (a0_0 - t1))] ?_; (with_reducible refine (spec_l1Least.calls t1 (wrap64 (a0_0 - t1)) t2 _ A4.out).mono ?_); rintro e w' ⟨rfl, ⟨nd, rfl⟩⟩; refine ⟨_, rfl, ?_⟩))
 go_ret
 exact ⟨bnwh_, be6g_⟩

def spec_l2Nearest.l0 : Nat → List Int → Int → Int → Int → Int → Int → Bool → List Int → Option (Int × Int)
 | 0, _, _, _, _, _, _, _, _ => none
 | k + 1, x1, x2, x8, x9, x10, x229000, x229001, x229002 => if x10 < (x1.length : Int) then (if 0 ≤ x10 then ((spec_l2Gap.f x229000 x229001 x229002 x2 (rd x1 x10)).bind fun t230 => (if x8 < 0 then (spec_l2Nearest.l0 k x1 x2 (rd x1 x10) t230 (wrap64 (x10 + 1)) x229000 x229001 x229002) else (if t230 < x9 then (spec_l2Nearest.l0 k x1 x2 (rd x1 x10) t230 (wrap64 (x10 + 1)) x229000 x229001 x229002) else (spec_l2Nearest.l0 k x1 x2 x8 x9 (wrap64 (x10 + 1)) x229000 x229001 x229002)))) else (none)) else (some (x8, x9))
def spec_l2Nearest.f (k : Nat) (a0_0 : Int) (a0_1 : Bool) (l0_2 : List Int) (l1 : List Int) (a2 : Int) : Option (Int × Int) := spec_l2Nearest.l0 k l1 a2 (-1) (-1) 0 a0_0 a0_1 l0_2
theorem spec_l2Nearest.mono_l : ∀ k, (∀ y0 y1 y2 y3 y4 y5 y6 y7, LeO (spec_l2Nearest.l0 k y0 y1 y2 y3 y4 y5 y6 y7) (spec_l2Nearest.l0 (k + 1) y0 y1 y2 y3 y4 y5 y6 y7))
 | 0 => fun _ _ _ _ _ _ _ _ r h => by simp [spec_l2Nearest.l0] at h
 | k + 1 => by
  have ih0 := spec_l2Nearest.mono_l k
  ·intro y0 y1 y2 y3 y4 y5 y6 y7
   unfold spec_l2Nearest.l0
   repeat' with_reducible first | exact ih0 .. | exact LeO.refl .. | exact LeO.none .. | refine LeO.ite ?_ ?_ | refine LeO.bind ?_ (fun _ => ?_)
theorem spec_l2Nearest.mono : ∀ a0 a1 a2 a3 a4 k, LeO (spec_l2Nearest.f k a0 a1 a2 a3 a4) (spec_l2Nearest.f (k + 1) a0 a1 a2 a3 a4) := by
 intro a0 a1 a2 a3 a4 k
 have ih0 := spec_l2Nearest.mono_l k
 unfold spec_l2Nearest.f
 repeat' with_reducible first | exact ih0 .. | exact LeO.refl .. | exact LeO.none .. | refine LeO.ite ?_ ?_ | refine LeO.bind ?_ (fun _ => ?_)
def spec_l2Nearest.T5 : Bool × List (List Nat × List Nat) := (true, [([], []), ([], []), ([], []), ([], []), ([2, 3], [2, 3]), ([4], [4]), ([0, 1, 5], [0, 1, 5]), ([6, 6, 0, 1, 2, 3, 4, 5, 6], [6])])
def spec_l2Nearest.B5 : List Nat := [0, 0, 0, 0, 12, 28, 63, 127]
theorem spec_l2Nearest.tab5 : rtab .any (opsOf Tryd.f131 5) = spec_l2Nearest.T5 := by kernel_rfl
theorem spec_l2Nearest.bits5 : waitsOk spec_l2Nearest.T5.2 spec_l2Nearest.B5 = true := by kernel_rfl
theorem spec_l2Nearest.calls (k : Nat) (a0_0 : Int) (a0_1 : Bool) (A0_2 : Option Addr) (c0_2 : Nat) (l0_2 : List Int) (A1 : Option Addr) (c1 : Nat) (l1 : List Int) (a2 : Int) (r1 : Int) (r2 : Int) (w : World) (hr0_2 : Kd.C (Kd.int .i64) w A0_2 l0_2.length l0_2) (hc0_2 : l0_2.length ≤ c0_2) (hr1 : Kd.C (Kd.int .i64) w A1 l1.length l1) (hc1 : l1.length ≤ c1) (h : spec_l2Nearest.f k a0_0 a0_1 l0_2 l1 a2 = some (r1, r2)) :
  Calls Tryd.prog 131 #[.agg #[.int .i64 a0_0, .bool a0_1, .slice A0_2 l0_2.length c0_2], .slice A1 l1.length c1, .int .i64 a2] w fun e w' => e = .returned (.tuple #[.int .i64 r1, .int .i64 r2]) ∧ Below w.heap.size w w' := by
 have hu24 := Tryd.underlying24
 have HR0_2 := A0_ hr0_2
 have HC0_2 := A0_ hc0_2
 clear hr0_2 hc0_2
 have HR1 := A0_ hr1
 have HC1 := A0_ hc1
 clear hr1 hc1
 have HB := A0_ (Below.refl w.heap.size w)
 have H : (spec_l2Nearest.l0 k l1 a2 (-1) (-1) 0 a0_0 a0_1 l0_2) = some (r1, r2) := h
 clear h
 have H' := A0_ H
 clear H
 go_enter Tryd.func131, Tryd.ntmps131
 go_wp2_with (first | ((with_reducible refine gd_ (N := 3) rfl ?_); refine bx_ 3 #[.int .i64 a0_0, .bool a0_1, .slice A0_2 l0_2.length c0_2] 24 ?_; intro gb1 hg w1 BK1 hb; have GW1 := ge_ hg brt4_; have GE1 := GW1; replace HB := hb_ hb brt4_; clear hb hg))
 go_loopg [8, 9, 10] k (fun kq v1 v2 v3 w' => ∃ (x8_1 : Int) (x9_1 : Int) (x10_1 : Int), v1 = .int .i64 x8_1 ∧ v2 = .int .i64 x9_1 ∧ v3 = .int .i64 x10_1 ∧ Aside0 (spec_l2Nearest.l0 kq l1 a2 x8_1 x9_1 x10_1 a0_0 a0_1 l0_2 = some (r1, r2)) ∧ Aside0 (kq ≤ k) ∧ Aside0 (w'.heap[gb1]? = some (.cells #[.int .i64 a0_0, .bool a0_1, (.slice A0_2 l0_2.length c0_2)] 24 (0, 0))) ∧ Aside0 (Below w.heap.size w w'))
 case atStart => exact ⟨((-1)), ((-1)), (0), b2ew_, b2ew_, b2ew_, H', ⟨Nat.le_refl _⟩, ⟨u1_ BK1⟩, ⟨be6g_⟩⟩
 clear H'
 try clear c1
 obtain ⟨x8_1, x9_1, x10_1, rfl, rfl, rfl, HA, HK1, BK1, HB⟩ := hrel
 cases gk with | zero => exact absurd HA.out (by simp [spec_l2Nearest.l0]) | succ k1 => ?_
 have H := HA.out
 clear HA
 simp only [spec_l2Nearest.l0] at H
 by_cases c2 : x10_1 < (l1.length : Int)
 case neg =>
  rw [if_neg c2] at H
  have c2b0 : decide (x10_1 < (l1.length : Int)) = false := decide_eq_false c2
  clear c2
  simp only [sj_, pj_] at H
  obtain ⟨rfl, rfl⟩ := H
  go_wp2
  go_ret2
  exact ⟨bnwh_, be6g_⟩
 rw [if_pos c2] at H
 have c2b0 : decide (x10_1 < (l1.length : Int)) = true := dt_ c2
 clear c2
 by_cases c3 : 0 ≤ x10_1
 case neg =>
  rw [if_neg c3] at H
  exact absurd H bxka_
 rw [if_pos c3] at H
 have c3b0 : decide (0 ≤ x10_1) = true := dt_ c3
 clear c3
 obtain ⟨t1, A3, H⟩ := o1_ H
 by_cases c4 : x8_1 < 0
 ·rw [if_pos c4] at H
  have c4b0 : decide (x8_1 < 0) = true := dt_ c4
  clear c4
  have H' := A0_ H
  clear H
  try go_wp2
  replace BK1 := A0_ (kd_ BK1.out)
  replace HB := A0_ (bd_ HB.out)
  have p1 : 0 ≤ (x10_1 : Int) := od_ bpil_
  have q1 : x10_1 < (l1.length : Int) := od_ bpil_
  obtain ⟨ad1, e1, hx1_0⟩ := Kd.at_int HR1.out x10_1 p1 q1
  have hw229_0 := hx1_0
  cases e1
  replace hx1_0 := (HB.out.cell (World.block_lt_of_cell? w _ hx1_0)).trans hx1_0
  replace p1 := eq_true p1
  replace q1 := eq_true q1
  refine start_ (n := 8) (S := fun w' => w'.cell? ⟨gb1, 0, none⟩ = some (.int .i64 a0_0) ∧ w'.cell? ⟨gb1, 1, none⟩ = some (.bool a0_1) ∧ w'.cell? ⟨gb1, 2, none⟩ = some (.slice A0_2 l0_2.length c0_2) ∧ w'.cell? (ad1.add (x10_1).toNat) = some (.int .i64 (rd l1 x10_1))) (ds := []) #[false, false, false, false, false, false, false, false] bfqv_ rfl rfl ⟨(kc_ BK1.out 0).trans rfl, (kc_ BK1.out 1).trans rfl, (kc_ BK1.out 2).trans rfl, ((HB.out.cell (World.block_lt_of_cell? w _ hw229_0)).trans hw229_0)⟩ (fun hHeld => ?_); refine with_tabW spec_l2Nearest.tab5 spec_l2Nearest.bits5 (fun HT_ HW_ => ?_)
  generalize wr.drew = w2 at BK1 HB hx1_0 hHeld ⊢
  refine pu_ 1 19 ?_
  refine pu_ 2 20 ?_
  refine pu_ 3 21 ?_
  refine pu_ 4 22 ?_
  refine tk_ 0 18 hHeld ?_
  refine tk_ 5 23 hHeld ?_
  refine on_ 6 (some 24) (fun K hK => ?_)
  refine gs_ Tryd.func80 #[.agg #[.int .i64 a0_0, .bool a0_1, .slice A0_2 l0_2.length c0_2], .int .i64 a2, .int .i64 (rd l1 x10_1)] ?_
  with_reducible refine (spec_l2Gap.calls a0_0 a0_1 _ _ l0_2 a2 (rd l1 x10_1) t1 _ ?side1 ?side2 A3.out).mono ?_
  (case side1 => exact b6n8_)
  (case side2 => exact HC0_2.out)
  rintro e w3 ⟨rfl, hb⟩
  refine ⟨_, rfl, ?_⟩
  replace BK1 := k1_ BK1 hb
  replace HB := hb_ hb be6g_
  (try clear hb)
  refine hK.out _ _ ⟨(kc_ BK1.out 0).trans rfl, (kc_ BK1.out 1).trans rfl, (kc_ BK1.out 2).trans rfl, ((HB.out.cell (World.block_lt_of_cell? w _ hw229_0)).trans hw229_0)⟩ (fun hHeld => ?_)
  clear hK K
  refine nm_ 24 ?_
  refine pu_ 7 11 ?_
  refine dn_ ?_
  have p2 : 0 ≤ (x10_1 : Int) := od_ bpil_
  have q2 : x10_1 < (l1.length : Int) := od_ bpil_
  obtain ⟨ad2, e2, hx2_0⟩ := Kd.at_int HR1.out x10_1 p2 q2
  obtain rfl : ad1 = ad2 := bs6y_
  replace hx2_0 := (HB.out.cell (World.block_lt_of_cell? w _ hx2_0)).trans hx2_0
  replace p2 := eq_true p2
  replace q2 := eq_true q2
  try go_wp2
  go_roundg k1
  case measure => have := HK1.out; omega
  exact ⟨(rd l1 x10_1), (t1), (wrap64 (x10_1 + 1)), b2ew_, b2ew_, b2ew_, H', ⟨bxjq_⟩, ⟨u1_ BK1⟩, ⟨be6g_⟩⟩
 rw [if_neg c4] at H
 have c4b0 : decide (x8_1 < 0) = false := decide_eq_false c4
 clear c4
 by_cases c5 : t1 < x9_1
 case neg =>
  rw [if_neg c5] at H
  have c5b0 : decide (t1 < x9_1) = false := decide_eq_false c5
  clear c5
  have H' := A0_ H
  clear H
  try go_wp2
  replace BK1 := A0_ (kd_ BK1.out)
  replace HB := A0_ (bd_ HB.out)
  have p1 : 0 ≤ (x10_1 : Int) := od_ bpil_
  have q1 : x10_1 < (l1.length : Int) := od_ bpil_
  obtain ⟨ad1, e1, hx1_0⟩ := Kd.at_int HR1.out x10_1 p1 q1
  have hw229_0 := hx1_0
  cases e1
  replace hx1_0 := (HB.out.cell (World.block_lt_of_cell? w _ hx1_0)).trans hx1_0
  replace p1 := eq_true p1
  replace q1 := eq_true q1
  refine start_ (n := 8) (S := fun w' => w'.cell? ⟨gb1, 0, none⟩ = some (.int .i64 a0_0) ∧ w'.cell? ⟨gb1, 1, none⟩ = some (.bool a0_1) ∧ w'.cell? ⟨gb1, 2, none⟩ = some (.slice A0_2 l0_2.length c0_2) ∧ w'.cell? (ad1.add (x10_1).toNat) = some (.int .i64 (rd l1 x10_1))) (ds := []) #[false, false, false, false, false, false, false, false] bfqv_ rfl rfl ⟨(kc_ BK1.out 0).trans rfl, (kc_ BK1.out 1).trans rfl, (kc_ BK1.out 2).trans rfl, ((HB.out.cell (World.block_lt_of_cell? w _ hw229_0)).trans hw229_0)⟩ (fun hHeld => ?_); refine with_tabW spec_l2Nearest.tab5 spec_l2Nearest.bits5 (fun HT_ HW_ => ?_)
  generalize wr.drew = w2 at BK1 HB hx1_0 hHeld ⊢
  refine pu_ 1 19 ?_
  refine pu_ 2 20 ?_
  refine pu_ 3 21 ?_
  refine pu_ 4 22 ?_
  refine tk_ 0 18 hHeld ?_
  refine tk_ 5 23 hHeld ?_
  refine on_ 6 (some 24) (fun K hK => ?_)
  refine gs_ Tryd.func80 #[.agg #[.int .i64 a0_0, .bool a0_1, .slice A0_2 l0_2.length c0_2], .int .i64 a2, .int .i64 (rd l1 x10_1)] ?_
  with_reducible refine (spec_l2Gap.calls a0_0 a0_1 _ _ l0_2 a2 (rd l1 x10_1) t1 _ ?side1 ?side2 A3.out).mono ?_
  (case side1 => exact b6n8_)
  (case side2 => exact HC0_2.out)
  rintro e w3 ⟨rfl, hb⟩
  refine ⟨_, rfl, ?_⟩
  replace BK1 := k1_ BK1 hb
  replace HB := hb_ hb be6g_
  (try clear hb)
  refine hK.out _ _ ⟨(kc_ BK1.out 0).trans rfl, (kc_ BK1.out 1).trans rfl, (kc_ BK1.out 2).trans rfl, ((HB.out.cell (World.block_lt_of_cell? w _ hw229_0)).trans hw229_0)⟩ (fun hHeld => ?_)
  clear hK K
  refine nm_ 24 ?_
  refine pu_ 7 11 ?_
  refine dn_ ?_
  try go_wp2
  go_roundg k1
  case measure => have := HK1.out; omega
  exact ⟨(x8_1), (x9_1), (wrap64 (x10_1 + 1)), b2ew_, b2ew_, b2ew_, H', ⟨bxjq_⟩, ⟨u1_ BK1⟩, ⟨be6g_⟩⟩
 rw [if_pos c5] at H
 have c5b0 : decide (t1 < x9_1) = true := dt_ c5
 clear c5
 have H' := A0_ H
 clear H
 try go_wp2
 replace BK1 := A0_ (kd_ BK1.out)
 replace HB := A0_ (bd_ HB.out)
 have p1 : 0 ≤ (x10_1 : Int) := od_ bpil_
 have q1 : x10_1 < (l1.length : Int) := od_ bpil_
 obtain ⟨ad1, e1, hx1_0⟩ := Kd.at_int HR1.out x10_1 p1 q1
 have hw229_0 := hx1_0
 cases e1
 replace hx1_0 := (HB.out.cell (World.block_lt_of_cell? w _ hx1_0)).trans hx1_0
 replace p1 := eq_true p1
 replace q1 := eq_true q1
 refine start_ (n := 8) (S := fun w' => w'.cell? ⟨gb1, 0, none⟩ = some (.int .i64 a0_0) ∧ w'.cell? ⟨gb1, 1, none⟩ = some (.bool a0_1) ∧ w'.cell? ⟨gb1, 2, none⟩ = some (.slice A0_2 l0_2.length c0_2) ∧ w'.cell? (ad1.add (x10_1).toNat) = some (.int .i64 (rd l1 x10_1))) (ds := []) #[false, false, false, false, false, false, false, false] bfqv_ rfl rfl ⟨(kc_ BK1.out 0).trans rfl, (kc_ BK1.out 1).trans rfl, (kc_ BK1.out 2).trans rfl, ((HB.out.cell (World.block_lt_of_cell? w _ hw229_0)).trans hw229_0)⟩ (fun hHeld => ?_); refine with_tabW spec_l2Nearest.tab5 spec_l2Nearest.bits5 (fun HT_ HW_ => ?_)
 generalize wr.drew = w2 at BK1 HB hx1_0 hHeld ⊢
 refine pu_ 1 19 ?_
 refine pu_ 2 20 ?_
 refine pu_ 3 21 ?_
 refine pu_ 4 22 ?_
 refine tk_ 0 18 hHeld ?_
 refine tk_ 5 23 hHeld ?_
 refine on_ 6 (some 24) (fun K hK => ?_)
 refine gs_ Tryd.func80 #[.agg #[.int .i64 a0_0, .bool a0_1, .slice A0_2 l0_2.length c0_2], .int .i64 a2, .int .i64 (rd l1 x10_1)] ?_
 with_reducible refine (spec_l2Gap.calls a0_0 a0_1 _ _ l0_2 a2 (rd l1 x10_1) t1 _ ?side1 ?side2 A3.out).mono ?_
 (case side1 => exact b6n8_)
 (case side2 => exact HC0_2.out)
 rintro e w3 ⟨rfl, hb⟩
 refine ⟨_, rfl, ?_⟩
 replace BK1 := k1_ BK1 hb
 replace HB := hb_ hb be6g_
 (try clear hb)
 refine hK.out _ _ ⟨(kc_ BK1.out 0).trans rfl, (kc_ BK1.out 1).trans rfl, (kc_ BK1.out 2).trans rfl, ((HB.out.cell (World.block_lt_of_cell? w _ hw229_0)).trans hw229_0)⟩ (fun hHeld => ?_)
 clear hK K
 refine nm_ 24 ?_
 refine pu_ 7 11 ?_
 refine dn_ ?_
 have p2 : 0 ≤ (x10_1 : Int) := od_ bpil_
 have q2 : x10_1 < (l1.length : Int) := od_ bpil_
 obtain ⟨ad2, e2, hx2_0⟩ := Kd.at_int HR1.out x10_1 p2 q2
 obtain rfl : ad1 = ad2 := bs6y_
 replace hx2_0 := (HB.out.cell (World.block_lt_of_cell? w _ hx2_0)).trans hx2_0
 replace p2 := eq_true p2
 replace q2 := eq_true q2
 try go_wp2
 go_roundg k1
 case measure => have := HK1.out; omega
 exact ⟨(rd l1 x10_1), (t1), (wrap64 (x10_1 + 1)), b2ew_, b2ew_, b2ew_, H', ⟨bxjq_⟩, ⟨u1_ BK1⟩, ⟨be6g_⟩⟩

def spec_l2Farthest.f (k : Nat) (a0_0 : Int) (a0_1 : Bool) (l0_2 : List Int) (a1 : Int) : Option (Int) := (spec_l2Nearest.f k a0_0 a0_1 l0_2 l0_2 a1).bind fun bt234 => (some bt234.2)
theorem spec_l2Farthest.mono : ∀ a0 a1 a2 a3 k, LeO (spec_l2Farthest.f k a0 a1 a2 a3) (spec_l2Farthest.f (k + 1) a0 a1 a2 a3) := by
 intro a0 a1 a2 a3 k
 unfold spec_l2Farthest.f
 repeat' with_reducible first | exact spec_l2Nearest.mono .. | exact LeO.refl .. | exact LeO.none .. | refine LeO.ite ?_ ?_ | refine LeO.bind ?_ (fun _ => ?_)
theorem spec_l2Farthest.calls (k : Nat) (a0_0 : Int) (a0_1 : Bool) (A0_2 : Option Addr) (c0_2 : Nat) (l0_2 : List Int) (a1 : Int) (r : Int) (w : World) (hr0_2 : Kd.C (Kd.int .i64) w A0_2 l0_2.length l0_2) (hc0_2 : l0_2.length ≤ c0_2) (h : spec_l2Farthest.f k a0_0 a0_1 l0_2 a1 = some r) :
  Calls Tryd.prog 128 #[.agg #[.int .i64 a0_0, .bool a0_1, .slice A0_2 l0_2.length c0_2], .int .i64 a1] w fun e w' => e = .returned (.int .i64 r) ∧ Below w.heap.size w w' := by
 have hu24 := Tryd.underlying24
 have HR0_2 := A0_ hr0_2
 have HC0_2 := A0_ hc0_2
 clear hr0_2 hc0_2
 have HB := A0_ (Below.refl w.heap.size w)
 have H : ((spec_l2Nearest.f k a0_0 a0_1 l0_2 l0_2 a1).bind fun bt1 => (some bt1.2)) = some r := h
 clear h
 obtain ⟨⟨t1, t2⟩, A2, H⟩ := o1_ H
 replace H : (some t2) = some r := H
 obtain rfl := si_ H
 go_enter Tryd.func128, Tryd.ntmps128
 go_wp2_with (first | ((with_reducible refine gd_ (N := 2) rfl ?_); refine bx_ 2 #[.int .i64 a0_0, .bool a0_1, .slice A0_2 l0_2.length c0_2] 24 ?_; intro gb1 hg w1 BK1 hb; have GW1 := ge_ hg brt4_; have GE1 := GW1; replace HB := hb_ hb brt4_; clear hb hg; have hcz1 := c3_ BK1) | ((with_reducible refine gc_ (f := 131) rfl ?_); refine gl_ 12 Tryd.func131 #[.agg #[.int .i64 a0_0, .bool a0_1, .slice A0_2 l0_2.length c0_2], .slice A0_2 l0_2.length c0_2, .int .i64 a1] ?_; (with_reducible refine (spec_l2Nearest.calls k a0_0 a0_1 _ _ l0_2 _ _ l0_2 a1 t1 t2 _ ?side1 ?side2 ?side3 ?side4 A2.out).mono ?_); (case side1 => exact b6n8_); (case side2 => exact HC0_2.out); (case side3 => exact b6n8_); (case side4 => exact HC0_2.out); rintro e w2 ⟨rfl, hb⟩; refine ⟨_, rfl, ?_⟩; replace BK1 := k1_ BK1 hb; replace HB := hb_ hb be6g_; (try clear hb)))
 go_ret
 exact ⟨bnwh_, be6g_⟩

def spec_l3Far.f (k : Nat) (a0_0 : Int) (a0_1 : Bool) (l0_2 : List Int) (a1 : Int) : Option (Int) := if (l0_2.length : Int) = 0 then (some a0_0) else ((spec_l2Farthest.f k a0_0 a0_1 l0_2 a1).bind fun t237 => (some t237))
theorem spec_l3Far.mono : ∀ a0 a1 a2 a3 k, LeO (spec_l3Far.f k a0 a1 a2 a3) (spec_l3Far.f (k + 1) a0 a1 a2 a3) := by
 intro a0 a1 a2 a3 k
 unfold spec_l3Far.f
 repeat' with_reducible first | exact spec_l2Farthest.mono .. | exact LeO.refl .. | exact LeO.none .. | refine LeO.ite ?_ ?_ | refine LeO.bind ?_ (fun _ => ?_)
theorem spec_l3Far.calls (k : Nat) (a0_0 : Int) (a0_1 : Bool) (A0_2 : Option Addr) (c0_2 : Nat) (l0_2 : List Int) (a1 : Int) (r : Int) (w : World) (hr0_2 : Kd.C (Kd.int .i64) w A0_2 l0_2.length l0_2) (hc0_2 : l0_2.length ≤ c0_2) (h : spec_l3Far.f k a0_0 a0_1 l0_2 a1 = some r) :
  Calls Tryd.prog 119 #[.agg #[.int .i64 a0_0, .bool a0_1, .slice A0_2 l0_2.length c0_2], .int .i64 a1] w fun e w' => e = .returned (.int .i64 r) ∧ Below w.heap.size w w' := by
 have hu24 := Tryd.underlying24
 have HR0_2 := A0_ hr0_2
 have HC0_2 := A0_ hc0_2
 clear hr0_2 hc0_2
 have HB := A0_ (Below.refl w.heap.size w)
 have H : (if (l0_2.length : Int) = 0 then (some a0_0) else ((spec_l2Farthest.f k a0_0 a0_1 l0_2 a1).bind fun t1 => (some t1))) = some r := h
 clear h
 by_cases c1 : (l0_2.length : Int) = 0
 ·rw [if_pos c1] at H
  obtain ⟨c1b0, c1b1⟩ := et_ c1
  clear c1
  obtain rfl := si_ H
  go_enter Tryd.func119, Tryd.ntmps119
  go_wp2_with (first | ((with_reducible refine gd_ (N := 2) rfl ?_); refine bx_ 2 #[.int .i64 a0_0, .bool a0_1, .slice A0_2 l0_2.length c0_2] 24 ?_; intro gb1 hg w1 BK1 hb; have GW1 := ge_ hg brt4_; have GE1 := GW1; replace HB := hb_ hb brt4_; clear hb hg; have hcz1 := c3_ BK1))
  go_ret
  exact ⟨bnwh_, be6g_⟩
 rw [if_neg c1] at H
 obtain ⟨c1b0, c1b1⟩ := ef_ c1
 have c1b2 : ¬ (l0_2 = []) := fun h_ => c1 (by rw [h_]; rfl)
 obtain ⟨t1, A2, H⟩ := o1_ H
 replace H : (some t1) = some r := H
 obtain rfl := si_ H
 go_enter Tryd.func119, Tryd.ntmps119
 go_wp2_with (first | ((with_reducible refine gd_ (N := 2) rfl ?_); refine bx_ 2 #[.int .i64 a0_0, .bool a0_1, .slice A0_2 l0_2.length c0_2] 24 ?_; intro gb1 hg w1 BK1 hb; have GW1 := ge_ hg brt4_; have GE1 := GW1; replace HB := hb_ hb brt4_; clear hb hg; have hcz1 := c3_ BK1) | ((with_reducible refine gc_ (f := 128) rfl ?_); refine gl_ 13 Tryd.func128 #[.agg #[.int .i64 a0_0, .bool a0_1, .slice A0_2 l0_2.length c0_2], .int .i64 a1] ?_; (with_reducible refine (spec_l2Farthest.calls k a0_0 a0_1 _ _ l0_2 a1 t1 _ ?side1 ?side2 A2.out).mono ?_); (case side1 => exact b6n8_); (case side2 => exact HC0_2.out); rintro e w2 ⟨rfl, hb⟩; refine ⟨_, rfl, ?_⟩; replace BK1 := k1_ BK1 hb; replace HB := hb_ hb be6g_; (try clear hb)))
 go_ret
 exact ⟨bnwh_, be6g_⟩

def spec_l3All.l0 : Nat → List Int → Int → Int → Bool → List Int → Option (List Int)
 | 0, _, _, _, _, _ => none
 | k + 1, x3, x4, x239000, x239001, x239002 => if x4 < x239000 then ((spec_l3Far.f k x239000 x239001 x239002 x4).bind fun t242 => (if x3.length < 17592186044416 then (spec_l3All.l0 k (x3 ++ [t242]) (wrap64 (x4 + 1)) x239000 x239001 x239002) else (none))) else (some x3)
def spec_l3All.f (k : Nat) (a0_0 : Int) (a0_1 : Bool) (l0_2 : List Int) : Option (List Int) := spec_l3All.l0 k (([] : List Int)) 0 a0_0 a0_1 l0_2
theorem spec_l3All.mono_l : ∀ k, (∀ y0 y1 y2 y3 y4, LeO (spec_l3All.l0 k y0 y1 y2 y3 y4) (spec_l3All.l0 (k + 1) y0 y1 y2 y3 y4))
 | 0 => fun _ _ _ _ _ r h => by simp [spec_l3All.l0] at h
 | k + 1 => by
  have ih0 := spec_l3All.mono_l k
  ·intro y0 y1 y2 y3 y4
   unfold spec_l3All.l0
   repeat' with_reducible first | exact ih0 .. | exact spec_l3Far.mono .. | exact LeO.refl .. | exact LeO.none .. | refine LeO.ite ?_ ?_ | refine LeO.bind ?_ (fun _ => ?_)
theorem spec_l3All.mono : ∀ a0 a1 a2 k, LeO (spec_l3All.f k a0 a1 a2) (spec_l3All.f (k + 1) a0 a1 a2) := by
 intro a0 a1 a2 k
 have ih0 := spec_l3All.mono_l k
 unfold spec_l3All.f
 repeat' with_reducible first | exact ih0 .. | exact spec_l3Far.mono .. | exact LeO.refl .. | exact LeO.none .. | refine LeO.ite ?_ ?_ | refine LeO.bind ?_ (fun _ => ?_)
theorem spec_l3All.calls (k : Nat) (a0_0 : Int) (a0_1 : Bool) (A0_2 : Option Addr) (c0_2 : Nat) (l0_2 : List Int) (r : List Int) (w : World) (hr0_2 : Kd.C (Kd.int .i64) w A0_2 l0_2.length l0_2) (hc0_2 : l0_2.length ≤ c0_2) (h : spec_l3All.f k a0_0 a0_1 l0_2 = some r) :
  Calls Tryd.prog 101 #[.agg #[.int .i64 a0_0, .bool a0_1, .slice A0_2 l0_2.length c0_2]] w fun e w' => ∃ v0_ : Value, e = .returned (v0_) ∧ Kd.R (Kd.int .i64) 3 w' w.heap.size (fun _ => True) v0_ r ∧ Below w.heap.size w w' := by
 have hu24 := Tryd.underlying24
 have HR0_2 := A0_ hr0_2
 have HC0_2 := A0_ hc0_2
 clear hr0_2 hc0_2
 have HB := A0_ (Below.refl w.heap.size w)
 have H : (spec_l3All.l0 k (([] : List Int)) 0 a0_0 a0_1 l0_2) = some r := h
 clear h
 obtain ⟨y1, hy1⟩ : ∃ y_ : List Int, y_ = (([] : List Int)) := ⟨_, rfl⟩
 replace H : (spec_l3All.l0 k y1 0 a0_0 a0_1 l0_2) = some r := bgiq_
 have Ny1 := A0_ hy1
 clear hy1
 have H' := A0_ H
 clear H
 go_enter Tryd.func101, Tryd.ntmps101
 go_wp2_with (first | ((with_reducible refine gd_ (N := 1) rfl ?_); refine bx_ 1 #[.int .i64 a0_0, .bool a0_1, .slice A0_2 l0_2.length c0_2] 24 ?_; intro gb1 hg w1 BK1 hb; have GW1 := ge_ hg brt4_; have GE1 := GW1; replace HB := hb_ hb brt4_; clear hb hg) | ((with_reducible refine gd_ (N := 5) rfl ?_); refine Kd.R_lit (Kd.int .i64) _ 3 ?hg (N := 5) ?hd (xs := ([] : List Int)) (inner := []) (ok := fun _ => True) (okp := fun _ => True) ?hr ?hp (fun _ hk => hk) trivial (Below.refl _ _) (Nat.le_refl _) bxka_ ?_; (case hd => rfl); (case hg => rfl); (case hr => go_simp; first | done | rfl); (case hp => exact (Reps.none _ _)); intro v1 w2 ho4 hb hg_ hnew_; clear hg_ hnew_; (first | rw [← Ny1.out] at ho4 | (simp only [Int.reduceToNat] at ho4; rw [← Ny1.out] at ho4)); have HO1 := A0_ (Kd.R_lower ho4 (bz_ be6g_)); replace BK1 := k1_ BK1 hb; replace HB := hb_ hb be6g_; clear hb ho4))
 go_loopg [3, 4] k (fun kq v2 v3 w' => ∃ (x3_1 : List Int) (x4_1 : Int), v3 = .int .i64 x4_1 ∧ Aside0 (spec_l3All.l0 kq x3_1 x4_1 a0_0 a0_1 l0_2 = some r) ∧ Aside0 (kq ≤ k) ∧ Aside0 (Kd.R (Kd.int .i64) 3 w' w.heap.size (fun _ => True) v2 x3_1) ∧ Aside0 (w'.heap[gb1]? = some (.cells #[.int .i64 a0_0, .bool a0_1, (.slice A0_2 l0_2.length c0_2)] 24 (0, 0))) ∧ Aside0 (Below w.heap.size w w'))
 case atStart => exact ⟨(y1), (0), b2ew_, H', ⟨Nat.le_refl _⟩, ⟨bsm5_⟩, ⟨u1_ BK1⟩, ⟨be6g_⟩⟩
 clear H'
 obtain ⟨x3_1, x4_1, rfl, HA, HK1, HO_1, BK1, HB⟩ := hrel
 cases gk with | zero => exact absurd HA.out (by simp [spec_l3All.l0]) | succ k1 => ?_
 have H := HA.out
 clear HA
 simp only [spec_l3All.l0] at H
 by_cases c1 : x4_1 < a0_0
 case neg =>
  rw [if_neg c1] at H
  have c1b0 : decide (x4_1 < a0_0) = false := decide_eq_false c1
  clear c1
  obtain rfl := si_ H
  have hcz1 := c3_ BK1
  go_wp2
  go_ret
  exact ⟨_, bnwh_, bwik_, be6g_⟩
 rw [if_pos c1] at H
 have c1b0 : decide (x4_1 < a0_0) = true := dt_ c1
 clear c1
 obtain ⟨t1, A2, H⟩ := o1_ H
 by_cases c2 : x3_1.length < 17592186044416
 case neg =>
  rw [if_neg c2] at H
  exact absurd H bxka_
 rw [if_pos c2] at H
 have LMc1 := A0_ c2
 clear c2
 obtain ⟨y2, hy2⟩ : ∃ y_ : List Int, y_ = (x3_1 ++ [t1]) := ⟨_, rfl⟩
 replace H : (spec_l3All.l0 k1 y2 (wrap64 (x4_1 + 1)) a0_0 a0_1 l0_2) = some r := bscs_
 have Ny2 := A0_ hy2
 clear hy2
 have H' := A0_ H
 clear H
 have hcz1 := c3_ BK1
 go_wp2_with (first | ((with_reducible refine gc_ (f := 119) rfl ?_); refine gl_ 15 Tryd.func119 #[.agg #[.int .i64 a0_0, .bool a0_1, .slice A0_2 l0_2.length c0_2], .int .i64 x4_1] ?_; (with_reducible refine (spec_l3Far.calls k1 a0_0 a0_1 _ _ l0_2 x4_1 t1 _ ?side1 ?side2 A2.out).mono ?_); (case side1 => exact b6n8_); (case side2 => exact HC0_2.out); rintro e w3 ⟨rfl, hb⟩; refine ⟨_, rfl, ?_⟩; replace HO_1 := A0_ (Kd.R_below bwik_ hb); replace BK1 := k1_ BK1 hb; replace HB := hb_ hb be6g_; (try clear hb)) | ((with_reducible refine gate_builtin (b := .append) (xs := #[.tmp 12, .tmp 16]) rfl ?_); at_builtin; refine Kd.R_append (Kd.int .i64) (w0 := w) w.heap.size rfl (.tmp 12) (.tmp 16) 22 3 (.int .i64 0) 8 rfl Tryd.underlying22 info3 rfl bi3y_ bh19_ u3 x3_1 t1 [.int .i64 t1] (fun _ => True) (fun _ => False) rfl rfl ?aP (fun _ hk => hk.elim) ?aF ?aO ?aB ?aS ?aL ?_; (case aP => exact rfl); (case aB => exact be6g_); (case aF => exact (fun _ _ => trivial)); (case aO => exact bwik_); (case aS => exact (bz_ be6g_)); (case aL => have := LMc1.out; omega); intro v4 w4 ho hb hg hat; rw [← Ny2.out] at ho; have n0_ := A0_ (blk_grown (g := gb1) (o := .cells #[.int .i64 a0_0, .bool a0_1, .slice A0_2 l0_2.length c0_2] 24 (0, 0)) (u1_ BK1) hg (Kd.R_ne HO_1.out BK1.out bi3y_)); have n1_ := A0_ (hb); have n2_ := A0_ (ho); clear BK1 HB HO_1; have BK1 := n0_; have HB := n1_; have HO2 := n2_; clear n0_ n1_ n2_ ho hb hg hat))
 go_roundg k1
 case measure => have := HK1.out; omega
 exact ⟨(y2), (wrap64 (x4_1 + 1)), b2ew_, H', ⟨bxjq_⟩, ⟨b9so_⟩, ⟨u1_ BK1⟩, ⟨be6g_⟩⟩

mutual
def spec_l3Polite.l0 : Nat → List Int → List Int → Int → Int → Int → Bool → List Int → Option (List Int)
 | 0, _, _, _, _, _, _, _ => none
 | k + 1, x3, x4, x5, x6, x247000, x247001, x247002 => if x6 < x247000 then (if 0 ≤ x6 then (if x6 < (x4.length : Int) then ((spec_l1Most.f x5 (rd x4 x6)).bind fun t254 => (spec_l3Polite.l0 k x3 x4 t254 (wrap64 (x6 + 1)) x247000 x247001 x247002)) else (none)) else (none)) else (spec_l3Polite.l1 k x3 x4 x5 0 x247000 x247001 x247002)
def spec_l3Polite.l1 : Nat → List Int → List Int → Int → Int → Int → Bool → List Int → Option (List Int)
 | 0, _, _, _, _, _, _, _ => none
 | k + 1, x3, x4, x5, x7, x247000, x247001, x247002 => if x7 < x247000 then (spec_l3Polite.j2 k x3 x4 x5 x7 (decide (x5 > 0)) x247000 x247001 x247002) else (spec_l3Polite.j2 k x3 x4 x5 x7 false x247000 x247001 x247002)
def spec_l3Polite.j2 : Nat → List Int → List Int → Int → Int → Bool → Int → Bool → List Int → Option (List Int)
 | 0, _, _, _, _, _, _, _, _ => none
 | k + 1, x3, x4, x5, x7, x30, x247000, x247001, x247002 => if x30 = true then (if 0 ≤ x7 then (if x7 < (x4.length : Int) then (if (rd x4 x7) = x5 then (if x3.length < 17592186044416 then (spec_l3Polite.l1 k (x3 ++ [x7]) x4 x5 (wrap64 (x7 + 1)) x247000 x247001 x247002) else (none)) else (spec_l3Polite.l1 k x3 x4 x5 (wrap64 (x7 + 1)) x247000 x247001 x247002)) else (none)) else (none)) else (some x3)
end
def spec_l3Polite.f (k : Nat) (a0_0 : Int) (a0_1 : Bool) (l0_2 : List Int) : Option (List Int) := (spec_l3All.f k a0_0 a0_1 l0_2).bind fun t250 => (spec_l3Polite.l0 k (([] : List Int)) t250 0 0 a0_0 a0_1 l0_2)
theorem spec_l3Polite.mono_l : ∀ k, (∀ y0 y1 y2 y3 y4 y5 y6, LeO (spec_l3Polite.l0 k y0 y1 y2 y3 y4 y5 y6) (spec_l3Polite.l0 (k + 1) y0 y1 y2 y3 y4 y5 y6)) ∧ (∀ y0 y1 y2 y3 y4 y5 y6, LeO (spec_l3Polite.l1 k y0 y1 y2 y3 y4 y5 y6) (spec_l3Polite.l1 (k + 1) y0 y1 y2 y3 y4 y5 y6)) ∧ (∀ y0 y1 y2 y3 y4 y5 y6 y7, LeO (spec_l3Polite.j2 k y0 y1 y2 y3 y4 y5 y6 y7) (spec_l3Polite.j2 (k + 1) y0 y1 y2 y3 y4 y5 y6 y7))
 | 0 => ⟨fun _ _ _ _ _ _ _ r h => by simp [spec_l3Polite.l0] at h, fun _ _ _ _ _ _ _ r h => by simp [spec_l3Polite.l1] at h, fun _ _ _ _ _ _ _ _ r h => by simp [spec_l3Polite.j2] at h⟩
 | k + 1 => by
  obtain ⟨ih0, ih1, ih2⟩ := spec_l3Polite.mono_l k
  refine ⟨?_, ?_, ?_⟩
  ·intro y0 y1 y2 y3 y4 y5 y6
   unfold spec_l3Polite.l0
   repeat' with_reducible first | exact ih0 .. | exact ih1 .. | exact ih2 .. | exact spec_l3All.mono .. | exact LeO.refl .. | exact LeO.none .. | refine LeO.ite ?_ ?_ | refine LeO.bind ?_ (fun _ => ?_)
  ·intro y0 y1 y2 y3 y4 y5 y6
   unfold spec_l3Polite.l1
   repeat' with_reducible first | exact ih0 .. | exact ih1 .. | exact ih2 .. | exact spec_l3All.mono .. | exact LeO.refl .. | exact LeO.none .. | refine LeO.ite ?_ ?_ | refine LeO.bind ?_ (fun _ => ?_)
  ·intro y0 y1 y2 y3 y4 y5 y6 y7
   unfold spec_l3Polite.j2
   repeat' with_reducible first | exact ih0 .. | exact ih1 .. | exact ih2 .. | exact spec_l3All.mono .. | exact LeO.refl .. | exact LeO.none .. | refine LeO.ite ?_ ?_ | refine LeO.bind ?_ (fun _ => ?_)
theorem spec_l3Polite.mono : ∀ a0 a1 a2 k, LeO (spec_l3Polite.f k a0 a1 a2) (spec_l3Polite.f (k + 1) a0 a1 a2) := by
 intro a0 a1 a2 k
 obtain ⟨ih0, ih1, ih2⟩ := spec_l3Polite.mono_l k
 unfold spec_l3Polite.f
 repeat' with_reducible first | exact ih0 .. | exact ih1 .. | exact ih2 .. | exact spec_l3All.mono .. | exact LeO.refl .. | exact LeO.none .. | refine LeO.ite ?_ ?_ | refine LeO.bind ?_ (fun _ => ?_)
theorem spec_l3Polite.calls (k : Nat) (a0_0 : Int) (a0_1 : Bool) (A0_2 : Option Addr) (c0_2 : Nat) (l0_2 : List Int) (r : List Int) (w : World) (hr0_2 : Kd.C (Kd.int .i64) w A0_2 l0_2.length l0_2) (hc0_2 : l0_2.length ≤ c0_2) (h : spec_l3Polite.f k a0_0 a0_1 l0_2 = some r) :
  Calls Tryd.prog 87 #[.agg #[.int .i64 a0_0, .bool a0_1, .slice A0_2 l0_2.length c0_2]] w fun e w' => ∃ v0_ : Value, e = .returned (v0_) ∧ Kd.R (Kd.int .i64) 3 w' w.heap.size (fun _ => True) v0_ r ∧ Below w.heap.size w w' := by
 have hu24 := Tryd.underlying24
 have HR0_2 := A0_ hr0_2
 have HC0_2 := A0_ hc0_2
 clear hr0_2 hc0_2
 have HB := A0_ (Below.refl w.heap.size w)
 have H : ((spec_l3All.f k a0_0 a0_1 l0_2).bind fun t1 => (spec_l3Polite.l0 k (([] : List Int)) t1 0 0 a0_0 a0_1 l0_2)) = some r := h
 clear h
 obtain ⟨y1, hy1⟩ : ∃ y_ : List Int, y_ = (([] : List Int)) := ⟨_, rfl⟩
 replace H : ((spec_l3All.f k a0_0 a0_1 l0_2).bind fun t1 => (spec_l3Polite.l0 k y1 t1 0 0 a0_0 a0_1 l0_2)) = some r := bgiq_
 have Ny1 := A0_ hy1
 clear hy1
 obtain ⟨t1, A2, H⟩ := o1_ H
 have H' := A0_ H
 clear H
 go_enter Tryd.func87, Tryd.ntmps87
 go_wp2_with (first | ((with_reducible refine gd_ (N := 1) rfl ?_); refine bx_ 1 #[.int .i64 a0_0, .bool a0_1, .slice A0_2 l0_2.length c0_2] 24 ?_; intro gb1 hg w1 BK1 hb; have GW1 := ge_ hg brt4_; have GE1 := GW1; replace HB := hb_ hb brt4_; clear hb hg) | ((with_reducible refine gd_ (N := 8) rfl ?_); refine Kd.R_lit (Kd.int .i64) _ 3 ?hg (N := 8) ?hd (xs := ([] : List Int)) (inner := []) (ok := fun _ => True) (okp := fun _ => True) ?hr ?hp (fun _ hk => hk) trivial (Below.refl _ _) (Nat.le_refl _) bxka_ ?_; (case hd => rfl); (case hg => rfl); (case hr => go_simp; first | done | rfl); (case hp => exact (Reps.none _ _)); intro v1 w2 ho5 hb hg_ hnew_; clear hg_ hnew_; (first | rw [← Ny1.out] at ho5 | (simp only [Int.reduceToNat] at ho5; rw [← Ny1.out] at ho5)); have HO1 := A0_ (Kd.R_lower ho5 (bz_ be6g_)); replace BK1 := k1_ BK1 hb; replace HB := hb_ hb be6g_; clear hb ho5; have hcz1 := c3_ BK1) | ((with_reducible refine gc_ (f := 101) rfl ?_); refine gl_ 10 Tryd.func101 #[.agg #[.int .i64 a0_0, .bool a0_1, .slice A0_2 l0_2.length c0_2]] ?_; (with_reducible refine (spec_l3All.calls k a0_0 a0_1 _ _ l0_2 t1 _ ?side1 ?side2 A2.out).mono ?_); (case side1 => exact b6n8_); (case side2 => exact HC0_2.out); rintro e w3 ⟨v2, rfl, ho0, hb⟩; refine ⟨_, rfl, ?_⟩; have HO2 := A0_ (Kd.R_lower (Kd.R_new' ho0 (Kd.R_lt bsm5_)) (bz_ be6g_)); replace HO1 := A0_ (Kd.R_elder' bsm5_ (Kd.R_base ho0) hb); replace BK1 := k1_ BK1 hb; replace HB := hb_ hb be6g_; (try clear hb); (try clear ho0)))
 go_loopg [5, 6] k (fun kq v3 v4 w' => ∃ (x5_1 : Int) (x6_1 : Int), v3 = .int .i64 x5_1 ∧ v4 = .int .i64 x6_1 ∧ Aside0 (spec_l3Polite.l0 kq y1 t1 x5_1 x6_1 a0_0 a0_1 l0_2 = some r) ∧ Aside0 (kq ≤ k) ∧ Aside0 (Kd.R (Kd.int .i64) 3 w' w.heap.size (fun k_ => no_ v2 k_) v1 y1) ∧ Aside0 (Kd.R (Kd.int .i64) 3 w' w.heap.size (fun k_ => no_ v1 k_) v2 t1) ∧ Aside0 (w'.heap[gb1]? = some (.cells #[.int .i64 a0_0, .bool a0_1, (.slice A0_2 l0_2.length c0_2)] 24 (0, 0))) ∧ Aside0 (Below w.heap.size w w'))
 case atStart => exact ⟨(0), (0), b2ew_, b2ew_, H', ⟨Nat.le_refl _⟩, ⟨b48f_⟩, ⟨b61e_⟩, ⟨u1_ BK1⟩, ⟨be6g_⟩⟩
 clear H'
 (try clear hcz1)
 obtain ⟨x5_1, x6_1, rfl, rfl, HA, HK1, HO_1, HO_2, BK1, HB⟩ := hrel
 cases gk with | zero => exact absurd HA.out (by simp [spec_l3Polite.l0]) | succ k1 => ?_
 have H := HA.out
 clear HA
 simp only [spec_l3Polite.l0] at H
 by_cases c1 : x6_1 < a0_0
 ·rw [if_pos c1] at H
  have c1b0 : decide (x6_1 < a0_0) = true := dt_ c1
  clear c1
  by_cases c2 : 0 ≤ x6_1
  case neg =>
   rw [if_neg c2] at H
   exact absurd H bxka_
  rw [if_pos c2] at H
  have c2b0 : decide (0 ≤ x6_1) = true := dt_ c2
  clear c2
  by_cases c3 : x6_1 < (t1.length : Int)
  case neg =>
   rw [if_neg c3] at H
   exact absurd H bxka_
  rw [if_pos c3] at H
  have c3b0 : decide (x6_1 < (t1.length : Int)) = true := dt_ c3
  clear c3
  obtain ⟨t2, A4, H⟩ := o1_ H
  have H' := A0_ H
  clear H
  have hcz2 := c3_ BK1
  obtain ⟨Ao1, co1, eo1⟩ := Kd.R_slice HO_2.out
  subst eo1
  have p1 : 0 ≤ (x6_1 : Int) := od_ bpil_
  have q1 : x6_1 < (t1.length : Int) := od_ bpil_
  obtain ⟨ad1, e1, hx1_0⟩ := Kd.at_int (rr_ HO_2.out).2.2 x6_1 p1 q1
  cases e1
  replace p1 := eq_true p1
  replace q1 := eq_true q1
  go_wp2_with (first | ((with_reducible refine gc_ (f := 96) rfl ?_); refine gl_ 22 Tryd.func96 #[.int .i64 x5_1, .int .i64 (rd t1 x6_1)] ?_; (with_reducible refine (spec_l1Most.calls x5_1 (rd t1 x6_1) t2 _ A4.out).mono ?_); rintro e w' ⟨rfl, ⟨nd, rfl⟩⟩; refine ⟨_, rfl, ?_⟩))
  go_roundg k1
  case measure => have := HK1.out; omega
  exact ⟨(t2), (wrap64 (x6_1 + 1)), b2ew_, b2ew_, H', ⟨bxjq_⟩, ⟨bwik_⟩, ⟨b7sq_⟩, ⟨u1_ BK1⟩, ⟨be6g_⟩⟩
 rw [if_neg c1] at H
 have c1b0 : decide (x6_1 < a0_0) = false := decide_eq_false c1
 clear c1
 have H' := A0_ H
 clear H
 have hcz2 := c3_ BK1
 go_wp2
 go_loopg [3, 7] k1 (fun kq v5 v6 w' => ∃ (x3_2 : List Int) (x7_2 : Int), v6 = .int .i64 x7_2 ∧ Aside0 (spec_l3Polite.l1 kq x3_2 t1 x5_1 x7_2 a0_0 a0_1 l0_2 = some r) ∧ Aside0 (kq ≤ k1) ∧ Aside0 (Kd.R (Kd.int .i64) 3 w' w.heap.size (fun k_ => no_ v2 k_) v5 x3_2) ∧ Aside0 (Kd.R (Kd.int .i64) 3 w' w.heap.size (fun k_ => no_ v5 k_) v2 t1) ∧ Aside0 (w'.heap[gb1]? = some (.cells #[.int .i64 a0_0, .bool a0_1, (.slice A0_2 l0_2.length c0_2)] 24 (0, 0))) ∧ Aside0 (Below w.heap.size w w'))
 case atStart => exact ⟨(y1), (0), b2ew_, H', ⟨Nat.le_refl _⟩, ⟨bwik_⟩, ⟨b7sq_⟩, ⟨u1_ BK1⟩, ⟨be6g_⟩⟩
 clear H'
 try clear c1
 try clear c1b0
 (try clear hcz2); (try clear hcz1)
 obtain ⟨x3_2, x7_2, rfl, HA, HK2, HO_1, HO_2, BK1, HB⟩ := hrel
 cases gk with | zero => exact absurd HA.out (by simp [spec_l3Polite.l1]) | succ k2 => ?_
 have H := HA.out
 clear HA
 simp only [spec_l3Polite.l1] at H
 have HC15 := A0_ H
 clear H
 go_upto_region 8 with (fail)
 go_cut [30] (fun v7 wc => ∃ (kq : Nat) (x30_14 : Bool), v7 = .bool x30_14 ∧ Aside0 (spec_l3Polite.j2 kq x3_2 t1 x5_1 x7_2 x30_14 a0_0 a0_1 l0_2 = some r) ∧ Aside0 (kq ≤ k2) ∧ Aside0 (Kd.R (Kd.int .i64) 3 wc w.heap.size (fun k_ => no_ v2 k_) u3 x3_2) ∧ Aside0 (Kd.R (Kd.int .i64) 3 wc w.heap.size (fun k_ => no_ u3 k_) v2 t1) ∧ Aside0 (wc.heap[gb1]? = some (.cells #[.int .i64 a0_0, .bool a0_1, (.slice A0_2 l0_2.length c0_2)] 24 (0, 0))) ∧ Aside0 (Below w.heap.size w wc))
 case first =>
  have H := HC15.out
  clear HC15
  by_cases c2 : x7_2 < a0_0
  ·rw [if_pos c2] at H
   have c2b0 : decide (x7_2 < a0_0) = true := dt_ c2
   clear c2
   (first | rw [c2b0] | (simp only [i64_w, i32_w]; rw [c2b0]) | skip)
   have H' := A0_ H
   clear H
   have hcz3 := c3_ BK1
   go_wp2
   go_meet
   exact ⟨_, (decide (x5_1 > 0)), b2ew_, H', ⟨by have := HK1.out; have := HK2.out; first | omega | exact Nat.le_refl _⟩, ⟨bwik_⟩, ⟨b7sq_⟩, ⟨u1_ BK1⟩, ⟨be6g_⟩⟩
  rw [if_neg c2] at H
  have c2b0 : decide (x7_2 < a0_0) = false := decide_eq_false c2
  clear c2
  (first | rw [c2b0] | (simp only [i64_w, i32_w]; rw [c2b0]) | skip)
  have H' := A0_ H
  clear H
  have hcz3 := c3_ BK1
  go_wp2
  go_meet
  exact ⟨_, (false), b2ew_, H', ⟨by have := HK1.out; have := HK2.out; first | omega | exact Nat.le_refl _⟩, ⟨bwik_⟩, ⟨b7sq_⟩, ⟨u1_ BK1⟩, ⟨be6g_⟩⟩
 clear HC15
 try clear c1
 try clear c1b0
 (try clear hcz2); (try clear hcz1)
 obtain ⟨kq, x30_14, rfl, HA, HJ1, HO_1, HO_2, BK1, HB⟩ := hcut
 cases kq with | zero => exact absurd HA.out (by simp [spec_l3Polite.j2]) | succ kj1 => ?_
 have H := HA.out
 clear HA
 simp only [spec_l3Polite.j2] at H
 by_cases c2 : x30_14 = true
 case neg =>
  obtain rfl := bf_.mpr c2
  rw [if_neg ft_] at H
  obtain rfl := si_ H
  go_wp2
  go_ret
  exact ⟨_, bnwh_, by (with_reducible repeat (first | apply ra_ | apply rn_ | apply rd_)); exact Kd.R_mono HO_1.out (fun _ hk => trivial), be6g_⟩
 subst c2
 rw [if_pos rfl] at H
 by_cases c3 : 0 ≤ x7_2
 case neg =>
  rw [if_neg c3] at H
  exact absurd H bxka_
 rw [if_pos c3] at H
 have c3b0 : decide (0 ≤ x7_2) = true := dt_ c3
 clear c3
 by_cases c4 : x7_2 < (t1.length : Int)
 case neg =>
  rw [if_neg c4] at H
  exact absurd H bxka_
 rw [if_pos c4] at H
 have c4b0 : decide (x7_2 < (t1.length : Int)) = true := dt_ c4
 clear c4
 by_cases c5 : (rd t1 x7_2) = x5_1
 case neg =>
  rw [if_neg c5] at H
  obtain ⟨c5b0, c5b1⟩ := ef_ c5
  have H' := A0_ H
  clear H
  obtain ⟨Ao1, co1, eo1⟩ := Kd.R_slice HO_2.out
  subst eo1
  have p1 : 0 ≤ (x7_2 : Int) := od_ bpil_
  have q1 : x7_2 < (t1.length : Int) := od_ bpil_
  obtain ⟨ad1, e1, hx1_0⟩ := Kd.at_int (rr_ HO_2.out).2.2 x7_2 p1 q1
  cases e1
  replace p1 := eq_true p1
  replace q1 := eq_true q1
  go_wp2
  go_roundg kj1
  case measure => have := HK1.out; have := HK2.out; have := HJ1.out; omega
  exact ⟨(x3_2), (wrap64 (x7_2 + 1)), b2ew_, H', ⟨by have := HK1.out; have := HK2.out; have := HJ1.out; omega⟩, ⟨bwik_⟩, ⟨b7sq_⟩, ⟨u1_ BK1⟩, ⟨be6g_⟩⟩
 rw [if_pos c5] at H
 obtain ⟨c5b0, c5b1⟩ := et_ c5
 clear c5
 by_cases c6 : x3_2.length < 17592186044416
 case neg =>
  rw [if_neg c6] at H
  exact absurd H bxka_
 rw [if_pos c6] at H
 have LMc1 := A0_ c6
 clear c6
 obtain ⟨y2, hy2⟩ : ∃ y_ : List Int, y_ = (x3_2 ++ [x7_2]) := ⟨_, rfl⟩
 replace H : (spec_l3Polite.l1 kj1 y2 t1 x5_1 (wrap64 (x7_2 + 1)) a0_0 a0_1 l0_2) = some r := bscs_
 have Ny2 := A0_ hy2
 clear hy2
 have H' := A0_ H
 clear H
 obtain ⟨Ao1, co1, eo1⟩ := Kd.R_slice HO_2.out
 subst eo1
 have p1 : 0 ≤ (x7_2 : Int) := od_ bpil_
 have q1 : x7_2 < (t1.length : Int) := od_ bpil_
 obtain ⟨ad1, e1, hx1_0⟩ := Kd.at_int (rr_ HO_2.out).2.2 x7_2 p1 q1
 cases e1
 replace p1 := eq_true p1
 replace q1 := eq_true q1
 go_wp2_with (first | ((with_reducible refine gate_builtin (b := .append) (xs := #[.tmp 39, .tmp 41]) rfl ?_); at_builtin; refine Kd.R_append (Kd.int .i64) (w0 := w) w.heap.size rfl (.tmp 39) (.tmp 41) 22 3 (.int .i64 0) 8 rfl Tryd.underlying22 info3 rfl bi3y_ bh19_ u3 x3_2 x7_2 [.int .i64 x7_2] (fun k_ => no_ (.slice (some ad1) t1.length co1) k_) (fun _ => False) rfl rfl ?aP (fun _ hk => hk.elim) ?aF ?aO ?aB ?aS ?aL ?_; (case aP => exact rfl); (case aB => exact be6g_); (case aF => exact (fun k_ hk => Kd.fresh' (Kd.R_lt b7sq_) k_ hk)); (case aO => exact bwik_); (case aS => exact (bz_ be6g_)); (case aL => have := LMc1.out; omega); intro v8 w4 ho hb hg hat; rw [← Ny2.out] at ho; have n0_ := A0_ (Kd.R_after (ok := (fun _ => True)) (by (with_reducible repeat (first | apply ra_ | apply rn_ | apply rd_)); exact Kd.R_mono HO_2.out (fun _ hk => ⟨trivial, hk⟩)) hg hat); have n1_ := A0_ (blk_grown (g := gb1) (o := .cells #[.int .i64 a0_0, .bool a0_1, .slice A0_2 l0_2.length c0_2] 24 (0, 0)) (u1_ BK1) hg (Kd.R_ne HO_1.out BK1.out bi3y_)); have n2_ := A0_ (hb); have n3_ := A0_ (ho); clear HO_2 BK1 HB HO_1; have HO_2 := n0_; have BK1 := n1_; have HB := n2_; have HO3 := n3_; clear n0_ n1_ n2_ n3_ ho hb hg hat))
 go_roundg kj1
 case measure => have := HK1.out; have := HK2.out; have := HJ1.out; omega
 exact ⟨(y2), (wrap64 (x7_2 + 1)), b2ew_, H', ⟨by have := HK1.out; have := HK2.out; have := HJ1.out; omega⟩, ⟨buiy_⟩, ⟨by (with_reducible repeat (first | apply ra_ | apply rn_ | apply rd_)); exact Kd.R_mono HO_2.out (fun _ hk => hk.2)⟩, ⟨u1_ BK1⟩, ⟨be6g_⟩⟩

def spec_l2Without.l0 : Nat → Int → List Int → Int → Int → Bool → List Int → Option (Int × Bool × List Int)
 | 0, _, _, _, _, _, _ => none
 | k + 1, x1, x5, x6, x260000, x260001, x260002 => if x6 < (x260002.length : Int) then (if 0 ≤ x6 then (if (rd x260002 x6) = x1 then (spec_l2Without.l0 k x1 x5 (wrap64 (x6 + 1)) x260000 x260001 x260002) else (if x5.length < 17592186044416 then (spec_l2Without.l0 k x1 (x5 ++ [rd x260002 x6]) (wrap64 (x6 + 1)) x260000 x260001 x260002) else (none))) else (none)) else ((spec_l2Made.f x260000 x260001 x260002 x5).bind fun bt269 => (some (bt269.1, bt269.2.1, bt269.2.2)))
def spec_l2Without.f (k : Nat) (a0_0 : Int) (a0_1 : Bool) (l0_2 : List Int) (a1 : Int) : Option (Int × Bool × List Int) := spec_l2Without.l0 k a1 (([] : List Int)) 0 a0_0 a0_1 l0_2
theorem spec_l2Without.mono_l : ∀ k, (∀ y0 y1 y2 y3 y4 y5, LeO (spec_l2Without.l0 k y0 y1 y2 y3 y4 y5) (spec_l2Without.l0 (k + 1) y0 y1 y2 y3 y4 y5))
 | 0 => fun _ _ _ _ _ _ r h => by simp [spec_l2Without.l0] at h
 | k + 1 => by
  have ih0 := spec_l2Without.mono_l k
  ·intro y0 y1 y2 y3 y4 y5
   unfold spec_l2Without.l0
   repeat' with_reducible first | exact ih0 .. | exact LeO.refl .. | exact LeO.none .. | refine LeO.ite ?_ ?_ | refine LeO.bind ?_ (fun _ => ?_)
theorem spec_l2Without.mono : ∀ a0 a1 a2 a3 k, LeO (spec_l2Without.f k a0 a1 a2 a3) (spec_l2Without.f (k + 1) a0 a1 a2 a3) := by
 intro a0 a1 a2 a3 k
 have ih0 := spec_l2Without.mono_l k
 unfold spec_l2Without.f
 repeat' with_reducible first | exact ih0 .. | exact LeO.refl .. | exact LeO.none .. | refine LeO.ite ?_ ?_ | refine LeO.bind ?_ (fun _ => ?_)
theorem spec_l2Without.calls (k : Nat) (a0_0 : Int) (a0_1 : Bool) (A0_2 : Option Addr) (c0_2 : Nat) (l0_2 : List Int) (a1 : Int) (r1 : Int) (r2 : Bool) (r3 : List Int) (w : World) (hr0_2 : Kd.C (Kd.int .i64) w A0_2 l0_2.length l0_2) (hc0_2 : l0_2.length ≤ c0_2) (h : spec_l2Without.f k a0_0 a0_1 l0_2 a1 = some (r1, r2, r3)) :
  Calls Tryd.prog 88 #[.agg #[.int .i64 a0_0, .bool a0_1, .slice A0_2 l0_2.length c0_2], .int .i64 a1] w fun e w' => ∃ v2_ : Value, e = .returned (.agg #[.int .i64 r1, .bool r2, v2_]) ∧ Kd.R (Kd.int .i64) 3 w' w.heap.size (fun _ => True) v2_ r3 ∧ Below w.heap.size w w' := by
 have hu24 := Tryd.underlying24
 have HR0_2 := A0_ hr0_2
 have HC0_2 := A0_ hc0_2
 clear hr0_2 hc0_2
 have HB := A0_ (Below.refl w.heap.size w)
 have H : (spec_l2Without.l0 k a1 (([] : List Int)) 0 a0_0 a0_1 l0_2) = some (r1, r2, r3) := h
 clear h
 obtain ⟨y1, hy1⟩ : ∃ y_ : List Int, y_ = (([] : List Int)) := ⟨_, rfl⟩
 replace H : (spec_l2Without.l0 k a1 y1 0 a0_0 a0_1 l0_2) = some (r1, r2, r3) := bgiq_
 have Ny1 := A0_ hy1
 clear hy1
 have H' := A0_ H
 clear H
 go_enter Tryd.func88, Tryd.ntmps88
 go_wp2_with (first | ((with_reducible refine gd_ (N := 2) rfl ?_); refine bx_ 2 #[.int .i64 a0_0, .bool a0_1, .slice A0_2 l0_2.length c0_2] 24 ?_; intro gb1 hg w1 BK1 hb; have GW1 := ge_ hg brt4_; have GE1 := GW1; replace HB := hb_ hb brt4_; clear hb hg) | ((with_reducible refine gd_ (N := 4) rfl ?_); refine bx_ 4 #[.int .i64 0, .bool false, .slice none 0 0] 24 ?_; intro gb2 hg w2 BK2 hb; have GW2 := ge_ hg be6g_; have GE2 := GW2; replace HB := hb_ hb be6g_; have NB1_2 := nl_ hg BK1; have NB2_1 := ng_ hg BK1; replace BK1 := k1_ BK1 hb; clear hb hg) | ((with_reducible refine gd_ (N := 7) rfl ?_); refine Kd.R_lit (Kd.int .i64) _ 3 ?hg (N := 7) ?hd (xs := ([] : List Int)) (inner := []) (ok := fun _ => True) (okp := fun _ => True) ?hr ?hp (fun _ hk => hk) trivial (Below.refl _ _) (Nat.le_refl _) bxka_ ?_; (case hd => rfl); (case hg => rfl); (case hr => go_simp; first | done | rfl); (case hp => exact (Reps.none _ _)); intro v1 w3 ho6 hb hg_ hnew_; clear hg_ hnew_; (first | rw [← Ny1.out] at ho6 | (simp only [Int.reduceToNat] at ho6; rw [← Ny1.out] at ho6)); have HO1 := A0_ (Kd.R_lower ho6 (bz_ bfnq_)); replace BK1 := k1_ BK1 hb; replace BK2 := k1_ BK2 hb; replace HB := hb_ hb bfnq_; clear hb ho6))
 go_loopg [5, 6] k (fun kq v3 v4 w' => ∃ (x5_1 : List Int) (x6_1 : Int), v4 = .int .i64 x6_1 ∧ Aside0 (spec_l2Without.l0 kq a1 x5_1 x6_1 a0_0 a0_1 l0_2 = some (r1, r2, r3)) ∧ Aside0 (kq ≤ k) ∧ Aside0 (Kd.R (Kd.int .i64) 3 w' w.heap.size (fun _ => True) v3 x5_1) ∧ Aside0 (w'.heap[gb1]? = some (.cells #[.int .i64 a0_0, .bool a0_1, (.slice A0_2 l0_2.length c0_2)] 24 (0, 0))) ∧ Aside0 (w'.heap[gb2]? = some (.cells #[.int .i64 0, .bool false, (.slice none 0 0)] 24 (0, 0))) ∧ Aside0 (Below w.heap.size w w'))
 case atStart => exact ⟨(y1), (0), b2ew_, H', ⟨Nat.le_refl _⟩, ⟨bsm5_⟩, ⟨u1_ BK1⟩, ⟨u1_ BK2⟩, ⟨bfnq_⟩⟩
 clear H'
 obtain ⟨x5_1, x6_1, rfl, HA, HK1, HO_1, BK1, BK2, HB⟩ := hrel
 cases gk with | zero => exact absurd HA.out (by simp [spec_l2Without.l0]) | succ k1 => ?_
 have H := HA.out
 clear HA
 simp only [spec_l2Without.l0] at H
 by_cases c1 : x6_1 < (l0_2.length : Int)
 case neg =>
  rw [if_neg c1] at H
  have c1b0 : decide (x6_1 < (l0_2.length : Int)) = false := decide_eq_false c1
  clear c1
  obtain ⟨⟨t1, t2, t3⟩, A2, H⟩ := o1_ H
  replace H : (some (t1, t2, t3)) = some (r1, r2, r3) := H
  simp only [sj_, pj_] at H
  obtain ⟨rfl, rfl, rfl⟩ := H
  have hnb1 := NB1_2.out
  have hnc1 := NB2_1.out
  have hcz1 := z3_ BK1
  obtain ⟨Ao1, co1, eo1⟩ := Kd.R_slice HO_1.out
  subst eo1
  go_wp2_with (first | ((with_reducible refine gc_ (f := 102) rfl ?_); refine gl_ 32 Tryd.func102 #[.agg #[.int .i64 a0_0, .bool a0_1, .slice A0_2 l0_2.length c0_2], .slice Ao1 x5_1.length co1] ?_; (with_reducible refine (spec_l2Made.calls a0_0 a0_1 _ _ l0_2 (fun k_ => some k_ = (.slice Ao1 x5_1.length co1 : Value).ownBlock) (.slice Ao1 x5_1.length co1) x5_1 t1 t2 t3 w _ ?side1 ?side2 ?side3 ?side4 A2.out).mono ?_); (case side1 => exact bfnq_); (case side2 => exact Kd.C_kept_came (Kd.heap_int .i64) HR0_2.out bfnq_ (fun k_ hs_ => (fun e_ => Kd.R_base HO_1.out k_ e_.symm) hs_)); (case side3 => exact HC0_2.out); (case side4 => exact Kd.R_tight rfl HO_1.out); rintro e w4 ⟨v5, rfl, ho0, hb, hkp⟩; refine ⟨_, rfl, ?_⟩; have n0_ := A0_ (blk_kept (u1_ BK1) hkp (fun hs_ => (fun e_ => (Kd.R_ne HO_1.out BK1.out bi3y_) e_) hs_)); have n1_ := A0_ (blk_kept (u1_ BK2) hkp (fun hs_ => (fun e_ => (Kd.R_ne HO_1.out BK2.out bi3y_) e_) hs_)); have n2_ := A0_ (Kd.R_mono (ok' := fun k_ => True) ho0 (fun k_ hk_ => trivial)); have n3_ := A0_ (hb); clear BK1 BK2 HB HO_1; have BK1 := n0_; have BK2 := n1_; have HO2 := n2_; have HB := n3_; clear n0_ n1_ n2_ n3_; (try clear hb); (try clear hkp); (try clear ho0); have hcz2 := z3_ BK2; obtain ⟨Ao2, co2, eo2⟩ := Kd.R_slice HO2.out; subst eo2))
  refine bodyPost_ret (results_cell_row rfl _ _ gb2 24 #[.int .i64 t1, .bool t2, .slice Ao2 t3.length co2] (0, 0) _ rfl (u1_ BK2) Tryd.underlying24 rfl bfqv_) rfl ?_
  exact ⟨_, bnwh_, by (with_reducible repeat (first | apply ra_ | apply rn_ | apply rd_)); exact Kd.R_mono (rf_ (rf_ (rf_ (Kd.R_types HO2.out BK2.out bi3y_) k2_0 _) k2_0 _) k2_0 _) (fun _ hk => trivial), bfnq_⟩
 rw [if_pos c1] at H
 have c1b0 : decide (x6_1 < (l0_2.length : Int)) = true := dt_ c1
 clear c1
 by_cases c2 : 0 ≤ x6_1
 case neg =>
  rw [if_neg c2] at H
  exact absurd H bxka_
 rw [if_pos c2] at H
 have c2b0 : decide (0 ≤ x6_1) = true := dt_ c2
 clear c2
 by_cases c3 : (rd l0_2 x6_1) = a1
 ·rw [if_pos c3] at H
  obtain ⟨c3b0, c3b1⟩ := et_ c3
  clear c3
  have H' := A0_ H
  clear H
  have hnb1 := NB1_2.out
  have hnc1 := NB2_1.out
  have hcz1 := z3_ BK1
  have p1 : 0 ≤ (x6_1 : Int) := od_ bpil_
  have q1 : x6_1 < (l0_2.length : Int) := od_ bpil_
  obtain ⟨ad1, e1, hx1_0⟩ := Kd.at_int HR0_2.out x6_1 p1 q1
  cases e1
  replace hx1_0 := (HB.out.cell (World.block_lt_of_cell? w _ hx1_0)).trans hx1_0
  replace p1 := eq_true p1
  replace q1 := eq_true q1
  go_wp2
  go_roundg k1
  case measure => have := HK1.out; omega
  exact ⟨(x5_1), (wrap64 (x6_1 + 1)), b2ew_, H', ⟨bxjq_⟩, ⟨bwik_⟩, ⟨u1_ BK1⟩, ⟨u1_ BK2⟩, ⟨bfnq_⟩⟩
 rw [if_neg c3] at H
 obtain ⟨c3b0, c3b1⟩ := ef_ c3
 by_cases c4 : x5_1.length < 17592186044416
 case neg =>
  rw [if_neg c4] at H
  exact absurd H bxka_
 rw [if_pos c4] at H
 have LMc1 := A0_ c4
 clear c4
 obtain ⟨y2, hy2⟩ : ∃ y_ : List Int, y_ = (x5_1 ++ [rd l0_2 x6_1]) := ⟨_, rfl⟩
 replace H : (spec_l2Without.l0 k1 a1 y2 (wrap64 (x6_1 + 1)) a0_0 a0_1 l0_2) = some (r1, r2, r3) := bscs_
 have Ny2 := A0_ hy2
 clear hy2
 have H' := A0_ H
 clear H
 have hnb1 := NB1_2.out
 have hnc1 := NB2_1.out
 have hcz1 := z3_ BK1
 have p1 : 0 ≤ (x6_1 : Int) := od_ bpil_
 have q1 : x6_1 < (l0_2.length : Int) := od_ bpil_
 obtain ⟨ad1, e1, hx1_0⟩ := Kd.at_int HR0_2.out x6_1 p1 q1
 cases e1
 replace hx1_0 := (HB.out.cell (World.block_lt_of_cell? w _ hx1_0)).trans hx1_0
 replace p1 := eq_true p1
 replace q1 := eq_true q1
 have p2 : 0 ≤ (x6_1 : Int) := od_ bpil_
 have q2 : x6_1 < (l0_2.length : Int) := od_ bpil_
 obtain ⟨ad2, e2, hx2_0⟩ := Kd.at_int HR0_2.out x6_1 p2 q2
 obtain rfl : ad1 = ad2 := bs6y_
 replace hx2_0 := (HB.out.cell (World.block_lt_of_cell? w _ hx2_0)).trans hx2_0
 replace p2 := eq_true p2
 replace q2 := eq_true q2
 go_wp2_with (first | ((with_reducible refine gate_builtin (b := .append) (xs := #[.tmp 22, .tmp 28]) rfl ?_); at_builtin; refine Kd.R_append (Kd.int .i64) (w0 := w) w.heap.size rfl (.tmp 22) (.tmp 28) 22 3 (.int .i64 0) 8 rfl Tryd.underlying22 info3 rfl bi3y_ bh19_ u5 x5_1 (rd l0_2 x6_1) [.int .i64 (rd l0_2 x6_1)] (fun _ => True) (fun _ => False) rfl rfl ?aP (fun _ hk => hk.elim) ?aF ?aO ?aB ?aS ?aL ?_; (case aP => exact rfl); (case aB => exact bfnq_); (case aF => exact (fun _ _ => trivial)); (case aO => exact bwik_); (case aS => exact (bz_ bfnq_)); (case aL => have := LMc1.out; omega); intro v5 w4 ho hb hg hat; rw [← Ny2.out] at ho; have n0_ := A0_ (blk_grown (g := gb1) (o := .cells #[.int .i64 a0_0, .bool a0_1, .slice (some ad1) l0_2.length c0_2] 24 (0, 0)) (u1_ BK1) hg (Kd.R_ne HO_1.out BK1.out bi3y_)); have n1_ := A0_ (blk_grown (g := gb2) (o := .cells #[.int .i64 0, .bool false, .slice none 0 0] 24 (0, 0)) (u1_ BK2) hg (Kd.R_ne HO_1.out BK2.out bi3y_)); have n2_ := A0_ (hb); have n3_ := A0_ (ho); clear BK1 BK2 HB HO_1; have BK1 := n0_; have BK2 := n1_; have HB := n2_; have HO2 := n3_; clear n0_ n1_ n2_ n3_ ho hb hg hat))
 go_roundg k1
 case measure => have := HK1.out; omega
 exact ⟨(y2), (wrap64 (x6_1 + 1)), b2ew_, H', ⟨bxjq_⟩, ⟨b9so_⟩, ⟨u1_ BK1⟩, ⟨u1_ BK2⟩, ⟨bfnq_⟩⟩

def spec_l12Make.f (k : Nat) (a0_0 : Int) (a0_1 : Bool) (l0_2 : List Int) (l0_3 : List Int) (a0_4 : Int) (a1_0 : Int) (a1_1 : Int) (a1_2 : Int) : Option (Int × Bool × List Int × List Int × Int) := (spec_l12Own.f a0_0 a0_1 l0_2 l0_3 a0_4).bind fun bt277 => (if a1_0 = 1 then ((spec_l3Polite.f k a0_0 a0_1 l0_2).bind fun t287 => (if 0 < (t287.length : Int) then ((spec_l12Sit.f k bt277.1 bt277.2.1 bt277.2.2.1 bt277.2.2.2.1 bt277.2.2.2.2 (rd t287 0)).bind fun bt291 => (some (bt291.1, bt291.2.1, bt291.2.2.1, bt291.2.2.2.1, bt291.2.2.2.2))) else (none))) else (if a1_0 = 2 then ((spec_l12Sit.f k bt277.1 bt277.2.1 bt277.2.2.1 bt277.2.2.2.1 bt277.2.2.2.2 a1_1).bind fun bt300 => (some (bt300.1, bt300.2.1, bt300.2.2.1, bt300.2.2.2.1, bt300.2.2.2.2))) else (if a1_0 = 3 then ((spec_l12Place.f k l0_3 a1_1).bind fun t309 => ((spec_l2Without.f k bt277.1 bt277.2.1 bt277.2.2.1 a1_1).bind fun bt310 => (if 0 ≤ t309 then (if t309 ≤ (bt277.2.2.2.1.length : Int) then (if 0 ≤ (wrap64 (t309 + 1)) then (if (wrap64 (t309 + 1)) ≤ (bt277.2.2.2.1.length : Int) then (some (bt310.1, bt310.2.1, bt310.2.2, (bt277.2.2.2.1.eraseIdx (t309 : Int).toNat), bt277.2.2.2.2)) else (none)) else (none)) else (none)) else (none)))) else (if a1_0 = 4 then ((spec_l2Without.f k bt277.1 bt277.2.1 bt277.2.2.1 a1_1).bind fun bt326 => ((spec_l2With.f k bt326.1 bt326.2.1 bt326.2.2 a1_2).bind fun bt331 => ((spec_l12Place.f k l0_3 a1_1).bind fun t336 => (if 0 ≤ t336 then (if t336 < (bt277.2.2.2.1.length : Int) then (some (bt331.1, bt331.2.1, bt331.2.2, (bt277.2.2.2.1.set (t336 : Int).toNat a1_2), bt277.2.2.2.2)) else (none)) else (none))))) else (if a1_0 = 5 then (some (bt277.1, bt277.2.1, (([] : List Int)), (([] : List Int)), bt277.2.2.2.2)) else (some (bt277.1, bt277.2.1, bt277.2.2.1, bt277.2.2.2.1, bt277.2.2.2.2)))))))
theorem spec_l12Make.mono : ∀ a0 a1 a2 a3 a4 a5 a6 a7 k, LeO (spec_l12Make.f k a0 a1 a2 a3 a4 a5 a6 a7) (spec_l12Make.f (k + 1) a0 a1 a2 a3 a4 a5 a6 a7) := by
 intro a0 a1 a2 a3 a4 a5 a6 a7 k
 unfold spec_l12Make.f
 repeat' with_reducible first | exact spec_l12Place.mono .. | exact spec_l12Sit.mono .. | exact spec_l2With.mono .. | exact spec_l2Without.mono .. | exact spec_l3Polite.mono .. | exact LeO.refl .. | exact LeO.none .. | refine LeO.ite ?_ ?_ | refine LeO.bind ?_ (fun _ => ?_)
def spec_l12Make.T4 : Bool × List (List Nat × List Nat) := (true, [([], []), ([], []), ([1], [1]), ([2], [2]), ([3], [3]), ([4], [4]), ([0, 5, 3], [0, 5]), ([6, 6, 0, 1, 2, 3, 4, 5, 6], [6])])
def spec_l12Make.B4 : List Nat := [0, 0, 2, 6, 14, 30, 63, 127]
theorem spec_l12Make.tab4 : rtab .any (opsOf Tryd.f70 4) = spec_l12Make.T4 := by kernel_rfl
theorem spec_l12Make.bits4 : waitsOk spec_l12Make.T4.2 spec_l12Make.B4 = true := by kernel_rfl
def spec_l12Make.T10 : Bool × List (List Nat × List Nat) := (true, [([], []), ([0], [0]), ([], []), ([1, 2], [1, 2]), ([], []), ([4], [4]), ([], []), ([6], [6]), ([5, 7], [5, 7]), ([3, 8], [3, 8]), ([0, 1, 2, 3, 4, 5, 6, 7, 8, 9], []), ([10, 9, 9, 0, 1, 2, 3, 4, 5, 6, 7, 8, 9], [9, 10])])
def spec_l12Make.B10 : List Nat := [0, 1, 0, 7, 0, 16, 0, 64, 240, 511, 1023, 2047]
theorem spec_l12Make.tab10 : rtab .any (opsOf Tryd.f70 10) = spec_l12Make.T10 := by kernel_rfl
theorem spec_l12Make.bits10 : waitsOk spec_l12Make.T10.2 spec_l12Make.B10 = true := by kernel_rfl
def spec_l12Make.T12 : Bool × List (List Nat × List Nat) := (true, [([], []), ([0], [0]), ([], []), ([2], [2]), ([1, 3], [1, 3]), ([], []), ([5], [5]), ([4, 6, 4], [4, 6]), ([0, 1, 2, 3, 4, 5, 6, 7], []), ([8, 7, 7, 0, 1, 2, 3, 4, 5, 6, 7], [7, 8])])
def spec_l12Make.B12 : List Nat := [0, 1, 0, 4, 15, 0, 32, 127, 255, 511]
theorem spec_l12Make.tab12 : rtab .any (opsOf Tryd.f70 12) = spec_l12Make.T12 := by kernel_rfl
theorem spec_l12Make.bits12 : waitsOk spec_l12Make.T12.2 spec_l12Make.B12 = true := by kernel_rfl
def spec_l12Make.T13 : Bool × List (List Nat × List Nat) := (true, [([], []), ([0], [0]), ([], []), ([2], [2]), ([], []), ([4], [4]), ([3, 5], [3, 5]), ([], []), ([7], [7]), ([1, 6, 0, 1, 2, 3, 4, 5, 6, 7, 8], [1, 6]), ([9, 8, 6, 0, 1, 2, 3, 4, 5, 6, 7, 8], [8, 9])])
def spec_l12Make.B13 : List Nat := [0, 1, 0, 4, 0, 16, 60, 0, 128, 511, 1023]
theorem spec_l12Make.tab13 : rtab .any (opsOf Tryd.f70 13) = spec_l12Make.T13 := by kernel_rfl
theorem spec_l12Make.bits13 : waitsOk spec_l12Make.T13.2 spec_l12Make.B13 = true := by kernel_rfl
theorem spec_l12Make.calls (k : Nat) (a0_0 : Int) (a0_1 : Bool) (A0_2 : Option Addr) (c0_2 : Nat) (l0_2 : List Int) (A0_3 : Option Addr) (c0_3 : Nat) (l0_3 : List Int) (a0_4 : Int) (a1_0 : Int) (a1_1 : Int) (a1_2 : Int) (r1 : Int) (r2 : Bool) (r3 : List Int) (r4 : List Int) (r5 : Int) (w : World) (hr0_2 : Kd.C (Kd.int .i64) w A0_2 l0_2.length l0_2) (hc0_2 : l0_2.length ≤ c0_2) (hr0_3 : Kd.C (Kd.int .i64) w A0_3 l0_3.length l0_3) (hc0_3 : l0_3.length ≤ c0_3) (h : spec_l12Make.f k a0_0 a0_1 l0_2 l0_3 a0_4 a1_0 a1_1 a1_2 = some (r1, r2, r3, r4, r5)) :
  Calls Tryd.prog 70 #[.agg #[.int .i64 a0_0, .bool a0_1, .slice A0_2 l0_2.length c0_2, .slice A0_3 l0_3.length c0_3, .int .i64 a0_4], .agg #[.int .i64 a1_0, .int .i64 a1_1, .int .i64 a1_2]] w fun e w' => ∃ v2_ v3_ : Value, e = .returned (.agg #[.int .i64 r1, .bool r2, v2_, v3_, .int .i64 r5]) ∧ Kd.R (Kd.int .i64) 3 w' w.heap.size (fun k_ => no_ v3_ k_) v2_ r3 ∧ Kd.R (Kd.int .i64) 3 w' w.heap.size (fun k_ => no_ v2_ k_) v3_ r4 ∧ Below w.heap.size w w' := by
 have hu26 := Tryd.underlying26
 have hu45 := Tryd.underlying45
 have hu24 := Tryd.underlying24
 have HR0_2 := A0_ hr0_2
 have HC0_2 := A0_ hc0_2
 clear hr0_2 hc0_2
 have HR0_3 := A0_ hr0_3
 have HC0_3 := A0_ hc0_3
 clear hr0_3 hc0_3
 have HB := A0_ (Below.refl w.heap.size w)
 have H : ((spec_l12Own.f a0_0 a0_1 l0_2 l0_3 a0_4).bind fun bt1 => (if a1_0 = 1 then ((spec_l3Polite.f k a0_0 a0_1 l0_2).bind fun t1 => (if 0 < (t1.length : Int) then ((spec_l12Sit.f k bt1.1 bt1.2.1 bt1.2.2.1 bt1.2.2.2.1 bt1.2.2.2.2 (rd t1 0)).bind fun bt2 => (some (bt2.1, bt2.2.1, bt2.2.2.1, bt2.2.2.2.1, bt2.2.2.2.2))) else (none))) else (if a1_0 = 2 then ((spec_l12Sit.f k bt1.1 bt1.2.1 bt1.2.2.1 bt1.2.2.2.1 bt1.2.2.2.2 a1_1).bind fun bt3 => (some (bt3.1, bt3.2.1, bt3.2.2.1, bt3.2.2.2.1, bt3.2.2.2.2))) else (if a1_0 = 3 then ((spec_l12Place.f k l0_3 a1_1).bind fun t2 => ((spec_l2Without.f k bt1.1 bt1.2.1 bt1.2.2.1 a1_1).bind fun bt4 => (if 0 ≤ t2 then (if t2 ≤ (bt1.2.2.2.1.length : Int) then (if 0 ≤ (wrap64 (t2 + 1)) then (if (wrap64 (t2 + 1)) ≤ (bt1.2.2.2.1.length : Int) then (some (bt4.1, bt4.2.1, bt4.2.2, (bt1.2.2.2.1.eraseIdx (t2 : Int).toNat), bt1.2.2.2.2)) else (none)) else (none)) else (none)) else (none)))) else (if a1_0 = 4 then ((spec_l2Without.f k bt1.1 bt1.2.1 bt1.2.2.1 a1_1).bind fun bt5 => ((spec_l2With.f k bt5.1 bt5.2.1 bt5.2.2 a1_2).bind fun bt6 => ((spec_l12Place.f k l0_3 a1_1).bind fun t3 => (if 0 ≤ t3 then (if t3 < (bt1.2.2.2.1.length : Int) then (some (bt6.1, bt6.2.1, bt6.2.2, (bt1.2.2.2.1.set (t3 : Int).toNat a1_2), bt1.2.2.2.2)) else (none)) else (none))))) else (if a1_0 = 5 then (some (bt1.1, bt1.2.1, (([] : List Int)), (([] : List Int)), bt1.2.2.2.2)) else (some (bt1.1, bt1.2.1, bt1.2.2.1, bt1.2.2.2.1, bt1.2.2.2.2)))))))) = some (r1, r2, r3, r4, r5) := h
 clear h
 obtain ⟨⟨t4, t5, t6, t7, t8⟩, A2, H⟩ := o1_ H
 by_cases c1 : a1_0 = 1
 ·rw [if_pos c1] at H
  obtain ⟨c1b0, c1b1⟩ := et_ c1
  clear c1
  obtain ⟨t1, A4, H⟩ := o1_ H
  by_cases c2 : 0 < (t1.length : Int)
  case neg =>
   rw [if_neg c2] at H
   exact absurd H bxka_
  rw [if_pos c2] at H
  have c2b0 : decide (0 < (t1.length : Int)) = true := dt_ c2
  have c2b1 : decide (0 < t1.length) = true := dt_ bh19_
  clear c2
  obtain ⟨⟨t9, t10, t11, t12, t13⟩, A6, H⟩ := o1_ H
  replace H : (some (t9, t10, t11, t12, t13)) = some (r1, r2, r3, r4, r5) := H
  simp only [sj_, pj_] at H
  obtain ⟨rfl, rfl, rfl, rfl, rfl⟩ := H
  go_enter Tryd.func70, Tryd.ntmps70
  try go_wp2_with (first | ((with_reducible refine gd_ (N := 2) rfl ?_); refine bx_ 2 #[.int .i64 a0_0, .bool a0_1, .slice A0_2 l0_2.length c0_2, .slice A0_3 l0_3.length c0_3, .int .i64 a0_4] 26 ?_; intro gb1 hg w1 BK1 hb; have GW1 := ge_ hg brt4_; have GE1 := GW1; replace HB := hb_ hb brt4_; clear hb hg) | ((with_reducible refine gd_ (N := 3) rfl ?_); refine bx_ 3 #[.int .i64 a1_0, .int .i64 a1_1, .int .i64 a1_2] 45 ?_; intro gb2 hg w2 BK2 hb; have GW2 := ge_ hg be6g_; have GE2 := GW2; replace HB := hb_ hb be6g_; have NB1_2 := nl_ hg BK1; have NB2_1 := ng_ hg BK1; replace BK1 := k1_ BK1 hb; clear hb hg) | ((with_reducible refine gd_ (N := 4) rfl ?_); refine bx_ 4 #[.int .i64 0, .bool false, .slice none 0 0, .slice none 0 0, .int .i64 0] 26 ?_; intro gb3 hg w3 BK3 hb; have GW3 := ge_ hg bfnq_; have GE3 := GW3; replace HB := hb_ hb bfnq_; have NB1_3 := nl_ hg BK1; have NB3_1 := ng_ hg BK1; replace BK1 := k1_ BK1 hb; have NB2_3 := nl_ hg BK2; have NB3_2 := ng_ hg BK2; replace BK2 := k1_ BK2 hb; clear hb hg; have hnb1 := NB1_2.out; have hnc1 := NB2_1.out; have hnb2 := NB1_3.out; have hnc2 := NB3_1.out; have hcz1 := z5_ BK1) | ((with_reducible refine gc_ (f := 31) rfl ?_); refine gl_ 8 Tryd.func31 #[.agg #[.int .i64 a0_0, .bool a0_1, .slice A0_2 l0_2.length c0_2, .slice A0_3 l0_3.length c0_3, .int .i64 a0_4]] ?_; (with_reducible refine (spec_l12Own.calls a0_0 a0_1 _ _ l0_2 _ _ l0_3 a0_4 t4 t5 t6 t7 t8 _ ?side1 ?side2 ?side3 ?side4 A2.out).mono ?_); (case side1 => exact b6n8_); (case side2 => exact HC0_2.out); (case side3 => exact bkan_); (case side4 => exact HC0_3.out); rintro e w4 ⟨v1, v4, rfl, ho0, ho1, hb⟩; refine ⟨_, rfl, ?_⟩; have HO1 := A0_ (Kd.R_lower ho0 (bz_ b850_)); have HO2 := A0_ (Kd.R_lower ho1 (bz_ b850_)); replace BK1 := k1_ BK1 hb; replace BK2 := k1_ BK2 hb; replace BK3 := k1_ BK3 hb; replace HB := hb_ hb b850_; (try clear hb); (try clear ho0); (try clear ho1)) | ((with_reducible refine gd_ (N := 5) rfl ?_); refine bx_ 5 #[.int .i64 0, .bool false, .slice none 0 0, .slice none 0 0, .int .i64 0] 26 ?_; intro gb4 hg w5 BK4 hb; replace HO1 := A0_ (Kd.R_below bsm5_ hb); replace HO2 := A0_ (Kd.R_below b9so_ hb); have GW4 := ge_ hg b850_; have GE4 := GW4; replace HB := hb_ hb b850_; have NB1_4 := nl_ hg BK1; have NB4_1 := ng_ hg BK1; replace BK1 := k1_ BK1 hb; have NB2_4 := nl_ hg BK2; have NB4_2 := ng_ hg BK2; replace BK2 := k1_ BK2 hb; have NB3_4 := nl_ hg BK3; have NB4_3 := ng_ hg BK3; replace BK3 := k1_ BK3 hb; clear hb hg; have hnb3 := NB4_1.out; have hnc3 := NB1_4.out; have hnb4 := NB4_2.out; have hnc4 := NB2_4.out; have hnb5 := NB4_3.out; have hnc5 := NB3_4.out; have hcz2 := z5_ BK4; obtain ⟨Ao1, co1, eo1⟩ := Kd.R_slice HO1.out; subst eo1; obtain ⟨Ao2, co2, eo2⟩ := Kd.R_slice HO2.out; subst eo2; have hnb6 := NB2_3.out; have hnc6 := NB3_2.out; have hcz3_0 : w5.cell? ⟨gb2, 0, none⟩ = some (.int .i64 a1_0) := (kc_ BK2.out 0).trans rfl; have hcz3_1 : w5.cell? ⟨gb2, 1, none⟩ = some (.int .i64 a1_1) := (kc_ BK2.out 1).trans rfl; have hcz3_2 : w5.cell? ⟨gb2, 2, none⟩ = some (.int .i64 a1_2) := (kc_ BK2.out 2).trans rfl; have hfz3_0 := kf_ BK2.out 0; have hfz3_1 := kf_ BK2.out 1; have hfz3_2 := kf_ BK2.out 2))
  have n0_ : Aside0 (Kd.R (Kd.int .i64) 3 (((((w5.setCell ⟨gb4, 0, none⟩ (.int .i64 t4)).setCell ⟨gb4, 1, none⟩ (.bool t5)).setCell ⟨gb4, 2, none⟩ (.slice Ao1 t6.length co1)).setCell ⟨gb4, 3, none⟩ (.slice Ao2 t7.length co2)).setCell ⟨gb4, 4, none⟩ (.int .i64 t8)) w.heap.size (fun k_ => no_ (.slice Ao2 t7.length co2) k_) (.slice Ao1 t6.length co1) t6) := ⟨bha5_⟩
  have n1_ : Aside0 (Kd.R (Kd.int .i64) 3 (((((w5.setCell ⟨gb4, 0, none⟩ (.int .i64 t4)).setCell ⟨gb4, 1, none⟩ (.bool t5)).setCell ⟨gb4, 2, none⟩ (.slice Ao1 t6.length co1)).setCell ⟨gb4, 3, none⟩ (.slice Ao2 t7.length co2)).setCell ⟨gb4, 4, none⟩ (.int .i64 t8)) w.heap.size (fun k_ => no_ (.slice Ao1 t6.length co1) k_) (.slice Ao2 t7.length co2) t7) := ⟨bk8z_⟩
  have n2_ : Aside0 ((((((w5.setCell ⟨gb4, 0, none⟩ (.int .i64 t4)).setCell ⟨gb4, 1, none⟩ (.bool t5)).setCell ⟨gb4, 2, none⟩ (.slice Ao1 t6.length co1)).setCell ⟨gb4, 3, none⟩ (.slice Ao2 t7.length co2)).setCell ⟨gb4, 4, none⟩ (.int .i64 t8)).heap[gb1]? = some (.cells #[.int .i64 a0_0, .bool a0_1, .slice A0_2 l0_2.length c0_2, .slice A0_3 l0_3.length c0_3, .int .i64 a0_4] 26 (0, 0))) := ⟨u1_ BK1⟩
  have n3_ : Aside0 ((((((w5.setCell ⟨gb4, 0, none⟩ (.int .i64 t4)).setCell ⟨gb4, 1, none⟩ (.bool t5)).setCell ⟨gb4, 2, none⟩ (.slice Ao1 t6.length co1)).setCell ⟨gb4, 3, none⟩ (.slice Ao2 t7.length co2)).setCell ⟨gb4, 4, none⟩ (.int .i64 t8)).heap[gb2]? = some (.cells #[.int .i64 a1_0, .int .i64 a1_1, .int .i64 a1_2] 45 (0, 0))) := ⟨u1_ BK2⟩
  have n4_ : Aside0 ((((((w5.setCell ⟨gb4, 0, none⟩ (.int .i64 t4)).setCell ⟨gb4, 1, none⟩ (.bool t5)).setCell ⟨gb4, 2, none⟩ (.slice Ao1 t6.length co1)).setCell ⟨gb4, 3, none⟩ (.slice Ao2 t7.length co2)).setCell ⟨gb4, 4, none⟩ (.int .i64 t8)).heap[gb3]? = some (.cells #[.int .i64 0, .bool false, .slice none 0 0, .slice none 0 0, .int .i64 0] 26 (0, 0))) := ⟨u1_ BK3⟩
  have n5_ : Aside0 ((((((w5.setCell ⟨gb4, 0, none⟩ (.int .i64 t4)).setCell ⟨gb4, 1, none⟩ (.bool t5)).setCell ⟨gb4, 2, none⟩ (.slice Ao1 t6.length co1)).setCell ⟨gb4, 3, none⟩ (.slice Ao2 t7.length co2)).setCell ⟨gb4, 4, none⟩ (.int .i64 t8)).heap[gb4]? = some (.cells #[.int .i64 t4, .bool t5, .slice Ao1 t6.length co1, .slice Ao2 t7.length co2, .int .i64 t8] 26 (0, 0))) := ⟨u1_ BK4⟩
  have n6_ : Aside0 (Below w.heap.size w (((((w5.setCell ⟨gb4, 0, none⟩ (.int .i64 t4)).setCell ⟨gb4, 1, none⟩ (.bool t5)).setCell ⟨gb4, 2, none⟩ (.slice Ao1 t6.length co1)).setCell ⟨gb4, 3, none⟩ (.slice Ao2 t7.length co2)).setCell ⟨gb4, 4, none⟩ (.int .i64 t8))) := ⟨b2i7_⟩
  (try clear HO1)
  (try clear HO2)
  (try clear BK1)
  (try clear BK2)
  (try clear BK3)
  (try clear BK4)
  (try clear HB)
  generalize (((((w5.setCell ⟨gb4, 0, none⟩ (.int .i64 t4)).setCell ⟨gb4, 1, none⟩ (.bool t5)).setCell ⟨gb4, 2, none⟩ (.slice Ao1 t6.length co1)).setCell ⟨gb4, 3, none⟩ (.slice Ao2 t7.length co2)).setCell ⟨gb4, 4, none⟩ (.int .i64 t8)) = w6 at n0_ n1_ n2_ n3_ n4_ n5_ n6_ ⊢
  have HO1 := n0_
  have HO2 := n1_
  have BK1 := n2_
  have BK2 := n3_
  have BK3 := n4_
  have BK4 := n5_
  have HB := n6_
  clear n0_ n1_ n2_ n3_ n4_ n5_ n6_
  replace HO1 := A0_ (rd_ HO1.out)
  replace HO2 := A0_ (rd_ HO2.out)
  replace BK1 := A0_ (kd_ BK1.out)
  replace BK2 := A0_ (kd_ BK2.out)
  replace BK3 := A0_ (kd_ BK3.out)
  replace BK4 := A0_ (kd_ BK4.out)
  replace HB := A0_ (bd_ HB.out)
  refine start_ (n := 8) (S := fun w' => w'.cell? ⟨gb4, 0, none⟩ = some (.int .i64 t4) ∧ w'.cell? ⟨gb4, 1, none⟩ = some (.bool t5) ∧ w'.cell? ⟨gb4, 2, none⟩ = some (.slice Ao1 t6.length co1) ∧ w'.cell? ⟨gb4, 3, none⟩ = some (.slice Ao2 t7.length co2) ∧ w'.cell? ⟨gb4, 4, none⟩ = some (.int .i64 t8) ∧ w'.cell? ⟨gb1, 0, none⟩ = some (.int .i64 a0_0) ∧ w'.cell? ⟨gb1, 1, none⟩ = some (.bool a0_1) ∧ w'.cell? ⟨gb1, 2, none⟩ = some (.slice A0_2 l0_2.length c0_2) ∧ w'.cell? ⟨gb1, 3, none⟩ = some (.slice A0_3 l0_3.length c0_3) ∧ w'.cell? ⟨gb1, 4, none⟩ = some (.int .i64 a0_4)) (ds := [7]) #[false, false, false, false, false, false, false, false] bfqv_ rfl rfl ⟨(kc_ BK4.out 0).trans rfl, (kc_ BK4.out 1).trans rfl, (kc_ BK4.out 2).trans rfl, (kc_ BK4.out 3).trans rfl, (kc_ BK4.out 4).trans rfl, (kc_ BK1.out 0).trans rfl, (kc_ BK1.out 1).trans rfl, (kc_ BK1.out 2).trans rfl, (kc_ BK1.out 3).trans rfl, (kc_ BK1.out 4).trans rfl⟩ (fun hHeld => ?_); refine with_tabW spec_l12Make.tab4 spec_l12Make.bits4 (fun HT_ HW_ => ?_)
  generalize w6.drew = w7 at HO1 HO2 BK1 BK2 BK3 BK4 HB hHeld ⊢
  refine pu_ 1 14 ?_
  refine tk_ 0 13 hHeld ?_
  refine tk_ 2 15 hHeld ?_
  refine on_ 3 (some 16) (fun K hK => ?_)
  refine gs_ Tryd.func87 #[.agg #[.int .i64 a0_0, .bool a0_1, .slice A0_2 l0_2.length c0_2]] ?_
  with_reducible refine (spec_l3Polite.calls k a0_0 a0_1 _ _ l0_2 t1 _ ?side1 ?side2 A4.out).mono ?_
  (case side1 => exact b6n8_)
  (case side2 => exact HC0_2.out)
  rintro e w8 ⟨v5, rfl, ho0, hb⟩
  refine ⟨_, rfl, ?_⟩
  have HO3 := A0_ (Kd.R_lower (Kd.R_new' (Kd.R_new' ho0 (Kd.R_lt bsm5_)) (Kd.R_lt b9so_)) (bz_ b2i7_))
  replace HO1 := A0_ (Kd.R_elder' bsm5_ (Kd.R_base ho0) hb)
  replace HO2 := A0_ (Kd.R_elder' b9so_ (Kd.R_base ho0) hb)
  replace BK1 := k1_ BK1 hb
  replace BK2 := k1_ BK2 hb
  replace BK3 := k1_ BK3 hb
  replace BK4 := k1_ BK4 hb
  replace HB := hb_ hb b2i7_
  (try clear hb); (try clear ho0)
  obtain ⟨Ao3, co3, eo3⟩ := Kd.R_slice HO3.out
  (first | subst eo3 | (injection eo3 with f1_ f2_ f3_; have f4_ := f1_.symm; have f5_ := f3_.symm; clear f1_ f2_ f3_; subst f4_; subst f5_))
  have p1 : 0 ≤ (0 : Int) := bh19_
  have q1 : 0 < (t1.length : Int) := od_ bpil_
  obtain ⟨ad1, e1, hx1_0⟩ := Kd.at_int (rr_ HO3.out).2.2 0 p1 q1
  cases e1
  have qi290 : (0 < t1.length) = True := eq_true bh19_
  (try rw [show ((0 : Int)).toNat = 0 from rfl] at hx1_0)
  (try rw [Addr.add_zero'] at hx1_0)
  replace p1 := eq_true p1
  replace q1 := eq_true q1
  refine hK.out _ _ ⟨(kc_ BK4.out 0).trans rfl, (kc_ BK4.out 1).trans rfl, (kc_ BK4.out 2).trans rfl, (kc_ BK4.out 3).trans rfl, (kc_ BK4.out 4).trans rfl, (kc_ BK1.out 0).trans rfl, (kc_ BK1.out 1).trans rfl, (kc_ BK1.out 2).trans rfl, (kc_ BK1.out 3).trans rfl, (kc_ BK1.out 4).trans rfl⟩ (fun hHeld => ?_)
  clear hK K
  refine nm_ 16 ?_
  refine pu_ 4 17 ?_
  refine on_ 5 (some 18) (fun K hK => ?_)
  refine value_ (w1 := ?_) (v := ?_) (by rfl) rfl ?_ ?_
  rotate_left 2
  ·go_simp
   constructor
   ·rfl
   rfl
  refine hK.out _ _ ⟨(kc_ BK4.out 0).trans rfl, (kc_ BK4.out 1).trans rfl, (kc_ BK4.out 2).trans rfl, (kc_ BK4.out 3).trans rfl, (kc_ BK4.out 4).trans rfl, (kc_ BK1.out 0).trans rfl, (kc_ BK1.out 1).trans rfl, (kc_ BK1.out 2).trans rfl, (kc_ BK1.out 3).trans rfl, (kc_ BK1.out 4).trans rfl⟩ (fun hHeld => ?_)
  clear hK K
  refine nm_ 18 ?_
  refine on_ 6 (some 19) (fun K hK => ?_)
  refine gs_ Tryd.func86 #[.agg #[.int .i64 t4, .bool t5, .slice Ao1 t6.length co1, .slice Ao2 t7.length co2, .int .i64 t8], .int .i64 (rd t1 0)] ?_
  with_reducible refine (spec_l12Sit.calls k t4 t5 _ _ t6 _ _ t7 t8 (rd t1 0) t9 t10 t11 t12 t13 _ ?side1 ?side2 ?side3 ?side4 A6.out).mono ?_
  (case side1 => exact bayy_)
  (case side2 => exact (rr_ HO1.out).2.1)
  (case side3 => exact ba04_)
  (case side4 => exact (rr_ HO2.out).2.1)
  rintro e w9 ⟨v6, v7, rfl, ho0, ho1, hb⟩
  refine ⟨_, rfl, ?_⟩
  have HO4 := A0_ (Kd.R_lower (Kd.R_new' (Kd.R_new' (Kd.R_new' ho0 (Kd.R_lt bsm5_)) (Kd.R_lt b9so_)) (Kd.R_lt buiy_)) (bz_ b2i7_))
  have HO5 := A0_ (Kd.R_lower (Kd.R_new' (Kd.R_new' (Kd.R_new' ho1 (Kd.R_lt bsm5_)) (Kd.R_lt b9so_)) (Kd.R_lt buiy_)) (bz_ b2i7_))
  replace HO1 := A0_ (Kd.R_mono (Kd.R_told (Kd.R_told (Kd.R_old bsm5_ hb) (Kd.R_base ho0)) (Kd.R_base ho1)) (fun _ h_ => h_.1))
  replace HO2 := A0_ (Kd.R_mono (Kd.R_told (Kd.R_told (Kd.R_old b9so_ hb) (Kd.R_base ho0)) (Kd.R_base ho1)) (fun _ h_ => h_.1))
  replace HO3 := A0_ (Kd.R_mono (Kd.R_told (Kd.R_told (Kd.R_old buiy_ hb) (Kd.R_base ho0)) (Kd.R_base ho1)) (fun _ h_ => h_.1))
  replace BK1 := k1_ BK1 hb
  replace BK2 := k1_ BK2 hb
  replace BK3 := k1_ BK3 hb
  replace BK4 := k1_ BK4 hb
  replace HB := hb_ hb b2i7_
  (try clear hb); (try clear ho0); (try clear ho1)
  obtain ⟨Ao4, co4, eo4⟩ := Kd.R_slice HO4.out
  (first | subst eo4 | (injection eo4 with f1_ f2_ f3_; have f4_ := f1_.symm; have f5_ := f3_.symm; clear f1_ f2_ f3_; subst f4_; subst f5_))
  obtain ⟨Ao5, co5, eo5⟩ := Kd.R_slice HO5.out
  (first | subst eo5 | (injection eo5 with f1_ f2_ f3_; have f4_ := f1_.symm; have f5_ := f3_.symm; clear f1_ f2_ f3_; subst f4_; subst f5_))
  refine hK.out _ _ ⟨(kc_ BK4.out 0).trans rfl, (kc_ BK4.out 1).trans rfl, (kc_ BK4.out 2).trans rfl, (kc_ BK4.out 3).trans rfl, (kc_ BK4.out 4).trans rfl, (kc_ BK1.out 0).trans rfl, (kc_ BK1.out 1).trans rfl, (kc_ BK1.out 2).trans rfl, (kc_ BK1.out 3).trans rfl, (kc_ BK1.out 4).trans rfl⟩ (fun hHeld => ?_)
  clear hK K
  refine nm_ 19 ?_
  refine last_ (i := 7) (N := none) #[true, true, true, true, true, true, true, true] rfl rfl (one_of HT_.out bfqv_) bi3y_ (fun K hK => ?_)
  have hs29 : w9.cell? ⟨gb4, 0, none⟩ = some (.int .i64 t4) := (kc_ BK4.out 0).trans rfl
  have hfs29 := kf_ BK4.out 0
  have hns1_0 := NB1_4.out
  have hns1_1 := NB2_4.out
  have hns1_2 := NB3_4.out
  have hms1_0 := NB4_1.out
  have hms1_1 := NB4_2.out
  have hms1_2 := NB4_3.out
  have hs30 : w9.cell? ⟨gb4, 1, none⟩ = some (.bool t5) := (kc_ BK4.out 1).trans rfl
  have hfs30 := kf_ BK4.out 1
  have hns2_0 := NB1_4.out
  have hns2_1 := NB2_4.out
  have hns2_2 := NB3_4.out
  have hms2_0 := NB4_1.out
  have hms2_1 := NB4_2.out
  have hms2_2 := NB4_3.out
  have hs32 : w9.cell? ⟨gb4, 2, none⟩ = some (.slice Ao1 t6.length co1) := (kc_ BK4.out 2).trans rfl
  have hfs32 := kf_ BK4.out 2
  have hns3_0 := NB1_4.out
  have hns3_1 := NB2_4.out
  have hns3_2 := NB3_4.out
  have hms3_0 := NB4_1.out
  have hms3_1 := NB4_2.out
  have hms3_2 := NB4_3.out
  have hs34 : w9.cell? ⟨gb4, 3, none⟩ = some (.slice Ao2 t7.length co2) := (kc_ BK4.out 3).trans rfl
  have hfs34 := kf_ BK4.out 3
  have hns4_0 := NB1_4.out
  have hns4_1 := NB2_4.out
  have hns4_2 := NB3_4.out
  have hms4_0 := NB4_1.out
  have hms4_1 := NB4_2.out
  have hms4_2 := NB4_3.out
  have hs35 : w9.cell? ⟨gb4, 4, none⟩ = some (.int .i64 t8) := (kc_ BK4.out 4).trans rfl
  have hfs35 := kf_ BK4.out 4
  have hns5_0 := NB1_4.out
  have hns5_1 := NB2_4.out
  have hns5_2 := NB3_4.out
  have hms5_0 := NB4_1.out
  have hms5_1 := NB4_2.out
  have hms5_2 := NB4_3.out
  refine skip_ (w1 := ?_) (by rfl) rfl ?_ ?_
  rotate_left
  ·go_simp
   rfl
  refine hK.out _ _ ?_
  clear hK K
  refine dn_ ?_
  have hcz4 := z5_ BK4
  have hcz5 := z5_ BK3
  try go_wp2
  refine bodyPost_ret (results_cell_row rfl _ _ gb3 26 #[.int .i64 t9, .bool t10, .slice Ao4 t11.length co4, .slice Ao5 t12.length co5, .int .i64 t13] (0, 0) _ rfl (u1_ BK3) Tryd.underlying26 rfl bfqv_) rfl ?_
  exact ⟨_, _, bnwh_, by (with_reducible repeat (first | apply ra_ | apply rn_ | apply rd_)); exact Kd.R_mono (rf_ (rf_ (rf_ (rf_ (rf_ (rf_ (rf_ (rf_ (rf_ (rf_ (Kd.R_types (Kd.R_types HO4.out BK4.out bi3y_) BK3.out bi3y_) (fun _ hk => hk.1.2) (.int .i64 t9)) (fun _ hk => hk.1.2) (.bool t10)) (fun _ hk => hk.1.2) (.slice Ao4 t11.length co4)) (fun _ hk => hk.1.2) (.slice Ao5 t12.length co5)) (fun _ hk => hk.1.2) (.int .i64 t13)) k2_0 _) k2_0 _) k2_0 _) k2_0 _) k2_0 _) (fun _ hk => hk.1.1.1.1.1), by (with_reducible repeat (first | apply ra_ | apply rn_ | apply rd_)); exact Kd.R_mono (rf_ (rf_ (rf_ (rf_ (rf_ (rf_ (rf_ (rf_ (rf_ (rf_ (Kd.R_types (Kd.R_types HO5.out BK4.out bi3y_) BK3.out bi3y_) (fun _ hk => hk.1.2) (.int .i64 t9)) (fun _ hk => hk.1.2) (.bool t10)) (fun _ hk => hk.1.2) (.slice Ao4 t11.length co4)) (fun _ hk => hk.1.2) (.slice Ao5 t12.length co5)) (fun _ hk => hk.1.2) (.int .i64 t13)) k2_0 _) k2_0 _) k2_0 _) k2_0 _) k2_0 _) (fun _ hk => hk.1.1.1.1.1), b2i7_⟩
 rw [if_neg c1] at H
 obtain ⟨c1b0, c1b1⟩ := ef_ c1
 by_cases c2 : a1_0 = 2
 ·rw [if_pos c2] at H
  obtain ⟨c2b0, c2b1⟩ := et_ c2
  clear c2
  obtain ⟨⟨t9, t10, t11, t12, t13⟩, A4, H⟩ := o1_ H
  replace H : (some (t9, t10, t11, t12, t13)) = some (r1, r2, r3, r4, r5) := H
  simp only [sj_, pj_] at H
  obtain ⟨rfl, rfl, rfl, rfl, rfl⟩ := H
  go_enter Tryd.func70, Tryd.ntmps70
  go_wp2_with (first | ((with_reducible refine gd_ (N := 2) rfl ?_); refine bx_ 2 #[.int .i64 a0_0, .bool a0_1, .slice A0_2 l0_2.length c0_2, .slice A0_3 l0_3.length c0_3, .int .i64 a0_4] 26 ?_; intro gb1 hg w1 BK1 hb; have GW1 := ge_ hg brt4_; have GE1 := GW1; replace HB := hb_ hb brt4_; clear hb hg) | ((with_reducible refine gd_ (N := 3) rfl ?_); refine bx_ 3 #[.int .i64 a1_0, .int .i64 a1_1, .int .i64 a1_2] 45 ?_; intro gb2 hg w2 BK2 hb; have GW2 := ge_ hg be6g_; have GE2 := GW2; replace HB := hb_ hb be6g_; have NB1_2 := nl_ hg BK1; have NB2_1 := ng_ hg BK1; replace BK1 := k1_ BK1 hb; clear hb hg) | ((with_reducible refine gd_ (N := 4) rfl ?_); refine bx_ 4 #[.int .i64 0, .bool false, .slice none 0 0, .slice none 0 0, .int .i64 0] 26 ?_; intro gb3 hg w3 BK3 hb; have GW3 := ge_ hg bfnq_; have GE3 := GW3; replace HB := hb_ hb bfnq_; have NB1_3 := nl_ hg BK1; have NB3_1 := ng_ hg BK1; replace BK1 := k1_ BK1 hb; have NB2_3 := nl_ hg BK2; have NB3_2 := ng_ hg BK2; replace BK2 := k1_ BK2 hb; clear hb hg; have hnb1 := NB1_2.out; have hnc1 := NB2_1.out; have hnb2 := NB1_3.out; have hnc2 := NB3_1.out; have hcz1 := z5_ BK1) | ((with_reducible refine gc_ (f := 31) rfl ?_); refine gl_ 8 Tryd.func31 #[.agg #[.int .i64 a0_0, .bool a0_1, .slice A0_2 l0_2.length c0_2, .slice A0_3 l0_3.length c0_3, .int .i64 a0_4]] ?_; (with_reducible refine (spec_l12Own.calls a0_0 a0_1 _ _ l0_2 _ _ l0_3 a0_4 t4 t5 t6 t7 t8 _ ?side1 ?side2 ?side3 ?side4 A2.out).mono ?_); (case side1 => exact b6n8_); (case side2 => exact HC0_2.out); (case side3 => exact bkan_); (case side4 => exact HC0_3.out); rintro e w4 ⟨v1, v4, rfl, ho0, ho1, hb⟩; refine ⟨_, rfl, ?_⟩; have HO1 := A0_ (Kd.R_lower ho0 (bz_ b850_)); have HO2 := A0_ (Kd.R_lower ho1 (bz_ b850_)); replace BK1 := k1_ BK1 hb; replace BK2 := k1_ BK2 hb; replace BK3 := k1_ BK3 hb; replace HB := hb_ hb b850_; (try clear hb); (try clear ho0); (try clear ho1)) | ((with_reducible refine gd_ (N := 5) rfl ?_); refine bx_ 5 #[.int .i64 0, .bool false, .slice none 0 0, .slice none 0 0, .int .i64 0] 26 ?_; intro gb4 hg w5 BK4 hb; replace HO1 := A0_ (Kd.R_below bsm5_ hb); replace HO2 := A0_ (Kd.R_below b9so_ hb); have GW4 := ge_ hg b850_; have GE4 := GW4; replace HB := hb_ hb b850_; have NB1_4 := nl_ hg BK1; have NB4_1 := ng_ hg BK1; replace BK1 := k1_ BK1 hb; have NB2_4 := nl_ hg BK2; have NB4_2 := ng_ hg BK2; replace BK2 := k1_ BK2 hb; have NB3_4 := nl_ hg BK3; have NB4_3 := ng_ hg BK3; replace BK3 := k1_ BK3 hb; clear hb hg; have hnb3 := NB4_1.out; have hnc3 := NB1_4.out; have hnb4 := NB4_2.out; have hnc4 := NB2_4.out; have hnb5 := NB4_3.out; have hnc5 := NB3_4.out; have hcz2 := z5_ BK4; obtain ⟨Ao1, co1, eo1⟩ := Kd.R_slice HO1.out; subst eo1; obtain ⟨Ao2, co2, eo2⟩ := Kd.R_slice HO2.out; subst eo2; have hnb6 := NB2_3.out; have hnc6 := NB3_2.out; have hcz3_0 : w5.cell? ⟨gb2, 0, none⟩ = some (.int .i64 a1_0) := (kc_ BK2.out 0).trans rfl; have hcz3_1 : w5.cell? ⟨gb2, 1, none⟩ = some (.int .i64 a1_1) := (kc_ BK2.out 1).trans rfl; have hcz3_2 : w5.cell? ⟨gb2, 2, none⟩ = some (.int .i64 a1_2) := (kc_ BK2.out 2).trans rfl; have hfz3_0 := kf_ BK2.out 0; have hfz3_1 := kf_ BK2.out 1; have hfz3_2 := kf_ BK2.out 2) | ((with_reducible refine gc_ (f := 86) rfl ?_); refine gl_ 25 Tryd.func86 #[.agg #[.int .i64 t4, .bool t5, .slice Ao1 t6.length co1, .slice Ao2 t7.length co2, .int .i64 t8], .int .i64 a1_1] ?_; (with_reducible refine (spec_l12Sit.calls k t4 t5 _ _ t6 _ _ t7 t8 a1_1 t9 t10 t11 t12 t13 _ ?side1 ?side2 ?side3 ?side4 A4.out).mono ?_); (case side1 => refine (rr_ (e := 3) (base := w.heap.size) (ok := fun k_ => no_ (.slice Ao2 t7.length co2) k_) (n := t6.length) (c := co1) ?_).2.2; exact bq0f_); (case side2 => exact (rr_ HO1.out).2.1); (case side3 => refine (rr_ (e := 3) (base := w.heap.size) (ok := fun k_ => no_ (.slice Ao1 t6.length co1) k_) (n := t7.length) (c := co2) ?_).2.2; exact bu3r_); (case side4 => exact (rr_ HO2.out).2.1); rintro e w6 ⟨v5, v6, rfl, ho0, ho1, hb⟩; refine ⟨_, rfl, ?_⟩; have HO3 := A0_ (Kd.R_lower (Kd.R_new' (Kd.R_new' ho0 (Kd.R_lt bq0f_)) (Kd.R_lt bu3r_)) (bz_ b2i7_)); have HO4 := A0_ (Kd.R_lower (Kd.R_new' (Kd.R_new' ho1 (Kd.R_lt bq0f_)) (Kd.R_lt bu3r_)) (bz_ b2i7_)); replace HO1 := A0_ (Kd.R_mono (Kd.R_told (Kd.R_told (Kd.R_old bq0f_ hb) (Kd.R_base ho0)) (Kd.R_base ho1)) (fun _ h_ => h_.1)); replace HO2 := A0_ (Kd.R_mono (Kd.R_told (Kd.R_told (Kd.R_old bu3r_ hb) (Kd.R_base ho0)) (Kd.R_base ho1)) (fun _ h_ => h_.1)); replace BK1 := k1_ BK1 hb; replace BK2 := k1_ BK2 hb; replace BK3 := k1_ BK3 hb; replace BK4 := k2_ (.cells #[.int .i64 t4, .bool t5, .slice Ao1 t6.length co1, .slice Ao2 t7.length co2, .int .i64 t8] 26 (0, 0)) BK4 hb; replace HB := hb_ hb b2i7_; (try clear hb); (try clear ho0); (try clear ho1); have hcz4 := z5_ BK4; obtain ⟨Ao3, co3, eo3⟩ := Kd.R_slice HO3.out; subst eo3; obtain ⟨Ao4, co4, eo4⟩ := Kd.R_slice HO4.out; subst eo4; have hcz5_0 : w6.cell? ⟨gb3, 0, none⟩ = some (.int .i64 0) := (kc_ BK3.out 0).trans rfl; have hcz5_1 : w6.cell? ⟨gb3, 1, none⟩ = some (.bool false) := (kc_ BK3.out 1).trans rfl; have hcz5_2 : w6.cell? ⟨gb3, 2, none⟩ = some (.slice none 0 0) := (kc_ BK3.out 2).trans rfl; have hcz5_3 : w6.cell? ⟨gb3, 3, none⟩ = some (.slice none 0 0) := (kc_ BK3.out 3).trans rfl; have hcz5_4 : w6.cell? ⟨gb3, 4, none⟩ = some (.int .i64 0) := (kc_ BK3.out 4).trans rfl; have hfz5_0 := kf_ BK3.out 0; have hfz5_1 := kf_ BK3.out 1; have hfz5_2 := kf_ BK3.out 2; have hfz5_3 := kf_ BK3.out 3; have hfz5_4 := kf_ BK3.out 4))
  refine bodyPost_ret (results_cell_row rfl _ _ gb3 26 #[.int .i64 t9, .bool t10, .slice Ao3 t11.length co3, .slice Ao4 t12.length co4, .int .i64 t13] (0, 0) _ rfl (u1_ BK3) Tryd.underlying26 rfl bfqv_) rfl ?_
  exact ⟨_, _, bnwh_, by (with_reducible repeat (first | apply ra_ | apply rn_ | apply rd_)); exact Kd.R_mono (rf_ (rf_ (rf_ (rf_ (rf_ (rf_ (rf_ (rf_ (rf_ (rf_ (Kd.R_types (Kd.R_types HO3.out BK4.out bi3y_) BK3.out bi3y_) (fun _ hk => hk.1.2) (.int .i64 t9)) (fun _ hk => hk.1.2) (.bool t10)) (fun _ hk => hk.1.2) (.slice Ao3 t11.length co3)) (fun _ hk => hk.1.2) (.slice Ao4 t12.length co4)) (fun _ hk => hk.1.2) (.int .i64 t13)) k2_0 _) k2_0 _) k2_0 _) k2_0 _) k2_0 _) (fun _ hk => hk.1.1.1.1), by (with_reducible repeat (first | apply ra_ | apply rn_ | apply rd_)); exact Kd.R_mono (rf_ (rf_ (rf_ (rf_ (rf_ (rf_ (rf_ (rf_ (rf_ (rf_ (Kd.R_types (Kd.R_types HO4.out BK4.out bi3y_) BK3.out bi3y_) (fun _ hk => hk.1.2) (.int .i64 t9)) (fun _ hk => hk.1.2) (.bool t10)) (fun _ hk => hk.1.2) (.slice Ao3 t11.length co3)) (fun _ hk => hk.1.2) (.slice Ao4 t12.length co4)) (fun _ hk => hk.1.2) (.int .i64 t13)) k2_0 _) k2_0 _) k2_0 _) k2_0 _) k2_0 _) (fun _ hk => hk.1.1.1.1), b2i7_⟩
 rw [if_neg c2] at H
 obtain ⟨c2b0, c2b1⟩ := ef_ c2
 by_cases c3 : a1_0 = 3
 ·rw [if_pos c3] at H
  obtain ⟨c3b0, c3b1⟩ := et_ c3
  clear c3
  obtain ⟨t2, A4, H⟩ := o1_ H
  obtain ⟨⟨t9, t10, t11⟩, A6, H⟩ := o1_ H
  by_cases c4 : 0 ≤ t2
  case neg =>
   rw [if_neg c4] at H
   exact absurd H bxka_
  rw [if_pos c4] at H
  have c4b0 := eq_true c4
  have c4b1 : decide (0 ≤ t2) = true := dt_ c4
  clear c4
  by_cases c5 : t2 ≤ (t7.length : Int)
  case neg =>
   rw [if_neg c5] at H
   exact absurd H bxka_
  rw [if_pos c5] at H
  have c5b0 := eq_true c5
  have c5b1 : decide (t2 ≤ (t7.length : Int)) = true := dt_ c5
  clear c5
  obtain ⟨y1, hy1⟩ : ∃ y_ : List Int, y_ = (t7.take (t2 : Int).toNat) := ⟨_, rfl⟩
  replace H : (if 0 ≤ (wrap64 (t2 + 1)) then (if (wrap64 (t2 + 1)) ≤ (t7.length : Int) then (some (t9, t10, t11, (t7.eraseIdx (t2 : Int).toNat), t8)) else (none)) else (none)) = some (r1, r2, r3, r4, r5) := bgiq_
  have Ny1 := A0_ hy1
  clear hy1
  obtain ⟨ji1, hji1⟩ : ∃ j_ : Int, (wrap64 (t2 + 1)) = j_ := ⟨_, rfl⟩
  replace H : (if 0 ≤ (ji1) then (if (ji1) ≤ (t7.length : Int) then (some (t9, t10, t11, (t7.eraseIdx (t2 : Int).toNat), t8)) else (none)) else (none)) = some (r1, r2, r3, r4, r5) := bmns_
  (try rw [hji1] at A2)
  (try rw [hji1] at A4)
  (try rw [hji1] at A6)
  have hji66w : (IntKind.i64.wrap (t2 + 1)) = ji1 := (i64_w _).trans hji1
  by_cases c6 : 0 ≤ (ji1)
  case neg =>
   rw [if_neg c6] at H
   exact absurd H bxka_
  rw [if_pos c6] at H
  have c6b0 := eq_true c6
  have c6b1 : decide (0 ≤ (ji1)) = true := dt_ c6
  clear c6
  by_cases c7 : (ji1) ≤ (t7.length : Int)
  case neg =>
   rw [if_neg c7] at H
   exact absurd H bxka_
  rw [if_pos c7] at H
  have c7b0 := eq_true c7
  have c7b1 : decide ((ji1) ≤ (t7.length : Int)) = true := dt_ c7
  clear c7
  obtain ⟨y2, hy2⟩ : ∃ y_ : List Int, y_ = (t7.drop ((ji1) : Int).toNat) := ⟨_, rfl⟩
  replace H : (some (t9, t10, t11, (t7.eraseIdx (t2 : Int).toNat), t8)) = some (r1, r2, r3, r4, r5) := bscs_
  have Ny2 := A0_ hy2
  clear hy2
  obtain ⟨y3, hy3⟩ : ∃ y_ : List Int, y_ = (t7.eraseIdx (t2 : Int).toNat) := ⟨_, rfl⟩
  replace H : (some (t9, t10, t11, y3, t8)) = some (r1, r2, r3, r4, r5) := b2x6_
  have Ny3 := A0_ hy3
  clear hy3
  simp only [sj_, pj_] at H
  obtain ⟨rfl, rfl, rfl, rfl, rfl⟩ := H
  go_enter Tryd.func70, Tryd.ntmps70
  try go_wp2_with (first | ((with_reducible refine gd_ (N := 2) rfl ?_); refine bx_ 2 #[.int .i64 a0_0, .bool a0_1, .slice A0_2 l0_2.length c0_2, .slice A0_3 l0_3.length c0_3, .int .i64 a0_4] 26 ?_; intro gb1 hg w1 BK1 hb; have GW1 := ge_ hg brt4_; have GE1 := GW1; replace HB := hb_ hb brt4_; clear hb hg) | ((with_reducible refine gd_ (N := 3) rfl ?_); refine bx_ 3 #[.int .i64 a1_0, .int .i64 a1_1, .int .i64 a1_2] 45 ?_; intro gb2 hg w2 BK2 hb; have GW2 := ge_ hg be6g_; have GE2 := GW2; replace HB := hb_ hb be6g_; have NB1_2 := nl_ hg BK1; have NB2_1 := ng_ hg BK1; replace BK1 := k1_ BK1 hb; clear hb hg) | ((with_reducible refine gd_ (N := 4) rfl ?_); refine bx_ 4 #[.int .i64 0, .bool false, .slice none 0 0, .slice none 0 0, .int .i64 0] 26 ?_; intro gb3 hg w3 BK3 hb; have GW3 := ge_ hg bfnq_; have GE3 := GW3; replace HB := hb_ hb bfnq_; have NB1_3 := nl_ hg BK1; have NB3_1 := ng_ hg BK1; replace BK1 := k1_ BK1 hb; have NB2_3 := nl_ hg BK2; have NB3_2 := ng_ hg BK2; replace BK2 := k1_ BK2 hb; clear hb hg; have hnb1 := NB1_2.out; have hnc1 := NB2_1.out; have hnb2 := NB1_3.out; have hnc2 := NB3_1.out; have hcz1 := z5_ BK1) | ((with_reducible refine gc_ (f := 31) rfl ?_); refine gl_ 8 Tryd.func31 #[.agg #[.int .i64 a0_0, .bool a0_1, .slice A0_2 l0_2.length c0_2, .slice A0_3 l0_3.length c0_3, .int .i64 a0_4]] ?_; (with_reducible refine (spec_l12Own.calls a0_0 a0_1 _ _ l0_2 _ _ l0_3 a0_4 t4 t5 t6 t7 t8 _ ?side1 ?side2 ?side3 ?side4 A2.out).mono ?_); (case side1 => exact b6n8_); (case side2 => exact HC0_2.out); (case side3 => exact bkan_); (case side4 => exact HC0_3.out); rintro e w4 ⟨v1, v4, rfl, ho0, ho1, hb⟩; refine ⟨_, rfl, ?_⟩; have HO1 := A0_ (Kd.R_lower ho0 (bz_ b850_)); have HO2 := A0_ (Kd.R_lower ho1 (bz_ b850_)); replace BK1 := k1_ BK1 hb; replace BK2 := k1_ BK2 hb; replace BK3 := k1_ BK3 hb; replace HB := hb_ hb b850_; (try clear hb); (try clear ho0); (try clear ho1)) | ((with_reducible refine gd_ (N := 5) rfl ?_); refine bx_ 5 #[.int .i64 0, .bool false, .slice none 0 0, .slice none 0 0, .int .i64 0] 26 ?_; intro gb4 hg w5 BK4 hb; replace HO1 := A0_ (Kd.R_below bsm5_ hb); replace HO2 := A0_ (Kd.R_below b9so_ hb); have GW4 := ge_ hg b850_; have GE4 := GW4; replace HB := hb_ hb b850_; have NB1_4 := nl_ hg BK1; have NB4_1 := ng_ hg BK1; replace BK1 := k1_ BK1 hb; have NB2_4 := nl_ hg BK2; have NB4_2 := ng_ hg BK2; replace BK2 := k1_ BK2 hb; have NB3_4 := nl_ hg BK3; have NB4_3 := ng_ hg BK3; replace BK3 := k1_ BK3 hb; clear hb hg; have hnb3 := NB4_1.out; have hnc3 := NB1_4.out; have hnb4 := NB4_2.out; have hnc4 := NB2_4.out; have hnb5 := NB4_3.out; have hnc5 := NB3_4.out; have hcz2 := z5_ BK4; obtain ⟨Ao1, co1, eo1⟩ := Kd.R_slice HO1.out; subst eo1; obtain ⟨Ao2, co2, eo2⟩ := Kd.R_slice HO2.out; subst eo2; have hnb6 := NB2_3.out; have hnc6 := NB3_2.out; have hcz3_0 : w5.cell? ⟨gb2, 0, none⟩ = some (.int .i64 a1_0) := (kc_ BK2.out 0).trans rfl; have hcz3_1 : w5.cell? ⟨gb2, 1, none⟩ = some (.int .i64 a1_1) := (kc_ BK2.out 1).trans rfl; have hcz3_2 : w5.cell? ⟨gb2, 2, none⟩ = some (.int .i64 a1_2) := (kc_ BK2.out 2).trans rfl; have hfz3_0 := kf_ BK2.out 0; have hfz3_1 := kf_ BK2.out 1; have hfz3_2 := kf_ BK2.out 2; have hcz4_0 : w5.cell? ⟨gb1, 0, none⟩ = some (.int .i64 a0_0) := (kc_ BK1.out 0).trans rfl; have hcz4_1 : w5.cell? ⟨gb1, 1, none⟩ = some (.bool a0_1) := (kc_ BK1.out 1).trans rfl; have hcz4_2 : w5.cell? ⟨gb1, 2, none⟩ = some (.slice A0_2 l0_2.length c0_2) := (kc_ BK1.out 2).trans rfl; have hcz4_3 : w5.cell? ⟨gb1, 3, none⟩ = some (.slice A0_3 l0_3.length c0_3) := (kc_ BK1.out 3).trans rfl; have hcz4_4 : w5.cell? ⟨gb1, 4, none⟩ = some (.int .i64 a0_4) := (kc_ BK1.out 4).trans rfl; have hfz4_0 := kf_ BK1.out 0; have hfz4_1 := kf_ BK1.out 1; have hfz4_2 := kf_ BK1.out 2; have hfz4_3 := kf_ BK1.out 3; have hfz4_4 := kf_ BK1.out 4) | ((with_reducible refine gc_ (f := 52) rfl ?_); refine gl_ 32 Tryd.func52 #[.slice A0_3 l0_3.length c0_3, .int .i64 a1_1] ?_; (with_reducible refine (spec_l12Place.calls k _ _ l0_3 a1_1 t2 _ ?side1 ?side2 A4.out).mono ?_); (case side1 => exact cb_ HR0_3.out b2i7_); (case side2 => exact HC0_3.out); rintro e w' ⟨rfl, ⟨nd, rfl⟩⟩; refine ⟨_, rfl, ?_⟩) | ((with_reducible refine gc_ (f := 88) rfl ?_); refine gl_ 37 Tryd.func88 #[.agg #[.int .i64 t4, .bool t5, .slice Ao1 t6.length co1], .int .i64 a1_1] ?_; (with_reducible refine (spec_l2Without.calls k t4 t5 _ _ t6 a1_1 t9 t10 t11 _ ?side1 ?side2 A6.out).mono ?_); (case side1 => refine (rr_ (e := 3) (base := w.heap.size) (ok := fun k_ => no_ (.slice Ao2 t7.length co2) k_) (n := t6.length) (c := co1) ?_).2.2; exact bq0f_); (case side2 => exact (rr_ HO1.out).2.1); rintro e w6 ⟨v5, rfl, ho0, hb⟩; refine ⟨_, rfl, ?_⟩; have HO3 := A0_ (Kd.R_lower (Kd.R_new' (Kd.R_new' ho0 (Kd.R_lt bq0f_)) (Kd.R_lt bu3r_)) (bz_ b2i7_)); replace HO1 := A0_ (Kd.R_elder' bq0f_ (Kd.R_base ho0) hb); replace HO2 := A0_ (Kd.R_elder' bu3r_ (Kd.R_base ho0) hb); replace BK1 := k1_ BK1 hb; replace BK2 := k1_ BK2 hb; replace BK3 := k1_ BK3 hb; replace BK4 := k2_ (.cells #[.int .i64 t4, .bool t5, .slice Ao1 t6.length co1, .slice Ao2 t7.length co2, .int .i64 t8] 26 (0, 0)) BK4 hb; replace HB := hb_ hb b2i7_; (try clear hb); (try clear ho0); have hcz5 := z5_ BK4; obtain ⟨Ao3, co3, eo3⟩ := Kd.R_slice HO3.out; subst eo3))
  have n0_ : Aside0 (Kd.R (Kd.int .i64) 3 (((w6.setCell ⟨gb4, 0, none⟩ (.int .i64 t9)).setCell ⟨gb4, 1, none⟩ (.bool t10)).setCell ⟨gb4, 2, none⟩ (.slice Ao3 t11.length co3)) w.heap.size (fun k_ => no_ (.slice Ao2 t7.length co2) k_ ∧ no_ (.slice Ao3 t11.length co3) k_) (.slice Ao1 t6.length co1) t6) := ⟨by (with_reducible repeat (first | apply ra_ | apply rn_ | apply rd_)); exact Kd.R_mono (rf_ (rf_ (rf_ (Kd.R_types HO1.out BK4.out bi3y_) k2_0 _) k2_0 _) k2_0 _) (fun _ hk => ⟨hk.1.1, hk.1.2⟩)⟩
  have n1_ : Aside0 (Kd.R (Kd.int .i64) 3 (((w6.setCell ⟨gb4, 0, none⟩ (.int .i64 t9)).setCell ⟨gb4, 1, none⟩ (.bool t10)).setCell ⟨gb4, 2, none⟩ (.slice Ao3 t11.length co3)) w.heap.size (fun k_ => no_ (.slice Ao1 t6.length co1) k_ ∧ no_ (.slice Ao3 t11.length co3) k_) (.slice Ao2 t7.length co2) t7) := ⟨by (with_reducible repeat (first | apply ra_ | apply rn_ | apply rd_)); exact Kd.R_mono (rf_ (rf_ (rf_ (Kd.R_types HO2.out BK4.out bi3y_) k2_0 _) k2_0 _) k2_0 _) (fun _ hk => ⟨hk.1.1, hk.1.2⟩)⟩
  have n2_ : Aside0 (Kd.R (Kd.int .i64) 3 (((w6.setCell ⟨gb4, 0, none⟩ (.int .i64 t9)).setCell ⟨gb4, 1, none⟩ (.bool t10)).setCell ⟨gb4, 2, none⟩ (.slice Ao3 t11.length co3)) w.heap.size (fun k_ => no_ (.slice Ao1 t6.length co1) k_ ∧ no_ (.slice Ao2 t7.length co2) k_) (.slice Ao3 t11.length co3) t11) := ⟨by (with_reducible repeat (first | apply ra_ | apply rn_ | apply rd_)); exact Kd.R_mono (rf_ (rf_ (rf_ (Kd.R_types HO3.out BK4.out bi3y_) k2_0 _) k2_0 _) k2_0 _) (fun _ hk => ⟨hk.1.1.2, hk.1.2⟩)⟩
  have n3_ : Aside0 ((((w6.setCell ⟨gb4, 0, none⟩ (.int .i64 t9)).setCell ⟨gb4, 1, none⟩ (.bool t10)).setCell ⟨gb4, 2, none⟩ (.slice Ao3 t11.length co3)).heap[gb1]? = some (.cells #[.int .i64 a0_0, .bool a0_1, .slice A0_2 l0_2.length c0_2, .slice A0_3 l0_3.length c0_3, .int .i64 a0_4] 26 (0, 0))) := ⟨u1_ BK1⟩
  have n4_ : Aside0 ((((w6.setCell ⟨gb4, 0, none⟩ (.int .i64 t9)).setCell ⟨gb4, 1, none⟩ (.bool t10)).setCell ⟨gb4, 2, none⟩ (.slice Ao3 t11.length co3)).heap[gb2]? = some (.cells #[.int .i64 a1_0, .int .i64 a1_1, .int .i64 a1_2] 45 (0, 0))) := ⟨u1_ BK2⟩
  have n5_ : Aside0 ((((w6.setCell ⟨gb4, 0, none⟩ (.int .i64 t9)).setCell ⟨gb4, 1, none⟩ (.bool t10)).setCell ⟨gb4, 2, none⟩ (.slice Ao3 t11.length co3)).heap[gb3]? = some (.cells #[.int .i64 0, .bool false, .slice none 0 0, .slice none 0 0, .int .i64 0] 26 (0, 0))) := ⟨u1_ BK3⟩
  have n6_ : Aside0 ((((w6.setCell ⟨gb4, 0, none⟩ (.int .i64 t9)).setCell ⟨gb4, 1, none⟩ (.bool t10)).setCell ⟨gb4, 2, none⟩ (.slice Ao3 t11.length co3)).heap[gb4]? = some (.cells #[.int .i64 t9, .bool t10, .slice Ao3 t11.length co3, .slice Ao2 t7.length co2, .int .i64 t8] 26 (0, 0))) := ⟨u1_ BK4⟩
  have n7_ : Aside0 (Below w.heap.size w (((w6.setCell ⟨gb4, 0, none⟩ (.int .i64 t9)).setCell ⟨gb4, 1, none⟩ (.bool t10)).setCell ⟨gb4, 2, none⟩ (.slice Ao3 t11.length co3))) := ⟨b2i7_⟩
  (try clear HO1)
  (try clear HO2)
  (try clear HO3)
  (try clear BK1)
  (try clear BK2)
  (try clear BK3)
  (try clear BK4)
  (try clear HB)
  generalize (((w6.setCell ⟨gb4, 0, none⟩ (.int .i64 t9)).setCell ⟨gb4, 1, none⟩ (.bool t10)).setCell ⟨gb4, 2, none⟩ (.slice Ao3 t11.length co3)) = w7 at n0_ n1_ n2_ n3_ n4_ n5_ n6_ n7_ ⊢
  have HO1 := n0_
  have HO2 := n1_
  have HO3 := n2_
  have BK1 := n3_
  have BK2 := n4_
  have BK3 := n5_
  have BK4 := n6_
  have HB := n7_
  clear n0_ n1_ n2_ n3_ n4_ n5_ n6_ n7_
  replace HO1 := A0_ (rd_ HO1.out)
  replace HO2 := A0_ (rd_ HO2.out)
  replace HO3 := A0_ (rd_ HO3.out)
  replace BK1 := A0_ (kd_ BK1.out)
  replace BK2 := A0_ (kd_ BK2.out)
  replace BK3 := A0_ (kd_ BK3.out)
  replace BK4 := A0_ (kd_ BK4.out)
  replace HB := A0_ (bd_ HB.out)
  have q1 : (t2 : Int) ≤ ((t7.length : Int) : Int) := od_ bpil_
  obtain ⟨i091, hi091, _, hsz91, _⟩ := info_parts info3
  have hroom91 : t7.length ≤ co2 := (rr_ HO2.out).2.1
  have hC91 : Kd.C (Kd.int .i64) _ Ao2 t7.length t7 := (rr_ HO2.out).2.2
  have hcut91 := cut_to (P := Tryd.prog) 22 3 .i64 Tryd.underlying22 hi091 Ao2 t7.length co2 t2 (od_ bpil_) q1 hroom91
  have hr91 := Kd.C_take (m := (t2 : Int).toNat) hC91 bh19_
  have hy4 : y1.length = (t2 : Int).toNat := (by rw [Ny1.out, lt_]; omega)
  rw [← Ny1.out] at hr91
  rw [← hy4] at hcut91
  have HR318 := A0_ hr91
  have HC318 := A0_ (show y1.length ≤ co2 from bh19_)
  clear hr91 hC91 hroom91 hi091 hsz91
  have KY91 := A0_ hy4
  clear hy4
  have KL91 := A0_ (show (t2 : Int).toNat ≤ t7.length from bh19_)
  replace q1 := eq_true q1
  have q2 : ((ji1) : Int) ≤ ((t7.length : Int) : Int) := od_ bpil_
  obtain ⟨i092, hi092, _, hsz92, _⟩ := info_parts info3
  have hroom92 : t7.length ≤ co2 := (rr_ HO2.out).2.1
  have hC92 : Kd.C (Kd.int .i64) _ Ao2 t7.length t7 := (rr_ HO2.out).2.2
  have q3 : (0 : Int) ≤ ((ji1) : Int) := od_ bpil_
  have hcut92 := cut_from (P := Tryd.prog) 22 3 .i64 Tryd.underlying22 hi092 1 hsz92 Ao2 t7.length co2 (ji1) q3 q2
  have hr92 := Kd.C_drop (m := ((ji1) : Int).toNat) (c := co2) hC92 bh19_ hroom92
  obtain ⟨A7, hA92⟩ : ∃ A8, A8 = (if co2 = ((ji1) : Int).toNat then Ao2 else (Ao2 : Option Addr).map (·.add (((ji1) : Int).toNat * 1))) := ⟨_, rfl⟩
  obtain ⟨c8, hc92⟩ : ∃ c9, c9 = co2 - ((ji1) : Int).toNat := ⟨_, rfl⟩
  have hy5 : y2.length = t7.length - ((ji1) : Int).toNat := (by rw [Ny2.out, ld_] <;> omega)
  rw [show (t7).drop ((ji1) : Int).toNat = y2 from Ny2.out.symm] at hr92
  replace hr92 : Kd.C (Kd.int .i64) _ A7 y2.length y2 := (by rw [hA92]; exact hr92)
  rw [← hy5, ← hA92, ← hc92] at hcut92
  have HR322 := A0_ hr92
  have HC322 := A0_ (show y2.length ≤ c8 from by rw [hy5, hc92]; exact Nat.sub_le_sub_right hroom92 _)
  clear hr92 hC92 hroom92 hi092 hsz92 hc92
  have KY92 := A0_ hy5
  have KA92 := A0_ hA92
  clear hy5 hA92
  have KL92 := A0_ (show ((ji1) : Int).toNat ≤ t7.length from bh19_)
  replace q2 := eq_true q2
  obtain ⟨go94, co4, eo4, gb5, gl94, cl94, HG94⟩ := Kd.R_form HO2.out (by have hj_ : 0 ≤ (t2 : Int) := od_ bpil_; have hl_ : (ji1 : Int) ≤ (t7.length : Int) := od_ bpil_; have hh_ : (t2 : Int) ≤ (t7.length : Int) := od_ bpil_; rw [← hji1] at hl_; unfold wrap64 at hl_; omega)
  (first | cases eo4 | (injection eo4 with ea_ en_ ec_; (first | subst ea_ | (injection ea_ with ea_; subst ea_)); subst ec_; clear en_))
  have GB94 := A0_ gb5
  have GG94 := A0_ HG94
  clear gb5 gl94 HG94
  refine s5_ 12 [11] BK4 spec_l12Make.tab10 spec_l12Make.bits10 (fun hHeld HT_ HW_ => ?_)
  generalize w7.drew = w8 at HO1 HO2 HO3 BK1 BK2 BK3 BK4 HB GG94 HR318 HR322 hHeld ⊢
  refine pu_ 0 39 ?_
  refine pu_ 2 41 ?_
  refine pu_ 4 43 ?_
  refine pu_ 6 45 ?_
  refine pu_ 7 46 ?_
  refine tk_ 1 40 hHeld ?_
  refine pu_ 3 42 ?_
  refine tk_ 5 44 hHeld ?_
  refine pu_ 8 47 ?_
  refine on_ 9 (some 48) (fun K hK => ?_)
  have hj_ : 0 ≤ (t2 : Int) := od_ bpil_
  have hl_ : (ji1 : Int) ≤ (t7.length : Int) := od_ bpil_
  have hh_ : (t2 : Int) ≤ (t7.length : Int) := od_ bpil_
  have hb_ := (rr_ HO2.out).2.2.2.1
  have h0_ : (0 : Int) ≤ (ji1 : Int) := od_ bpil_
  have hy6_ := KY91.out
  have hk_ : (ji1 : Int).toNat = y1.length + 1 := (by have hw_ : (ji1 : Int) = t2 + 1 := (by have h00_ := h0_; rw [← hji1] at h00_ ⊢; unfold wrap64 at h00_ ⊢; omega); rw [hw_]; omega)
  refine Kd.R_delete_step (Kd.int .i64) (w0 := w) w.heap.size (by rfl) (.tmp 42) (.tmp 47) 22 3 rfl Tryd.underlying22 bfqv_ (g := go94) (n := t7.length) (c := co2) (k := y1.length) rfl rfl ?hA ?hm b9so_ ?hk b2i7_ (bz_ b2i7_) ?_
  (case hA => have ha_ := KA92.out; rw [hk_] at ha_; exact ha_)
  (case hm => have ha_ := KY92.out; omega)
  (case hk => omega)
  intro w9 ho hb hg
  clear hj_ hl_ hh_ hb_ hk_ h0_
  rw [hy6_, ← Ny3.out] at ho
  clear hy6_
  have hn_ : t7.length - 1 = y3.length := (by have := (rr_ ho).1; omega)
  rw [hn_] at ho ⊢
  clear hn_
  replace BK1 := A0_ (blk_grown (g := gb1) (o := .cells #[.int .i64 a0_0, .bool a0_1, .slice A0_2 l0_2.length c0_2, .slice A0_3 l0_3.length c0_3, .int .i64 a0_4] 26 (0, 0)) (u1_ BK1) hg (Kd.R_ne HO2.out BK1.out bi3y_))
  replace BK2 := A0_ (blk_grown (g := gb2) (o := .cells #[.int .i64 a1_0, .int .i64 a1_1, .int .i64 a1_2] 45 (0, 0)) (u1_ BK2) hg (Kd.R_ne HO2.out BK2.out bi3y_))
  replace BK3 := A0_ (blk_grown (g := gb3) (o := .cells #[.int .i64 0, .bool false, .slice none 0 0, .slice none 0 0, .int .i64 0] 26 (0, 0)) (u1_ BK3) hg (Kd.R_ne HO2.out BK3.out bi3y_))
  replace HO1 := A0_ (Kd.R_after (v := (.slice (some ⟨go94, 0, none⟩) t7.length co2)) (v1 := .slice (some ⟨go94, 0, none⟩) y3.length co2) (ok := (fun k_ => no_ (.slice Ao3 t11.length co3) k_)) (by (with_reducible repeat (first | apply ra_ | apply rn_ | apply rd_)); exact Kd.R_mono HO1.out (fun _ hk => ⟨hk.2, hk.1⟩)) hg (.inl rfl))
  replace BK4 := A0_ (blk_grown (g := gb4) (o := .cells #[.int .i64 t9, .bool t10, .slice Ao3 t11.length co3, .slice (some ⟨go94, 0, none⟩) t7.length co2, .int .i64 t8] 26 (0, 0)) (u1_ BK4) hg (Kd.R_ne HO2.out BK4.out bi3y_))
  replace HO2 := A0_ (ho)
  replace HO3 := A0_ (Kd.R_after (v := (.slice (some ⟨go94, 0, none⟩) t7.length co2)) (v1 := .slice (some ⟨go94, 0, none⟩) y3.length co2) (ok := (fun k_ => no_ (.slice Ao1 t6.length co1) k_)) buiy_ hg (.inl rfl))
  replace HB := A0_ (hb)
  clear ho hb hg
  refine hK.out _ _ (c5_ BK4) (fun hHeld => ?_)
  clear hK K
  refine nm_ 48 ?_
  refine pu_ 10 49 ?_
  refine last_ (i := 11) (N := none) #[true, true, true, true, true, true, true, true, true, true, true, true] rfl rfl (one_of HT_.out bfqv_) bi3y_ (fun K hK => ?_)
  have hs95 : w9.cell? ⟨gb4, 3, none⟩ = some (.slice (some ⟨go94, 0, none⟩) t7.length co2) := (kc_ BK4.out 3).trans rfl
  have hfs95 := kf_ BK4.out 3
  have hns1_0 := NB1_4.out
  have hns1_1 := NB2_4.out
  have hns1_2 := NB3_4.out
  have hms1_0 := NB4_1.out
  have hms1_1 := NB4_2.out
  have hms1_2 := NB4_3.out
  refine skip_ (w1 := ?_) (by rfl) rfl ?_ ?_
  rotate_left
  ·go_simp
   rfl
  refine hK.out _ _ ?_
  clear hK K
  refine dn_ ?_
  have hcz6 := z5_ BK4
  have hcz7 := z5_ BK3
  try go_wp2
  refine bodyPost_ret (results_cell_row rfl _ _ gb3 26 #[.int .i64 t9, .bool t10, .slice Ao3 t11.length co3, .slice (some ⟨go94, 0, none⟩) y3.length co2, .int .i64 t8] (0, 0) _ rfl (u1_ BK3) Tryd.underlying26 rfl bfqv_) rfl ?_
  exact ⟨_, _, bfw0_, by (with_reducible repeat (first | apply ra_ | apply rn_ | apply rd_)); exact Kd.R_mono (rf_ (rf_ (rf_ (rf_ (rf_ (rf_ (Kd.R_types (Kd.R_types HO3.out BK4.out bi3y_) BK3.out bi3y_) (fun _ hk => hk.1.2) (.slice (some ⟨go94, 0, none⟩) y3.length co2)) k2_0 _) k2_0 _) k2_0 _) k2_0 _) k2_0 _) (fun _ hk => hk.1.1.2), by (with_reducible repeat (first | apply ra_ | apply rn_ | apply rd_)); exact Kd.R_mono (rf_ (rf_ (rf_ (rf_ (rf_ (rf_ (Kd.R_types (Kd.R_types HO2.out BK4.out bi3y_) BK3.out bi3y_) (fun _ hk => hk.1.2) (.slice (some ⟨go94, 0, none⟩) y3.length co2)) k2_0 _) k2_0 _) k2_0 _) k2_0 _) k2_0 _) (fun _ hk => hk.1.1.2), b2i7_⟩
 rw [if_neg c3] at H
 obtain ⟨c3b0, c3b1⟩ := ef_ c3
 by_cases c4 : a1_0 = 4
 case neg =>
  rw [if_neg c4] at H
  obtain ⟨c4b0, c4b1⟩ := ef_ c4
  by_cases c5 : a1_0 = 5
  case neg =>
   rw [if_neg c5] at H
   obtain ⟨c5b0, c5b1⟩ := ef_ c5
   simp only [sj_, pj_] at H
   obtain ⟨rfl, rfl, rfl, rfl, rfl⟩ := H
   go_enter Tryd.func70, Tryd.ntmps70
   go_wp2_with (first | ((with_reducible refine gd_ (N := 2) rfl ?_); refine bx_ 2 #[.int .i64 a0_0, .bool a0_1, .slice A0_2 l0_2.length c0_2, .slice A0_3 l0_3.length c0_3, .int .i64 a0_4] 26 ?_; intro gb1 hg w1 BK1 hb; have GW1 := ge_ hg brt4_; have GE1 := GW1; replace HB := hb_ hb brt4_; clear hb hg) | ((with_reducible refine gd_ (N := 3) rfl ?_); refine bx_ 3 #[.int .i64 a1_0, .int .i64 a1_1, .int .i64 a1_2] 45 ?_; intro gb2 hg w2 BK2 hb; have GW2 := ge_ hg be6g_; have GE2 := GW2; replace HB := hb_ hb be6g_; have NB1_2 := nl_ hg BK1; have NB2_1 := ng_ hg BK1; replace BK1 := k1_ BK1 hb; clear hb hg) | ((with_reducible refine gd_ (N := 4) rfl ?_); refine bx_ 4 #[.int .i64 0, .bool false, .slice none 0 0, .slice none 0 0, .int .i64 0] 26 ?_; intro gb3 hg w3 BK3 hb; have GW3 := ge_ hg bfnq_; have GE3 := GW3; replace HB := hb_ hb bfnq_; have NB1_3 := nl_ hg BK1; have NB3_1 := ng_ hg BK1; replace BK1 := k1_ BK1 hb; have NB2_3 := nl_ hg BK2; have NB3_2 := ng_ hg BK2; replace BK2 := k1_ BK2 hb; clear hb hg; have hnb1 := NB1_2.out; have hnc1 := NB2_1.out; have hnb2 := NB1_3.out; have hnc2 := NB3_1.out; have hcz1 := z5_ BK1) | ((with_reducible refine gc_ (f := 31) rfl ?_); refine gl_ 8 Tryd.func31 #[.agg #[.int .i64 a0_0, .bool a0_1, .slice A0_2 l0_2.length c0_2, .slice A0_3 l0_3.length c0_3, .int .i64 a0_4]] ?_; (with_reducible refine (spec_l12Own.calls a0_0 a0_1 _ _ l0_2 _ _ l0_3 a0_4 t4 t5 t6 t7 t8 _ ?side1 ?side2 ?side3 ?side4 A2.out).mono ?_); (case side1 => exact b6n8_); (case side2 => exact HC0_2.out); (case side3 => exact bkan_); (case side4 => exact HC0_3.out); rintro e w4 ⟨v1, v4, rfl, ho0, ho1, hb⟩; refine ⟨_, rfl, ?_⟩; have HO1 := A0_ (Kd.R_lower ho0 (bz_ b850_)); have HO2 := A0_ (Kd.R_lower ho1 (bz_ b850_)); replace BK1 := k1_ BK1 hb; replace BK2 := k1_ BK2 hb; replace BK3 := k1_ BK3 hb; replace HB := hb_ hb b850_; (try clear hb); (try clear ho0); (try clear ho1)) | ((with_reducible refine gd_ (N := 5) rfl ?_); refine bx_ 5 #[.int .i64 0, .bool false, .slice none 0 0, .slice none 0 0, .int .i64 0] 26 ?_; intro gb4 hg w5 BK4 hb; replace HO1 := A0_ (Kd.R_below bsm5_ hb); replace HO2 := A0_ (Kd.R_below b9so_ hb); have GW4 := ge_ hg b850_; have GE4 := GW4; replace HB := hb_ hb b850_; have NB1_4 := nl_ hg BK1; have NB4_1 := ng_ hg BK1; replace BK1 := k1_ BK1 hb; have NB2_4 := nl_ hg BK2; have NB4_2 := ng_ hg BK2; replace BK2 := k1_ BK2 hb; have NB3_4 := nl_ hg BK3; have NB4_3 := ng_ hg BK3; replace BK3 := k1_ BK3 hb; clear hb hg; have hnb3 := NB4_1.out; have hnc3 := NB1_4.out; have hnb4 := NB4_2.out; have hnc4 := NB2_4.out; have hnb5 := NB4_3.out; have hnc5 := NB3_4.out; have hcz2 := z5_ BK4; obtain ⟨Ao1, co1, eo1⟩ := Kd.R_slice HO1.out; subst eo1; obtain ⟨Ao2, co2, eo2⟩ := Kd.R_slice HO2.out; subst eo2; have hnb6 := NB2_3.out; have hnc6 := NB3_2.out; have hcz3_0 : w5.cell? ⟨gb2, 0, none⟩ = some (.int .i64 a1_0) := (kc_ BK2.out 0).trans rfl; have hcz3_1 : w5.cell? ⟨gb2, 1, none⟩ = some (.int .i64 a1_1) := (kc_ BK2.out 1).trans rfl; have hcz3_2 : w5.cell? ⟨gb2, 2, none⟩ = some (.int .i64 a1_2) := (kc_ BK2.out 2).trans rfl; have hfz3_0 := kf_ BK2.out 0; have hfz3_1 := kf_ BK2.out 1; have hfz3_2 := kf_ BK2.out 2; have hcz4_0 : w5.cell? ⟨gb3, 0, none⟩ = some (.int .i64 0) := (kc_ BK3.out 0).trans rfl; have hcz4_1 : w5.cell? ⟨gb3, 1, none⟩ = some (.bool false) := (kc_ BK3.out 1).trans rfl; have hcz4_2 : w5.cell? ⟨gb3, 2, none⟩ = some (.slice none 0 0) := (kc_ BK3.out 2).trans rfl; have hcz4_3 : w5.cell? ⟨gb3, 3, none⟩ = some (.slice none 0 0) := (kc_ BK3.out 3).trans rfl; have hcz4_4 : w5.cell? ⟨gb3, 4, none⟩ = some (.int .i64 0) := (kc_ BK3.out 4).trans rfl; have hfz4_0 := kf_ BK3.out 0; have hfz4_1 := kf_ BK3.out 1; have hfz4_2 := kf_ BK3.out 2; have hfz4_3 := kf_ BK3.out 3; have hfz4_4 := kf_ BK3.out 4))
   refine bodyPost_ret (results_cell_row rfl _ _ gb3 26 #[.int .i64 t4, .bool t5, .slice Ao1 t6.length co1, .slice Ao2 t7.length co2, .int .i64 t8] (0, 0) _ rfl (u1_ BK3) Tryd.underlying26 rfl bfqv_) rfl ?_
   exact ⟨_, _, bnwh_, by (with_reducible repeat (first | apply ra_ | apply rn_ | apply rd_)); exact Kd.R_mono (rf_ (rf_ (rf_ (rf_ (rf_ (rf_ (rf_ (rf_ (rf_ (rf_ (Kd.R_types (Kd.R_types HO1.out BK4.out bi3y_) BK3.out bi3y_) (fun _ hk => hk.1.2) (.int .i64 t4)) (fun _ hk => hk.1.2) (.bool t5)) (fun _ hk => hk.1.2) (.slice Ao1 t6.length co1)) (fun _ hk => hk.1.2) (.slice Ao2 t7.length co2)) (fun _ hk => hk.1.2) (.int .i64 t8)) k2_0 _) k2_0 _) k2_0 _) k2_0 _) k2_0 _) (fun _ hk => hk.1.1), by (with_reducible repeat (first | apply ra_ | apply rn_ | apply rd_)); exact Kd.R_mono (rf_ (rf_ (rf_ (rf_ (rf_ (rf_ (rf_ (rf_ (rf_ (rf_ (Kd.R_types (Kd.R_types HO2.out BK4.out bi3y_) BK3.out bi3y_) (fun _ hk => hk.1.2) (.int .i64 t4)) (fun _ hk => hk.1.2) (.bool t5)) (fun _ hk => hk.1.2) (.slice Ao1 t6.length co1)) (fun _ hk => hk.1.2) (.slice Ao2 t7.length co2)) (fun _ hk => hk.1.2) (.int .i64 t8)) k2_0 _) k2_0 _) k2_0 _) k2_0 _) k2_0 _) (fun _ hk => hk.1.1), b2i7_⟩
  rw [if_pos c5] at H
  obtain ⟨c5b0, c5b1⟩ := et_ c5
  clear c5
  obtain ⟨y1, hy1⟩ : ∃ y_ : List Int, y_ = (([] : List Int)) := ⟨_, rfl⟩
  replace H : (some (t4, t5, y1, (([] : List Int)), t8)) = some (r1, r2, r3, r4, r5) := bgiq_
  have Ny1 := A0_ hy1
  clear hy1
  obtain ⟨y2, hy2⟩ : ∃ y_ : List Int, y_ = (([] : List Int)) := ⟨_, rfl⟩
  replace H : (some (t4, t5, y1, y2, t8)) = some (r1, r2, r3, r4, r5) := bscs_
  have Ny2 := A0_ hy2
  clear hy2
  simp only [sj_, pj_] at H
  obtain ⟨rfl, rfl, rfl, rfl, rfl⟩ := H
  go_enter Tryd.func70, Tryd.ntmps70
  go_wp2_with (first | ((with_reducible refine gd_ (N := 2) rfl ?_); refine bx_ 2 #[.int .i64 a0_0, .bool a0_1, .slice A0_2 l0_2.length c0_2, .slice A0_3 l0_3.length c0_3, .int .i64 a0_4] 26 ?_; intro gb1 hg w1 BK1 hb; have GW1 := ge_ hg brt4_; have GE1 := GW1; replace HB := hb_ hb brt4_; clear hb hg) | ((with_reducible refine gd_ (N := 3) rfl ?_); refine bx_ 3 #[.int .i64 a1_0, .int .i64 a1_1, .int .i64 a1_2] 45 ?_; intro gb2 hg w2 BK2 hb; have GW2 := ge_ hg be6g_; have GE2 := GW2; replace HB := hb_ hb be6g_; have NB1_2 := nl_ hg BK1; have NB2_1 := ng_ hg BK1; replace BK1 := k1_ BK1 hb; clear hb hg) | ((with_reducible refine gd_ (N := 4) rfl ?_); refine bx_ 4 #[.int .i64 0, .bool false, .slice none 0 0, .slice none 0 0, .int .i64 0] 26 ?_; intro gb3 hg w3 BK3 hb; have GW3 := ge_ hg bfnq_; have GE3 := GW3; replace HB := hb_ hb bfnq_; have NB1_3 := nl_ hg BK1; have NB3_1 := ng_ hg BK1; replace BK1 := k1_ BK1 hb; have NB2_3 := nl_ hg BK2; have NB3_2 := ng_ hg BK2; replace BK2 := k1_ BK2 hb; clear hb hg; have hnb1 := NB1_2.out; have hnc1 := NB2_1.out; have hnb2 := NB1_3.out; have hnc2 := NB3_1.out; have hcz1 := z5_ BK1) | ((with_reducible refine gc_ (f := 31) rfl ?_); refine gl_ 8 Tryd.func31 #[.agg #[.int .i64 a0_0, .bool a0_1, .slice A0_2 l0_2.length c0_2, .slice A0_3 l0_3.length c0_3, .int .i64 a0_4]] ?_; (with_reducible refine (spec_l12Own.calls a0_0 a0_1 _ _ l0_2 _ _ l0_3 a0_4 t4 t5 t6 t7 t8 _ ?side1 ?side2 ?side3 ?side4 A2.out).mono ?_); (case side1 => exact b6n8_); (case side2 => exact HC0_2.out); (case side3 => exact bkan_); (case side4 => exact HC0_3.out); rintro e w4 ⟨v1, v4, rfl, ho0, ho1, hb⟩; refine ⟨_, rfl, ?_⟩; have HO1 := A0_ (Kd.R_lower ho0 (bz_ b850_)); have HO2 := A0_ (Kd.R_lower ho1 (bz_ b850_)); replace BK1 := k1_ BK1 hb; replace BK2 := k1_ BK2 hb; replace BK3 := k1_ BK3 hb; replace HB := hb_ hb b850_; (try clear hb); (try clear ho0); (try clear ho1)) | ((with_reducible refine gd_ (N := 5) rfl ?_); refine bx_ 5 #[.int .i64 0, .bool false, .slice none 0 0, .slice none 0 0, .int .i64 0] 26 ?_; intro gb4 hg w5 BK4 hb; replace HO1 := A0_ (Kd.R_below bsm5_ hb); replace HO2 := A0_ (Kd.R_below b9so_ hb); have GW4 := ge_ hg b850_; have GE4 := GW4; replace HB := hb_ hb b850_; have NB1_4 := nl_ hg BK1; have NB4_1 := ng_ hg BK1; replace BK1 := k1_ BK1 hb; have NB2_4 := nl_ hg BK2; have NB4_2 := ng_ hg BK2; replace BK2 := k1_ BK2 hb; have NB3_4 := nl_ hg BK3; have NB4_3 := ng_ hg BK3; replace BK3 := k1_ BK3 hb; clear hb hg; have hnb3 := NB4_1.out; have hnc3 := NB1_4.out; have hnb4 := NB4_2.out; have hnc4 := NB2_4.out; have hnb5 := NB4_3.out; have hnc5 := NB3_4.out; have hcz2 := z5_ BK4; obtain ⟨Ao1, co1, eo1⟩ := Kd.R_slice HO1.out; subst eo1; obtain ⟨Ao2, co2, eo2⟩ := Kd.R_slice HO2.out; subst eo2; have hnb6 := NB2_3.out; have hnc6 := NB3_2.out; have hcz3_0 : w5.cell? ⟨gb2, 0, none⟩ = some (.int .i64 a1_0) := (kc_ BK2.out 0).trans rfl; have hcz3_1 : w5.cell? ⟨gb2, 1, none⟩ = some (.int .i64 a1_1) := (kc_ BK2.out 1).trans rfl; have hcz3_2 : w5.cell? ⟨gb2, 2, none⟩ = some (.int .i64 a1_2) := (kc_ BK2.out 2).trans rfl; have hfz3_0 := kf_ BK2.out 0; have hfz3_1 := kf_ BK2.out 1; have hfz3_2 := kf_ BK2.out 2) | ((with_reducible refine gd_ (N := 73) rfl ?_); refine Kd.R_lit (Kd.int .i64) _ 3 ?hg (N := 73) ?hd (xs := ([] : List Int)) (inner := []) (ok := fun _ => True) (okp := fun _ => True) ?hr ?hp (fun _ hk => hk) trivial (Below.refl _ _) (Nat.le_refl _) bxka_ ?_; (case hd => rfl); (case hg => rfl); (case hr => go_simp; first | done | rfl); (case hp => exact (Reps.none _ _)); intro v5 w6 ho154 hb hg_ hnew_; clear hg_ hnew_; (first | rw [← Ny1.out] at ho154 | (simp only [Int.reduceToNat] at ho154; rw [← Ny1.out] at ho154)); have HO3 := A0_ (Kd.R_lower (Kd.R_new' (Kd.R_new' ho154 (Kd.R_lt bq0f_)) (Kd.R_lt bu3r_)) (bz_ b2i7_)); replace HO1 := A0_ (Kd.R_elder' bq0f_ (Kd.R_base ho154) hb); replace HO2 := A0_ (Kd.R_elder' bu3r_ (Kd.R_base ho154) hb); replace BK1 := k1_ BK1 hb; replace BK2 := k1_ BK2 hb; replace BK3 := k1_ BK3 hb; replace BK4 := k2_ (.cells #[.int .i64 t4, .bool t5, .slice Ao1 t6.length co1, .slice Ao2 t7.length co2, .int .i64 t8] 26 (0, 0)) BK4 hb; replace HB := hb_ hb b2i7_; clear hb ho154; obtain ⟨Ao3, co3, eo3⟩ := Kd.R_slice HO3.out; subst eo3; have hcz4 := z5_ BK4) | ((with_reducible refine gd_ (N := 76) rfl ?_); refine Kd.R_lit (Kd.int .i64) _ 3 ?hg (N := 76) ?hd (xs := ([] : List Int)) (inner := []) (ok := fun _ => True) (okp := fun _ => True) ?hr ?hp (fun _ hk => hk) trivial (Below.refl _ _) (Nat.le_refl _) bxka_ ?_; (case hd => rfl); (case hg => rfl); (case hr => go_simp; first | done | rfl); (case hp => exact (Reps.none _ _)); intro v6 w7 ho158 hb hg_ hnew_; clear hg_ hnew_; (first | rw [← Ny2.out] at ho158 | (simp only [Int.reduceToNat] at ho158; rw [← Ny2.out] at ho158)); have HO4 := A0_ (Kd.R_lower (Kd.R_new' (Kd.R_new' (Kd.R_new' ho158 (Kd.R_lt b2b7_)) (Kd.R_lt bl08_)) (Kd.R_lt b9vj_)) (bz_ b2i7_)); replace HO1 := A0_ (Kd.R_elder' b2b7_ (Kd.R_base ho158) hb); replace HO2 := A0_ (Kd.R_elder' bl08_ (Kd.R_base ho158) hb); replace HO3 := A0_ (Kd.R_elder' b9vj_ (Kd.R_base ho158) hb); replace BK1 := k1_ BK1 hb; replace BK2 := k1_ BK2 hb; replace BK3 := k1_ BK3 hb; replace BK4 := k2_ (.cells #[.int .i64 t4, .bool t5, .slice Ao3 y1.length co3, .slice Ao2 t7.length co2, .int .i64 t8] 26 (0, 0)) BK4 hb; replace HB := hb_ hb b2i7_; clear hb ho158; obtain ⟨Ao4, co4, eo4⟩ := Kd.R_slice HO4.out; subst eo4; have hcz5 := z5_ BK4; have hcz6 := z5_ BK3))
  refine bodyPost_ret (results_cell_row rfl _ _ gb3 26 #[.int .i64 t4, .bool t5, .slice Ao3 y1.length co3, .slice Ao4 y2.length co4, .int .i64 t8] (0, 0) _ rfl (u1_ BK3) Tryd.underlying26 rfl bfqv_) rfl ?_
  exact ⟨_, _, bnwh_, by (with_reducible repeat (first | apply ra_ | apply rn_ | apply rd_)); exact Kd.R_mono (rf_ (rf_ (rf_ (rf_ (rf_ (rf_ (Kd.R_types (Kd.R_types HO3.out BK4.out bi3y_) BK3.out bi3y_) (fun _ hk => hk.1.2) (.slice Ao4 y2.length co4)) k2_0 _) k2_0 _) k2_0 _) k2_0 _) k2_0 _) (fun _ hk => hk.1.1.2), by (with_reducible repeat (first | apply ra_ | apply rn_ | apply rd_)); exact Kd.R_mono (rf_ (rf_ (rf_ (rf_ (rf_ (rf_ (Kd.R_types (Kd.R_types HO4.out BK4.out bi3y_) BK3.out bi3y_) (fun _ hk => hk.1.2) (.slice Ao4 y2.length co4)) k2_0 _) k2_0 _) k2_0 _) k2_0 _) k2_0 _) (fun _ hk => hk.1.1.2), b2i7_⟩
 rw [if_pos c4] at H
 obtain ⟨c4b0, c4b1⟩ := et_ c4
 clear c4
 obtain ⟨⟨t9, t10, t11⟩, A4, H⟩ := o1_ H
 obtain ⟨⟨t12, t13, t14⟩, A6, H⟩ := o1_ H
 obtain ⟨t3, A8, H⟩ := o1_ H
 by_cases c5 : 0 ≤ t3
 case neg =>
  rw [if_neg c5] at H
  exact absurd H bxka_
 rw [if_pos c5] at H
 have c5b0 : decide (0 ≤ t3) = true := dt_ c5
 clear c5
 by_cases c6 : t3 < (t7.length : Int)
 case neg =>
  rw [if_neg c6] at H
  exact absurd H bxka_
 rw [if_pos c6] at H
 have c6b0 : decide (t3 < (t7.length : Int)) = true := dt_ c6
 clear c6
 obtain ⟨y1, hy1⟩ : ∃ y_ : List Int, y_ = (t7.set (t3 : Int).toNat a1_2) := ⟨_, rfl⟩
 replace H : (some (t12, t13, t14, y1, t8)) = some (r1, r2, r3, r4, r5) := bgiq_
 have Ny1 := A0_ hy1
 clear hy1
 simp only [sj_, pj_] at H
 obtain ⟨rfl, rfl, rfl, rfl, rfl⟩ := H
 go_enter Tryd.func70, Tryd.ntmps70
 try go_wp2_with (first | ((with_reducible refine gd_ (N := 2) rfl ?_); refine bx_ 2 #[.int .i64 a0_0, .bool a0_1, .slice A0_2 l0_2.length c0_2, .slice A0_3 l0_3.length c0_3, .int .i64 a0_4] 26 ?_; intro gb1 hg w1 BK1 hb; have GW1 := ge_ hg brt4_; have GE1 := GW1; replace HB := hb_ hb brt4_; clear hb hg) | ((with_reducible refine gd_ (N := 3) rfl ?_); refine bx_ 3 #[.int .i64 a1_0, .int .i64 a1_1, .int .i64 a1_2] 45 ?_; intro gb2 hg w2 BK2 hb; have GW2 := ge_ hg be6g_; have GE2 := GW2; replace HB := hb_ hb be6g_; have NB1_2 := nl_ hg BK1; have NB2_1 := ng_ hg BK1; replace BK1 := k1_ BK1 hb; clear hb hg) | ((with_reducible refine gd_ (N := 4) rfl ?_); refine bx_ 4 #[.int .i64 0, .bool false, .slice none 0 0, .slice none 0 0, .int .i64 0] 26 ?_; intro gb3 hg w3 BK3 hb; have GW3 := ge_ hg bfnq_; have GE3 := GW3; replace HB := hb_ hb bfnq_; have NB1_3 := nl_ hg BK1; have NB3_1 := ng_ hg BK1; replace BK1 := k1_ BK1 hb; have NB2_3 := nl_ hg BK2; have NB3_2 := ng_ hg BK2; replace BK2 := k1_ BK2 hb; clear hb hg; have hnb1 := NB1_2.out; have hnc1 := NB2_1.out; have hnb2 := NB1_3.out; have hnc2 := NB3_1.out; have hcz1 := z5_ BK1) | ((with_reducible refine gc_ (f := 31) rfl ?_); refine gl_ 8 Tryd.func31 #[.agg #[.int .i64 a0_0, .bool a0_1, .slice A0_2 l0_2.length c0_2, .slice A0_3 l0_3.length c0_3, .int .i64 a0_4]] ?_; (with_reducible refine (spec_l12Own.calls a0_0 a0_1 _ _ l0_2 _ _ l0_3 a0_4 t4 t5 t6 t7 t8 _ ?side1 ?side2 ?side3 ?side4 A2.out).mono ?_); (case side1 => exact b6n8_); (case side2 => exact HC0_2.out); (case side3 => exact bkan_); (case side4 => exact HC0_3.out); rintro e w4 ⟨v1, v4, rfl, ho0, ho1, hb⟩; refine ⟨_, rfl, ?_⟩; have HO1 := A0_ (Kd.R_lower ho0 (bz_ b850_)); have HO2 := A0_ (Kd.R_lower ho1 (bz_ b850_)); replace BK1 := k1_ BK1 hb; replace BK2 := k1_ BK2 hb; replace BK3 := k1_ BK3 hb; replace HB := hb_ hb b850_; (try clear hb); (try clear ho0); (try clear ho1)) | ((with_reducible refine gd_ (N := 5) rfl ?_); refine bx_ 5 #[.int .i64 0, .bool false, .slice none 0 0, .slice none 0 0, .int .i64 0] 26 ?_; intro gb4 hg w5 BK4 hb; replace HO1 := A0_ (Kd.R_below bsm5_ hb); replace HO2 := A0_ (Kd.R_below b9so_ hb); have GW4 := ge_ hg b850_; have GE4 := GW4; replace HB := hb_ hb b850_; have NB1_4 := nl_ hg BK1; have NB4_1 := ng_ hg BK1; replace BK1 := k1_ BK1 hb; have NB2_4 := nl_ hg BK2; have NB4_2 := ng_ hg BK2; replace BK2 := k1_ BK2 hb; have NB3_4 := nl_ hg BK3; have NB4_3 := ng_ hg BK3; replace BK3 := k1_ BK3 hb; clear hb hg; have hnb3 := NB4_1.out; have hnc3 := NB1_4.out; have hnb4 := NB4_2.out; have hnc4 := NB2_4.out; have hnb5 := NB4_3.out; have hnc5 := NB3_4.out; have hcz2 := z5_ BK4; obtain ⟨Ao1, co1, eo1⟩ := Kd.R_slice HO1.out; subst eo1; obtain ⟨Ao2, co2, eo2⟩ := Kd.R_slice HO2.out; subst eo2; have hnb6 := NB2_3.out; have hnc6 := NB3_2.out; have hcz3_0 : w5.cell? ⟨gb2, 0, none⟩ = some (.int .i64 a1_0) := (kc_ BK2.out 0).trans rfl; have hcz3_1 : w5.cell? ⟨gb2, 1, none⟩ = some (.int .i64 a1_1) := (kc_ BK2.out 1).trans rfl; have hcz3_2 : w5.cell? ⟨gb2, 2, none⟩ = some (.int .i64 a1_2) := (kc_ BK2.out 2).trans rfl; have hfz3_0 := kf_ BK2.out 0; have hfz3_1 := kf_ BK2.out 1; have hfz3_2 := kf_ BK2.out 2))
 have n0_ : Aside0 (Kd.R (Kd.int .i64) 3 (((((w5.setCell ⟨gb4, 0, none⟩ (.int .i64 t4)).setCell ⟨gb4, 1, none⟩ (.bool t5)).setCell ⟨gb4, 2, none⟩ (.slice Ao1 t6.length co1)).setCell ⟨gb4, 3, none⟩ (.slice Ao2 t7.length co2)).setCell ⟨gb4, 4, none⟩ (.int .i64 t8)) w.heap.size (fun k_ => no_ (.slice Ao2 t7.length co2) k_) (.slice Ao1 t6.length co1) t6) := ⟨bha5_⟩
 have n1_ : Aside0 (Kd.R (Kd.int .i64) 3 (((((w5.setCell ⟨gb4, 0, none⟩ (.int .i64 t4)).setCell ⟨gb4, 1, none⟩ (.bool t5)).setCell ⟨gb4, 2, none⟩ (.slice Ao1 t6.length co1)).setCell ⟨gb4, 3, none⟩ (.slice Ao2 t7.length co2)).setCell ⟨gb4, 4, none⟩ (.int .i64 t8)) w.heap.size (fun k_ => no_ (.slice Ao1 t6.length co1) k_) (.slice Ao2 t7.length co2) t7) := ⟨bk8z_⟩
 have n2_ : Aside0 ((((((w5.setCell ⟨gb4, 0, none⟩ (.int .i64 t4)).setCell ⟨gb4, 1, none⟩ (.bool t5)).setCell ⟨gb4, 2, none⟩ (.slice Ao1 t6.length co1)).setCell ⟨gb4, 3, none⟩ (.slice Ao2 t7.length co2)).setCell ⟨gb4, 4, none⟩ (.int .i64 t8)).heap[gb1]? = some (.cells #[.int .i64 a0_0, .bool a0_1, .slice A0_2 l0_2.length c0_2, .slice A0_3 l0_3.length c0_3, .int .i64 a0_4] 26 (0, 0))) := ⟨u1_ BK1⟩
 have n3_ : Aside0 ((((((w5.setCell ⟨gb4, 0, none⟩ (.int .i64 t4)).setCell ⟨gb4, 1, none⟩ (.bool t5)).setCell ⟨gb4, 2, none⟩ (.slice Ao1 t6.length co1)).setCell ⟨gb4, 3, none⟩ (.slice Ao2 t7.length co2)).setCell ⟨gb4, 4, none⟩ (.int .i64 t8)).heap[gb2]? = some (.cells #[.int .i64 a1_0, .int .i64 a1_1, .int .i64 a1_2] 45 (0, 0))) := ⟨u1_ BK2⟩
 have n4_ : Aside0 ((((((w5.setCell ⟨gb4, 0, none⟩ (.int .i64 t4)).setCell ⟨gb4, 1, none⟩ (.bool t5)).setCell ⟨gb4, 2, none⟩ (.slice Ao1 t6.length co1)).setCell ⟨gb4, 3, none⟩ (.slice Ao2 t7.length co2)).setCell ⟨gb4, 4, none⟩ (.int .i64 t8)).heap[gb3]? = some (.cells #[.int .i64 0, .bool false, .slice none 0 0, .slice none 0 0, .int .i64 0] 26 (0, 0))) := ⟨u1_ BK3⟩
 have n5_ : Aside0 ((((((w5.setCell ⟨gb4, 0, none⟩ (.int .i64 t4)).setCell ⟨gb4, 1, none⟩ (.bool t5)).setCell ⟨gb4, 2, none⟩ (.slice Ao1 t6.length co1)).setCell ⟨gb4, 3, none⟩ (.slice Ao2 t7.length co2)).setCell ⟨gb4, 4, none⟩ (.int .i64 t8)).heap[gb4]? = some (.cells #[.int .i64 t4, .bool t5, .slice Ao1 t6.length co1, .slice Ao2 t7.length co2, .int .i64 t8] 26 (0, 0))) := ⟨u1_ BK4⟩
 have n6_ : Aside0 (Below w.heap.size w (((((w5.setCell ⟨gb4, 0, none⟩ (.int .i64 t4)).setCell ⟨gb4, 1, none⟩ (.bool t5)).setCell ⟨gb4, 2, none⟩ (.slice Ao1 t6.length co1)).setCell ⟨gb4, 3, none⟩ (.slice Ao2 t7.length co2)).setCell ⟨gb4, 4, none⟩ (.int .i64 t8))) := ⟨b2i7_⟩
 (try clear HO1)
 (try clear HO2)
 (try clear BK1)
 (try clear BK2)
 (try clear BK3)
 (try clear BK4)
 (try clear HB)
 generalize (((((w5.setCell ⟨gb4, 0, none⟩ (.int .i64 t4)).setCell ⟨gb4, 1, none⟩ (.bool t5)).setCell ⟨gb4, 2, none⟩ (.slice Ao1 t6.length co1)).setCell ⟨gb4, 3, none⟩ (.slice Ao2 t7.length co2)).setCell ⟨gb4, 4, none⟩ (.int .i64 t8)) = w6 at n0_ n1_ n2_ n3_ n4_ n5_ n6_ ⊢
 have HO1 := n0_
 have HO2 := n1_
 have BK1 := n2_
 have BK2 := n3_
 have BK3 := n4_
 have BK4 := n5_
 have HB := n6_
 clear n0_ n1_ n2_ n3_ n4_ n5_ n6_
 replace HO1 := A0_ (rd_ HO1.out)
 replace HO2 := A0_ (rd_ HO2.out)
 replace BK1 := A0_ (kd_ BK1.out)
 replace BK2 := A0_ (kd_ BK2.out)
 replace BK3 := A0_ (kd_ BK3.out)
 replace BK4 := A0_ (kd_ BK4.out)
 replace HB := A0_ (bd_ HB.out)
 refine start_ (n := 10) (S := fun w' => w'.cell? ⟨gb4, 0, none⟩ = some (.int .i64 t4) ∧ w'.cell? ⟨gb4, 1, none⟩ = some (.bool t5) ∧ w'.cell? ⟨gb4, 2, none⟩ = some (.slice Ao1 t6.length co1) ∧ w'.cell? ⟨gb4, 3, none⟩ = some (.slice Ao2 t7.length co2) ∧ w'.cell? ⟨gb4, 4, none⟩ = some (.int .i64 t8) ∧ w'.cell? ⟨gb2, 0, none⟩ = some (.int .i64 a1_0) ∧ w'.cell? ⟨gb2, 1, none⟩ = some (.int .i64 a1_1) ∧ w'.cell? ⟨gb2, 2, none⟩ = some (.int .i64 a1_2)) (ds := [9]) #[false, false, false, false, false, false, false, false, false, false] bfqv_ rfl rfl ⟨(kc_ BK4.out 0).trans rfl, (kc_ BK4.out 1).trans rfl, (kc_ BK4.out 2).trans rfl, (kc_ BK4.out 3).trans rfl, (kc_ BK4.out 4).trans rfl, (kc_ BK2.out 0).trans rfl, (kc_ BK2.out 1).trans rfl, (kc_ BK2.out 2).trans rfl⟩ (fun hHeld => ?_); refine with_tabW spec_l12Make.tab12 spec_l12Make.bits12 (fun HT_ HW_ => ?_)
 generalize w6.drew = w7 at HO1 HO2 BK1 BK2 BK3 BK4 HB hHeld ⊢
 refine pu_ 0 52 ?_
 refine pu_ 2 54 ?_
 refine pu_ 5 57 ?_
 refine tk_ 1 53 hHeld ?_
 refine tk_ 3 55 hHeld ?_
 refine tk_ 6 58 hHeld ?_
 refine on_ 4 (some 56) (fun K hK => ?_)
 refine gs_ Tryd.func88 #[.agg #[.int .i64 t4, .bool t5, .slice Ao1 t6.length co1], .int .i64 a1_1] ?_
 with_reducible refine (spec_l2Without.calls k t4 t5 _ _ t6 a1_1 t9 t10 t11 _ ?side1 ?side2 A4.out).mono ?_
 (case side1 => exact bayy_)
 (case side2 => exact (rr_ HO1.out).2.1)
 rintro e w8 ⟨v5, rfl, ho0, hb⟩
 refine ⟨_, rfl, ?_⟩
 have HO3 := A0_ (Kd.R_lower (Kd.R_new' (Kd.R_new' ho0 (Kd.R_lt bsm5_)) (Kd.R_lt b9so_)) (bz_ b2i7_))
 replace HO1 := A0_ (Kd.R_elder' bsm5_ (Kd.R_base ho0) hb)
 replace HO2 := A0_ (Kd.R_elder' b9so_ (Kd.R_base ho0) hb)
 replace BK1 := k1_ BK1 hb
 replace BK2 := k1_ BK2 hb
 replace BK3 := k1_ BK3 hb
 replace BK4 := k1_ BK4 hb
 replace HB := hb_ hb b2i7_
 (try clear hb); (try clear ho0)
 obtain ⟨Ao3, co3, eo3⟩ := Kd.R_slice HO3.out
 (first | subst eo3 | (injection eo3 with f1_ f2_ f3_; have f4_ := f1_.symm; have f5_ := f3_.symm; clear f1_ f2_ f3_; subst f4_; subst f5_))
 refine hK.out _ _ ⟨(kc_ BK4.out 0).trans rfl, (kc_ BK4.out 1).trans rfl, (kc_ BK4.out 2).trans rfl, (kc_ BK4.out 3).trans rfl, (kc_ BK4.out 4).trans rfl, (kc_ BK2.out 0).trans rfl, (kc_ BK2.out 1).trans rfl, (kc_ BK2.out 2).trans rfl⟩ (fun hHeld => ?_)
 clear hK K
 refine nm_ 56 ?_
 refine on_ 7 (some 59) (fun K hK => ?_)
 refine gs_ Tryd.func89 #[.agg #[.int .i64 t9, .bool t10, .slice Ao3 t11.length co3], .int .i64 a1_2] ?_
 with_reducible refine (spec_l2With.calls k t9 t10 _ _ t11 a1_2 t12 t13 t14 _ ?side1 ?side2 A6.out).mono ?_
 (case side1 => exact (by repeat (first | exact (rr_ HO3.out).2.2 | (with_reducible refine ca_ ?_ _) | (with_reducible refine cn_ ?_ _) | (with_reducible refine cd_ ?_))))
 (case side2 => exact (rr_ HO3.out).2.1)
 rintro e w9 ⟨v6, rfl, ho0, hb⟩
 refine ⟨_, rfl, ?_⟩
 have HO4 := A0_ (Kd.R_lower (Kd.R_new' (Kd.R_new' (Kd.R_new' ho0 (Kd.R_lt bsm5_)) (Kd.R_lt b9so_)) (Kd.R_lt buiy_)) (bz_ b2i7_))
 replace HO1 := A0_ (Kd.R_elder' bsm5_ (Kd.R_base ho0) hb)
 replace HO2 := A0_ (Kd.R_elder' b9so_ (Kd.R_base ho0) hb)
 replace HO3 := A0_ (Kd.R_elder' buiy_ (Kd.R_base ho0) hb)
 replace BK1 := k1_ BK1 hb
 replace BK2 := k1_ BK2 hb
 replace BK3 := k1_ BK3 hb
 replace BK4 := k1_ BK4 hb
 replace HB := hb_ hb b2i7_
 (try clear hb); (try clear ho0)
 obtain ⟨Ao4, co4, eo4⟩ := Kd.R_slice HO4.out
 (first | subst eo4 | (injection eo4 with f1_ f2_ f3_; have f4_ := f1_.symm; have f5_ := f3_.symm; clear f1_ f2_ f3_; subst f4_; subst f5_))
 refine hK.out _ _ ⟨(kc_ BK4.out 0).trans rfl, (kc_ BK4.out 1).trans rfl, (kc_ BK4.out 2).trans rfl, (kc_ BK4.out 3).trans rfl, (kc_ BK4.out 4).trans rfl, (kc_ BK2.out 0).trans rfl, (kc_ BK2.out 1).trans rfl, (kc_ BK2.out 2).trans rfl⟩ (fun hHeld => ?_)
 clear hK K
 refine nm_ 59 ?_
 refine pu_ 8 60 ?_
 refine last_ (i := 9) (N := none) #[true, true, true, true, true, true, true, true, true, true] rfl rfl (one_of HT_.out bfqv_) bi3y_ (fun K hK => ?_)
 have hs126 : w9.cell? ⟨gb4, 0, none⟩ = some (.int .i64 t4) := (kc_ BK4.out 0).trans rfl
 have hfs126 := kf_ BK4.out 0
 have hns1_0 := NB1_4.out
 have hns1_1 := NB2_4.out
 have hns1_2 := NB3_4.out
 have hms1_0 := NB4_1.out
 have hms1_1 := NB4_2.out
 have hms1_2 := NB4_3.out
 have hs127 : w9.cell? ⟨gb4, 1, none⟩ = some (.bool t5) := (kc_ BK4.out 1).trans rfl
 have hfs127 := kf_ BK4.out 1
 have hns2_0 := NB1_4.out
 have hns2_1 := NB2_4.out
 have hns2_2 := NB3_4.out
 have hms2_0 := NB4_1.out
 have hms2_1 := NB4_2.out
 have hms2_2 := NB4_3.out
 have hs129 : w9.cell? ⟨gb4, 2, none⟩ = some (.slice Ao1 t6.length co1) := (kc_ BK4.out 2).trans rfl
 have hfs129 := kf_ BK4.out 2
 have hns3_0 := NB1_4.out
 have hns3_1 := NB2_4.out
 have hns3_2 := NB3_4.out
 have hms3_0 := NB4_1.out
 have hms3_1 := NB4_2.out
 have hms3_2 := NB4_3.out
 refine skip_ (w1 := ?_) (by rfl) rfl ?_ ?_
 rotate_left
 ·go_simp
  rfl
 refine hK.out _ _ ?_
 clear hK K
 refine dn_ ?_
 try go_wp2
 have n0_ : Aside0 (Kd.R (Kd.int .i64) 3 (((w9.setCell ⟨gb4, 0, none⟩ (.int .i64 t12)).setCell ⟨gb4, 1, none⟩ (.bool t13)).setCell ⟨gb4, 2, none⟩ (.slice Ao4 t14.length co4)) w.heap.size (fun k_ => no_ (.slice Ao2 t7.length co2) k_ ∧ no_ (.slice Ao3 t11.length co3) k_ ∧ no_ (.slice Ao4 t14.length co4) k_) (.slice Ao1 t6.length co1) t6) := ⟨by (with_reducible repeat (first | apply ra_ | apply rn_ | apply rd_)); exact Kd.R_mono (rf_ (rf_ (rf_ (Kd.R_types HO1.out BK4.out bi3y_) k2_0 _) k2_0 _) k2_0 _) (fun _ hk => ⟨hk.1.1.1, ⟨hk.1.1.2, hk.1.2⟩⟩)⟩
 have n1_ : Aside0 (Kd.R (Kd.int .i64) 3 (((w9.setCell ⟨gb4, 0, none⟩ (.int .i64 t12)).setCell ⟨gb4, 1, none⟩ (.bool t13)).setCell ⟨gb4, 2, none⟩ (.slice Ao4 t14.length co4)) w.heap.size (fun k_ => no_ (.slice Ao1 t6.length co1) k_ ∧ no_ (.slice Ao3 t11.length co3) k_ ∧ no_ (.slice Ao4 t14.length co4) k_) (.slice Ao2 t7.length co2) t7) := ⟨by (with_reducible repeat (first | apply ra_ | apply rn_ | apply rd_)); exact Kd.R_mono (rf_ (rf_ (rf_ (Kd.R_types HO2.out BK4.out bi3y_) k2_0 _) k2_0 _) k2_0 _) (fun _ hk => ⟨hk.1.1.1, ⟨hk.1.1.2, hk.1.2⟩⟩)⟩
 have n2_ : Aside0 (Kd.R (Kd.int .i64) 3 (((w9.setCell ⟨gb4, 0, none⟩ (.int .i64 t12)).setCell ⟨gb4, 1, none⟩ (.bool t13)).setCell ⟨gb4, 2, none⟩ (.slice Ao4 t14.length co4)) w.heap.size (fun k_ => no_ (.slice Ao1 t6.length co1) k_ ∧ no_ (.slice Ao2 t7.length co2) k_ ∧ no_ (.slice Ao4 t14.length co4) k_) (.slice Ao3 t11.length co3) t11) := ⟨by (with_reducible repeat (first | apply ra_ | apply rn_ | apply rd_)); exact Kd.R_mono (rf_ (rf_ (rf_ (Kd.R_types HO3.out BK4.out bi3y_) k2_0 _) k2_0 _) k2_0 _) (fun _ hk => ⟨hk.1.1.1.2, ⟨hk.1.1.2, hk.1.2⟩⟩)⟩
 have n3_ : Aside0 (Kd.R (Kd.int .i64) 3 (((w9.setCell ⟨gb4, 0, none⟩ (.int .i64 t12)).setCell ⟨gb4, 1, none⟩ (.bool t13)).setCell ⟨gb4, 2, none⟩ (.slice Ao4 t14.length co4)) w.heap.size (fun k_ => no_ (.slice Ao1 t6.length co1) k_ ∧ no_ (.slice Ao2 t7.length co2) k_ ∧ no_ (.slice Ao3 t11.length co3) k_) (.slice Ao4 t14.length co4) t14) := ⟨by (with_reducible repeat (first | apply ra_ | apply rn_ | apply rd_)); exact Kd.R_mono (rf_ (rf_ (rf_ (Kd.R_types HO4.out BK4.out bi3y_) k2_0 _) k2_0 _) k2_0 _) (fun _ hk => ⟨hk.1.1.1.2, ⟨hk.1.1.2, hk.1.2⟩⟩)⟩
 have n4_ : Aside0 ((((w9.setCell ⟨gb4, 0, none⟩ (.int .i64 t12)).setCell ⟨gb4, 1, none⟩ (.bool t13)).setCell ⟨gb4, 2, none⟩ (.slice Ao4 t14.length co4)).heap[gb1]? = some (.cells #[.int .i64 a0_0, .bool a0_1, .slice A0_2 l0_2.length c0_2, .slice A0_3 l0_3.length c0_3, .int .i64 a0_4] 26 (0, 0))) := ⟨u1_ BK1⟩
 have n5_ : Aside0 ((((w9.setCell ⟨gb4, 0, none⟩ (.int .i64 t12)).setCell ⟨gb4, 1, none⟩ (.bool t13)).setCell ⟨gb4, 2, none⟩ (.slice Ao4 t14.length co4)).heap[gb2]? = some (.cells #[.int .i64 a1_0, .int .i64 a1_1, .int .i64 a1_2] 45 (0, 0))) := ⟨u1_ BK2⟩
 have n6_ : Aside0 ((((w9.setCell ⟨gb4, 0, none⟩ (.int .i64 t12)).setCell ⟨gb4, 1, none⟩ (.bool t13)).setCell ⟨gb4, 2, none⟩ (.slice Ao4 t14.length co4)).heap[gb3]? = some (.cells #[.int .i64 0, .bool false, .slice none 0 0, .slice none 0 0, .int .i64 0] 26 (0, 0))) := ⟨u1_ BK3⟩
 have n7_ : Aside0 ((((w9.setCell ⟨gb4, 0, none⟩ (.int .i64 t12)).setCell ⟨gb4, 1, none⟩ (.bool t13)).setCell ⟨gb4, 2, none⟩ (.slice Ao4 t14.length co4)).heap[gb4]? = some (.cells #[.int .i64 t12, .bool t13, .slice Ao4 t14.length co4, .slice Ao2 t7.length co2, .int .i64 t8] 26 (0, 0))) := ⟨u1_ BK4⟩
 have n8_ : Aside0 (Below w.heap.size w (((w9.setCell ⟨gb4, 0, none⟩ (.int .i64 t12)).setCell ⟨gb4, 1, none⟩ (.bool t13)).setCell ⟨gb4, 2, none⟩ (.slice Ao4 t14.length co4))) := ⟨b2i7_⟩
 (try clear HO1)
 (try clear HO2)
 (try clear HO3)
 (try clear HO4)
 (try clear BK1)
 (try clear BK2)
 (try clear BK3)
 (try clear BK4)
 (try clear HB)
 generalize (((w9.setCell ⟨gb4, 0, none⟩ (.int .i64 t12)).setCell ⟨gb4, 1, none⟩ (.bool t13)).setCell ⟨gb4, 2, none⟩ (.slice Ao4 t14.length co4)) = w10 at n0_ n1_ n2_ n3_ n4_ n5_ n6_ n7_ n8_ ⊢
 have HO1 := n0_
 have HO2 := n1_
 have HO3 := n2_
 have HO4 := n3_
 have BK1 := n4_
 have BK2 := n5_
 have BK3 := n6_
 have BK4 := n7_
 have HB := n8_
 clear n0_ n1_ n2_ n3_ n4_ n5_ n6_ n7_ n8_
 replace HO1 := A0_ (rd_ HO1.out)
 replace HO2 := A0_ (rd_ HO2.out)
 replace HO3 := A0_ (rd_ HO3.out)
 replace HO4 := A0_ (rd_ HO4.out)
 replace BK1 := A0_ (kd_ BK1.out)
 replace BK2 := A0_ (kd_ BK2.out)
 replace BK3 := A0_ (kd_ BK3.out)
 replace BK4 := A0_ (kd_ BK4.out)
 replace HB := A0_ (bd_ HB.out)
 refine start_ (n := 11) (S := fun w' => w'.cell? ⟨gb4, 0, none⟩ = some (.int .i64 t12) ∧ w'.cell? ⟨gb4, 1, none⟩ = some (.bool t13) ∧ w'.cell? ⟨gb4, 2, none⟩ = some (.slice Ao4 t14.length co4) ∧ w'.cell? ⟨gb4, 3, none⟩ = some (.slice Ao2 t7.length co2) ∧ w'.cell? ⟨gb4, 4, none⟩ = some (.int .i64 t8) ∧ w'.cell? ⟨gb1, 0, none⟩ = some (.int .i64 a0_0) ∧ w'.cell? ⟨gb1, 1, none⟩ = some (.bool a0_1) ∧ w'.cell? ⟨gb1, 2, none⟩ = some (.slice A0_2 l0_2.length c0_2) ∧ w'.cell? ⟨gb1, 3, none⟩ = some (.slice A0_3 l0_3.length c0_3) ∧ w'.cell? ⟨gb1, 4, none⟩ = some (.int .i64 a0_4) ∧ w'.cell? ⟨gb2, 0, none⟩ = some (.int .i64 a1_0) ∧ w'.cell? ⟨gb2, 1, none⟩ = some (.int .i64 a1_1) ∧ w'.cell? ⟨gb2, 2, none⟩ = some (.int .i64 a1_2)) (ds := [10]) #[false, false, false, false, false, false, false, false, false, false, false] bfqv_ rfl rfl ⟨(kc_ BK4.out 0).trans rfl, (kc_ BK4.out 1).trans rfl, (kc_ BK4.out 2).trans rfl, (kc_ BK4.out 3).trans rfl, (kc_ BK4.out 4).trans rfl, (kc_ BK1.out 0).trans rfl, (kc_ BK1.out 1).trans rfl, (kc_ BK1.out 2).trans rfl, (kc_ BK1.out 3).trans rfl, (kc_ BK1.out 4).trans rfl, (kc_ BK2.out 0).trans rfl, (kc_ BK2.out 1).trans rfl, (kc_ BK2.out 2).trans rfl⟩ (fun hHeld => ?_); refine with_tabW spec_l12Make.tab13 spec_l12Make.bits13 (fun HT_ HW_ => ?_)
 generalize w10.drew = w11 at HO1 HO2 HO3 HO4 BK1 BK2 BK3 BK4 HB hHeld ⊢
 refine pu_ 0 61 ?_
 refine pu_ 2 63 ?_
 refine pu_ 4 65 ?_
 refine pu_ 7 68 ?_
 refine tk_ 1 62 hHeld ?_
 refine tk_ 3 64 hHeld ?_
 refine tk_ 5 66 hHeld ?_
 refine tk_ 8 69 hHeld ?_
 refine on_ 6 (some 67) (fun K hK => ?_)
 refine gs_ Tryd.func52 #[.slice A0_3 l0_3.length c0_3, .int .i64 a1_1] ?_
 with_reducible refine (spec_l12Place.calls k _ _ l0_3 a1_1 t3 _ ?side1 ?side2 A8.out).mono ?_
 (case side1 => exact bkan_)
 (case side2 => exact HC0_3.out)
 rintro e w' ⟨rfl, ⟨nd, rfl⟩⟩
 refine ⟨_, rfl, ?_⟩
 have m0_ := A0_ (rn_ HO1.out nd)
 have m1_ := A0_ (rn_ HO2.out nd)
 have m2_ := A0_ (rn_ HO3.out nd)
 have m3_ := A0_ (rn_ HO4.out nd)
 have m4_ := A0_ (kn_ BK1.out nd)
 have m5_ := A0_ (kn_ BK2.out nd)
 have m6_ := A0_ (kn_ BK3.out nd)
 have m7_ := A0_ (kn_ BK4.out nd)
 have m8_ := A0_ (bn_ HB.out nd)
 clear HO1
 clear HO2
 clear HO3
 clear HO4
 clear BK1
 clear BK2
 clear BK3
 clear BK4
 clear HB
 have HO1 := m0_
 have HO2 := m1_
 have HO3 := m2_
 have HO4 := m3_
 have BK1 := m4_
 have BK2 := m5_
 have BK3 := m6_
 have BK4 := m7_
 have HB := m8_
 clear m0_ m1_ m2_ m3_ m4_ m5_ m6_ m7_ m8_
 generalize World.drewN _ nd = wq1_ at HO1 HO2 HO3 HO4 BK1 BK2 BK3 BK4 HB ⊢
 have p1 : 0 ≤ (t3 : Int) := od_ bpil_
 have q1 : (t3 : Int) < ((t7.length : Int) : Int) := od_ bpil_
 obtain ⟨go104, co5, eo5, gb5, gl104, cl104, HG104⟩ := Kd.R_form HO2.out bh19_
 (first | cases eo5 | (injection eo5 with ea_ en_ ec_; (first | subst ea_ | (injection ea_ with ea_; subst ea_)); subst ec_; clear en_))
 have GB104 := A0_ gb5
 have GG104 := A0_ HG104
 clear gb5 gl104 HG104
 obtain ⟨hx1_0, hf1_0⟩ := Kd.R_celln 0 HO2.out (t3 : Int) p1 q1
 replace p1 := eq_true p1
 replace q1 := eq_true q1
 have HP1 := Kd.R_putn HO2.out (t3 : Int) a1_2
 rw [← Ny1.out] at HP1
 have HQ132 := A0_ HP1
 clear HP1
 refine hK.out _ _ ⟨(kc_ BK4.out 0).trans rfl, (kc_ BK4.out 1).trans rfl, (kc_ BK4.out 2).trans rfl, (kc_ BK4.out 3).trans rfl, (kc_ BK4.out 4).trans rfl, (kc_ BK1.out 0).trans rfl, (kc_ BK1.out 1).trans rfl, (kc_ BK1.out 2).trans rfl, (kc_ BK1.out 3).trans rfl, (kc_ BK1.out 4).trans rfl, (kc_ BK2.out 0).trans rfl, (kc_ BK2.out 1).trans rfl, (kc_ BK2.out 2).trans rfl⟩ (fun hHeld => ?_)
 clear hK K
 refine nm_ 67 ?_
 refine pu_ 9 70 ?_
 refine last_ (i := 10) (N := none) #[true, true, true, true, true, true, true, true, true, true, true] rfl rfl (one_of HT_.out bfqv_) bi3y_ (fun K hK => ?_)
 refine skip_ (w1 := ?_) (by rfl) rfl ?_ ?_
 rotate_left
 ·go_simp
  rfl
 refine hK.out _ _ ?_
 clear hK K
 refine dn_ ?_
 have n0_ : Aside0 (Kd.R (Kd.int .i64) 3 (wq1_.setCell ⟨go104, (t3 : Int).toNat, none⟩ (.int .i64 a1_2)) w.heap.size (fun k_ => some k_ ≠ (.slice (some ⟨go104, 0, none⟩) t7.length co2 : Value).ownBlock ∧ no_ (.slice Ao3 t11.length co3) k_ ∧ no_ (.slice Ao4 t14.length co4) k_) (.slice Ao1 t6.length co1) t6) := ⟨by (with_reducible repeat (first | apply ra_ | apply rn_ | apply rd_)); exact Kd.R_mono (Kd.R_far (p := ⟨go104, (t3 : Int).toNat, none⟩) (Kd.R_mono HO1.out (fun k_ hk => (⟨hk, fun e_ => hk.1 (by rw [e_]; rfl)⟩ : _ ∧ k_ ≠ go104))) k2_0 _) (fun _ hk => ⟨hk.1.1, ⟨hk.1.2.1, hk.1.2.2⟩⟩)⟩
 have n1_ : Aside0 (Kd.R (Kd.int .i64) 3 (wq1_.setCell ⟨go104, (t3 : Int).toNat, none⟩ (.int .i64 a1_2)) w.heap.size (fun k_ => no_ (.slice Ao1 t6.length co1) k_ ∧ no_ (.slice Ao3 t11.length co3) k_ ∧ no_ (.slice Ao4 t14.length co4) k_) (.slice (some ⟨go104, 0, none⟩) t7.length co2) y1) := ⟨by (with_reducible repeat (first | apply ra_ | apply rn_ | apply rd_)); exact HQ132.out⟩
 have n2_ : Aside0 (Kd.R (Kd.int .i64) 3 (wq1_.setCell ⟨go104, (t3 : Int).toNat, none⟩ (.int .i64 a1_2)) w.heap.size (fun k_ => no_ (.slice Ao1 t6.length co1) k_ ∧ some k_ ≠ (.slice (some ⟨go104, 0, none⟩) t7.length co2 : Value).ownBlock ∧ no_ (.slice Ao4 t14.length co4) k_) (.slice Ao3 t11.length co3) t11) := ⟨by (with_reducible repeat (first | apply ra_ | apply rn_ | apply rd_)); exact Kd.R_mono (Kd.R_far (p := ⟨go104, (t3 : Int).toNat, none⟩) (Kd.R_mono HO3.out (fun k_ hk => (⟨hk, fun e_ => hk.2.1 (by rw [e_]; rfl)⟩ : _ ∧ k_ ≠ go104))) k2_0 _) (fun _ hk => ⟨hk.1.1, ⟨hk.1.2.1, hk.1.2.2⟩⟩)⟩
 have n3_ : Aside0 (Kd.R (Kd.int .i64) 3 (wq1_.setCell ⟨go104, (t3 : Int).toNat, none⟩ (.int .i64 a1_2)) w.heap.size (fun k_ => no_ (.slice Ao1 t6.length co1) k_ ∧ some k_ ≠ (.slice (some ⟨go104, 0, none⟩) t7.length co2 : Value).ownBlock ∧ no_ (.slice Ao3 t11.length co3) k_) (.slice Ao4 t14.length co4) t14) := ⟨by (with_reducible repeat (first | apply ra_ | apply rn_ | apply rd_)); exact Kd.R_mono (Kd.R_far (p := ⟨go104, (t3 : Int).toNat, none⟩) (Kd.R_mono HO4.out (fun k_ hk => (⟨hk, fun e_ => hk.2.1 (by rw [e_]; rfl)⟩ : _ ∧ k_ ≠ go104))) k2_0 _) (fun _ hk => ⟨hk.1.1, ⟨hk.1.2.1, hk.1.2.2⟩⟩)⟩
 have n4_ : Aside0 ((wq1_.setCell ⟨go104, (t3 : Int).toNat, none⟩ (.int .i64 a1_2)).heap[gb1]? = some (.cells #[.int .i64 a0_0, .bool a0_1, .slice A0_2 l0_2.length c0_2, .slice A0_3 l0_3.length c0_3, .int .i64 a0_4] 26 (0, 0))) := ⟨by (with_reducible repeat (first | apply kn_ | apply kd_ | apply ka_)); refine blk_far ?_ (by have h_ := Kd.R_ne HO2.out BK1.out bi3y_; intro e_; exact h_ (by rw [e_]; rfl)) _; (with_reducible repeat (first | apply kn_ | apply kd_ | apply ka_)); exact BK1.out⟩
 have n5_ : Aside0 ((wq1_.setCell ⟨go104, (t3 : Int).toNat, none⟩ (.int .i64 a1_2)).heap[gb2]? = some (.cells #[.int .i64 a1_0, .int .i64 a1_1, .int .i64 a1_2] 45 (0, 0))) := ⟨by (with_reducible repeat (first | apply kn_ | apply kd_ | apply ka_)); refine blk_far ?_ (by have h_ := Kd.R_ne HO2.out BK2.out bi3y_; intro e_; exact h_ (by rw [e_]; rfl)) _; (with_reducible repeat (first | apply kn_ | apply kd_ | apply ka_)); exact BK2.out⟩
 have n6_ : Aside0 ((wq1_.setCell ⟨go104, (t3 : Int).toNat, none⟩ (.int .i64 a1_2)).heap[gb3]? = some (.cells #[.int .i64 0, .bool false, .slice none 0 0, .slice none 0 0, .int .i64 0] 26 (0, 0))) := ⟨by (with_reducible repeat (first | apply kn_ | apply kd_ | apply ka_)); refine blk_far ?_ (by have h_ := Kd.R_ne HO2.out BK3.out bi3y_; intro e_; exact h_ (by rw [e_]; rfl)) _; (with_reducible repeat (first | apply kn_ | apply kd_ | apply ka_)); exact BK3.out⟩
 have n7_ : Aside0 ((wq1_.setCell ⟨go104, (t3 : Int).toNat, none⟩ (.int .i64 a1_2)).heap[gb4]? = some (.cells #[.int .i64 t12, .bool t13, .slice Ao4 t14.length co4, .slice (some ⟨go104, 0, none⟩) t7.length co2, .int .i64 t8] 26 (0, 0))) := ⟨by (with_reducible repeat (first | apply kn_ | apply kd_ | apply ka_)); refine blk_far ?_ (by have h_ := Kd.R_ne HO2.out BK4.out bi3y_; intro e_; exact h_ (by rw [e_]; rfl)) _; (with_reducible repeat (first | apply kn_ | apply kd_ | apply ka_)); exact BK4.out⟩
 have n8_ : Aside0 (Below w.heap.size w (wq1_.setCell ⟨go104, (t3 : Int).toNat, none⟩ (.int .i64 a1_2))) := ⟨by repeat (with_reducible first | exact HB.out | apply ba_ | apply bn_ | apply bd_ | refine bs_ ?_ GB104.out | refine bs_ ?_ GE1.out | refine bs_ ?_ GE2.out | refine bs_ ?_ GE3.out | refine bs_ ?_ GE4.out)⟩
 (try clear HO1)
 (try clear HO2)
 (try clear HO3)
 (try clear HO4)
 (try clear BK1)
 (try clear BK2)
 (try clear BK3)
 (try clear BK4)
 (try clear HB)
 generalize (wq1_.setCell ⟨go104, (t3 : Int).toNat, none⟩ (.int .i64 a1_2)) = w12 at n0_ n1_ n2_ n3_ n4_ n5_ n6_ n7_ n8_ ⊢
 have HO1 := n0_
 have HO2 := n1_
 have HO3 := n2_
 have HO4 := n3_
 have BK1 := n4_
 have BK2 := n5_
 have BK3 := n6_
 have BK4 := n7_
 have HB := n8_
 clear n0_ n1_ n2_ n3_ n4_ n5_ n6_ n7_ n8_
 have hcz4 := z5_ BK4
 have hcz5 := z5_ BK3
 try go_wp2
 refine bodyPost_ret (results_cell_row rfl _ _ gb3 26 #[.int .i64 t12, .bool t13, .slice Ao4 t14.length co4, .slice (some ⟨go104, 0, none⟩) t7.length co2, .int .i64 t8] (0, 0) _ rfl (u1_ BK3) Tryd.underlying26 rfl bfqv_) rfl ?_
 exact ⟨_, _, bnwh_, by (with_reducible repeat (first | apply ra_ | apply rn_ | apply rd_)); exact Kd.R_mono (rf_ (rf_ (rf_ (rf_ (rf_ (Kd.R_types HO4.out BK3.out bi3y_) k2_0 _) k2_0 _) k2_0 _) k2_0 _) k2_0 _) (fun _ hk => hk.1.2.1), by (with_reducible repeat (first | apply ra_ | apply rn_ | apply rd_)); exact Kd.R_mono (rf_ (rf_ (rf_ (rf_ (rf_ (Kd.R_types HO2.out BK3.out bi3y_) k2_0 _) k2_0 _) k2_0 _) k2_0 _) k2_0 _) (fun _ hk => hk.1.2.2), b2i7_⟩

def spec_l12Do.f (k : Nat) (a0_0 : Int) (a0_1 : Bool) (l0_2 : List Int) (l0_3 : List Int) (a0_4 : Int) (a1_0 : Int) (a1_1 : Int) (a1_2 : Int) : Option (Int × Bool × List Int × List Int × Int × Bool) := (spec_l12May.f k a0_0 a0_1 l0_2 l0_3 a0_4 a1_0 a1_1 a1_2).bind fun t347 => (if t347 = true then ((spec_l12Make.f k a0_0 a0_1 l0_2 l0_3 a0_4 a1_0 a1_1 a1_2).bind fun bt348 => ((spec_l12Own.f bt348.1 bt348.2.1 bt348.2.2.1 bt348.2.2.2.1 bt348.2.2.2.2).bind fun bt357 => ((spec_l12Good.f k bt357.1 bt357.2.1 bt357.2.2.1 bt357.2.2.2.1 (wrap64 (a0_4 + 1))).bind fun t367 => (if t367 = true then (some (bt357.1, bt357.2.1, bt357.2.2.1, bt357.2.2.2.1, wrap64 (a0_4 + 1), true)) else (some (0, false, ([] : List Int), ([] : List Int), 0, false)))))) else (some (0, false, ([] : List Int), ([] : List Int), 0, false)))
theorem spec_l12Do.mono : ∀ a0 a1 a2 a3 a4 a5 a6 a7 k, LeO (spec_l12Do.f k a0 a1 a2 a3 a4 a5 a6 a7) (spec_l12Do.f (k + 1) a0 a1 a2 a3 a4 a5 a6 a7) := by
 intro a0 a1 a2 a3 a4 a5 a6 a7 k
 unfold spec_l12Do.f
 repeat' with_reducible first | exact spec_l12Good.mono .. | exact spec_l12Make.mono .. | exact spec_l12May.mono .. | exact LeO.refl .. | exact LeO.none .. | refine LeO.ite ?_ ?_ | refine LeO.bind ?_ (fun _ => ?_)
theorem spec_l12Do.nameW {P : Program} {ops : Array Oper} {Q : Exit → Act → World → Prop} {l : List Oper} {a : Act} {W : World} (o : Obj) (g : Nat) (hB : W.heap[g]? = some o) (h : ∀ W_ : World, Aside0 (W_ = W) → Aside0 (W_.heap[g]? = some o) → wpList P ops Q l a W_) : wpList P ops Q l a W := h W ⟨rfl⟩ ⟨hB⟩
theorem spec_l12Do.calls (k : Nat) (a0_0 : Int) (a0_1 : Bool) (A0_2 : Option Addr) (c0_2 : Nat) (l0_2 : List Int) (A0_3 : Option Addr) (c0_3 : Nat) (l0_3 : List Int) (a0_4 : Int) (a1_0 : Int) (a1_1 : Int) (a1_2 : Int) (r1 : Int) (r2 : Bool) (r3 : List Int) (r4 : List Int) (r5 : Int) (r6 : Bool) (w : World) (hr0_2 : Kd.C (Kd.int .i64) w A0_2 l0_2.length l0_2) (hc0_2 : l0_2.length ≤ c0_2) (hr0_3 : Kd.C (Kd.int .i64) w A0_3 l0_3.length l0_3) (hc0_3 : l0_3.length ≤ c0_3) (h : spec_l12Do.f k a0_0 a0_1 l0_2 l0_3 a0_4 a1_0 a1_1 a1_2 = some (r1, r2, r3, r4, r5, r6)) :
  Calls Tryd.prog 48 #[.agg #[.int .i64 a0_0, .bool a0_1, .slice A0_2 l0_2.length c0_2, .slice A0_3 l0_3.length c0_3, .int .i64 a0_4], .agg #[.int .i64 a1_0, .int .i64 a1_1, .int .i64 a1_2]] w fun e w' => ∃ v2_ v3_ : Value, e = .returned (.tuple #[.agg #[.int .i64 r1, .bool r2, v2_, v3_, .int .i64 r5], .bool r6]) ∧ Kd.R (Kd.int .i64) 3 w' w.heap.size (fun k_ => no_ v3_ k_) v2_ r3 ∧ Kd.R (Kd.int .i64) 3 w' w.heap.size (fun k_ => no_ v2_ k_) v3_ r4 ∧ Below w.heap.size w w' := by
 have hu26 := Tryd.underlying26
 have hu45 := Tryd.underlying45
 have HR0_2 := A0_ hr0_2
 have HC0_2 := A0_ hc0_2
 clear hr0_2 hc0_2
 have HR0_3 := A0_ hr0_3
 have HC0_3 := A0_ hc0_3
 clear hr0_3 hc0_3
 have HB := A0_ (Below.refl w.heap.size w)
 have H : ((spec_l12May.f k a0_0 a0_1 l0_2 l0_3 a0_4 a1_0 a1_1 a1_2).bind fun t1 => (if t1 = true then ((spec_l12Make.f k a0_0 a0_1 l0_2 l0_3 a0_4 a1_0 a1_1 a1_2).bind fun bt1 => ((spec_l12Own.f bt1.1 bt1.2.1 bt1.2.2.1 bt1.2.2.2.1 bt1.2.2.2.2).bind fun bt2 => ((spec_l12Good.f k bt2.1 bt2.2.1 bt2.2.2.1 bt2.2.2.2.1 (wrap64 (a0_4 + 1))).bind fun t2 => (if t2 = true then (some (bt2.1, bt2.2.1, bt2.2.2.1, bt2.2.2.2.1, wrap64 (a0_4 + 1), true)) else (some (0, false, ([] : List Int), ([] : List Int), 0, false)))))) else (some (0, false, ([] : List Int), ([] : List Int), 0, false)))) = some (r1, r2, r3, r4, r5, r6) := h
 clear h
 obtain ⟨t1, A2, H⟩ := o1_ H
 by_cases c1 : t1 = true
 case neg =>
  obtain rfl := bf_.mpr c1
  rw [if_neg ft_] at H
  simp only [sj_, pj_] at H
  obtain ⟨rfl, rfl, rfl, rfl, rfl, rfl⟩ := H
  go_enter Tryd.func48, Tryd.ntmps48
  go_wp2_with (first | ((with_reducible refine gd_ (N := 2) rfl ?_); refine bx_ 2 #[.int .i64 a0_0, .bool a0_1, .slice A0_2 l0_2.length c0_2, .slice A0_3 l0_3.length c0_3, .int .i64 a0_4] 26 ?_; intro gb1 hg w1 BK1 hb; have GW1 := ge_ hg brt4_; have GE1 := GW1; replace HB := hb_ hb brt4_; clear hb hg) | ((with_reducible refine gd_ (N := 3) rfl ?_); refine bx_ 3 #[.int .i64 a1_0, .int .i64 a1_1, .int .i64 a1_2] 45 ?_; intro gb2 hg w2 BK2 hb; have GW2 := ge_ hg be6g_; have GE2 := GW2; replace HB := hb_ hb be6g_; have NB1_2 := nl_ hg BK1; have NB2_1 := ng_ hg BK1; replace BK1 := k1_ BK1 hb; clear hb hg) | ((with_reducible refine gd_ (N := 4) rfl ?_); refine bx_ 4 #[.int .i64 0, .bool false, .slice none 0 0, .slice none 0 0, .int .i64 0] 26 ?_; intro gb3 hg w3 BK3 hb; have GW3 := ge_ hg bfnq_; have GE3 := GW3; replace HB := hb_ hb bfnq_; have NB1_3 := nl_ hg BK1; have NB3_1 := ng_ hg BK1; replace BK1 := k1_ BK1 hb; have NB2_3 := nl_ hg BK2; have NB3_2 := ng_ hg BK2; replace BK2 := k1_ BK2 hb; clear hb hg; have hnb1 := NB1_2.out; have hnc1 := NB2_1.out; have hnb2 := NB1_3.out; have hnc2 := NB3_1.out; have hcz1 := z5_ BK1; have hnb3 := NB2_3.out; have hnc3 := NB3_2.out; have hcz2_0 : w3.cell? ⟨gb2, 0, none⟩ = some (.int .i64 a1_0) := (kc_ BK2.out 0).trans rfl; have hcz2_1 : w3.cell? ⟨gb2, 1, none⟩ = some (.int .i64 a1_1) := (kc_ BK2.out 1).trans rfl; have hcz2_2 : w3.cell? ⟨gb2, 2, none⟩ = some (.int .i64 a1_2) := (kc_ BK2.out 2).trans rfl; have hfz2_0 := kf_ BK2.out 0; have hfz2_1 := kf_ BK2.out 1; have hfz2_2 := kf_ BK2.out 2) | ((with_reducible refine gc_ (f := 69) rfl ?_); refine gl_ 9 Tryd.func69 #[.agg #[.int .i64 a0_0, .bool a0_1, .slice A0_2 l0_2.length c0_2, .slice A0_3 l0_3.length c0_3, .int .i64 a0_4], .agg #[.int .i64 a1_0, .int .i64 a1_1, .int .i64 a1_2]] ?_; (with_reducible refine (spec_l12May.calls k a0_0 a0_1 _ _ l0_2 _ _ l0_3 a0_4 a1_0 a1_1 a1_2 false _ ?side1 ?side2 ?side3 ?side4 A2.out).mono ?_); (case side1 => exact b6n8_); (case side2 => exact HC0_2.out); (case side3 => exact bkan_); (case side4 => exact HC0_3.out); rintro e w4 ⟨rfl, hb⟩; refine ⟨_, rfl, ?_⟩; replace BK1 := k1_ BK1 hb; replace BK2 := k1_ BK2 hb; replace BK3 := k1_ BK3 hb; replace HB := hb_ hb b850_; (try clear hb); have hcz3 := z5_ BK3))
  refine bodyPost_ret (results_ct rfl _ _ gb3 26 #[.int .i64 0, .bool false, .slice none 0 0, .slice none 0 0, .int .i64 0] (0, 0) _ rfl (u1_ BK3) Tryd.underlying26 rfl bfqv_) rfl ?_
  exact ⟨_, _, bnwh_, bwfe_, bwfe_, b850_⟩
 subst c1
 rw [if_pos rfl] at H
 obtain ⟨⟨t3, t4, t5, t6, t7⟩, A4, H⟩ := o1_ H
 obtain ⟨⟨t8, t9, t10, t11, t12⟩, A6, H⟩ := o1_ H
 obtain ⟨t2, A8, H⟩ := o1_ H
 by_cases c2 : t2 = true
 case neg =>
  obtain rfl := bf_.mpr c2
  rw [if_neg ft_] at H
  simp only [sj_, pj_] at H
  obtain ⟨rfl, rfl, rfl, rfl, rfl, rfl⟩ := H
  go_enter Tryd.func48, Tryd.ntmps48
  go_wp2_with (first | ((with_reducible refine gd_ (N := 2) rfl ?_); refine bx_ 2 #[.int .i64 a0_0, .bool a0_1, .slice A0_2 l0_2.length c0_2, .slice A0_3 l0_3.length c0_3, .int .i64 a0_4] 26 ?_; intro gb1 hg w1 BK1 hb; have GW1 := ge_ hg brt4_; have GE1 := GW1; replace HB := hb_ hb brt4_; clear hb hg) | ((with_reducible refine gd_ (N := 3) rfl ?_); refine bx_ 3 #[.int .i64 a1_0, .int .i64 a1_1, .int .i64 a1_2] 45 ?_; intro gb2 hg w2 BK2 hb; have GW2 := ge_ hg be6g_; have GE2 := GW2; replace HB := hb_ hb be6g_; have NB1_2 := nl_ hg BK1; have NB2_1 := ng_ hg BK1; replace BK1 := k1_ BK1 hb; clear hb hg) | ((with_reducible refine gd_ (N := 4) rfl ?_); refine bx_ 4 #[.int .i64 0, .bool false, .slice none 0 0, .slice none 0 0, .int .i64 0] 26 ?_; intro gb3 hg w3 BK3 hb; have GW3 := ge_ hg bfnq_; have GE3 := GW3; replace HB := hb_ hb bfnq_; have NB1_3 := nl_ hg BK1; have NB3_1 := ng_ hg BK1; replace BK1 := k1_ BK1 hb; have NB2_3 := nl_ hg BK2; have NB3_2 := ng_ hg BK2; replace BK2 := k1_ BK2 hb; clear hb hg; have hnb1 := NB1_2.out; have hnc1 := NB2_1.out; have hnb2 := NB1_3.out; have hnc2 := NB3_1.out; have hcz1 := z5_ BK1; have hnb3 := NB2_3.out; have hnc3 := NB3_2.out; have hcz2_0 : w3.cell? ⟨gb2, 0, none⟩ = some (.int .i64 a1_0) := (kc_ BK2.out 0).trans rfl; have hcz2_1 : w3.cell? ⟨gb2, 1, none⟩ = some (.int .i64 a1_1) := (kc_ BK2.out 1).trans rfl; have hcz2_2 : w3.cell? ⟨gb2, 2, none⟩ = some (.int .i64 a1_2) := (kc_ BK2.out 2).trans rfl; have hfz2_0 := kf_ BK2.out 0; have hfz2_1 := kf_ BK2.out 1; have hfz2_2 := kf_ BK2.out 2) | ((with_reducible refine gc_ (f := 69) rfl ?_); refine gl_ 9 Tryd.func69 #[.agg #[.int .i64 a0_0, .bool a0_1, .slice A0_2 l0_2.length c0_2, .slice A0_3 l0_3.length c0_3, .int .i64 a0_4], .agg #[.int .i64 a1_0, .int .i64 a1_1, .int .i64 a1_2]] ?_; (with_reducible refine (spec_l12May.calls k a0_0 a0_1 _ _ l0_2 _ _ l0_3 a0_4 a1_0 a1_1 a1_2 true _ ?side1 ?side2 ?side3 ?side4 A2.out).mono ?_); (case side1 => exact b6n8_); (case side2 => exact HC0_2.out); (case side3 => exact bkan_); (case side4 => exact HC0_3.out); rintro e w4 ⟨rfl, hb⟩; refine ⟨_, rfl, ?_⟩; replace BK1 := k1_ BK1 hb; replace BK2 := k1_ BK2 hb; replace BK3 := k1_ BK3 hb; replace HB := hb_ hb b850_; (try clear hb); have hcz3 := z5_ BK1; have hcz4 := z3_ BK2) | ((with_reducible refine gc_ (f := 70) rfl ?_); refine gl_ 14 Tryd.func70 #[.agg #[.int .i64 a0_0, .bool a0_1, .slice A0_2 l0_2.length c0_2, .slice A0_3 l0_3.length c0_3, .int .i64 a0_4], .agg #[.int .i64 a1_0, .int .i64 a1_1, .int .i64 a1_2]] ?_; (with_reducible refine (spec_l12Make.calls k a0_0 a0_1 _ _ l0_2 _ _ l0_3 a0_4 a1_0 a1_1 a1_2 t3 t4 t5 t6 t7 _ ?side1 ?side2 ?side3 ?side4 A4.out).mono ?_); (case side1 => exact b6n8_); (case side2 => exact HC0_2.out); (case side3 => exact bkan_); (case side4 => exact HC0_3.out); rintro e w5 ⟨v1, v4, rfl, ho0, ho1, hb⟩; refine ⟨_, rfl, ?_⟩; have HO1 := A0_ (Kd.R_lower ho0 (bz_ b850_)); have HO2 := A0_ (Kd.R_lower ho1 (bz_ b850_)); replace BK1 := k1_ BK1 hb; replace BK2 := k1_ BK2 hb; replace BK3 := k1_ BK3 hb; replace HB := hb_ hb b850_; (try clear hb); (try clear ho0); (try clear ho1); obtain ⟨Ao1, co1, eo1⟩ := Kd.R_slice HO1.out; subst eo1; obtain ⟨Ao2, co2, eo2⟩ := Kd.R_slice HO2.out; subst eo2) | ((with_reducible refine gc_ (f := 31) rfl ?_); refine gl_ 15 Tryd.func31 #[.agg #[.int .i64 t3, .bool t4, .slice Ao1 t5.length co1, .slice Ao2 t6.length co2, .int .i64 t7]] ?_; (with_reducible refine (spec_l12Own.calls t3 t4 _ _ t5 _ _ t6 t7 t8 t9 t10 t11 t12 _ ?side1 ?side2 ?side3 ?side4 A6.out).mono ?_); (case side1 => exact bayy_); (case side2 => exact (rr_ HO1.out).2.1); (case side3 => exact ba04_); (case side4 => exact (rr_ HO2.out).2.1); rintro e w6 ⟨v5, v6, rfl, ho0, ho1, hb⟩; refine ⟨_, rfl, ?_⟩; have HO3 := A0_ (Kd.R_lower (Kd.R_new' (Kd.R_new' ho0 (Kd.R_lt bsm5_)) (Kd.R_lt b9so_)) (bz_ b850_)); have HO4 := A0_ (Kd.R_lower (Kd.R_new' (Kd.R_new' ho1 (Kd.R_lt bsm5_)) (Kd.R_lt b9so_)) (bz_ b850_)); replace HO1 := A0_ (Kd.R_mono (Kd.R_told (Kd.R_told (Kd.R_old bsm5_ hb) (Kd.R_base ho0)) (Kd.R_base ho1)) (fun _ h_ => h_.1)); replace HO2 := A0_ (Kd.R_mono (Kd.R_told (Kd.R_told (Kd.R_old b9so_ hb) (Kd.R_base ho0)) (Kd.R_base ho1)) (fun _ h_ => h_.1)); replace BK1 := k1_ BK1 hb; replace BK2 := k1_ BK2 hb; replace BK3 := k1_ BK3 hb; replace HB := hb_ hb b850_; (try clear hb); (try clear ho0); (try clear ho1)) | ((with_reducible refine gd_ (N := 6) rfl ?_); refine bx_ 6 #[.int .i64 0, .bool false, .slice none 0 0, .slice none 0 0, .int .i64 0] 26 ?_; intro gb4 hg w7 BK4 hb; replace HO1 := A0_ (Kd.R_below bsm5_ hb); replace HO2 := A0_ (Kd.R_below b9so_ hb); replace HO3 := A0_ (Kd.R_below buiy_ hb); replace HO4 := A0_ (Kd.R_below b6ip_ hb); have GW4 := ge_ hg b850_; have GE4 := GW4; replace HB := hb_ hb b850_; have NB1_4 := nl_ hg BK1; have NB4_1 := ng_ hg BK1; replace BK1 := k1_ BK1 hb; have NB2_4 := nl_ hg BK2; have NB4_2 := ng_ hg BK2; replace BK2 := k1_ BK2 hb; have NB3_4 := nl_ hg BK3; have NB4_3 := ng_ hg BK3; replace BK3 := k1_ BK3 hb; clear hb hg; have hnb4 := NB4_1.out; have hnc4 := NB1_4.out; have hnb5 := NB4_2.out; have hnc5 := NB2_4.out; have hnb6 := NB4_3.out; have hnc6 := NB3_4.out; have hcz5 := z5_ BK4; obtain ⟨Ao3, co3, eo3⟩ := Kd.R_slice HO3.out; subst eo3; obtain ⟨Ao4, co4, eo4⟩ := Kd.R_slice HO4.out; subst eo4; have hcz6_0 : w7.cell? ⟨gb1, 0, none⟩ = some (.int .i64 a0_0) := (kc_ BK1.out 0).trans rfl; have hcz6_1 : w7.cell? ⟨gb1, 1, none⟩ = some (.bool a0_1) := (kc_ BK1.out 1).trans rfl; have hcz6_2 : w7.cell? ⟨gb1, 2, none⟩ = some (.slice A0_2 l0_2.length c0_2) := (kc_ BK1.out 2).trans rfl; have hcz6_3 : w7.cell? ⟨gb1, 3, none⟩ = some (.slice A0_3 l0_3.length c0_3) := (kc_ BK1.out 3).trans rfl; have hcz6_4 : w7.cell? ⟨gb1, 4, none⟩ = some (.int .i64 a0_4) := (kc_ BK1.out 4).trans rfl; have hfz6_0 := kf_ BK1.out 0; have hfz6_1 := kf_ BK1.out 1; have hfz6_2 := kf_ BK1.out 2; have hfz6_3 := kf_ BK1.out 3; have hfz6_4 := kf_ BK1.out 4) | ((with_reducible refine gd_ (N := 20) rfl ?_); refine spec_l12Do.nameW (.cells #[.int .i64 t8, .bool t9, .slice Ao3 t10.length co3, .slice Ao4 t11.length co4, .int .i64 (wrap64 (a0_4 + 1))] 26 (0, 0)) gb4 (u1_ BK4) ?_; intro W_ hW2_ BKW_; have hczw_0 : W_.cell? ⟨gb4, 0, none⟩ = some (.int .i64 t8) := (kc_ BKW_.out 0).trans rfl; have hczw_1 : W_.cell? ⟨gb4, 1, none⟩ = some (.bool t9) := (kc_ BKW_.out 1).trans rfl; have hczw_2 : W_.cell? ⟨gb4, 2, none⟩ = some (.slice Ao3 t10.length co3) := (kc_ BKW_.out 2).trans rfl; have hczw_3 : W_.cell? ⟨gb4, 3, none⟩ = some (.slice Ao4 t11.length co4) := (kc_ BKW_.out 3).trans rfl; have hczw_4 : W_.cell? ⟨gb4, 4, none⟩ = some (.int .i64 (wrap64 (a0_4 + 1))) := (kc_ BKW_.out 4).trans rfl; go_step; go_step; clear hczw_0 hczw_1 hczw_2 hczw_3 hczw_4 BKW_; have hW_ := hW2_.out; clear hW2_; subst hW_) | ((with_reducible refine gc_ (f := 32) rfl ?_); refine gl_ 21 Tryd.func32 #[.agg #[.int .i64 t8, .bool t9, .slice Ao3 t10.length co3, .slice Ao4 t11.length co4, .int .i64 (wrap64 (a0_4 + 1))]] ?_; (with_reducible refine (spec_l12Good.calls k t8 t9 _ _ t10 _ _ t11 (wrap64 (a0_4 + 1)) false _ ?side1 ?side2 ?side3 ?side4 A8.out).mono ?_); (case side1 => refine (rr_ (e := 3) (base := w.heap.size) (ok := fun k_ => ((no_ (.slice Ao4 t11.length co4) k_ ∧ no_ (.slice Ao1 t5.length co1) k_) ∧ no_ (.slice Ao2 t6.length co2) k_)) (n := t10.length) (c := co3) ?_).2.2; exact b6o8_); (case side2 => exact (rr_ HO3.out).2.1); (case side3 => refine (rr_ (e := 3) (base := w.heap.size) (ok := fun k_ => ((no_ (.slice Ao3 t10.length co3) k_ ∧ no_ (.slice Ao1 t5.length co1) k_) ∧ no_ (.slice Ao2 t6.length co2) k_)) (n := t11.length) (c := co4) ?_).2.2; exact bth6_); (case side4 => exact (rr_ HO4.out).2.1); rintro e w8 ⟨rfl, hb⟩; refine ⟨_, rfl, ?_⟩; replace HO1 := A0_ (Kd.R_below bzqp_ hb); replace HO2 := A0_ (Kd.R_below byr6_ hb); replace HO3 := A0_ (Kd.R_below b6o8_ hb); replace HO4 := A0_ (Kd.R_below bth6_ hb); replace BK1 := k1_ BK1 hb; replace BK2 := k1_ BK2 hb; replace BK3 := k1_ BK3 hb; replace BK4 := k2_ (.cells #[.int .i64 t8, .bool t9, .slice Ao3 t10.length co3, .slice Ao4 t11.length co4, .int .i64 (wrap64 (a0_4 + 1))] 26 (0, 0)) BK4 hb; replace HB := hb_ hb b2i7_; (try clear hb); have hcz7 := z5_ BK3))
  refine bodyPost_ret (results_ct rfl _ _ gb3 26 #[.int .i64 0, .bool false, .slice none 0 0, .slice none 0 0, .int .i64 0] (0, 0) _ rfl (u1_ BK3) Tryd.underlying26 rfl bfqv_) rfl ?_
  exact ⟨_, _, bnwh_, bwfe_, bwfe_, b2i7_⟩
 subst c2
 rw [if_pos rfl] at H
 simp only [sj_, pj_] at H
 obtain ⟨rfl, rfl, rfl, rfl, rfl, rfl⟩ := H
 go_enter Tryd.func48, Tryd.ntmps48
 go_wp2_with (first | ((with_reducible refine gd_ (N := 2) rfl ?_); refine bx_ 2 #[.int .i64 a0_0, .bool a0_1, .slice A0_2 l0_2.length c0_2, .slice A0_3 l0_3.length c0_3, .int .i64 a0_4] 26 ?_; intro gb1 hg w1 BK1 hb; have GW1 := ge_ hg brt4_; have GE1 := GW1; replace HB := hb_ hb brt4_; clear hb hg) | ((with_reducible refine gd_ (N := 3) rfl ?_); refine bx_ 3 #[.int .i64 a1_0, .int .i64 a1_1, .int .i64 a1_2] 45 ?_; intro gb2 hg w2 BK2 hb; have GW2 := ge_ hg be6g_; have GE2 := GW2; replace HB := hb_ hb be6g_; have NB1_2 := nl_ hg BK1; have NB2_1 := ng_ hg BK1; replace BK1 := k1_ BK1 hb; clear hb hg) | ((with_reducible refine gd_ (N := 4) rfl ?_); refine bx_ 4 #[.int .i64 0, .bool false, .slice none 0 0, .slice none 0 0, .int .i64 0] 26 ?_; intro gb3 hg w3 BK3 hb; have GW3 := ge_ hg bfnq_; have GE3 := GW3; replace HB := hb_ hb bfnq_; have NB1_3 := nl_ hg BK1; have NB3_1 := ng_ hg BK1; replace BK1 := k1_ BK1 hb; have NB2_3 := nl_ hg BK2; have NB3_2 := ng_ hg BK2; replace BK2 := k1_ BK2 hb; clear hb hg; have hnb1 := NB1_2.out; have hnc1 := NB2_1.out; have hnb2 := NB1_3.out; have hnc2 := NB3_1.out; have hcz1 := z5_ BK1; have hnb3 := NB2_3.out; have hnc3 := NB3_2.out; have hcz2_0 : w3.cell? ⟨gb2, 0, none⟩ = some (.int .i64 a1_0) := (kc_ BK2.out 0).trans rfl; have hcz2_1 : w3.cell? ⟨gb2, 1, none⟩ = some (.int .i64 a1_1) := (kc_ BK2.out 1).trans rfl; have hcz2_2 : w3.cell? ⟨gb2, 2, none⟩ = some (.int .i64 a1_2) := (kc_ BK2.out 2).trans rfl; have hfz2_0 := kf_ BK2.out 0; have hfz2_1 := kf_ BK2.out 1; have hfz2_2 := kf_ BK2.out 2) | ((with_reducible refine gc_ (f := 69) rfl ?_); refine gl_ 9 Tryd.func69 #[.agg #[.int .i64 a0_0, .bool a0_1, .slice A0_2 l0_2.length c0_2, .slice A0_3 l0_3.length c0_3, .int .i64 a0_4], .agg #[.int .i64 a1_0, .int .i64 a1_1, .int .i64 a1_2]] ?_; (with_reducible refine (spec_l12May.calls k a0_0 a0_1 _ _ l0_2 _ _ l0_3 a0_4 a1_0 a1_1 a1_2 true _ ?side1 ?side2 ?side3 ?side4 A2.out).mono ?_); (case side1 => exact b6n8_); (case side2 => exact HC0_2.out); (case side3 => exact bkan_); (case side4 => exact HC0_3.out); rintro e w4 ⟨rfl, hb⟩; refine ⟨_, rfl, ?_⟩; replace BK1 := k1_ BK1 hb; replace BK2 := k1_ BK2 hb; replace BK3 := k1_ BK3 hb; replace HB := hb_ hb b850_; (try clear hb); have hcz3 := z5_ BK1; have hcz4 := z3_ BK2) | ((with_reducible refine gc_ (f := 70) rfl ?_); refine gl_ 14 Tryd.func70 #[.agg #[.int .i64 a0_0, .bool a0_1, .slice A0_2 l0_2.length c0_2, .slice A0_3 l0_3.length c0_3, .int .i64 a0_4], .agg #[.int .i64 a1_0, .int .i64 a1_1, .int .i64 a1_2]] ?_; (with_reducible refine (spec_l12Make.calls k a0_0 a0_1 _ _ l0_2 _ _ l0_3 a0_4 a1_0 a1_1 a1_2 t3 t4 t5 t6 t7 _ ?side1 ?side2 ?side3 ?side4 A4.out).mono ?_); (case side1 => exact b6n8_); (case side2 => exact HC0_2.out); (case side3 => exact bkan_); (case side4 => exact HC0_3.out); rintro e w5 ⟨v1, v4, rfl, ho0, ho1, hb⟩; refine ⟨_, rfl, ?_⟩; have HO1 := A0_ (Kd.R_lower ho0 (bz_ b850_)); have HO2 := A0_ (Kd.R_lower ho1 (bz_ b850_)); replace BK1 := k1_ BK1 hb; replace BK2 := k1_ BK2 hb; replace BK3 := k1_ BK3 hb; replace HB := hb_ hb b850_; (try clear hb); (try clear ho0); (try clear ho1); obtain ⟨Ao1, co1, eo1⟩ := Kd.R_slice HO1.out; subst eo1; obtain ⟨Ao2, co2, eo2⟩ := Kd.R_slice HO2.out; subst eo2) | ((with_reducible refine gc_ (f := 31) rfl ?_); refine gl_ 15 Tryd.func31 #[.agg #[.int .i64 t3, .bool t4, .slice Ao1 t5.length co1, .slice Ao2 t6.length co2, .int .i64 t7]] ?_; (with_reducible refine (spec_l12Own.calls t3 t4 _ _ t5 _ _ t6 t7 t8 t9 t10 t11 t12 _ ?side1 ?side2 ?side3 ?side4 A6.out).mono ?_); (case side1 => exact bayy_); (case side2 => exact (rr_ HO1.out).2.1); (case side3 => exact ba04_); (case side4 => exact (rr_ HO2.out).2.1); rintro e w6 ⟨v5, v6, rfl, ho0, ho1, hb⟩; refine ⟨_, rfl, ?_⟩; have HO3 := A0_ (Kd.R_lower (Kd.R_new' (Kd.R_new' ho0 (Kd.R_lt bsm5_)) (Kd.R_lt b9so_)) (bz_ b850_)); have HO4 := A0_ (Kd.R_lower (Kd.R_new' (Kd.R_new' ho1 (Kd.R_lt bsm5_)) (Kd.R_lt b9so_)) (bz_ b850_)); replace HO1 := A0_ (Kd.R_mono (Kd.R_told (Kd.R_told (Kd.R_old bsm5_ hb) (Kd.R_base ho0)) (Kd.R_base ho1)) (fun _ h_ => h_.1)); replace HO2 := A0_ (Kd.R_mono (Kd.R_told (Kd.R_told (Kd.R_old b9so_ hb) (Kd.R_base ho0)) (Kd.R_base ho1)) (fun _ h_ => h_.1)); replace BK1 := k1_ BK1 hb; replace BK2 := k1_ BK2 hb; replace BK3 := k1_ BK3 hb; replace HB := hb_ hb b850_; (try clear hb); (try clear ho0); (try clear ho1)) | ((with_reducible refine gd_ (N := 6) rfl ?_); refine bx_ 6 #[.int .i64 0, .bool false, .slice none 0 0, .slice none 0 0, .int .i64 0] 26 ?_; intro gb4 hg w7 BK4 hb; replace HO1 := A0_ (Kd.R_below bsm5_ hb); replace HO2 := A0_ (Kd.R_below b9so_ hb); replace HO3 := A0_ (Kd.R_below buiy_ hb); replace HO4 := A0_ (Kd.R_below b6ip_ hb); have GW4 := ge_ hg b850_; have GE4 := GW4; replace HB := hb_ hb b850_; have NB1_4 := nl_ hg BK1; have NB4_1 := ng_ hg BK1; replace BK1 := k1_ BK1 hb; have NB2_4 := nl_ hg BK2; have NB4_2 := ng_ hg BK2; replace BK2 := k1_ BK2 hb; have NB3_4 := nl_ hg BK3; have NB4_3 := ng_ hg BK3; replace BK3 := k1_ BK3 hb; clear hb hg; have hnb4 := NB4_1.out; have hnc4 := NB1_4.out; have hnb5 := NB4_2.out; have hnc5 := NB2_4.out; have hnb6 := NB4_3.out; have hnc6 := NB3_4.out; have hcz5 := z5_ BK4; obtain ⟨Ao3, co3, eo3⟩ := Kd.R_slice HO3.out; subst eo3; obtain ⟨Ao4, co4, eo4⟩ := Kd.R_slice HO4.out; subst eo4; have hcz6_0 : w7.cell? ⟨gb1, 0, none⟩ = some (.int .i64 a0_0) := (kc_ BK1.out 0).trans rfl; have hcz6_1 : w7.cell? ⟨gb1, 1, none⟩ = some (.bool a0_1) := (kc_ BK1.out 1).trans rfl; have hcz6_2 : w7.cell? ⟨gb1, 2, none⟩ = some (.slice A0_2 l0_2.length c0_2) := (kc_ BK1.out 2).trans rfl; have hcz6_3 : w7.cell? ⟨gb1, 3, none⟩ = some (.slice A0_3 l0_3.length c0_3) := (kc_ BK1.out 3).trans rfl; have hcz6_4 : w7.cell? ⟨gb1, 4, none⟩ = some (.int .i64 a0_4) := (kc_ BK1.out 4).trans rfl; have hfz6_0 := kf_ BK1.out 0; have hfz6_1 := kf_ BK1.out 1; have hfz6_2 := kf_ BK1.out 2; have hfz6_3 := kf_ BK1.out 3; have hfz6_4 := kf_ BK1.out 4) | ((with_reducible refine gd_ (N := 20) rfl ?_); refine spec_l12Do.nameW (.cells #[.int .i64 t8, .bool t9, .slice Ao3 t10.length co3, .slice Ao4 t11.length co4, .int .i64 (wrap64 (a0_4 + 1))] 26 (0, 0)) gb4 (u1_ BK4) ?_; intro W_ hW2_ BKW_; have hczw_0 : W_.cell? ⟨gb4, 0, none⟩ = some (.int .i64 t8) := (kc_ BKW_.out 0).trans rfl; have hczw_1 : W_.cell? ⟨gb4, 1, none⟩ = some (.bool t9) := (kc_ BKW_.out 1).trans rfl; have hczw_2 : W_.cell? ⟨gb4, 2, none⟩ = some (.slice Ao3 t10.length co3) := (kc_ BKW_.out 2).trans rfl; have hczw_3 : W_.cell? ⟨gb4, 3, none⟩ = some (.slice Ao4 t11.length co4) := (kc_ BKW_.out 3).trans rfl; have hczw_4 : W_.cell? ⟨gb4, 4, none⟩ = some (.int .i64 (wrap64 (a0_4 + 1))) := (kc_ BKW_.out 4).trans rfl; go_step; go_step; clear hczw_0 hczw_1 hczw_2 hczw_3 hczw_4 BKW_; have hW_ := hW2_.out; clear hW2_; subst hW_) | ((with_reducible refine gc_ (f := 32) rfl ?_); refine gl_ 21 Tryd.func32 #[.agg #[.int .i64 t8, .bool t9, .slice Ao3 t10.length co3, .slice Ao4 t11.length co4, .int .i64 (wrap64 (a0_4 + 1))]] ?_; (with_reducible refine (spec_l12Good.calls k t8 t9 _ _ t10 _ _ t11 (wrap64 (a0_4 + 1)) true _ ?side1 ?side2 ?side3 ?side4 A8.out).mono ?_); (case side1 => refine (rr_ (e := 3) (base := w.heap.size) (ok := fun k_ => ((no_ (.slice Ao4 t11.length co4) k_ ∧ no_ (.slice Ao1 t5.length co1) k_) ∧ no_ (.slice Ao2 t6.length co2) k_)) (n := t10.length) (c := co3) ?_).2.2; exact b6o8_); (case side2 => exact (rr_ HO3.out).2.1); (case side3 => refine (rr_ (e := 3) (base := w.heap.size) (ok := fun k_ => ((no_ (.slice Ao3 t10.length co3) k_ ∧ no_ (.slice Ao1 t5.length co1) k_) ∧ no_ (.slice Ao2 t6.length co2) k_)) (n := t11.length) (c := co4) ?_).2.2; exact bth6_); (case side4 => exact (rr_ HO4.out).2.1); rintro e w8 ⟨rfl, hb⟩; refine ⟨_, rfl, ?_⟩; replace HO1 := A0_ (Kd.R_below bzqp_ hb); replace HO2 := A0_ (Kd.R_below byr6_ hb); replace HO3 := A0_ (Kd.R_below b6o8_ hb); replace HO4 := A0_ (Kd.R_below bth6_ hb); replace BK1 := k1_ BK1 hb; replace BK2 := k1_ BK2 hb; replace BK3 := k1_ BK3 hb; replace BK4 := k2_ (.cells #[.int .i64 t8, .bool t9, .slice Ao3 t10.length co3, .slice Ao4 t11.length co4, .int .i64 (wrap64 (a0_4 + 1))] 26 (0, 0)) BK4 hb; replace HB := hb_ hb b2i7_; (try clear hb); have hcz7 := z5_ BK4; have hcz8 := z5_ BK3))
 refine bodyPost_ret (results_ct rfl _ _ gb3 26 #[.int .i64 t8, .bool t9, .slice Ao3 t10.length co3, .slice Ao4 t11.length co4, .int .i64 (wrap64 (a0_4 + 1))] (0, 0) _ rfl (u1_ BK3) Tryd.underlying26 rfl bfqv_) rfl ?_
 exact ⟨_, _, bnwh_, by (with_reducible repeat (first | apply ra_ | apply rn_ | apply rd_)); exact Kd.R_mono (rf_ (rf_ (rf_ (rf_ (rf_ (Kd.R_types HO3.out BK3.out bi3y_) k2_0 _) k2_0 _) k2_0 _) k2_0 _) (fun _ hk => hk.2) (.int .i64 (wrap64 (a0_4 + 1)))) (fun _ hk => hk.1.1.1), by (with_reducible repeat (first | apply ra_ | apply rn_ | apply rd_)); exact Kd.R_mono (rf_ (rf_ (rf_ (rf_ (rf_ (Kd.R_types HO4.out BK3.out bi3y_) k2_0 _) k2_0 _) k2_0 _) k2_0 _) (fun _ hk => hk.2) (.int .i64 (wrap64 (a0_4 + 1)))) (fun _ hk => hk.1.1.1), b2i7_⟩

def spec_DoWork.f (k : Nat) (a0_0 : Int) (a0_1 : Bool) (l0_2 : List Int) (l0_3 : List Int) (a0_4 : Int) (a1_0 : Int) (a1_1 : Int) (a1_2 : Int) : Option (Int × Bool × List Int × List Int × Int × Bool) := (spec_l12Good.f k a0_0 a0_1 l0_2 l0_3 a0_4).bind fun t371 => (if t371 = true then ((spec_l12Do.f k a0_0 a0_1 l0_2 l0_3 a0_4 a1_0 a1_1 a1_2).bind fun bt372 => (some (bt372.1, bt372.2.1, bt372.2.2.1, bt372.2.2.2.1, bt372.2.2.2.2.1, bt372.2.2.2.2.2))) else (some (0, false, ([] : List Int), ([] : List Int), 0, false)))
theorem spec_DoWork.mono : ∀ a0 a1 a2 a3 a4 a5 a6 a7 k, LeO (spec_DoWork.f k a0 a1 a2 a3 a4 a5 a6 a7) (spec_DoWork.f (k + 1) a0 a1 a2 a3 a4 a5 a6 a7) := by
 intro a0 a1 a2 a3 a4 a5 a6 a7 k
 unfold spec_DoWork.f
 repeat' with_reducible first | exact spec_l12Do.mono .. | exact spec_l12Good.mono .. | exact LeO.refl .. | exact LeO.none .. | refine LeO.ite ?_ ?_ | refine LeO.bind ?_ (fun _ => ?_)
theorem spec_DoWork.calls (k : Nat) (a0_0 : Int) (a0_1 : Bool) (A0_2 : Option Addr) (c0_2 : Nat) (l0_2 : List Int) (A0_3 : Option Addr) (c0_3 : Nat) (l0_3 : List Int) (a0_4 : Int) (a1_0 : Int) (a1_1 : Int) (a1_2 : Int) (r1 : Int) (r2 : Bool) (r3 : List Int) (r4 : List Int) (r5 : Int) (r6 : Bool) (w : World) (hr0_2 : Kd.C (Kd.int .i64) w A0_2 l0_2.length l0_2) (hc0_2 : l0_2.length ≤ c0_2) (hr0_3 : Kd.C (Kd.int .i64) w A0_3 l0_3.length l0_3) (hc0_3 : l0_3.length ≤ c0_3) (h : spec_DoWork.f k a0_0 a0_1 l0_2 l0_3 a0_4 a1_0 a1_1 a1_2 = some (r1, r2, r3, r4, r5, r6)) :
  Calls Tryd.prog 19 #[.agg #[.int .i64 a0_0, .bool a0_1, .slice A0_2 l0_2.length c0_2, .slice A0_3 l0_3.length c0_3, .int .i64 a0_4], .agg #[.int .i64 a1_0, .int .i64 a1_1, .int .i64 a1_2]] w fun e w' => ∃ v2_ v3_ : Value, e = .returned (.tuple #[.agg #[.int .i64 r1, .bool r2, v2_, v3_, .int .i64 r5], .bool r6]) ∧ Kd.R (Kd.int .i64) 3 w' w.heap.size (fun k_ => no_ v3_ k_) v2_ r3 ∧ Kd.R (Kd.int .i64) 3 w' w.heap.size (fun k_ => no_ v2_ k_) v3_ r4 ∧ Below w.heap.size w w' := by
 have hu26 := Tryd.underlying26
 have hu45 := Tryd.underlying45
 have HR0_2 := A0_ hr0_2
 have HC0_2 := A0_ hc0_2
 clear hr0_2 hc0_2
 have HR0_3 := A0_ hr0_3
 have HC0_3 := A0_ hc0_3
 clear hr0_3 hc0_3
 have HB := A0_ (Below.refl w.heap.size w)
 have H : ((spec_l12Good.f k a0_0 a0_1 l0_2 l0_3 a0_4).bind fun t1 => (if t1 = true then ((spec_l12Do.f k a0_0 a0_1 l0_2 l0_3 a0_4 a1_0 a1_1 a1_2).bind fun bt1 => (some (bt1.1, bt1.2.1, bt1.2.2.1, bt1.2.2.2.1, bt1.2.2.2.2.1, bt1.2.2.2.2.2))) else (some (0, false, ([] : List Int), ([] : List Int), 0, false)))) = some (r1, r2, r3, r4, r5, r6) := h
 clear h
 obtain ⟨t1, A2, H⟩ := o1_ H
 by_cases c1 : t1 = true
 case neg =>
  obtain rfl := bf_.mpr c1
  rw [if_neg ft_] at H
  simp only [sj_, pj_] at H
  obtain ⟨rfl, rfl, rfl, rfl, rfl, rfl⟩ := H
  go_enter Tryd.func19, Tryd.ntmps19
  go_wp2_with (first | ((with_reducible refine gd_ (N := 2) rfl ?_); refine bx_ 2 #[.int .i64 a0_0, .bool a0_1, .slice A0_2 l0_2.length c0_2, .slice A0_3 l0_3.length c0_3, .int .i64 a0_4] 26 ?_; intro gb1 hg w1 BK1 hb; have GW1 := ge_ hg brt4_; have GE1 := GW1; replace HB := hb_ hb brt4_; clear hb hg) | ((with_reducible refine gd_ (N := 3) rfl ?_); refine bx_ 3 #[.int .i64 a1_0, .int .i64 a1_1, .int .i64 a1_2] 45 ?_; intro gb2 hg w2 BK2 hb; have GW2 := ge_ hg be6g_; have GE2 := GW2; replace HB := hb_ hb be6g_; have NB1_2 := nl_ hg BK1; have NB2_1 := ng_ hg BK1; replace BK1 := k1_ BK1 hb; clear hb hg) | ((with_reducible refine gd_ (N := 4) rfl ?_); refine bx_ 4 #[.int .i64 0, .bool false, .slice none 0 0, .slice none 0 0, .int .i64 0] 26 ?_; intro gb3 hg w3 BK3 hb; have GW3 := ge_ hg bfnq_; have GE3 := GW3; replace HB := hb_ hb bfnq_; have NB1_3 := nl_ hg BK1; have NB3_1 := ng_ hg BK1; replace BK1 := k1_ BK1 hb; have NB2_3 := nl_ hg BK2; have NB3_2 := ng_ hg BK2; replace BK2 := k1_ BK2 hb; clear hb hg; have hnb1 := NB1_2.out; have hnc1 := NB2_1.out; have hnb2 := NB1_3.out; have hnc2 := NB3_1.out; have hcz1 := z5_ BK1) | ((with_reducible refine gc_ (f := 32) rfl ?_); refine gl_ 7 Tryd.func32 #[.agg #[.int .i64 a0_0, .bool a0_1, .slice A0_2 l0_2.length c0_2, .slice A0_3 l0_3.length c0_3, .int .i64 a0_4]] ?_; (with_reducible refine (spec_l12Good.calls k a0_0 a0_1 _ _ l0_2 _ _ l0_3 a0_4 false _ ?side1 ?side2 ?side3 ?side4 A2.out).mono ?_); (case side1 => exact b6n8_); (case side2 => exact HC0_2.out); (case side3 => exact bkan_); (case side4 => exact HC0_3.out); rintro e w4 ⟨rfl, hb⟩; refine ⟨_, rfl, ?_⟩; replace BK1 := k1_ BK1 hb; replace BK2 := k1_ BK2 hb; replace BK3 := k1_ BK3 hb; replace HB := hb_ hb b850_; (try clear hb); have hnb3 := NB3_2.out; have hnc3 := NB2_3.out; have hcz2 := z5_ BK3))
  refine bodyPost_ret (results_ct rfl _ _ gb3 26 #[.int .i64 0, .bool false, .slice none 0 0, .slice none 0 0, .int .i64 0] (0, 0) _ rfl (u1_ BK3) Tryd.underlying26 rfl bfqv_) rfl ?_
  exact ⟨_, _, bnwh_, bwfe_, bwfe_, b850_⟩
 subst c1
 rw [if_pos rfl] at H
 obtain ⟨⟨t2, t3, t4, t5, t6, t7⟩, A4, H⟩ := o1_ H
 replace H : (some (t2, t3, t4, t5, t6, t7)) = some (r1, r2, r3, r4, r5, r6) := H
 simp only [sj_, pj_] at H
 obtain ⟨rfl, rfl, rfl, rfl, rfl, rfl⟩ := H
 go_enter Tryd.func19, Tryd.ntmps19
 go_wp2_with (first | ((with_reducible refine gd_ (N := 2) rfl ?_); refine bx_ 2 #[.int .i64 a0_0, .bool a0_1, .slice A0_2 l0_2.length c0_2, .slice A0_3 l0_3.length c0_3, .int .i64 a0_4] 26 ?_; intro gb1 hg w1 BK1 hb; have GW1 := ge_ hg brt4_; have GE1 := GW1; replace HB := hb_ hb brt4_; clear hb hg) | ((with_reducible refine gd_ (N := 3) rfl ?_); refine bx_ 3 #[.int .i64 a1_0, .int .i64 a1_1, .int .i64 a1_2] 45 ?_; intro gb2 hg w2 BK2 hb; have GW2 := ge_ hg be6g_; have GE2 := GW2; replace HB := hb_ hb be6g_; have NB1_2 := nl_ hg BK1; have NB2_1 := ng_ hg BK1; replace BK1 := k1_ BK1 hb; clear hb hg) | ((with_reducible refine gd_ (N := 4) rfl ?_); refine bx_ 4 #[.int .i64 0, .bool false, .slice none 0 0, .slice none 0 0, .int .i64 0] 26 ?_; intro gb3 hg w3 BK3 hb; have GW3 := ge_ hg bfnq_; have GE3 := GW3; replace HB := hb_ hb bfnq_; have NB1_3 := nl_ hg BK1; have NB3_1 := ng_ hg BK1; replace BK1 := k1_ BK1 hb; have NB2_3 := nl_ hg BK2; have NB3_2 := ng_ hg BK2; replace BK2 := k1_ BK2 hb; clear hb hg; have hnb1 := NB1_2.out; have hnc1 := NB2_1.out; have hnb2 := NB1_3.out; have hnc2 := NB3_1.out; have hcz1 := z5_ BK1) | ((with_reducible refine gc_ (f := 32) rfl ?_); refine gl_ 7 Tryd.func32 #[.agg #[.int .i64 a0_0, .bool a0_1, .slice A0_2 l0_2.length c0_2, .slice A0_3 l0_3.length c0_3, .int .i64 a0_4]] ?_; (with_reducible refine (spec_l12Good.calls k a0_0 a0_1 _ _ l0_2 _ _ l0_3 a0_4 true _ ?side1 ?side2 ?side3 ?side4 A2.out).mono ?_); (case side1 => exact b6n8_); (case side2 => exact HC0_2.out); (case side3 => exact bkan_); (case side4 => exact HC0_3.out); rintro e w4 ⟨rfl, hb⟩; refine ⟨_, rfl, ?_⟩; replace BK1 := k1_ BK1 hb; replace BK2 := k1_ BK2 hb; replace BK3 := k1_ BK3 hb; replace HB := hb_ hb b850_; (try clear hb); have hcz2 := z5_ BK1; have hnb3 := NB2_3.out; have hnc3 := NB3_2.out; have hcz3_0 : w4.cell? ⟨gb2, 0, none⟩ = some (.int .i64 a1_0) := (kc_ BK2.out 0).trans rfl; have hcz3_1 : w4.cell? ⟨gb2, 1, none⟩ = some (.int .i64 a1_1) := (kc_ BK2.out 1).trans rfl; have hcz3_2 : w4.cell? ⟨gb2, 2, none⟩ = some (.int .i64 a1_2) := (kc_ BK2.out 2).trans rfl; have hfz3_0 := kf_ BK2.out 0; have hfz3_1 := kf_ BK2.out 1; have hfz3_2 := kf_ BK2.out 2) | ((with_reducible refine gc_ (f := 48) rfl ?_); refine gl_ 12 Tryd.func48 #[.agg #[.int .i64 a0_0, .bool a0_1, .slice A0_2 l0_2.length c0_2, .slice A0_3 l0_3.length c0_3, .int .i64 a0_4], .agg #[.int .i64 a1_0, .int .i64 a1_1, .int .i64 a1_2]] ?_; (with_reducible refine (spec_l12Do.calls k a0_0 a0_1 _ _ l0_2 _ _ l0_3 a0_4 a1_0 a1_1 a1_2 t2 t3 t4 t5 t6 t7 _ ?side1 ?side2 ?side3 ?side4 A4.out).mono ?_); (case side1 => exact b6n8_); (case side2 => exact HC0_2.out); (case side3 => exact bkan_); (case side4 => exact HC0_3.out); rintro e w5 ⟨v1, v4, rfl, ho0, ho1, hb⟩; refine ⟨_, rfl, ?_⟩; have HO1 := A0_ (Kd.R_lower ho0 (bz_ b850_)); have HO2 := A0_ (Kd.R_lower ho1 (bz_ b850_)); replace BK1 := k1_ BK1 hb; replace BK2 := k1_ BK2 hb; replace BK3 := k1_ BK3 hb; replace HB := hb_ hb b850_; (try clear hb); (try clear ho0); (try clear ho1); have hcz4 := z5_ BK3; obtain ⟨Ao1, co1, eo1⟩ := Kd.R_slice HO1.out; subst eo1; obtain ⟨Ao2, co2, eo2⟩ := Kd.R_slice HO2.out; subst eo2))
 refine bodyPost_ret (results_ct rfl _ _ gb3 26 #[.int .i64 t2, .bool t3, .slice Ao1 t4.length co1, .slice Ao2 t5.length co2, .int .i64 t6] (0, 0) _ rfl (u1_ BK3) Tryd.underlying26 rfl bfqv_) rfl ?_
 exact ⟨_, _, bnwh_, by (with_reducible repeat (first | apply ra_ | apply rn_ | apply rd_)); exact Kd.R_mono (rf_ (rf_ (rf_ (rf_ (rf_ (Kd.R_types HO1.out BK3.out bi3y_) k2_0 _) k2_0 _) k2_0 _) k2_0 _) k2_0 _) (fun _ hk => hk.1), by (with_reducible repeat (first | apply ra_ | apply rn_ | apply rd_)); exact Kd.R_mono (rf_ (rf_ (rf_ (rf_ (rf_ (Kd.R_types HO2.out BK3.out bi3y_) k2_0 _) k2_0 _) k2_0 _) k2_0 _) k2_0 _) (fun _ hk => hk.1), b850_⟩

def laws_toWork.f (a0_0 : Int) (a0_1 : Int) (a0_2 : Int) : Option (Int × Int × Int) := some (a0_0, a0_1, a0_2)
theorem laws_toWork.calls (a0_0 : Int) (a0_1 : Int) (a0_2 : Int) (r1 : Int) (r2 : Int) (r3 : Int) (w : World) (h : laws_toWork.f a0_0 a0_1 a0_2 = some (r1, r2, r3)) :
  Calls Tryd.prog 20 #[.agg #[.int .i64 a0_0, .int .i64 a0_1, .int .i64 a0_2]] w fun e w' => e = .returned (.agg #[.int .i64 r1, .int .i64 r2, .int .i64 r3]) ∧ Below w.heap.size w w' := by
 have hu43 := Tryd.underlying43
 have hu45 := Tryd.underlying45
 have HB := A0_ (Below.refl w.heap.size w)
 have H : (some (a0_0, a0_1, a0_2)) = some (r1, r2, r3) := h
 clear h
 simp only [sj_, pj_] at H
 obtain ⟨rfl, rfl, rfl⟩ := H
 go_enter Tryd.func20, Tryd.ntmps20
 go_wp2_with (first | ((with_reducible refine gd_ (N := 1) rfl ?_); refine bx_ 1 #[.int .i64 a0_0, .int .i64 a0_1, .int .i64 a0_2] 43 ?_; intro gb1 hg w1 BK1 hb; have GW1 := ge_ hg brt4_; have GE1 := GW1; replace HB := hb_ hb brt4_; clear hb hg) | ((with_reducible refine gd_ (N := 2) rfl ?_); refine bx_ 2 #[.int .i64 0, .int .i64 0, .int .i64 0] 45 ?_; intro gb2 hg w2 BK2 hb; have GW2 := ge_ hg be6g_; have GE2 := GW2; replace HB := hb_ hb be6g_; have NB1_2 := nl_ hg BK1; have NB2_1 := ng_ hg BK1; replace BK1 := k1_ BK1 hb; clear hb hg) | ((with_reducible refine gd_ (N := 3) rfl ?_); refine bx_ 3 #[.int .i64 0, .int .i64 0, .int .i64 0] 45 ?_; intro gb3 hg w3 BK3 hb; have GW3 := ge_ hg bfnq_; have GE3 := GW3; replace HB := hb_ hb bfnq_; have NB1_3 := nl_ hg BK1; have NB3_1 := ng_ hg BK1; replace BK1 := k1_ BK1 hb; have NB2_3 := nl_ hg BK2; have NB3_2 := ng_ hg BK2; replace BK2 := k1_ BK2 hb; clear hb hg; have hnb1 := NB1_2.out; have hnc1 := NB2_1.out; have hnb2 := NB1_3.out; have hnc2 := NB3_1.out; have hcz1 := z3_ BK1; have hnb3 := NB3_2.out; have hnc3 := NB2_3.out; have hcz2_0 : w3.cell? ⟨gb3, 0, none⟩ = some (.int .i64 0) := (kc_ BK3.out 0).trans rfl; have hcz2_1 : w3.cell? ⟨gb3, 1, none⟩ = some (.int .i64 0) := (kc_ BK3.out 1).trans rfl; have hcz2_2 : w3.cell? ⟨gb3, 2, none⟩ = some (.int .i64 0) := (kc_ BK3.out 2).trans rfl; have hfz2_0 := kf_ BK3.out 0; have hfz2_1 := kf_ BK3.out 1; have hfz2_2 := kf_ BK3.out 2; have hcz3_0 : w3.cell? ⟨gb2, 0, none⟩ = some (.int .i64 0) := (kc_ BK2.out 0).trans rfl; have hcz3_1 : w3.cell? ⟨gb2, 1, none⟩ = some (.int .i64 0) := (kc_ BK2.out 1).trans rfl; have hcz3_2 : w3.cell? ⟨gb2, 2, none⟩ = some (.int .i64 0) := (kc_ BK2.out 2).trans rfl; have hfz3_0 := kf_ BK2.out 0; have hfz3_1 := kf_ BK2.out 1; have hfz3_2 := kf_ BK2.out 2))
 refine bodyPost_ret (results_cell_row rfl _ _ gb2 45 #[.int .i64 a0_0, .int .i64 a0_1, .int .i64 a0_2] (0, 0) _ rfl (u1_ BK2) Tryd.underlying45 rfl bfqv_) rfl ?_
 exact ⟨bnwh_, b850_⟩
 /-- The table of the library's stands in its variable: what the row's list gives. -/
def TabOK (w : World) : Prop := ∀ j, j < Lib.deBruijn32tab.length → w.cell? ⟨0, j, none⟩ = some (.int .u8 (Lib.deBruijn32tab.getD j 0))
theorem TabOK.below {w w' : World} (h : TabOK w) (hb : Below w.heap.size w w') : TabOK w' := fun j hj => (hb.cell (World.block_lt_of_cell? w _ (h j hj))).trans (h j hj)
theorem TabOK.drew {w : World} (h : TabOK w) : TabOK w.drew := h
theorem TabOK.drewN {w : World} (h : TabOK w) (n : Nat) : TabOK (w.drewN n) := fun j hj => h j hj
theorem tz_bits_and_u32_nat (a b : Nat) (ha : a < 4294967296) (hb : b < 4294967296) : Go.bits .and .u32 (a : Int) (b : Int) = ((a &&& b : Nat) : Int) := by
 have hx : a &&& b < 2 ^ 32 := Nat.and_lt_two_pow _ bh19_
 have h1 : (BitVec.ofInt 32 (a : Int)).toNat = a := by
  rw [BitVec.ofInt_natCast, BitVec.toNat_ofNat]; exact Nat.mod_eq_of_lt bh19_
 have h2 : (BitVec.ofInt 32 (b : Int)).toNat = b := by
  rw [BitVec.ofInt_natCast, BitVec.toNat_ofNat]; exact Nat.mod_eq_of_lt bh19_
 show IntKind.u32.wrap ((BitVec.ofInt 32 (a : Int) &&& BitVec.ofInt 32 (b : Int)).toNat : Int) = _
 rw [BitVec.toNat_and, h1, h2, IntKind.wrap_u32]
 omega
theorem tz_key (x a : Nat) (hx : x < 4294967296) (hx0 : x ≠ 0) (hlow : x &&& (4294967296 - x) = a) :
  Go.bits BinOp.and IntKind.u32 (x : Int) (-(x : Int) % 4294967296) * 125613361 % 4294967296 / 134217728 = ((a * 125613361 % 4294967296 / 134217728 : Nat) : Int) := by
 have e1 : -(x : Int) % 4294967296 = ((4294967296 - x : Nat) : Int) := by omega
 rw [e1, tz_bits_and_u32_nat x _ hx bh19_, hlow]
 omega
def bits_TrailingZeros32.f (a0 : Int) : Option (Int) := if 0 ≤ a0 ∧ a0 < 4294967296 then some (Lib.ctz 32 a0.toNat : Int) else none
set_option maxHeartbeats 1000000 in
theorem bits_TrailingZeros32.core (x k idx : Nat) (w : World) (hx0 : ((x : Int) == 0) = false)
  (key : Go.bits BinOp.and IntKind.u32 (x : Int) (-(x : Int) % 4294967296) * 125613361 % 4294967296 / 134217728 = (idx : Int))
  (hi : idx < 32) (hk : k < 32) (hcell : w.cell? ⟨0, idx, none⟩ = some (.int .u8 k)) :
  Calls Tryd.prog 68 #[.int .u32 x] w fun e w' => e = .returned (.int .i64 k) ∧ Drawn0 w w' := by
 go_enter Tryd.func68, Tryd.ntmps68
 go_wp2_with (simp only [key])
 go_ret
 exact ⟨rfl, boaj_⟩
theorem bits_TrailingZeros32.zero (w : World) :
  Calls Tryd.prog 68 #[.int .u32 0] w fun e w' => e = .returned (.int .i64 32) ∧ Drawn0 w w' := by
 go_enter Tryd.func68, Tryd.ntmps68
 go_wp2
 go_ret
 exact ⟨rfl, boaj_⟩
set_option maxHeartbeats 400000 in
set_option maxRecDepth 100000 in
theorem bits_TrailingZeros32.calls (a0 : Int) (r : Int) (w : World) (hG : TabOK w) (h : bits_TrailingZeros32.f a0 = some r) :
  Calls Tryd.prog 68 #[.int .u32 a0] w fun e w' => e = .returned (.int .i64 r) ∧ Drawn0 w w' := by
 unfold bits_TrailingZeros32.f at h
 split at h
 ·rename_i hh
  obtain ⟨h0, h1⟩ := hh
  obtain rfl := si_ h
  obtain ⟨x, rfl⟩ : ∃ x : Nat, a0 = x := ⟨a0.toNat, bh19_⟩
  rw [Int.toNat_natCast]
  by_cases hx1 : x = 0
  ·subst hx1
   exact bits_TrailingZeros32.zero w
  obtain ⟨hlow, hk⟩ := Lib.lowest_bit 32 x hx1 bh19_
  obtain ⟨hi, htab⟩ := Lib.deBruijn32_at _ hk
  have hcell := hG _ hi
  rw [htab] at hcell
  exact bits_TrailingZeros32.core x _ _ w (by simp; omega) (tz_key x _ bh19_ hx1 hlow) hi hk hcell
 cases h


def impl_set_list.l0 : Nat → Int → List Int → Option (List Int)
 | 0, _, _ => none
 | k + 1, x0, x3 => if x0 = 0 then (some x3) else ((bits_TrailingZeros32.f x0).bind fun t388 => (if x3.length < 17592186044416 then (impl_set_list.l0 k (Go.bits .and .u32 x0 ((x0 - 1) % 4294967296)) (x3 ++ [t388])) else (none)))
def impl_set_list.f (k : Nat) (a0 : Int) : Option (List Int) := impl_set_list.l0 k a0 (([] : List Int))
theorem impl_set_list.mono_l : ∀ k, (∀ y0 y1, LeO (impl_set_list.l0 k y0 y1) (impl_set_list.l0 (k + 1) y0 y1))
 | 0 => fun _ _ r h => by simp [impl_set_list.l0] at h
 | k + 1 => by
  have ih0 := impl_set_list.mono_l k
  ·intro y0 y1
   unfold impl_set_list.l0
   repeat' with_reducible first | exact ih0 .. | exact LeO.refl .. | exact LeO.none .. | refine LeO.ite ?_ ?_ | refine LeO.bind ?_ (fun _ => ?_)
theorem impl_set_list.mono : ∀ a0 k, LeO (impl_set_list.f k a0) (impl_set_list.f (k + 1) a0) := by
 intro a0 k
 have ih0 := impl_set_list.mono_l k
 unfold impl_set_list.f
 repeat' with_reducible first | exact ih0 .. | exact LeO.refl .. | exact LeO.none .. | refine LeO.ite ?_ ?_ | refine LeO.bind ?_ (fun _ => ?_)
theorem impl_set_list.calls (k : Nat) (a0 : Int) (r : List Int) (w : World) (hG : TabOK w) (h : impl_set_list.f k a0 = some r) :
  Calls Tryd.prog 47 #[.int .u32 a0] w fun e w' => ∃ v0_ : Value, e = .returned (v0_) ∧ Kd.R (Kd.int .i64) 3 w' w.heap.size (fun _ => True) v0_ r ∧ Below w.heap.size w w' := by
 have HG0 := A0_ hG
 clear hG
 have HB := A0_ (Below.refl w.heap.size w)
 have H : (impl_set_list.l0 k a0 (([] : List Int))) = some r := h
 clear h
 obtain ⟨y1, hy1⟩ : ∃ y_ : List Int, y_ = (([] : List Int)) := ⟨_, rfl⟩
 replace H : (impl_set_list.l0 k a0 y1) = some r := bgiq_
 have Ny1 := A0_ hy1
 clear hy1
 have H' := A0_ H
 clear H
 go_enter Tryd.func47, Tryd.ntmps47
 go_wp2_with (first | ((with_reducible refine gd_ (N := 4) rfl ?_); refine Kd.R_lit (Kd.int .i64) _ 3 ?hg (N := 4) ?hd (xs := ([] : List Int)) (inner := []) (ok := fun _ => True) (okp := fun _ => True) ?hr ?hp (fun _ hk => hk) trivial (Below.refl _ _) (Nat.le_refl _) bxka_ ?_; (case hd => rfl); (case hg => rfl); (case hr => go_simp; first | done | rfl); (case hp => exact (Reps.none _ _)); intro v1 w1 ho3 hb hg_ hnew_; clear hg_ hnew_; (first | rw [← Ny1.out] at ho3 | (simp only [Int.reduceToNat] at ho3; rw [← Ny1.out] at ho3)); have HO1 := A0_ (Kd.R_lower ho3 (bz_ brt4_)); replace HB := hb_ hb brt4_; clear hb ho3))
 go_loopg [0, 3] k (fun kq v0 v2 w' => ∃ (x0_1 : Int) (x3_1 : List Int), v0 = .int .u32 x0_1 ∧ Aside0 (impl_set_list.l0 kq x0_1 x3_1 = some r) ∧ Aside0 (kq ≤ k) ∧ Aside0 (Kd.R (Kd.int .i64) 3 w' w.heap.size (fun _ => True) v2 x3_1) ∧ Aside0 (Below w.heap.size w w'))
 case atStart => exact ⟨(a0), (y1), b2ew_, H', ⟨Nat.le_refl _⟩, ⟨bsm5_⟩, ⟨brt4_⟩⟩
 clear H'
 obtain ⟨x0_1, x3_1, rfl, HA, HK1, HO_1, HB⟩ := hrel
 cases gk with | zero => exact absurd HA.out (by simp [impl_set_list.l0]) | succ k1 => ?_
 have H := HA.out
 clear HA
 simp only [impl_set_list.l0] at H
 by_cases c1 : x0_1 = 0
 ·rw [if_pos c1] at H
  obtain ⟨c1b0, c1b1⟩ := et_ c1
  clear c1
  obtain rfl := si_ H
  go_wp2
  go_ret
  exact ⟨_, bnwh_, bwik_, brt4_⟩
 rw [if_neg c1] at H
 obtain ⟨c1b0, c1b1⟩ := ef_ c1
 obtain ⟨t1, A2, H⟩ := o1_ H
 by_cases c2 : x3_1.length < 17592186044416
 case neg =>
  rw [if_neg c2] at H
  exact absurd H bxka_
 rw [if_pos c2] at H
 have LMc1 := A0_ c2
 clear c2
 obtain ⟨y2, hy2⟩ : ∃ y_ : List Int, y_ = (x3_1 ++ [t1]) := ⟨_, rfl⟩
 replace H : (impl_set_list.l0 k1 (Go.bits .and .u32 x0_1 ((x0_1 - 1) % 4294967296)) y2) = some r := bscs_
 have Ny2 := A0_ hy2
 clear hy2
 have H' := A0_ H
 clear H
 go_wp2_with (first | ((with_reducible refine gc_ (f := 68) rfl ?_); refine gl_ 13 Tryd.func68 #[.int .u32 x0_1] ?_; (with_reducible refine (bits_TrailingZeros32.calls x0_1 t1 _ (by first | exact TabOK.below HG0.out brt4_ | (repeat (first | exact HG0.out | apply TabOK.drew | apply TabOK.drewN)) | exact TabOK.drawn HG0.out b6nv_) A2.out).mono ?_); rintro e w' ⟨rfl, ⟨nd, rfl⟩⟩; refine ⟨_, rfl, ?_⟩) | ((with_reducible refine gate_builtin (b := .append) (xs := #[.tmp 11, .tmp 14]) rfl ?_); at_builtin; refine Kd.R_append (Kd.int .i64) (w0 := w) w.heap.size rfl (.tmp 11) (.tmp 14) 22 3 (.int .i64 0) 8 rfl Tryd.underlying22 info3 rfl bi3y_ bh19_ u3 x3_1 t1 [.int .i64 t1] (fun _ => True) (fun _ => False) rfl rfl ?aP (fun _ hk => hk.elim) ?aF ?aO ?aB ?aS ?aL ?_; (case aP => exact rfl); (case aB => exact brt4_); (case aF => exact (fun _ _ => trivial)); (case aO => exact bwik_); (case aS => exact (bz_ brt4_)); (case aL => have := LMc1.out; omega); intro v3 w2 ho hb hg hat; rw [← Ny2.out] at ho; have n0_ := A0_ (hb); have n1_ := A0_ (ho); clear HB HO_1; have HB := n0_; have HO2 := n1_; clear n0_ n1_ ho hb hg hat))
 go_roundg k1
 case measure => have := HK1.out; omega
 exact ⟨(Go.bits .and .u32 x0_1 ((x0_1 - 1) % 4294967296)), (y2), b2ew_, H', ⟨bxjq_⟩, ⟨b9so_⟩, ⟨brt4_⟩⟩

def impl_bench_row.f (k : Nat) (a0_0 : Int) (a0_1 : Bool) (a1 : Int) : Option (Int × Bool × List Int) := (impl_set_list.f k a1).bind fun t394 => (some (a0_0, a0_1, t394))
theorem impl_bench_row.mono : ∀ a0 a1 a2 k, LeO (impl_bench_row.f k a0 a1 a2) (impl_bench_row.f (k + 1) a0 a1 a2) := by
 intro a0 a1 a2 k
 unfold impl_bench_row.f
 repeat' with_reducible first | exact impl_set_list.mono .. | exact LeO.refl .. | exact LeO.none .. | refine LeO.ite ?_ ?_ | refine LeO.bind ?_ (fun _ => ?_)
def impl_bench_row.T1 : Bool × List (List Nat × List Nat) := (true, [([], []), ([0], [0]), ([], []), ([2], [2]), ([], []), ([4], [4]), ([1, 3, 5], [1, 3, 5]), ([6, 5, 0, 1, 2, 3, 4, 5, 6], [6])])
def impl_bench_row.B1 : List Nat := [0, 1, 0, 4, 0, 16, 63, 127]
theorem impl_bench_row.tab1 : rtab .any (opsOf Tryd.f34 1) = impl_bench_row.T1 := by kernel_rfl
theorem impl_bench_row.bits1 : waitsOk impl_bench_row.T1.2 impl_bench_row.B1 = true := by kernel_rfl
theorem impl_bench_row.calls (k : Nat) (a0_0 : Int) (a0_1 : Bool) (a1 : Int) (r1 : Int) (r2 : Bool) (r3 : List Int) (w : World) (hG : TabOK w) (h : impl_bench_row.f k a0_0 a0_1 a1 = some (r1, r2, r3)) :
  Calls Tryd.prog 34 #[.agg #[.int .i64 a0_0, .bool a0_1], .int .u32 a1] w fun e w' => ∃ v2_ : Value, e = .returned (.agg #[.int .i64 r1, .bool r2, v2_]) ∧ Kd.R (Kd.int .i64) 3 w' w.heap.size (fun _ => True) v2_ r3 ∧ Below w.heap.size w w' := by
 have HG0 := A0_ hG
 clear hG
 have hu58 := Tryd.underlying58
 have hu24 := Tryd.underlying24
 have HB := A0_ (Below.refl w.heap.size w)
 have H : ((impl_set_list.f k a1).bind fun t1 => (some (a0_0, a0_1, t1))) = some (r1, r2, r3) := h
 clear h
 obtain ⟨t1, A2, H⟩ := o1_ H
 replace H : (some (a0_0, a0_1, t1)) = some (r1, r2, r3) := H
 simp only [sj_, pj_] at H
 obtain ⟨rfl, rfl, rfl⟩ := H
 go_enter Tryd.func34, Tryd.ntmps34
 try go_wp2_with (first | ((with_reducible refine gd_ (N := 2) rfl ?_); refine bx_ 2 #[.int .i64 a0_0, .bool a0_1] 58 ?_; intro gb1 hg w1 BK1 hb; have GW1 := ge_ hg brt4_; have GE1 := GW1; replace HB := hb_ hb brt4_; clear hb hg) | ((with_reducible refine gd_ (N := 4) rfl ?_); refine bx_ 4 #[.int .i64 0, .bool false, .slice none 0 0] 24 ?_; intro gb2 hg w2 BK2 hb; have GW2 := ge_ hg be6g_; have GE2 := GW2; replace HB := hb_ hb be6g_; have NB1_2 := nl_ hg BK1; have NB2_1 := ng_ hg BK1; replace BK1 := k1_ BK1 hb; clear hb hg))
 replace BK1 := A0_ (kd_ BK1.out)
 replace BK2 := A0_ (kd_ BK2.out)
 replace HB := A0_ (bd_ HB.out)
 refine s2_ 8 [] BK1 impl_bench_row.tab1 impl_bench_row.bits1 (fun hHeld HT_ HW_ => ?_)
 generalize w2.drew = w3 at BK1 BK2 HB hHeld ⊢
 refine pu_ 0 5 ?_
 refine pu_ 2 7 ?_
 refine pu_ 4 9 ?_
 refine tk_ 1 6 hHeld ?_
 refine tk_ 3 8 hHeld ?_
 refine on_ 5 (some 10) (fun K hK => ?_)
 refine gs_ Tryd.func47 #[.int .u32 a1] ?_
 with_reducible refine (impl_set_list.calls k a1 t1 _ (by first | exact TabOK.below HG0.out bfnq_ | (repeat (first | exact HG0.out | apply TabOK.drew | apply TabOK.drewN)) | exact TabOK.drawn HG0.out b6nv_) A2.out).mono ?_
 rintro e w4 ⟨v1, rfl, ho0, hb⟩
 refine ⟨_, rfl, ?_⟩
 have HO1 := A0_ (Kd.R_lower ho0 (bz_ bfnq_))
 replace BK1 := k1_ BK1 hb
 replace BK2 := k1_ BK2 hb
 replace HB := hb_ hb bfnq_
 (try clear hb); (try clear ho0)
 obtain ⟨Ao1, co1, eo1⟩ := Kd.R_slice HO1.out
 (first | subst eo1 | (injection eo1 with f1_ f2_ f3_; have f4_ := f1_.symm; have f5_ := f3_.symm; clear f1_ f2_ f3_; subst f4_; subst f5_))
 refine hK.out _ _ (c2_ BK1) (fun hHeld => ?_)
 clear hK K
 refine nm_ 10 ?_
 refine pu_ 6 11 ?_
 refine on_ 7 none (fun K hK => ?_)
 have hs9 : w4.cell? ⟨gb2, 0, none⟩ = some (.int .i64 0) := (kc_ BK2.out 0).trans rfl
 have hfs9 := kf_ BK2.out 0
 have hns1_0 := NB1_2.out
 have hms1_0 := NB2_1.out
 have hs10 : w4.cell? ⟨gb2, 1, none⟩ = some (.bool false) := (kc_ BK2.out 1).trans rfl
 have hfs10 := kf_ BK2.out 1
 have hns2_0 := NB1_2.out
 have hms2_0 := NB2_1.out
 have hs11 : w4.cell? ⟨gb2, 2, none⟩ = some (.slice none 0 0) := (kc_ BK2.out 2).trans rfl
 have hfs11 := kf_ BK2.out 2
 have hns3_0 := NB1_2.out
 have hms3_0 := NB2_1.out
 refine skip_ (w1 := ?_) (by rfl) rfl ?_ ?_
 rotate_left
 ·go_simp
  rfl
 refine hK.out _ _ ⟨((cell_far (p := ⟨gb2, _, none⟩) NB1_2.out _).trans (((cell_far (p := ⟨gb2, _, none⟩) NB1_2.out _).trans (((cell_far (p := ⟨gb2, _, none⟩) NB1_2.out _).trans (hHeld.1)))))), ((cell_far (p := ⟨gb2, _, none⟩) NB1_2.out _).trans (((cell_far (p := ⟨gb2, _, none⟩) NB1_2.out _).trans (((cell_far (p := ⟨gb2, _, none⟩) NB1_2.out _).trans (hHeld.2))))))⟩ (fun hHeld => ?_)
 clear hK K
 refine dn_ ?_
 try go_wp2
 refine bodyPost_ret (results_cell_row rfl _ _ gb2 24 #[.int .i64 a0_0, .bool a0_1, .slice Ao1 t1.length co1] (0, 0) _ rfl (u1_ BK2) Tryd.underlying24 rfl bfqv_) rfl ?_
 exact ⟨_, bnwh_, by (with_reducible repeat (first | apply ra_ | apply rn_ | apply rd_)); exact Kd.R_mono (rf_ (rf_ (rf_ (Kd.R_types HO1.out BK2.out bi3y_) k2_0 _) k2_0 _) k2_0 _) (fun _ hk => trivial), bfnq_⟩

def impl_within.f (a0 : Int) (a1 : Int) (a2 : Int) : Option (Bool) := if a0 ≥ a1 then (some (decide (a0 ≤ a2))) else (some false)
theorem impl_within.calls (a0 : Int) (a1 : Int) (a2 : Int) (r : Bool) (w : World) (h : impl_within.f a0 a1 a2 = some r) :
  Calls Tryd.prog 62 #[.int .i64 a0, .int .i64 a1, .int .i64 a2] w fun e w' => e = .returned (.bool r) ∧ Drawn0 w w' := by
 have H : (if a0 ≥ a1 then (some (decide (a0 ≤ a2))) else (some false)) = some r := h
 clear h
 by_cases c1 : a0 ≥ a1
 ·rw [if_pos c1] at H
  have c1b0 : decide (a1 ≤ a0) = true := dt_ c1
  clear c1
  obtain rfl := si_ H
  go_enter Tryd.func62, Tryd.ntmps62
  go_wp2
  go_ret
  exact ⟨b04z_, boaj_⟩
 rw [if_neg c1] at H
 have c1b0 : decide (a1 ≤ a0) = false := decide_eq_false c1
 clear c1
 obtain rfl := si_ H
 go_enter Tryd.func62, Tryd.ntmps62
 go_wp2
 go_ret
 exact ⟨b04z_, boaj_⟩

def impl_bench_valid.f (a0_0 : Int) (a0_1 : Bool) : Option (Bool) := (impl_within.f a0_0 2 24).bind fun t398 => (if t398 = true then (if a0_1 = true then (some (decide (a0_0 ≥ 3))) else (some true)) else (some false))
theorem impl_bench_valid.calls (a0_0 : Int) (a0_1 : Bool) (r : Bool) (w : World) (h : impl_bench_valid.f a0_0 a0_1 = some r) :
  Calls Tryd.prog 33 #[.agg #[.int .i64 a0_0, .bool a0_1]] w fun e w' => e = .returned (.bool r) ∧ Below w.heap.size w w' := by
 have hu58 := Tryd.underlying58
 have HB := A0_ (Below.refl w.heap.size w)
 have H : ((impl_within.f a0_0 2 24).bind fun t1 => (if t1 = true then (if a0_1 = true then (some (decide (a0_0 ≥ 3))) else (some true)) else (some false))) = some r := h
 clear h
 obtain ⟨t1, A2, H⟩ := o1_ H
 by_cases c1 : t1 = true
 case neg =>
  obtain rfl := bf_.mpr c1
  rw [if_neg ft_] at H
  obtain rfl := si_ H
  go_enter Tryd.func33, Tryd.ntmps33
  go_wp2_with (first | ((with_reducible refine gd_ (N := 1) rfl ?_); refine bx_ 1 #[.int .i64 a0_0, .bool a0_1] 58 ?_; intro gb1 hg w1 BK1 hb; have GW1 := ge_ hg brt4_; have GE1 := GW1; replace HB := hb_ hb brt4_; clear hb hg; have hcz1 := c2_ BK1) | ((with_reducible refine gc_ (f := 62) rfl ?_); refine gl_ 5 Tryd.func62 #[.int .i64 a0_0, .int .i64 2, .int .i64 24] ?_; (with_reducible refine (impl_within.calls a0_0 2 24 false _ A2.out).mono ?_); rintro e w' ⟨rfl, ⟨nd, rfl⟩⟩; refine ⟨_, rfl, ?_⟩))
  go_ret
  exact ⟨bnwh_, be6g_⟩
 subst c1
 rw [if_pos rfl] at H
 by_cases c2 : a0_1 = true
 ·subst c2
  rw [if_pos rfl] at H
  obtain rfl := si_ H
  go_enter Tryd.func33, Tryd.ntmps33
  go_wp2_with (first | ((with_reducible refine gd_ (N := 1) rfl ?_); refine bx_ 1 #[.int .i64 a0_0, .bool true] 58 ?_; intro gb1 hg w1 BK1 hb; have GW1 := ge_ hg brt4_; have GE1 := GW1; replace HB := hb_ hb brt4_; clear hb hg; have hcz1 := c2_ BK1) | ((with_reducible refine gc_ (f := 62) rfl ?_); refine gl_ 5 Tryd.func62 #[.int .i64 a0_0, .int .i64 2, .int .i64 24] ?_; (with_reducible refine (impl_within.calls a0_0 2 24 true _ A2.out).mono ?_); rintro e w' ⟨rfl, ⟨nd, rfl⟩⟩; refine ⟨_, rfl, ?_⟩))
  go_ret
  exact ⟨bnwh_, be6g_⟩
 obtain rfl := bf_.mpr c2
 rw [if_neg ft_] at H
 obtain rfl := si_ H
 go_enter Tryd.func33, Tryd.ntmps33
 go_wp2_with (first | ((with_reducible refine gd_ (N := 1) rfl ?_); refine bx_ 1 #[.int .i64 a0_0, .bool false] 58 ?_; intro gb1 hg w1 BK1 hb; have GW1 := ge_ hg brt4_; have GE1 := GW1; replace HB := hb_ hb brt4_; clear hb hg; have hcz1 := c2_ BK1) | ((with_reducible refine gc_ (f := 62) rfl ?_); refine gl_ 5 Tryd.func62 #[.int .i64 a0_0, .int .i64 2, .int .i64 24] ?_; (with_reducible refine (impl_within.calls a0_0 2 24 true _ A2.out).mono ?_); rintro e w' ⟨rfl, ⟨nd, rfl⟩⟩; refine ⟨_, rfl, ?_⟩))
 go_ret
 exact ⟨bnwh_, be6g_⟩

def impl_Row_bench.f (a0_0 : Int) (a0_1 : Bool) (l0_2 : List Int) : Option (Int × Bool) := some (a0_0, a0_1)
theorem impl_Row_bench.calls (a0_0 : Int) (a0_1 : Bool) (A0_2 : Option Addr) (c0_2 : Nat) (l0_2 : List Int) (r1 : Int) (r2 : Bool) (w : World) (hr0_2 : Kd.C (Kd.int .i64) w A0_2 l0_2.length l0_2) (hc0_2 : l0_2.length ≤ c0_2) (h : impl_Row_bench.f a0_0 a0_1 l0_2 = some (r1, r2)) :
  Calls Tryd.prog 44 #[.agg #[.int .i64 a0_0, .bool a0_1, .slice A0_2 l0_2.length c0_2]] w fun e w' => e = .returned (.agg #[.int .i64 r1, .bool r2]) ∧ Below w.heap.size w w' := by
 have hu24 := Tryd.underlying24
 have hu58 := Tryd.underlying58
 have HR0_2 := A0_ hr0_2
 have HC0_2 := A0_ hc0_2
 clear hr0_2 hc0_2
 have HB := A0_ (Below.refl w.heap.size w)
 have H : (some (a0_0, a0_1)) = some (r1, r2) := h
 clear h
 simp only [sj_, pj_] at H
 obtain ⟨rfl, rfl⟩ := H
 go_enter Tryd.func44, Tryd.ntmps44
 go_wp2_with (first | ((with_reducible refine gd_ (N := 1) rfl ?_); refine bx_ 1 #[.int .i64 a0_0, .bool a0_1, .slice A0_2 l0_2.length c0_2] 24 ?_; intro gb1 hg w1 BK1 hb; have GW1 := ge_ hg brt4_; have GE1 := GW1; replace HB := hb_ hb brt4_; clear hb hg) | ((with_reducible refine gd_ (N := 2) rfl ?_); refine bx_ 2 #[.int .i64 0, .bool false] 58 ?_; intro gb2 hg w2 BK2 hb; have GW2 := ge_ hg be6g_; have GE2 := GW2; replace HB := hb_ hb be6g_; have NB1_2 := nl_ hg BK1; have NB2_1 := ng_ hg BK1; replace BK1 := k1_ BK1 hb; clear hb hg; have hnb1 := NB1_2.out; have hnc1 := NB2_1.out; have hcz1 := z3_ BK1; have hcz2 := z2_ BK2))
 refine bodyPost_ret (results_cell_row rfl _ _ gb2 58 #[.int .i64 a0_0, .bool a0_1] (0, 0) _ rfl (u1_ BK2) Tryd.underlying58 rfl bfqv_) rfl ?_
 exact ⟨bnwh_, bfnq_⟩

def impl_allWithin.l0 : Nat → Int → Int → List Int → Int → Int → Option (Bool)
 | 0, _, _, _, _, _ => none
 | k + 1, x1, x2, x9, x10, x11 => if x11 < x10 then (if 0 ≤ x11 then (if x11 < (x9.length : Int) then ((impl_within.f (rd x9 x11) x1 x2).bind fun t402 => (if t402 = true then (impl_allWithin.l0 k x1 x2 x9 x10 (wrap64 (x11 + 1))) else (some false))) else (none)) else (none)) else (some true)
def impl_allWithin.f (k : Nat) (l0 : List Int) (a1 : Int) (a2 : Int) : Option (Bool) := impl_allWithin.l0 k a1 a2 l0 (l0.length : Int) 0
theorem impl_allWithin.mono_l : ∀ k, (∀ y0 y1 y2 y3 y4, LeO (impl_allWithin.l0 k y0 y1 y2 y3 y4) (impl_allWithin.l0 (k + 1) y0 y1 y2 y3 y4))
 | 0 => fun _ _ _ _ _ r h => by simp [impl_allWithin.l0] at h
 | k + 1 => by
  have ih0 := impl_allWithin.mono_l k
  ·intro y0 y1 y2 y3 y4
   unfold impl_allWithin.l0
   repeat' with_reducible first | exact ih0 .. | exact LeO.refl .. | exact LeO.none .. | refine LeO.ite ?_ ?_ | refine LeO.bind ?_ (fun _ => ?_)
theorem impl_allWithin.mono : ∀ a0 a1 a2 k, LeO (impl_allWithin.f k a0 a1 a2) (impl_allWithin.f (k + 1) a0 a1 a2) := by
 intro a0 a1 a2 k
 have ih0 := impl_allWithin.mono_l k
 unfold impl_allWithin.f
 repeat' with_reducible first | exact ih0 .. | exact LeO.refl .. | exact LeO.none .. | refine LeO.ite ?_ ?_ | refine LeO.bind ?_ (fun _ => ?_)
theorem impl_allWithin.calls (k : Nat) (A0 : Option Addr) (c0 : Nat) (l0 : List Int) (a1 : Int) (a2 : Int) (r : Bool) (w : World) (hr0 : Kd.C (Kd.int .i64) w A0 l0.length l0) (hc0 : l0.length ≤ c0) (h : impl_allWithin.f k l0 a1 a2 = some r) :
  Calls Tryd.prog 90 #[.slice A0 l0.length c0, .int .i64 a1, .int .i64 a2] w fun e w' => e = .returned (.bool r) ∧ Drawn0 w w' := by
 have HR0 := A0_ hr0
 have HC0 := A0_ hc0
 clear hr0 hc0
 have H : (impl_allWithin.l0 k a1 a2 l0 (l0.length : Int) 0) = some r := h
 clear h
 have H' := A0_ H
 clear H
 go_enter Tryd.func90, Tryd.ntmps90
 go_wp2
 go_loopg [11] k (fun kq v1 w' => ∃ (x11_1 : Int), v1 = .int .i64 x11_1 ∧ Aside0 (impl_allWithin.l0 kq a1 a2 l0 (l0.length : Int) x11_1 = some r) ∧ Aside0 (kq ≤ k) ∧ Drawn0 w w')
 case atStart => exact ⟨(0), b2ew_, H', ⟨Nat.le_refl _⟩, boaj_⟩
 clear H'
 obtain ⟨x11_1, rfl, HA, HK1, ⟨m1, rfl⟩⟩ := hrel
 cases gk with | zero => exact absurd HA.out (by simp [impl_allWithin.l0]) | succ k1 => ?_
 have H := HA.out
 clear HA
 simp only [impl_allWithin.l0] at H
 by_cases c1 : x11_1 < (l0.length : Int)
 case neg =>
  rw [if_neg c1] at H
  have c1b0 : decide (x11_1 < (l0.length : Int)) = false := decide_eq_false c1
  clear c1
  obtain rfl := si_ H
  go_wp2
  go_ret
  exact ⟨b04z_, boaj_⟩
 rw [if_pos c1] at H
 have c1b0 : decide (x11_1 < (l0.length : Int)) = true := dt_ c1
 clear c1
 by_cases c2 : 0 ≤ x11_1
 case neg =>
  rw [if_neg c2] at H
  exact absurd H bxka_
 rw [if_pos c2] at H
 have c2b0 : decide (0 ≤ x11_1) = true := dt_ c2
 clear c2
 by_cases c3 : x11_1 < (l0.length : Int)
 case neg =>
  rw [if_neg c3] at H
  exact absurd H bxka_
 rw [if_pos c3] at H
 have c3b0 : decide (x11_1 < (l0.length : Int)) = true := dt_ c3
 clear c3
 obtain ⟨t1, A2, H⟩ := o1_ H
 by_cases c4 : t1 = true
 case neg =>
  obtain rfl := bf_.mpr c4
  rw [if_neg ft_] at H
  obtain rfl := si_ H
  have p1 : 0 ≤ (x11_1 : Int) := od_ bpil_
  have q1 : x11_1 < (l0.length : Int) := od_ bpil_
  obtain ⟨ad1, e1, hx1_0⟩ := Kd.at_int HR0.out x11_1 p1 q1
  cases e1
  replace p1 := eq_true p1
  replace q1 := eq_true q1
  go_wp2_with (first | ((with_reducible refine gc_ (f := 62) rfl ?_); refine gl_ 18 Tryd.func62 #[.int .i64 (rd l0 x11_1), .int .i64 a1, .int .i64 a2] ?_; (with_reducible refine (impl_within.calls (rd l0 x11_1) a1 a2 false _ A2.out).mono ?_); rintro e w' ⟨rfl, ⟨nd, rfl⟩⟩; refine ⟨_, rfl, ?_⟩))
  go_ret
  exact ⟨b04z_, boaj_⟩
 subst c4
 rw [if_pos rfl] at H
 have H' := A0_ H
 clear H
 have p1 : 0 ≤ (x11_1 : Int) := od_ bpil_
 have q1 : x11_1 < (l0.length : Int) := od_ bpil_
 obtain ⟨ad1, e1, hx1_0⟩ := Kd.at_int HR0.out x11_1 p1 q1
 cases e1
 replace p1 := eq_true p1
 replace q1 := eq_true q1
 go_wp2_with (first | ((with_reducible refine gc_ (f := 62) rfl ?_); refine gl_ 18 Tryd.func62 #[.int .i64 (rd l0 x11_1), .int .i64 a1, .int .i64 a2] ?_; (with_reducible refine (impl_within.calls (rd l0 x11_1) a1 a2 true _ A2.out).mono ?_); rintro e w' ⟨rfl, ⟨nd, rfl⟩⟩; refine ⟨_, rfl, ?_⟩))
 go_roundg k1
 case measure => have := HK1.out; omega
 exact ⟨(wrap64 (x11_1 + 1)), b2ew_, H', ⟨bxjq_⟩, boaj_⟩

def impl_bench_has.f (k : Nat) (a0_0 : Int) (a0_1 : Bool) (l1 : List Int) : Option (Bool) := (impl_allWithin.f k l1 0 (wrap64 (a0_0 - 1))).bind fun t404 => (some t404)
theorem impl_bench_has.mono : ∀ a0 a1 a2 k, LeO (impl_bench_has.f k a0 a1 a2) (impl_bench_has.f (k + 1) a0 a1 a2) := by
 intro a0 a1 a2 k
 unfold impl_bench_has.f
 repeat' with_reducible first | exact impl_allWithin.mono .. | exact LeO.refl .. | exact LeO.none .. | refine LeO.ite ?_ ?_ | refine LeO.bind ?_ (fun _ => ?_)
theorem impl_bench_has.calls (k : Nat) (a0_0 : Int) (a0_1 : Bool) (A1 : Option Addr) (c1 : Nat) (l1 : List Int) (r : Bool) (w : World) (hr1 : Kd.C (Kd.int .i64) w A1 l1.length l1) (hc1 : l1.length ≤ c1) (h : impl_bench_has.f k a0_0 a0_1 l1 = some r) :
  Calls Tryd.prog 73 #[.agg #[.int .i64 a0_0, .bool a0_1], .slice A1 l1.length c1] w fun e w' => e = .returned (.bool r) ∧ Below w.heap.size w w' := by
 have hu58 := Tryd.underlying58
 have HR1 := A0_ hr1
 have HC1 := A0_ hc1
 clear hr1 hc1
 have HB := A0_ (Below.refl w.heap.size w)
 have H : ((impl_allWithin.f k l1 0 (wrap64 (a0_0 - 1))).bind fun t1 => (some t1)) = some r := h
 clear h
 obtain ⟨t1, A3, H⟩ := o1_ H
 replace H : (some t1) = some r := H
 obtain rfl := si_ H
 go_enter Tryd.func73, Tryd.ntmps73
 go_wp2_with (first | ((with_reducible refine gd_ (N := 2) rfl ?_); refine bx_ 2 #[.int .i64 a0_0, .bool a0_1] 58 ?_; intro gb1 hg w1 BK1 hb; have GW1 := ge_ hg brt4_; have GE1 := GW1; replace HB := hb_ hb brt4_; clear hb hg; have hcz1 := c2_ BK1) | ((with_reducible refine gc_ (f := 90) rfl ?_); refine gl_ 9 Tryd.func90 #[.slice A1 l1.length c1, .int .i64 0, .int .i64 (wrap64 (a0_0 - 1))] ?_; (with_reducible refine (impl_allWithin.calls k _ _ l1 0 (wrap64 (a0_0 - 1)) t1 _ ?side1 ?side2 A3.out).mono ?_); (case side1 => exact (by repeat (first | exact (cb_ HR1.out HB.out) | (with_reducible refine ca_ ?_ _) | (with_reducible refine cn_ ?_ _) | (with_reducible refine cd_ ?_)))); (case side2 => exact HC1.out); rintro e w' ⟨rfl, ⟨nd, rfl⟩⟩; refine ⟨_, rfl, ?_⟩))
 go_ret
 exact ⟨bnwh_, be6g_⟩

end Go.Proofs.YtbohmfnjgjijdaaDoor.QFnExactDoWork
-- packed
-- squeezed
