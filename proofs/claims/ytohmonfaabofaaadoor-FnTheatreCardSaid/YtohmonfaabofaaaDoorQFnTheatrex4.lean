-- Written by px.py, a program of this session, over the kit's printer: some functions have a definition and a proof of this session's own.
import Derived.Test.YtohmonfaabofaaaDoorQFnTheatrex0
import Derived.Test.YtohmonfaabofaaaDoorQFnTheatrex1
import Derived.Test.YtohmonfaabofaaaDoorQFnTheatrex2
import Derived.Test.YtohmonfaabofaaaDoorQFnTheatrex3
namespace Go.Proofs.YtohmonfaabofaaaDoor.QFnTheatre
open Go.RowKit Go.Proofs.YtohmonfaabofaaaDoorW.PrintWords Go.Proofs.YtohmonfaabofaaaDoorW.PrintLast Go.Proofs.YtohmonfaabofaaaDoorW.PrintMore
attribute [local go_sem] max2_int min2_int max_two min_two max_three min_three max_four min_four   -- for this text's walks alone
set_option linter.unusedVariables false
set_option linter.unusedSimpArgs false
set_option maxHeartbeats 8000000
set_option maxRecDepth 100000

def spec_StandsOf.l0 : Nat → List Int → Bool → List Int → Int → Int → Int → Bool → List Int → Option (List Int × Int × Bool)
 | 0, _, _, _, _, _, _, _, _ => none
 | k + 1, x1, x2, x9, x10, x12, x497000, x497001, x497002 => if x12 < (x1.length : Int) then (if 0 ≤ x12 then ((spec_l10Stands.f k x497000 x497001 x497002 (rd x1 x12) x2).bind fun t498 => (if x9.length < 17592186044416 then ((spec_l2With.f k x497000 x497001 x497002 (rd x1 x12)).bind fun bt503 => (spec_StandsOf.l0 k x1 x2 (x9 ++ [t498]) (wrap64 (x10 + t498)) (wrap64 (x12 + 1)) bt503.1 bt503.2.1 bt503.2.2)) else (none))) else (none)) else (some (x9, x10, true))
def spec_StandsOf.f (k : Nat) (a0_0 : Int) (a0_1 : Bool) (l0_2 : List Int) (l1 : List Int) (a2 : Bool) : Option (List Int × Int × Bool) := (some (([] : List Int) : List Int)).bind fun y492 => ((spec_l10Different.f k a0_0 a0_1 l0_2 l1 false).bind fun t495 => (if t495 = true then (spec_StandsOf.l0 k l1 a2 y492 0 0 a0_0 a0_1 l0_2) else (some (y492, 0, false))))
theorem spec_StandsOf.mono_l : ∀ k, (∀ y0 y1 y2 y3 y4 y5 y6 y7, LeO (spec_StandsOf.l0 k y0 y1 y2 y3 y4 y5 y6 y7) (spec_StandsOf.l0 (k + 1) y0 y1 y2 y3 y4 y5 y6 y7))
 | 0 => fun _ _ _ _ _ _ _ _ r h => by simp [spec_StandsOf.l0] at h
 | k + 1 => by
  have ih0 := spec_StandsOf.mono_l k
  ·intro y0 y1 y2 y3 y4 y5 y6 y7
   unfold spec_StandsOf.l0
   repeat' with_reducible first | exact ih0 .. | exact spec_l10Different.mono .. | exact spec_l10Stands.mono .. | exact spec_l2With.mono .. | exact LeO.refl .. | exact LeO.none .. | refine LeO.ite ?_ ?_ | refine LeO.bind ?_ (fun _ => ?_)
theorem spec_StandsOf.mono : ∀ a0 a1 a2 a3 a4 k, LeO (spec_StandsOf.f k a0 a1 a2 a3 a4) (spec_StandsOf.f (k + 1) a0 a1 a2 a3 a4) := by
 intro a0 a1 a2 a3 a4 k
 have ih0 := spec_StandsOf.mono_l k
 unfold spec_StandsOf.f
 repeat' with_reducible first | exact ih0 .. | exact spec_l10Different.mono .. | exact spec_l10Stands.mono .. | exact spec_l2With.mono .. | exact LeO.refl .. | exact LeO.none .. | refine LeO.ite ?_ ?_ | refine LeO.bind ?_ (fun _ => ?_)
def spec_StandsOf.T8 : Bool × List (List Nat × List Nat) := (true, [([], []), ([], []), ([], []), ([1, 2], [1, 2]), ([3], [3]), ([], []), ([0, 4, 5], [0, 4, 5]), ([6, 6, 0, 1, 2, 3, 4, 5, 6], [6])])
def spec_StandsOf.B8 : List Nat := [0, 0, 0, 6, 14, 0, 63, 127]
theorem spec_StandsOf.tab8 : rtab .any (opsOf Tryd.f20 8) = spec_StandsOf.T8 := by kernel_rfl
theorem spec_StandsOf.bits8 : waitsOk spec_StandsOf.T8.2 spec_StandsOf.B8 = true := by kernel_rfl
theorem spec_StandsOf.calls (k : Nat) (a0_0 : Int) (a0_1 : Bool) (P0_2_ : Nat → Prop) (A0_2 : Option Addr) (c0_2 : Nat) (l0_2 : List Int) (A1 : Option Addr) (c1 : Nat) (l1 : List Int) (a2 : Bool) (r1 : List Int) (r2 : Int) (r3 : Bool) (w : World) (hs0_2 : Kd.V (Kd.int .i64) 3 w w.heap.size (fun k_ => P0_2_ k_) (.slice A0_2 l0_2.length c0_2) l0_2) (hr1 : Kd.C (Kd.int .i64) w A1 l1.length l1) (hc1 : l1.length ≤ c1) (h : spec_StandsOf.f k a0_0 a0_1 l0_2 l1 a2 = some (r1, r2, r3)) :
  Calls Tryd.prog 20 #[.agg #[.int .i64 a0_0, .bool a0_1, .slice A0_2 l0_2.length c0_2], .slice A1 l1.length c1, .bool a2] w fun e w' => ∃ v0_ : Value, e = .returned (.tuple #[v0_, .int .i64 r2, .bool r3]) ∧ Kd.R (Kd.int .i64) 3 w' w.heap.size (fun k_ => (w.heap.size ≤ k_)) v0_ r1 ∧ Below w.heap.size w w' := by
 have hu28 := Tryd.underlying28
 have HO1_2 := A0_ (show Kd.V (Kd.int .i64) 3 w w.heap.size (fun k_ => (P0_2_ k_ ∨ w.heap.size ≤ k_)) (.slice A0_2 l0_2.length c0_2) l0_2 from Kd.V_mono hs0_2 (fun k_ hk => .inl hk))
 have HR1 := A0_ hr1
 have HC1 := A0_ hc1
 clear hr1 hc1
 have HB := A0_ (Below.refl w.heap.size w)
 have H : ((some (([] : List Int) : List Int)).bind fun y1 => ((spec_l10Different.f k a0_0 a0_1 l0_2 l1 false).bind fun t1 => (if t1 = true then (spec_StandsOf.l0 k l1 a2 y1 0 0 a0_0 a0_1 l0_2) else (some (y1, 0, false))))) = some (r1, r2, r3) := h
 clear h
 obtain ⟨y1, hy1⟩ : ∃ y_ : List Int, y_ = (([] : List Int)) := ⟨_, rfl⟩
 replace H : ((spec_l10Different.f k a0_0 a0_1 l0_2 l1 false).bind fun t1 => (if t1 = true then (spec_StandsOf.l0 k l1 a2 y1 0 0 a0_0 a0_1 l0_2) else (some (y1, 0, false)))) = some (r1, r2, r3) := bgiq_
 have Ny1 := A0_ hy1
 clear hy1
 obtain ⟨t1, A3, H⟩ := o1_ H
 by_cases c2 : t1 = true
 case neg =>
  obtain rfl := bf_.mpr c2
  rw [if_neg ft_] at H
  simp only [sj_, pj_] at H
  obtain ⟨rfl, rfl, rfl⟩ := H
  go_enter Tryd.func20, Tryd.ntmps20
  go_wp2_with (first | ((with_reducible refine gd_ (N := 3) rfl ?_); refine bx_ 3 #[.int .i64 a0_0, .bool a0_1, .slice A0_2 l0_2.length c0_2] 28 ?_; intro gb1 hg w1 BK1 hb; replace HO1_2 := A0_ (Kd.V_below (Kd.V_elderB bqvv_ gb1 (Nat.le_of_eq hg.symm)) hb); have GW1 := ge_ hg brt4_; have GE1 := GW1; replace HB := hb_ hb brt4_; clear hb hg) | ((with_reducible refine gd_ (N := 14) rfl ?_); refine Kd.R_lit (Kd.int .i64) _ 3 ?hg (N := 14) ?hd (xs := ([] : List Int)) (inner := []) (ok := fun _ => True) (okp := fun _ => True) ?hr ?hp (fun _ hk => hk) trivial (Below.refl _ _) (Nat.le_refl _) bxka_ ?_; (case hd => rfl); (case hg => rfl); (case hr => go_simp; first | done | rfl); (case hp => exact (Reps.none _ _)); intro v1 w2 ho32 hb hg_ hnew_; clear hg_ hnew_; (first | rw [← Ny1.out] at ho32 | (simp only [Int.reduceToNat] at ho32; rw [← Ny1.out] at ho32)); replace HO1_2 := A0_ (Kd.V_elder' bqvv_ (Kd.R_base ho32) hb); have HO2 := A0_ (Kd.R_lower (Kd.R_newM (M := fun k_ => (w.heap.size ≤ k_)) ho32 (bz_ be6g_) (fun k_ h_ => h_)) (bz_ be6g_)); replace BK1 := k1_ BK1 hb; replace HB := hb_ hb be6g_; clear hb ho32; have hcz1 := z3_ BK1) | ((with_reducible refine gc_ (f := 55) rfl ?_); refine gl_ 17 Tryd.func55 #[.agg #[.int .i64 a0_0, .bool a0_1, .slice A0_2 l0_2.length c0_2], .slice A1 l1.length c1, .bool false] ?_; (with_reducible refine (spec_l10Different.calls k a0_0 a0_1 _ _ l0_2 _ _ l1 false false _ ?side1 ?side2 ?side3 ?side4 A3.out).mono ?_); (case side1 => exact b26b_); (case side2 => exact (Kd.V_reads' HO1_2.out).2.1); (case side3 => exact b3d8_); (case side4 => exact HC1.out); rintro e w3 ⟨rfl, hb⟩; refine ⟨_, rfl, ?_⟩; replace HO1_2 := A0_ (Kd.V_below bqvv_ hb); replace HO2 := A0_ (Kd.R_below b9so_ hb); replace BK1 := k1_ BK1 hb; replace HB := hb_ hb be6g_; (try clear hb)))
  go_ret3
  exact ⟨_, bnwh_, b4xb_, be6g_⟩
 subst c2
 rw [if_pos rfl] at H
 have H' := A0_ H
 clear H
 go_enter Tryd.func20, Tryd.ntmps20
 go_wp2_with (first | ((with_reducible refine gd_ (N := 3) rfl ?_); refine bx_ 3 #[.int .i64 a0_0, .bool a0_1, .slice A0_2 l0_2.length c0_2] 28 ?_; intro gb1 hg w1 BK1 hb; replace HO1_2 := A0_ (Kd.V_below (Kd.V_elderB bqvv_ gb1 (Nat.le_of_eq hg.symm)) hb); have GW1 := ge_ hg brt4_; have GE1 := GW1; replace HB := hb_ hb brt4_; clear hb hg) | ((with_reducible refine gd_ (N := 14) rfl ?_); refine Kd.R_lit (Kd.int .i64) _ 3 ?hg (N := 14) ?hd (xs := ([] : List Int)) (inner := []) (ok := fun _ => True) (okp := fun _ => True) ?hr ?hp (fun _ hk => hk) trivial (Below.refl _ _) (Nat.le_refl _) bxka_ ?_; (case hd => rfl); (case hg => rfl); (case hr => go_simp; first | done | rfl); (case hp => exact (Reps.none _ _)); intro v1 w2 ho8 hb hg_ hnew_; clear hg_ hnew_; (first | rw [← Ny1.out] at ho8 | (simp only [Int.reduceToNat] at ho8; rw [← Ny1.out] at ho8)); replace HO1_2 := A0_ (Kd.V_elder' bqvv_ (Kd.R_base ho8) hb); have HO2 := A0_ (Kd.R_lower (Kd.R_newM (M := fun k_ => (w.heap.size ≤ k_)) ho8 (bz_ be6g_) (fun k_ h_ => h_)) (bz_ be6g_)); replace BK1 := k1_ BK1 hb; replace HB := hb_ hb be6g_; clear hb ho8; have hcz1 := z3_ BK1) | ((with_reducible refine gc_ (f := 55) rfl ?_); refine gl_ 17 Tryd.func55 #[.agg #[.int .i64 a0_0, .bool a0_1, .slice A0_2 l0_2.length c0_2], .slice A1 l1.length c1, .bool false] ?_; (with_reducible refine (spec_l10Different.calls k a0_0 a0_1 _ _ l0_2 _ _ l1 false true _ ?side1 ?side2 ?side3 ?side4 A3.out).mono ?_); (case side1 => exact b26b_); (case side2 => exact (Kd.V_reads' HO1_2.out).2.1); (case side3 => exact b3d8_); (case side4 => exact HC1.out); rintro e w3 ⟨rfl, hb⟩; refine ⟨_, rfl, ?_⟩; replace HO1_2 := A0_ (Kd.V_below bqvv_ hb); replace HO2 := A0_ (Kd.R_below b9so_ hb); replace BK1 := k1_ BK1 hb; replace HB := hb_ hb be6g_; (try clear hb); have hcz2 := z3_ BK1) | ((with_reducible refine gd_ (N := 11) rfl ?_); refine bx_ 11 #[.int .i64 0, .bool false, .slice none 0 0] 28 ?_; intro gb2 hg w4 BK2 hb; replace HO1_2 := A0_ (Kd.V_below (Kd.V_elderB bqvv_ gb2 (Nat.le_of_eq hg.symm)) hb); replace HO2 := A0_ (Kd.R_below b9so_ hb); have GW2 := ge_ hg be6g_; have GE2 := GW2; replace HB := hb_ hb be6g_; have NB1_2 := nl_ hg BK1; have NB2_1 := ng_ hg BK1; replace BK1 := k1_ BK1 hb; clear hb hg; have hnb1 := NB2_1.out; have hnc1 := NB1_2.out; have hcz3 := z3_ BK2))
 go_loopg [9, 10, 12] k (fun kq v2 v3 v4 w' => ∃ (x9_1 : List Int) (x10_1 : Int) (x12_1 : Int) (x497000_1 : Int) (x497001_1 : Bool) (x497002_1 : List Int) (u497002 : Value), v3 = .int .i64 x10_1 ∧ v4 = .int .i64 x12_1 ∧ Aside0 (spec_StandsOf.l0 kq l1 a2 x9_1 x10_1 x12_1 x497000_1 x497001_1 x497002_1 = some (r1, r2, r3)) ∧ Aside0 (kq ≤ k) ∧ Aside0 (Kd.R (Kd.int .i64) 3 w' w.heap.size (fun k_ => (w.heap.size ≤ k_)) v2 x9_1) ∧ Aside0 (Kd.V (Kd.int .i64) 3 w' w.heap.size (fun k_ => (P0_2_ k_ ∨ w.heap.size ≤ k_) ∧ no_ v2 k_ ∧ k_ ≠ gb1 ∧ k_ ≠ gb2) (.slice A0_2 l0_2.length c0_2) l0_2) ∧ Aside0 (Kd.V (Kd.int .i64) 3 w' w.heap.size (fun k_ => (P0_2_ k_ ∨ w.heap.size ≤ k_) ∧ no_ v2 k_ ∧ k_ ≠ gb1 ∧ k_ ≠ gb2) u497002 x497002_1) ∧ Aside0 (w'.heap[gb1]? = some (.cells #[.int .i64 a0_0, .bool a0_1, (.slice A0_2 l0_2.length c0_2)] 28 (0, 0))) ∧ Aside0 (w'.heap[gb2]? = some (.cells #[.int .i64 x497000_1, .bool x497001_1, u497002] 28 (0, 0))) ∧ Aside0 (Below w.heap.size w w'))
 case atStart => exact ⟨(y1), (0), (0), (a0_0), (a0_1), (l0_2), (.slice A0_2 l0_2.length c0_2), b2ew_, b2ew_, H', ⟨Nat.le_refl _⟩, ⟨b63k_⟩, ⟨buls_⟩, ⟨buls_⟩, ⟨u1_ BK1⟩, ⟨u1_ BK2⟩, ⟨bfnq_⟩⟩
 clear H'
 try clear c1
 try clear c2
 (try clear hcz2); (try clear hcz3); (try clear hcz1); (try clear hfz2); (try clear hfz3); (try clear hfz1)
 obtain ⟨x9_1, x10_1, x12_1, x497000_1, x497001_1, x497002_1, u497002, rfl, rfl, HA, HK1, HO_1, HO_2, HO_3, BK1, BK2, HB⟩ := hrel
 cases gk with | zero => exact absurd HA.out (by simp [spec_StandsOf.l0]) | succ k1 => ?_
 have H := HA.out
 clear HA
 simp only [spec_StandsOf.l0] at H
 by_cases c3 : x12_1 < (l1.length : Int)
 case neg =>
  rw [if_neg c3] at H
  have c3b0 : decide (x12_1 < (l1.length : Int)) = false := decide_eq_false c3
  clear c3
  simp only [sj_, pj_] at H
  obtain ⟨rfl, rfl, rfl⟩ := H
  go_wp2
  go_ret3
  exact ⟨_, bnwh_, bwik_, bfnq_⟩
 rw [if_pos c3] at H
 have c3b0 : decide (x12_1 < (l1.length : Int)) = true := dt_ c3
 clear c3
 by_cases c4 : 0 ≤ x12_1
 case neg =>
  rw [if_neg c4] at H
  exact absurd H bxka_
 rw [if_pos c4] at H
 have c4b0 : decide (0 ≤ x12_1) = true := dt_ c4
 clear c4
 obtain ⟨t2, A5, H⟩ := o1_ H
 by_cases c5 : x9_1.length < 17592186044416
 case neg =>
  rw [if_neg c5] at H
  exact absurd H bxka_
 rw [if_pos c5] at H
 have LMc1 := A0_ c5
 clear c5
 obtain ⟨y2, hy2⟩ : ∃ y_ : List Int, y_ = (x9_1 ++ [t2]) := ⟨_, rfl⟩
 replace H : ((spec_l2With.f k1 x497000_1 x497001_1 x497002_1 (rd l1 x12_1)).bind fun bt1 => (spec_StandsOf.l0 k1 l1 a2 y2 (wrap64 (x10_1 + t2)) (wrap64 (x12_1 + 1)) bt1.1 bt1.2.1 bt1.2.2)) = some (r1, r2, r3) := bscs_
 have Ny2 := A0_ hy2
 clear hy2
 obtain ⟨⟨t3, t4, t5⟩, A7, H⟩ := o1_ H
 have H' := A0_ H
 clear H
 try go_wp2
 replace HO_1 := A0_ (rd_ HO_1.out)
 replace HO_2 := A0_ (Kd.V_drew HO_2.out)
 replace HO_3 := A0_ (Kd.V_drew HO_3.out)
 replace BK1 := A0_ (kd_ BK1.out)
 replace BK2 := A0_ (kd_ BK2.out)
 replace HB := A0_ (bd_ HB.out)
 have p1 : 0 ≤ (x12_1 : Int) := od_ bpil_
 have q1 : x12_1 < (l1.length : Int) := od_ bpil_
 obtain ⟨ad1, e1, hx1_0⟩ := Kd.at_int HR1.out x12_1 p1 q1
 have hw497_0 := hx1_0
 cases e1
 replace hx1_0 := (HB.out.cell (World.block_lt_of_cell? w _ hx1_0)).trans hx1_0
 replace p1 := eq_true p1
 replace q1 := eq_true q1
 obtain ⟨Ao1, co1, eo1⟩ := Kd.V_slice HO_3.out
 (first | subst eo1 | (injection eo1 with f1_ f2_ f3_; have f4_ := f1_.symm; have f5_ := f3_.symm; clear f1_ f2_ f3_; subst f4_; subst f5_))
 refine start_ (n := 8) (S := fun w' => w'.cell? ⟨gb2, 0, none⟩ = some (.int .i64 x497000_1) ∧ w'.cell? ⟨gb2, 1, none⟩ = some (.bool x497001_1) ∧ w'.cell? ⟨gb2, 2, none⟩ = some (.slice Ao1 x497002_1.length co1) ∧ w'.cell? (ad1.add (x12_1).toNat) = some (.int .i64 (rd l1 x12_1))) (ds := []) #[false, false, false, false, false, false, false, false] bfqv_ rfl rfl ⟨(kc_ BK2.out 0).trans rfl, (kc_ BK2.out 1).trans rfl, (kc_ BK2.out 2).trans rfl, ((HB.out.cell (World.block_lt_of_cell? w _ hw497_0)).trans hw497_0)⟩ (fun hHeld => ?_); refine with_tabW spec_StandsOf.tab8 spec_StandsOf.bits8 (fun HT_ HW_ => ?_)
 generalize wr.drew = w5 at HO_1 HO_2 HO_3 BK1 BK2 HB hx1_0 hHeld ⊢
 refine pu_ 1 28 ?_
 refine pu_ 2 29 ?_
 refine pu_ 3 30 ?_
 refine pu_ 5 32 ?_
 refine tk_ 0 27 hHeld ?_
 refine tk_ 4 31 hHeld ?_
 refine on_ 6 (some 33) (fun K hK => ?_)
 refine gs_ Tryd.func43 #[.agg #[.int .i64 x497000_1, .bool x497001_1, .slice Ao1 x497002_1.length co1], .int .i64 (rd l1 x12_1), .bool a2] ?_
 with_reducible refine (spec_l10Stands.calls k1 x497000_1 x497001_1 _ _ x497002_1 (rd l1 x12_1) a2 t2 _ ?side1 ?side2 A5.out).mono ?_
 (case side1 => exact bpur_)
 (case side2 => exact (Kd.V_reads' HO_3.out).2.1)
 rintro e w6 ⟨rfl, hb⟩
 refine ⟨_, rfl, ?_⟩
 replace HO_1 := A0_ (Kd.R_below bwik_ hb)
 replace HO_2 := A0_ (Kd.V_below b0k3_ hb)
 replace HO_3 := A0_ (Kd.V_below bpxd_ hb)
 replace BK1 := k1_ BK1 hb
 replace BK2 := k1_ BK2 hb
 replace HB := hb_ hb bfnq_
 (try clear hb)
 refine hK.out _ _ ⟨(kc_ BK2.out 0).trans rfl, (kc_ BK2.out 1).trans rfl, (kc_ BK2.out 2).trans rfl, ((HB.out.cell (World.block_lt_of_cell? w _ hw497_0)).trans hw497_0)⟩ (fun hHeld => ?_)
 clear hK K
 refine nm_ 33 ?_
 refine pu_ 7 13 ?_
 refine dn_ ?_
 try go_wp2_with (first | ((with_reducible refine gate_builtin (b := .append) (xs := #[.tmp 34, .tmp 36]) rfl ?_); at_builtin; refine Kd.R_append (Kd.int .i64) (w0 := w) w.heap.size rfl (.tmp 34) (.tmp 36) 22 3 (.int .i64 0) 8 rfl Tryd.underlying22 info3 rfl bi3y_ bh19_ u9 x9_1 t2 [.int .i64 t2] (fun k_ => (w.heap.size ≤ k_)) (fun _ => False) rfl rfl ?aP (fun _ hk => hk.elim) ?aF ?aO ?aB ?aS ?aL ?_; (case aP => exact rfl); (case aB => exact bfnq_); (case aF => exact (fun k_ hk => (Nat.le_trans (bz_ bfnq_) hk))); (case aO => exact bwik_); (case aS => exact (bz_ bfnq_)); (case aL => have := LMc1.out; omega); intro v5 w7 ho hb hg hat; rw [← Ny2.out] at ho; have n0_ := A0_ (Kd.V_afterv (ok := (fun k_ => (P0_2_ k_ ∨ w.heap.size ≤ k_) ∧ k_ ≠ gb1 ∧ k_ ≠ gb2)) ba38_ hg hat); have n1_ := A0_ (Kd.V_afterv (ok := (fun k_ => (P0_2_ k_ ∨ w.heap.size ≤ k_) ∧ k_ ≠ gb1 ∧ k_ ≠ gb2)) bch9_ hg hat); have n2_ := A0_ (blk_grown (g := gb1) (o := .cells #[.int .i64 a0_0, .bool a0_1, .slice A0_2 l0_2.length c0_2] 28 (0, 0)) (u1_ BK1) hg (Kd.R_ne HO_1.out BK1.out bi3y_)); have n3_ := A0_ (blk_grown (g := gb2) (o := .cells #[.int .i64 x497000_1, .bool x497001_1, .slice Ao1 x497002_1.length co1] 28 (0, 0)) (u1_ BK2) hg (Kd.R_ne HO_1.out BK2.out bi3y_)); have n4_ := A0_ (hb); have n5_ := A0_ (ho); clear HO_2 HO_3 BK1 BK2 HB HO_1; have HO_2 := n0_; have HO_3 := n1_; have BK1 := n2_; have BK2 := n3_; have HB := n4_; have HO3 := n5_; clear n0_ n1_ n2_ n3_ n4_ n5_ ho hb hg hat))
 replace HO_2 := A0_ (Kd.V_drew HO_2.out)
 replace HO_3 := A0_ (Kd.V_drew HO_3.out)
 replace HO3 := A0_ (rd_ HO3.out)
 replace BK1 := A0_ (kd_ BK1.out)
 replace BK2 := A0_ (kd_ BK2.out)
 replace HB := A0_ (bd_ HB.out)
 have p2 : 0 ≤ (x12_1 : Int) := od_ bpil_
 have q2 : x12_1 < (l1.length : Int) := od_ bpil_
 obtain ⟨ad2, e2, hx2_0⟩ := Kd.at_int HR1.out x12_1 p2 q2
 have hw502_0 := hx2_0
 obtain rfl : ad1 = ad2 := bs6y_
 replace hx2_0 := (HB.out.cell (World.block_lt_of_cell? w _ hx2_0)).trans hx2_0
 replace p2 := eq_true p2
 replace q2 := eq_true q2
 refine start_ (n := 7) (S := fun w' => w'.cell? ⟨gb2, 0, none⟩ = some (.int .i64 x497000_1) ∧ w'.cell? ⟨gb2, 1, none⟩ = some (.bool x497001_1) ∧ w'.cell? ⟨gb2, 2, none⟩ = some (.slice Ao1 x497002_1.length co1) ∧ w'.cell? (ad1.add (x12_1).toNat) = some (.int .i64 (rd l1 x12_1))) (ds := [6]) #[false, false, false, false, false, false, false] bfqv_ rfl rfl ⟨(kc_ BK2.out 0).trans rfl, (kc_ BK2.out 1).trans rfl, (kc_ BK2.out 2).trans rfl, ((HB.out.cell (World.block_lt_of_cell? w _ hw502_0)).trans hw502_0)⟩ (fun hHeld => ?_)
 generalize w7.drew = w8 at HO_2 HO_3 HO3 BK1 BK2 HB hx2_0 hHeld ⊢
 refine pu_ 1 42 ?_
 refine pu_ 2 43 ?_
 refine pu_ 3 44 ?_
 refine tk_ 0 41 hHeld ?_
 refine tk_ 4 45 hHeld ?_
 refine on_ 5 (some 46) (fun K hK => ?_)
 refine gs_ Tryd.func44 #[.agg #[.int .i64 x497000_1, .bool x497001_1, .slice Ao1 x497002_1.length co1], .int .i64 (rd l1 x12_1)] ?_
 with_reducible refine (spec_l2With.calls k1 x497000_1 x497001_1 _ _ x497002_1 (rd l1 x12_1) t3 t4 t5 _ ?side1 ?side2 A7.out).mono ?_
 (case side1 => exact bpur_)
 (case side2 => exact (Kd.V_reads' HO_3.out).2.1)
 rintro e w9 ⟨v6, rfl, ho0, hb⟩
 refine ⟨_, rfl, ?_⟩
 replace HO_2 := A0_ (Kd.V_elder' b0k3_ (Kd.R_base ho0) hb)
 replace HO_3 := A0_ (Kd.V_elder' bpxd_ (Kd.R_base ho0) hb)
 have HO4 := A0_ (Kd.R_lower (Kd.R_new' (Kd.R_newM (M := fun k_ => (w.heap.size ≤ k_)) ho0 (bz_ bfnq_) (fun k_ h_ => h_)) (Kd.R_lt buiy_)) (bz_ bfnq_))
 replace HO3 := A0_ (Kd.R_elder' buiy_ (Kd.R_base ho0) hb)
 replace BK1 := k1_ BK1 hb
 replace BK2 := k1_ BK2 hb
 replace HB := hb_ hb bfnq_
 (try clear hb); (try clear ho0)
 obtain ⟨Ao2, co2, eo2⟩ := Kd.R_slice HO4.out
 (first | subst eo2 | (injection eo2 with f1_ f2_ f3_; have f4_ := f1_.symm; have f5_ := f3_.symm; clear f1_ f2_ f3_; subst f4_; subst f5_))
 refine hK.out _ _ ⟨(kc_ BK2.out 0).trans rfl, (kc_ BK2.out 1).trans rfl, (kc_ BK2.out 2).trans rfl, ((HB.out.cell (World.block_lt_of_cell? w _ hw502_0)).trans hw502_0)⟩ (fun hHeld => ?_)
 clear hK K
 refine nm_ 46 ?_
 refine last_ (i := 6) (N := none) #[true, true, true, true, true, true, true] rfl rfl bfqv_ bi3y_ (fun K hK => ?_)
 have hs26 : w9.cell? ⟨gb2, 0, none⟩ = some (.int .i64 x497000_1) := (kc_ BK2.out 0).trans rfl
 have hfs26 := kf_ BK2.out 0
 have hns1_0 := NB1_2.out
 have hms1_0 := NB2_1.out
 have hs27 : w9.cell? ⟨gb2, 1, none⟩ = some (.bool x497001_1) := (kc_ BK2.out 1).trans rfl
 have hfs27 := kf_ BK2.out 1
 have hns2_0 := NB1_2.out
 have hms2_0 := NB2_1.out
 have hs29 : w9.cell? ⟨gb2, 2, none⟩ = some (.slice Ao1 x497002_1.length co1) := (kc_ BK2.out 2).trans rfl
 have hfs29 := kf_ BK2.out 2
 have hns3_0 := NB1_2.out
 have hms3_0 := NB2_1.out
 refine skip_ (w1 := ?_) b139_ rfl ?_ ?_
 rotate_left
 ·go_simp
  rfl
 refine hK.out _ _ ?_
 clear hK K
 refine done_ bfqv_ ?_
 try go_wp2
 go_roundg k1
 case measure => have := HK1.out; omega
 exact ⟨(y2), (wrap64 (x10_1 + t2)), (wrap64 (x12_1 + 1)), (t3), (t4), (t5), (.slice Ao2 t5.length co2), b2ew_, b2ew_, H', ⟨bxjq_⟩, ⟨bdqd_⟩, ⟨b1uc_⟩, ⟨Kd.V_mono (Kd.R_V bex8_) (fun k_ hk => by exact ⟨(.inr (hk.1.1.1.1.1)), ⟨hk.1.1.1.2, ⟨hk.1.1.2, hk.1.2⟩⟩⟩)⟩, ⟨u1_ BK1⟩, ⟨u1_ BK2⟩, ⟨bfnq_⟩⟩

def laws_rInts.l0 : Nat → List Int → List Int → Int → Option (Bool)
 | 0, _, _, _ => none
 | k + 1, x0, x1, x5 => if x5 < (x0.length : Int) then (if 0 ≤ x5 then (if x5 < (x1.length : Int) then (if (rd x0 x5) = (rd x1 x5) then (laws_rInts.l0 k x0 x1 (wrap64 (x5 + 1))) else (some false)) else (none)) else (none)) else (some true)
def laws_rInts.f (k : Nat) (l0 : List Int) (l1 : List Int) : Option (Bool) := if (l0.length : Int) = (l1.length : Int) then (laws_rInts.l0 k l0 l1 0) else (some false)
theorem laws_rInts.mono_l : ∀ k, (∀ y0 y1 y2, LeO (laws_rInts.l0 k y0 y1 y2) (laws_rInts.l0 (k + 1) y0 y1 y2))
 | 0 => fun _ _ _ r h => by simp [laws_rInts.l0] at h
 | k + 1 => by
  have ih0 := laws_rInts.mono_l k
  ·intro y0 y1 y2
   unfold laws_rInts.l0
   repeat' with_reducible first | exact ih0 .. | exact LeO.refl .. | exact LeO.none .. | refine LeO.ite ?_ ?_ | refine LeO.bind ?_ (fun _ => ?_)
theorem laws_rInts.mono : ∀ a0 a1 k, LeO (laws_rInts.f k a0 a1) (laws_rInts.f (k + 1) a0 a1) := by
 intro a0 a1 k
 have ih0 := laws_rInts.mono_l k
 unfold laws_rInts.f
 repeat' with_reducible first | exact ih0 .. | exact LeO.refl .. | exact LeO.none .. | refine LeO.ite ?_ ?_ | refine LeO.bind ?_ (fun _ => ?_)
theorem laws_rInts.calls (k : Nat) (A0 : Option Addr) (c0 : Nat) (l0 : List Int) (A1 : Option Addr) (c1 : Nat) (l1 : List Int) (r : Bool) (w : World) (hr0 : Kd.C (Kd.int .i64) w A0 l0.length l0) (hc0 : l0.length ≤ c0) (hr1 : Kd.C (Kd.int .i64) w A1 l1.length l1) (hc1 : l1.length ≤ c1) (h : laws_rInts.f k l0 l1 = some r) :
  Calls Tryd.prog 21 #[.slice A0 l0.length c0, .slice A1 l1.length c1] w fun e w' => e = .returned (.bool r) ∧ Drawn0 w w' := by
 have HR0 := A0_ hr0
 have HC0 := A0_ hc0
 clear hr0 hc0
 have HR1 := A0_ hr1
 have HC1 := A0_ hc1
 clear hr1 hc1
 have H : (if (l0.length : Int) = (l1.length : Int) then (laws_rInts.l0 k l0 l1 0) else (some false)) = some r := h
 clear h
 by_cases c2 : (l0.length : Int) = (l1.length : Int)
 case neg =>
  rw [if_neg c2] at H
  obtain ⟨c2b0, c2b1⟩ := ef_ c2
  have c2b2 : (l0.length == l1.length) = false := by first | simpa using c2 | (simp at c2 ⊢; omega)
  obtain rfl := si_ H
  go_enter Tryd.func21, Tryd.ntmps21
  go_wp2
  repeat (go_quiet (fail); try go_wp2)
  go_ret
  exact ⟨b04z_, boaj_⟩
 rw [if_pos c2] at H
 obtain ⟨c2b0, c2b1⟩ := et_ c2
 have c2b2 : (l0.length == l1.length) = true := by first | simpa using c2 | (simp at c2 ⊢; omega)
 clear c2
 have H' := A0_ H
 clear H
 go_enter Tryd.func21, Tryd.ntmps21
 go_wp2
 repeat (go_quiet (fail); try go_wp2)
 go_loopg [5] k (fun kq v1 w' => ∃ (x5_1 : Int), v1 = .int .i64 x5_1 ∧ Aside0 (laws_rInts.l0 kq l0 l1 x5_1 = some r) ∧ Aside0 (kq ≤ k) ∧ Drawn0 w w')
 case atStart => exact ⟨(0), b2ew_, H', ⟨Nat.le_refl _⟩, boaj_⟩
 clear H'
 try clear c1
 try clear c2
 try clear c2b0
 try clear c2b1
 try clear c2b2
 obtain ⟨x5_1, rfl, HA, HK1, ⟨m1, rfl⟩⟩ := hrel
 cases gk with | zero => exact absurd HA.out (by simp [laws_rInts.l0]) | succ k1 => ?_
 have H := HA.out
 clear HA
 simp only [laws_rInts.l0] at H
 by_cases c3 : x5_1 < (l0.length : Int)
 case neg =>
  rw [if_neg c3] at H
  have c3b0 : decide (x5_1 < (l0.length : Int)) = false := decide_eq_false c3
  clear c3
  obtain rfl := si_ H
  go_wp2
  repeat (go_quiet (fail); try go_wp2)
  go_ret
  exact ⟨b04z_, boaj_⟩
 rw [if_pos c3] at H
 have c3b0 : decide (x5_1 < (l0.length : Int)) = true := dt_ c3
 clear c3
 by_cases c4 : 0 ≤ x5_1
 case neg =>
  rw [if_neg c4] at H
  exact absurd H bxka_
 rw [if_pos c4] at H
 have c4b0 : decide (0 ≤ x5_1) = true := dt_ c4
 clear c4
 by_cases c5 : x5_1 < (l1.length : Int)
 case neg =>
  rw [if_neg c5] at H
  exact absurd H bxka_
 rw [if_pos c5] at H
 have c5b0 : decide (x5_1 < (l1.length : Int)) = true := dt_ c5
 clear c5
 by_cases c6 : (rd l0 x5_1) = (rd l1 x5_1)
 case neg =>
  rw [if_neg c6] at H
  obtain ⟨c6b0, c6b1⟩ := ef_ c6
  obtain rfl := si_ H
  have p1 : 0 ≤ (x5_1 : Int) := od_ bpil_
  have q1 : x5_1 < (l0.length : Int) := od_ bpil_
  obtain ⟨ad1, e1, hx1_0⟩ := Kd.at_int HR0.out x5_1 p1 q1
  cases e1
  replace p1 := eq_true p1
  replace q1 := eq_true q1
  have p2 : 0 ≤ (x5_1 : Int) := od_ bpil_
  have q2 : x5_1 < (l1.length : Int) := od_ bpil_
  obtain ⟨ad2, e2, hx2_0⟩ := Kd.at_int HR1.out x5_1 p2 q2
  cases e2
  replace p2 := eq_true p2
  replace q2 := eq_true q2
  go_wp2
  repeat (go_quiet (fail); try go_wp2)
  go_ret
  exact ⟨b04z_, boaj_⟩
 rw [if_pos c6] at H
 obtain ⟨c6b0, c6b1⟩ := et_ c6
 clear c6
 have H' := A0_ H
 clear H
 have p1 : 0 ≤ (x5_1 : Int) := od_ bpil_
 have q1 : x5_1 < (l0.length : Int) := od_ bpil_
 obtain ⟨ad1, e1, hx1_0⟩ := Kd.at_int HR0.out x5_1 p1 q1
 cases e1
 replace p1 := eq_true p1
 replace q1 := eq_true q1
 have p2 : 0 ≤ (x5_1 : Int) := od_ bpil_
 have q2 : x5_1 < (l1.length : Int) := od_ bpil_
 obtain ⟨ad2, e2, hx2_0⟩ := Kd.at_int HR1.out x5_1 p2 q2
 cases e2
 replace p2 := eq_true p2
 replace q2 := eq_true q2
 go_wp2
 repeat (go_quiet (fail); try go_wp2)
 go_roundg k1
 case measure => have := HK1.out; omega
 exact ⟨(wrap64 (x5_1 + 1)), b2ew_, H', ⟨bxjq_⟩, boaj_⟩

def laws_rSum.l0 : Nat → List Int → Int → Int → Option (Int)
 | 0, _, _, _ => none
 | k + 1, x0, x3, x4 => if x4 < (x0.length : Int) then (if 0 ≤ x4 then (laws_rSum.l0 k x0 (wrap64 (x3 + (rd x0 x4))) (wrap64 (x4 + 1))) else (none)) else (some x3)
def laws_rSum.f (k : Nat) (l0 : List Int) : Option (Int) := laws_rSum.l0 k l0 0 0
theorem laws_rSum.mono_l : ∀ k, (∀ y0 y1 y2, LeO (laws_rSum.l0 k y0 y1 y2) (laws_rSum.l0 (k + 1) y0 y1 y2))
 | 0 => fun _ _ _ r h => by simp [laws_rSum.l0] at h
 | k + 1 => by
  have ih0 := laws_rSum.mono_l k
  ·intro y0 y1 y2
   unfold laws_rSum.l0
   repeat' with_reducible first | exact ih0 .. | exact LeO.refl .. | exact LeO.none .. | refine LeO.ite ?_ ?_ | refine LeO.bind ?_ (fun _ => ?_)
theorem laws_rSum.mono : ∀ a0 k, LeO (laws_rSum.f k a0) (laws_rSum.f (k + 1) a0) := by
 intro a0 k
 have ih0 := laws_rSum.mono_l k
 unfold laws_rSum.f
 repeat' with_reducible first | exact ih0 .. | exact LeO.refl .. | exact LeO.none .. | refine LeO.ite ?_ ?_ | refine LeO.bind ?_ (fun _ => ?_)
theorem laws_rSum.calls (k : Nat) (A0 : Option Addr) (c0 : Nat) (l0 : List Int) (r : Int) (w : World) (hr0 : Kd.C (Kd.int .i64) w A0 l0.length l0) (hc0 : l0.length ≤ c0) (h : laws_rSum.f k l0 = some r) :
  Calls Tryd.prog 22 #[.slice A0 l0.length c0] w fun e w' => e = .returned (.int .i64 r) ∧ Drawn0 w w' := by
 have HR0 := A0_ hr0
 have HC0 := A0_ hc0
 clear hr0 hc0
 have H : (laws_rSum.l0 k l0 0 0) = some r := h
 clear h
 have H' := A0_ H
 clear H
 go_enter Tryd.func22, Tryd.ntmps22
 go_wp2
 go_loopg [3, 4] k (fun kq v1 v2 w' => ∃ (x3_1 : Int) (x4_1 : Int), v1 = .int .i64 x3_1 ∧ v2 = .int .i64 x4_1 ∧ Aside0 (laws_rSum.l0 kq l0 x3_1 x4_1 = some r) ∧ Aside0 (kq ≤ k) ∧ Drawn0 w w')
 case atStart => exact ⟨(0), (0), b2ew_, b2ew_, H', ⟨Nat.le_refl _⟩, boaj_⟩
 clear H'
 obtain ⟨x3_1, x4_1, rfl, rfl, HA, HK1, ⟨m1, rfl⟩⟩ := hrel
 cases gk with | zero => exact absurd HA.out (by simp [laws_rSum.l0]) | succ k1 => ?_
 have H := HA.out
 clear HA
 simp only [laws_rSum.l0] at H
 by_cases c1 : x4_1 < (l0.length : Int)
 case neg =>
  rw [if_neg c1] at H
  have c1b0 : decide (x4_1 < (l0.length : Int)) = false := decide_eq_false c1
  clear c1
  obtain rfl := si_ H
  go_wp2
  go_ret
  exact ⟨b04z_, boaj_⟩
 rw [if_pos c1] at H
 have c1b0 : decide (x4_1 < (l0.length : Int)) = true := dt_ c1
 clear c1
 by_cases c2 : 0 ≤ x4_1
 case neg =>
  rw [if_neg c2] at H
  exact absurd H bxka_
 rw [if_pos c2] at H
 have c2b0 : decide (0 ≤ x4_1) = true := dt_ c2
 clear c2
 have H' := A0_ H
 clear H
 have p1 : 0 ≤ (x4_1 : Int) := od_ bpil_
 have q1 : x4_1 < (l0.length : Int) := od_ bpil_
 obtain ⟨ad1, e1, hx1_0⟩ := Kd.at_int HR0.out x4_1 p1 q1
 cases e1
 replace p1 := eq_true p1
 replace q1 := eq_true q1
 go_wp2
 go_roundg k1
 case measure => have := HK1.out; omega
 exact ⟨(wrap64 (x3_1 + (rd l0 x4_1))), (wrap64 (x4_1 + 1)), b2ew_, b2ew_, H', ⟨bxjq_⟩, boaj_⟩

def impl_IsArrival.f (k : Nat) (a0_0 : Int) (a0_1 : Bool) (l0_2 : List Int) (l1 : List Int) : Option (Bool × Bool) := (impl_isLine.f k a0_0 a0_1 l0_2).bind fun t512 => (if t512 = true then ((impl_Row_free.f k a0_0 a0_1 l0_2).bind fun t513 => ((impl_areOf.f k l1 t513).bind fun t514 => (some (t514, true)))) else (some (false, false)))
theorem impl_IsArrival.mono : ∀ a0 a1 a2 a3 k, LeO (impl_IsArrival.f k a0 a1 a2 a3) (impl_IsArrival.f (k + 1) a0 a1 a2 a3) := by
 intro a0 a1 a2 a3 k
 unfold impl_IsArrival.f
 repeat' with_reducible first | exact impl_Row_free.mono .. | exact impl_areOf.mono .. | exact impl_isLine.mono .. | exact LeO.refl .. | exact LeO.none .. | refine LeO.ite ?_ ?_ | refine LeO.bind ?_ (fun _ => ?_)
theorem impl_IsArrival.calls (k : Nat) (a0_0 : Int) (a0_1 : Bool) (A0_2 : Option Addr) (c0_2 : Nat) (l0_2 : List Int) (A1 : Option Addr) (c1 : Nat) (l1 : List Int) (r1 : Bool) (r2 : Bool) (w : World) (hr0_2 : Kd.C (Kd.int .i64) w A0_2 l0_2.length l0_2) (hc0_2 : l0_2.length ≤ c0_2) (hr1 : Kd.C (Kd.int .i64) w A1 l1.length l1) (hc1 : l1.length ≤ c1) (h : impl_IsArrival.f k a0_0 a0_1 l0_2 l1 = some (r1, r2)) :
  Calls Tryd.prog 23 #[.agg #[.int .i64 a0_0, .bool a0_1, .slice A0_2 l0_2.length c0_2], .slice A1 l1.length c1] w fun e w' => e = .returned (.tuple #[.bool r1, .bool r2]) ∧ Below w.heap.size w w' := by
 have hu28 := Tryd.underlying28
 have HR0_2 := A0_ hr0_2
 have HC0_2 := A0_ hc0_2
 clear hr0_2 hc0_2
 have HR1 := A0_ hr1
 have HC1 := A0_ hc1
 clear hr1 hc1
 have HB := A0_ (Below.refl w.heap.size w)
 have H : ((impl_isLine.f k a0_0 a0_1 l0_2).bind fun t1 => (if t1 = true then ((impl_Row_free.f k a0_0 a0_1 l0_2).bind fun t2 => ((impl_areOf.f k l1 t2).bind fun t3 => (some (t3, true)))) else (some (false, false)))) = some (r1, r2) := h
 clear h
 obtain ⟨t1, A3, H⟩ := o1_ H
 by_cases c2 : t1 = true
 case neg =>
  obtain rfl := bf_.mpr c2
  rw [if_neg ft_] at H
  simp only [sj_, pj_] at H
  obtain ⟨rfl, rfl⟩ := H
  go_enter Tryd.func23, Tryd.ntmps23
  go_wp2_with (first | ((with_reducible refine gd_ (N := 2) rfl ?_); refine bx_ 2 #[.int .i64 a0_0, .bool a0_1, .slice A0_2 l0_2.length c0_2] 28 ?_; intro gb1 hg w1 BK1 hb; have GW1 := ge_ hg brt4_; have GE1 := GW1; replace HB := hb_ hb brt4_; clear hb hg; have hcz1 := c3_ BK1) | ((with_reducible refine gc_ (f := 52) rfl ?_); refine gl_ 7 Tryd.func52 #[.agg #[.int .i64 a0_0, .bool a0_1, .slice A0_2 l0_2.length c0_2]] ?_; (with_reducible refine (impl_isLine.calls k a0_0 a0_1 _ _ l0_2 false _ ?side1 ?side2 A3.out).mono ?_); (case side1 => exact b6n8_); (case side2 => exact HC0_2.out); rintro e w2 ⟨rfl, hb⟩; refine ⟨_, rfl, ?_⟩; replace BK1 := k1_ BK1 hb; replace HB := hb_ hb be6g_; (try clear hb)))
  go_ret2
  exact ⟨bnwh_, be6g_⟩
 subst c2
 rw [if_pos rfl] at H
 obtain ⟨t2, A5, H⟩ := o1_ H
 obtain ⟨t3, A7, H⟩ := o1_ H
 replace H : (some (t3, true)) = some (r1, r2) := H
 simp only [sj_, pj_] at H
 obtain ⟨rfl, rfl⟩ := H
 go_enter Tryd.func23, Tryd.ntmps23
 go_wp2_with (first | ((with_reducible refine gd_ (N := 2) rfl ?_); refine bx_ 2 #[.int .i64 a0_0, .bool a0_1, .slice A0_2 l0_2.length c0_2] 28 ?_; intro gb1 hg w1 BK1 hb; have GW1 := ge_ hg brt4_; have GE1 := GW1; replace HB := hb_ hb brt4_; clear hb hg; have hcz1 := c3_ BK1) | ((with_reducible refine gc_ (f := 52) rfl ?_); refine gl_ 7 Tryd.func52 #[.agg #[.int .i64 a0_0, .bool a0_1, .slice A0_2 l0_2.length c0_2]] ?_; (with_reducible refine (impl_isLine.calls k a0_0 a0_1 _ _ l0_2 true _ ?side1 ?side2 A3.out).mono ?_); (case side1 => exact b6n8_); (case side2 => exact HC0_2.out); rintro e w2 ⟨rfl, hb⟩; refine ⟨_, rfl, ?_⟩; replace BK1 := k1_ BK1 hb; replace HB := hb_ hb be6g_; (try clear hb); have hcz2 := c3_ BK1) | ((with_reducible refine gc_ (f := 54) rfl ?_); refine gl_ 11 Tryd.func54 #[.agg #[.int .i64 a0_0, .bool a0_1, .slice A0_2 l0_2.length c0_2]] ?_; (with_reducible refine (impl_Row_free.calls k a0_0 a0_1 _ _ l0_2 t2 _ ?side1 ?side2 A5.out).mono ?_); (case side1 => exact b6n8_); (case side2 => exact HC0_2.out); rintro e w3 ⟨rfl, hb⟩; refine ⟨_, rfl, ?_⟩; replace BK1 := k1_ BK1 hb; replace HB := hb_ hb be6g_; (try clear hb)) | ((with_reducible refine gc_ (f := 53) rfl ?_); refine gl_ 12 Tryd.func53 #[.slice A1 l1.length c1, .int .u32 t2] ?_; (with_reducible refine (impl_areOf.calls k _ _ l1 t2 t3 _ ?side1 ?side2 A7.out).mono ?_); (case side1 => exact b3d8_); (case side2 => exact HC1.out); rintro e w' ⟨rfl, ⟨nd, rfl⟩⟩; refine ⟨_, rfl, ?_⟩))
 go_ret2
 exact ⟨bnwh_, be6g_⟩

def spec_IsArrival.f (k : Nat) (a0_0 : Int) (a0_1 : Bool) (l0_2 : List Int) (l1 : List Int) : Option (Bool × Bool) := (spec_l10Line.f k a0_0 a0_1 l0_2).bind fun t516 => (if t516 = true then ((spec_l10Different.f k a0_0 a0_1 l0_2 l1 false).bind fun t517 => (some (t517, true))) else (some (false, false)))
theorem spec_IsArrival.mono : ∀ a0 a1 a2 a3 k, LeO (spec_IsArrival.f k a0 a1 a2 a3) (spec_IsArrival.f (k + 1) a0 a1 a2 a3) := by
 intro a0 a1 a2 a3 k
 unfold spec_IsArrival.f
 repeat' with_reducible first | exact spec_l10Different.mono .. | exact spec_l10Line.mono .. | exact LeO.refl .. | exact LeO.none .. | refine LeO.ite ?_ ?_ | refine LeO.bind ?_ (fun _ => ?_)
theorem spec_IsArrival.calls (k : Nat) (a0_0 : Int) (a0_1 : Bool) (A0_2 : Option Addr) (c0_2 : Nat) (l0_2 : List Int) (A1 : Option Addr) (c1 : Nat) (l1 : List Int) (r1 : Bool) (r2 : Bool) (w : World) (hr0_2 : Kd.C (Kd.int .i64) w A0_2 l0_2.length l0_2) (hc0_2 : l0_2.length ≤ c0_2) (hr1 : Kd.C (Kd.int .i64) w A1 l1.length l1) (hc1 : l1.length ≤ c1) (h : spec_IsArrival.f k a0_0 a0_1 l0_2 l1 = some (r1, r2)) :
  Calls Tryd.prog 24 #[.agg #[.int .i64 a0_0, .bool a0_1, .slice A0_2 l0_2.length c0_2], .slice A1 l1.length c1] w fun e w' => e = .returned (.tuple #[.bool r1, .bool r2]) ∧ Below w.heap.size w w' := by
 have hu28 := Tryd.underlying28
 have HR0_2 := A0_ hr0_2
 have HC0_2 := A0_ hc0_2
 clear hr0_2 hc0_2
 have HR1 := A0_ hr1
 have HC1 := A0_ hc1
 clear hr1 hc1
 have HB := A0_ (Below.refl w.heap.size w)
 have H : ((spec_l10Line.f k a0_0 a0_1 l0_2).bind fun t1 => (if t1 = true then ((spec_l10Different.f k a0_0 a0_1 l0_2 l1 false).bind fun t2 => (some (t2, true))) else (some (false, false)))) = some (r1, r2) := h
 clear h
 obtain ⟨t1, A3, H⟩ := o1_ H
 by_cases c2 : t1 = true
 case neg =>
  obtain rfl := bf_.mpr c2
  rw [if_neg ft_] at H
  simp only [sj_, pj_] at H
  obtain ⟨rfl, rfl⟩ := H
  go_enter Tryd.func24, Tryd.ntmps24
  go_wp2_with (first | ((with_reducible refine gd_ (N := 2) rfl ?_); refine bx_ 2 #[.int .i64 a0_0, .bool a0_1, .slice A0_2 l0_2.length c0_2] 28 ?_; intro gb1 hg w1 BK1 hb; have GW1 := ge_ hg brt4_; have GE1 := GW1; replace HB := hb_ hb brt4_; clear hb hg; have hcz1 := c3_ BK1) | ((with_reducible refine gc_ (f := 56) rfl ?_); refine gl_ 7 Tryd.func56 #[.agg #[.int .i64 a0_0, .bool a0_1, .slice A0_2 l0_2.length c0_2]] ?_; (with_reducible refine (spec_l10Line.calls k a0_0 a0_1 _ _ l0_2 false _ ?side1 ?side2 A3.out).mono ?_); (case side1 => exact b6n8_); (case side2 => exact HC0_2.out); rintro e w2 ⟨rfl, hb⟩; refine ⟨_, rfl, ?_⟩; replace BK1 := k1_ BK1 hb; replace HB := hb_ hb be6g_; (try clear hb)))
  go_ret2
  exact ⟨bnwh_, be6g_⟩
 subst c2
 rw [if_pos rfl] at H
 obtain ⟨t2, A5, H⟩ := o1_ H
 replace H : (some (t2, true)) = some (r1, r2) := H
 simp only [sj_, pj_] at H
 obtain ⟨rfl, rfl⟩ := H
 go_enter Tryd.func24, Tryd.ntmps24
 go_wp2_with (first | ((with_reducible refine gd_ (N := 2) rfl ?_); refine bx_ 2 #[.int .i64 a0_0, .bool a0_1, .slice A0_2 l0_2.length c0_2] 28 ?_; intro gb1 hg w1 BK1 hb; have GW1 := ge_ hg brt4_; have GE1 := GW1; replace HB := hb_ hb brt4_; clear hb hg; have hcz1 := c3_ BK1) | ((with_reducible refine gc_ (f := 56) rfl ?_); refine gl_ 7 Tryd.func56 #[.agg #[.int .i64 a0_0, .bool a0_1, .slice A0_2 l0_2.length c0_2]] ?_; (with_reducible refine (spec_l10Line.calls k a0_0 a0_1 _ _ l0_2 true _ ?side1 ?side2 A3.out).mono ?_); (case side1 => exact b6n8_); (case side2 => exact HC0_2.out); rintro e w2 ⟨rfl, hb⟩; refine ⟨_, rfl, ?_⟩; replace BK1 := k1_ BK1 hb; replace HB := hb_ hb be6g_; (try clear hb); have hcz2 := c3_ BK1) | ((with_reducible refine gc_ (f := 55) rfl ?_); refine gl_ 11 Tryd.func55 #[.agg #[.int .i64 a0_0, .bool a0_1, .slice A0_2 l0_2.length c0_2], .slice A1 l1.length c1, .bool false] ?_; (with_reducible refine (spec_l10Different.calls k a0_0 a0_1 _ _ l0_2 _ _ l1 false t2 _ ?side1 ?side2 ?side3 ?side4 A5.out).mono ?_); (case side1 => exact b6n8_); (case side2 => exact HC0_2.out); (case side3 => exact b3d8_); (case side4 => exact HC1.out); rintro e w3 ⟨rfl, hb⟩; refine ⟨_, rfl, ?_⟩; replace BK1 := k1_ BK1 hb; replace HB := hb_ hb be6g_; (try clear hb)))
 go_ret2
 exact ⟨bnwh_, be6g_⟩

mutual
def impl_SidesOf.j0 : Nat → List Int → Bool → Int → Bool → List Int → Option (List Int × Bool)
 | 0, _, _, _, _, _ => none
 | k + 1, x1, x21, x519000, x519001, x519002 => if x21 = true then (some (([] : List Int), false)) else ((impl_Row_taken.f k x519000 x519001 x519002).bind fun t525 => (impl_SidesOf.l0 k (([] : List Int)) t525 x1 (x1.length : Int) 0))
def impl_SidesOf.l0 : Nat → List Int → Int → List Int → Int → Int → Option (List Int × Bool)
 | 0, _, _, _, _, _ => none
 | k + 1, x6, x7, x25, x26, x27 => if x27 < x26 then (if 0 ≤ x27 then (if x27 < (x25.length : Int) then ((impl_stands.f x7 (rd x25 x27) true).bind fun bt527 => (if x6.length < 17592186044416 then (if 0 ≤ (rd x25 x27) then (impl_SidesOf.l0 k (x6 ++ [bt527.2]) (Go.bits .or .u32 x7 (shl .u32 1 (rd x25 x27))) x25 x26 (wrap64 (x27 + 1))) else (none)) else (none))) else (none)) else (none)) else (some (x6, true))
end
def impl_SidesOf.f (k : Nat) (a0_0 : Int) (a0_1 : Bool) (l0_2 : List Int) (l1 : List Int) : Option (List Int × Bool) := (impl_isLine.f k a0_0 a0_1 l0_2).bind fun t519 => (if t519 = true then ((impl_Row_free.f k a0_0 a0_1 l0_2).bind fun t520 => ((impl_areOf.f k l1 t520).bind fun t521 => (impl_SidesOf.j0 k l1 (!t521) a0_0 a0_1 l0_2))) else (impl_SidesOf.j0 k l1 true a0_0 a0_1 l0_2))
theorem impl_SidesOf.mono_l : ∀ k, (∀ y0 y1 y2 y3 y4, LeO (impl_SidesOf.j0 k y0 y1 y2 y3 y4) (impl_SidesOf.j0 (k + 1) y0 y1 y2 y3 y4)) ∧ (∀ y0 y1 y2 y3 y4, LeO (impl_SidesOf.l0 k y0 y1 y2 y3 y4) (impl_SidesOf.l0 (k + 1) y0 y1 y2 y3 y4))
 | 0 => ⟨fun _ _ _ _ _ r h => by simp [impl_SidesOf.j0] at h, fun _ _ _ _ _ r h => by simp [impl_SidesOf.l0] at h⟩
 | k + 1 => by
  obtain ⟨ih0, ih1⟩ := impl_SidesOf.mono_l k
  refine ⟨?_, ?_⟩
  ·intro y0 y1 y2 y3 y4
   unfold impl_SidesOf.j0
   repeat' with_reducible first | exact ih0 .. | exact ih1 .. | exact impl_Row_free.mono .. | exact impl_Row_taken.mono .. | exact impl_areOf.mono .. | exact impl_isLine.mono .. | exact LeO.refl .. | exact LeO.none .. | refine LeO.ite ?_ ?_ | refine LeO.bind ?_ (fun _ => ?_)
  ·intro y0 y1 y2 y3 y4
   unfold impl_SidesOf.l0
   repeat' with_reducible first | exact ih0 .. | exact ih1 .. | exact impl_Row_free.mono .. | exact impl_Row_taken.mono .. | exact impl_areOf.mono .. | exact impl_isLine.mono .. | exact LeO.refl .. | exact LeO.none .. | refine LeO.ite ?_ ?_ | refine LeO.bind ?_ (fun _ => ?_)
theorem impl_SidesOf.mono : ∀ a0 a1 a2 a3 k, LeO (impl_SidesOf.f k a0 a1 a2 a3) (impl_SidesOf.f (k + 1) a0 a1 a2 a3) := by
 intro a0 a1 a2 a3 k
 obtain ⟨ih0, ih1⟩ := impl_SidesOf.mono_l k
 unfold impl_SidesOf.f
 repeat' with_reducible first | exact ih0 .. | exact ih1 .. | exact impl_Row_free.mono .. | exact impl_Row_taken.mono .. | exact impl_areOf.mono .. | exact impl_isLine.mono .. | exact LeO.refl .. | exact LeO.none .. | refine LeO.ite ?_ ?_ | refine LeO.bind ?_ (fun _ => ?_)
def impl_SidesOf.T8 : Bool × List (List Nat × List Nat) := (true, [([], []), ([], []), ([1], [1]), ([0, 2], [0, 2]), ([], []), ([], []), ([5], [5]), ([4, 6], [4, 6]), ([3, 3, 0, 1, 2, 3], [0, 3]), ([7, 8, 0, 1, 2, 3, 4, 5, 6, 7, 8], [4, 7])])
def impl_SidesOf.B8 : List Nat := [0, 0, 2, 7, 0, 0, 32, 112, 15, 511]
theorem impl_SidesOf.tab8 : rtab .any (opsOf Tryd.f25 8) = impl_SidesOf.T8 := by kernel_rfl
theorem impl_SidesOf.bits8 : waitsOk impl_SidesOf.T8.2 impl_SidesOf.B8 = true := by kernel_rfl
theorem impl_SidesOf.calls (k : Nat) (a0_0 : Int) (a0_1 : Bool) (A0_2 : Option Addr) (c0_2 : Nat) (l0_2 : List Int) (A1 : Option Addr) (c1 : Nat) (l1 : List Int) (r1 : List Int) (r2 : Bool) (w : World) (hr0_2 : Kd.C (Kd.int .i64) w A0_2 l0_2.length l0_2) (hc0_2 : l0_2.length ≤ c0_2) (hr1 : Kd.C (Kd.int .i64) w A1 l1.length l1) (hc1 : l1.length ≤ c1) (h : impl_SidesOf.f k a0_0 a0_1 l0_2 l1 = some (r1, r2)) :
  Calls Tryd.prog 25 #[.agg #[.int .i64 a0_0, .bool a0_1, .slice A0_2 l0_2.length c0_2], .slice A1 l1.length c1] w fun e w' => ∃ v0_ : Value, e = .returned (.tuple #[v0_, .bool r2]) ∧ Kd.R (Kd.int .i64) 3 w' w.heap.size (fun _ => True) v0_ r1 ∧ Below w.heap.size w w' := by
 have hu28 := Tryd.underlying28
 have HR0_2 := A0_ hr0_2
 have HC0_2 := A0_ hc0_2
 clear hr0_2 hc0_2
 have HR1 := A0_ hr1
 have HC1 := A0_ hc1
 clear hr1 hc1
 have HB := A0_ (Below.refl w.heap.size w)
 have H : ((impl_isLine.f k a0_0 a0_1 l0_2).bind fun t1 => (if t1 = true then ((impl_Row_free.f k a0_0 a0_1 l0_2).bind fun t2 => ((impl_areOf.f k l1 t2).bind fun t3 => (impl_SidesOf.j0 k l1 (!t3) a0_0 a0_1 l0_2))) else (impl_SidesOf.j0 k l1 true a0_0 a0_1 l0_2))) = some (r1, r2) := h
 clear h
 have HC3 := A0_ H
 clear H
 go_enter Tryd.func25, Tryd.ntmps25
 go_upto_region 1 with (first | ((with_reducible refine gd_ (N := 2) rfl ?_); refine bx_ 2 #[.int .i64 a0_0, .bool a0_1, .slice A0_2 l0_2.length c0_2] 28 ?_; intro gb1 hg w1 BK1 hb; have GW1 := ge_ hg brt4_; have GE1 := GW1; replace HB := hb_ hb brt4_; clear hb hg))
 (try simp only [Act.put, sa_, sz_, ss_])
 go_cut [21] (fun v1 wc => ∃ (kq : Nat) (x21_2 : Bool), v1 = .bool x21_2 ∧ Aside0 (impl_SidesOf.j0 kq l1 x21_2 a0_0 a0_1 l0_2 = some (r1, r2)) ∧ Aside0 (kq ≤ k) ∧ Aside0 (wc.heap[gb1]? = some (.cells #[.int .i64 a0_0, .bool a0_1, (.slice A0_2 l0_2.length c0_2)] 28 (0, 0))) ∧ Aside0 (Below w.heap.size w wc))
 case first =>
  have H := HC3.out
  clear HC3
  obtain ⟨t1, A3, H⟩ := o1_ H
  by_cases c2 : t1 = true
  case neg =>
   obtain rfl := bf_.mpr c2
   rw [if_neg ft_] at H
   have H' := A0_ H
   clear H
   have hcz1 := c3_ BK1
   go_wp2_with (first | ((with_reducible refine gc_ (f := 52) rfl ?_); refine gl_ 13 Tryd.func52 #[.agg #[.int .i64 a0_0, .bool a0_1, .slice A0_2 l0_2.length c0_2]] ?_; (with_reducible refine (impl_isLine.calls k a0_0 a0_1 _ _ l0_2 false _ ?side1 ?side2 A3.out).mono ?_); (case side1 => exact b6n8_); (case side2 => exact HC0_2.out); rintro e w2 ⟨rfl, hb⟩; refine ⟨_, rfl, ?_⟩; replace BK1 := k1_ BK1 hb; replace HB := hb_ hb be6g_; (try clear hb)))
   go_meet
   exact ⟨_, (true), b2ew_, H', ⟨bbn0_⟩, ⟨u1_ BK1⟩, ⟨be6g_⟩⟩
  subst c2
  rw [if_pos rfl] at H
  obtain ⟨t2, A5, H⟩ := o1_ H
  obtain ⟨t3, A7, H⟩ := o1_ H
  have H' := A0_ H
  clear H
  have hcz1 := c3_ BK1
  go_wp2_with (first | ((with_reducible refine gc_ (f := 52) rfl ?_); refine gl_ 13 Tryd.func52 #[.agg #[.int .i64 a0_0, .bool a0_1, .slice A0_2 l0_2.length c0_2]] ?_; (with_reducible refine (impl_isLine.calls k a0_0 a0_1 _ _ l0_2 true _ ?side1 ?side2 A3.out).mono ?_); (case side1 => exact b6n8_); (case side2 => exact HC0_2.out); rintro e w2 ⟨rfl, hb⟩; refine ⟨_, rfl, ?_⟩; replace BK1 := k1_ BK1 hb; replace HB := hb_ hb be6g_; (try clear hb); have hcz2 := c3_ BK1) | (go_at_call 54; (with_reducible refine (impl_Row_free.calls k a0_0 a0_1 _ _ l0_2 t2 _ ?side1 ?side2 A5.out).mono ?_); (case side1 => exact b6n8_); (case side2 => exact HC0_2.out); rintro e w3 ⟨rfl, hb⟩; replace BK1 := k1_ BK1 hb; replace HB := hb_ hb be6g_; (try clear hb)) | (go_at_call 53; (with_reducible refine (impl_areOf.calls k _ _ l1 t2 t3 _ ?side1 ?side2 A7.out).mono ?_); (case side1 => exact b3d8_); (case side2 => exact HC1.out); rintro e w' ⟨rfl, ⟨nd, rfl⟩⟩))
  go_meet
  exact ⟨_, (!t3), b2ew_, H', ⟨bbn0_⟩, ⟨u1_ BK1⟩, ⟨be6g_⟩⟩
 clear HC3
 try clear c1
 obtain ⟨kq, x21_2, rfl, HA, HJ1, BK1, HB⟩ := hcut
 cases kq with | zero => exact absurd HA.out (by simp [impl_SidesOf.j0]) | succ kj1 => ?_
 have H := HA.out
 clear HA
 simp only [impl_SidesOf.j0] at H
 by_cases c2 : x21_2 = true
 ·subst c2
  rw [if_pos rfl] at H
  simp only [sj_, pj_] at H
  obtain ⟨rfl, rfl⟩ := H
  go_wp2
  go_ret2
  exact ⟨_, bnwh_, bwfe_, be6g_⟩
 obtain rfl := bf_.mpr c2
 rw [if_neg ft_] at H
 obtain ⟨y1, hy1⟩ : ∃ y_ : List Int, y_ = (([] : List Int)) := ⟨_, rfl⟩
 replace H : ((impl_Row_taken.f kj1 a0_0 a0_1 l0_2).bind fun t4 => (impl_SidesOf.l0 kj1 y1 t4 l1 (l1.length : Int) 0)) = some (r1, r2) := bgiq_
 have Ny1 := A0_ hy1
 clear hy1
 obtain ⟨t4, A3, H⟩ := o1_ H
 have H' := A0_ H
 clear H
 go_wp2_with (first | ((with_reducible refine gd_ (N := 22) rfl ?_); refine Kd.R_lit (Kd.int .i64) _ 3 ?hg (N := 22) ?hd (xs := ([] : List Int)) (inner := []) (ok := fun _ => True) (okp := fun _ => True) ?hr ?hp (fun _ hk => hk) trivial (Below.refl _ _) (Nat.le_refl _) bxka_ ?_; (case hd => rfl); (case hg => rfl); (case hr => go_simp; first | done | rfl); (case hp => exact (Reps.none _ _)); intro v2 w2 ho18 hb hg_ hnew_; clear hg_ hnew_; (first | rw [← Ny1.out] at ho18 | (simp only [Int.reduceToNat] at ho18; rw [← Ny1.out] at ho18)); have HO1 := A0_ (Kd.R_lower ho18 (bz_ be6g_)); replace BK1 := k1_ BK1 hb; replace HB := hb_ hb be6g_; clear hb ho18; have hcz1 := c3_ BK1) | ((with_reducible refine gc_ (f := 41) rfl ?_); refine gl_ 24 Tryd.func41 #[.agg #[.int .i64 a0_0, .bool a0_1, .slice A0_2 l0_2.length c0_2]] ?_; (with_reducible refine (impl_Row_taken.calls kj1 a0_0 a0_1 _ _ l0_2 t4 _ ?side1 ?side2 A3.out).mono ?_); (case side1 => exact b6n8_); (case side2 => exact HC0_2.out); rintro e w3 ⟨rfl, hb⟩; refine ⟨_, rfl, ?_⟩; replace HO1 := A0_ (Kd.R_below bsm5_ hb); replace BK1 := k1_ BK1 hb; replace HB := hb_ hb be6g_; (try clear hb)))
 go_loopg [6, 7, 27] kj1 (fun kq v3 v4 v5 w' => ∃ (x6_2 : List Int) (x7_2 : Int) (x27_2 : Int), v4 = .int .u32 x7_2 ∧ v5 = .int .i64 x27_2 ∧ Aside0 (impl_SidesOf.l0 kq x6_2 x7_2 l1 (l1.length : Int) x27_2 = some (r1, r2)) ∧ Aside0 (kq ≤ kj1) ∧ Aside0 (Kd.R (Kd.int .i64) 3 w' w.heap.size (fun _ => True) v3 x6_2) ∧ Aside0 (w'.heap[gb1]? = some (.cells #[.int .i64 a0_0, .bool a0_1, (.slice A0_2 l0_2.length c0_2)] 28 (0, 0))) ∧ Aside0 (Below w.heap.size w w'))
 case atStart => exact ⟨(y1), (t4), (0), b2ew_, b2ew_, H', ⟨Nat.le_refl _⟩, ⟨bsm5_⟩, ⟨u1_ BK1⟩, ⟨be6g_⟩⟩
 clear H'
 try clear c1
 try clear c2
 (try clear hcz1)
 obtain ⟨x6_2, x7_2, x27_2, rfl, rfl, HA, HK1, HO_1, BK1, HB⟩ := hrel
 cases gk with | zero => exact absurd HA.out (by simp [impl_SidesOf.l0]) | succ k2 => ?_
 have H := HA.out
 clear HA
 simp only [impl_SidesOf.l0] at H
 by_cases c3 : x27_2 < (l1.length : Int)
 case neg =>
  rw [if_neg c3] at H
  have c3b0 : decide (x27_2 < (l1.length : Int)) = false := decide_eq_false c3
  clear c3
  simp only [sj_, pj_] at H
  obtain ⟨rfl, rfl⟩ := H
  go_wp2
  go_ret2
  exact ⟨_, bnwh_, bwik_, be6g_⟩
 rw [if_pos c3] at H
 have c3b0 : decide (x27_2 < (l1.length : Int)) = true := dt_ c3
 clear c3
 by_cases c4 : 0 ≤ x27_2
 case neg =>
  rw [if_neg c4] at H
  exact absurd H bxka_
 rw [if_pos c4] at H
 have c4b0 : decide (0 ≤ x27_2) = true := dt_ c4
 clear c4
 by_cases c5 : x27_2 < (l1.length : Int)
 case neg =>
  rw [if_neg c5] at H
  exact absurd H bxka_
 rw [if_pos c5] at H
 have c5b0 : decide (x27_2 < (l1.length : Int)) = true := dt_ c5
 clear c5
 obtain ⟨⟨t5, t6⟩, A5, H⟩ := o1_ H
 by_cases c6 : x6_2.length < 17592186044416
 case neg =>
  rw [if_neg c6] at H
  exact absurd H bxka_
 rw [if_pos c6] at H
 have LMc1 := A0_ c6
 clear c6
 obtain ⟨y2, hy2⟩ : ∃ y_ : List Int, y_ = (x6_2 ++ [t6]) := ⟨_, rfl⟩
 replace H : (if 0 ≤ (rd l1 x27_2) then (impl_SidesOf.l0 k2 y2 (Go.bits .or .u32 x7_2 (shl .u32 1 (rd l1 x27_2))) l1 (l1.length : Int) (wrap64 (x27_2 + 1))) else (none)) = some (r1, r2) := bscs_
 have Ny2 := A0_ hy2
 clear hy2
 by_cases c7 : 0 ≤ (rd l1 x27_2)
 case neg =>
  rw [if_neg c7] at H
  exact absurd H bxka_
 rw [if_pos c7] at H
 have c7b0 := eq_true c7
 have c7b1 : decide (0 ≤ (rd l1 x27_2)) = true := dt_ c7
 clear c7
 obtain ⟨ji1, hji1⟩ : ∃ j_ : Int, (shl .u32 1 (rd l1 x27_2)) = j_ := ⟨_, rfl⟩
 replace H : (impl_SidesOf.l0 k2 y2 (Go.bits .or .u32 x7_2 (ji1)) l1 (l1.length : Int) (wrap64 (x27_2 + 1))) = some (r1, r2) := bmns_
 (try rw [hji1] at A5)
 have hji1_ : (IntKind.u32.wrap (1 * 2 ^ min (rd l1 x27_2).toNat 32)) = ji1 := hji1
 have hji27z : (rd l1 x27_2) ≤ 32 → (IntKind.u32.wrap (1 * 2 ^ (rd l1 x27_2).toNat)) = ji1 := shl_small hji1
 have hji27u : (IntKind.u32.wrap (2 ^ min (rd l1 x27_2).toNat 32)) = ji1 := by have h_ := hji1_; rw [Int.one_mul] at h_; exact h_
 have hji27v : (rd l1 x27_2) ≤ 32 → (IntKind.u32.wrap (2 ^ (rd l1 x27_2).toNat)) = ji1 := fun hle_ => by have h_ := hji27z hle_; rw [Int.one_mul] at h_; exact h_
 have H' := A0_ H
 clear H
 have p1 : 0 ≤ (x27_2 : Int) := od_ bpil_
 have q1 : x27_2 < (l1.length : Int) := od_ bpil_
 obtain ⟨ad1, e1, hx1_0⟩ := Kd.at_int HR1.out x27_2 p1 q1
 cases e1
 replace hx1_0 := (HB.out.cell (World.block_lt_of_cell? w _ hx1_0)).trans hx1_0
 replace p1 := eq_true p1
 replace q1 := eq_true q1
 try go_wp2_with (first | ((with_reducible refine gc_ (f := 48) rfl ?_); refine gl_ 34 Tryd.func48 #[.int .u32 x7_2, .int .i64 (rd l1 x27_2), .bool true] ?_; (with_reducible refine (impl_stands.calls x7_2 (rd l1 x27_2) true t5 t6 _ A5.out).mono ?_); rintro e w' ⟨rfl, ⟨nd, rfl⟩⟩; refine ⟨_, rfl, ?_⟩))
 (try (rw [drewN_self wr]; generalize hq_ : World.drewN wr _ = wr; have n0_ : Aside0 (Kd.R (Kd.int .i64) 3 wr w.heap.size (fun _ => True) u6 x6_2) := ⟨bfiv_⟩; have n1_ : Aside0 (wr.heap[gb1]? = some (.cells #[.int .i64 a0_0, .bool a0_1, .slice A0_2 l0_2.length c0_2] 28 (0, 0))) := ⟨by rw [← hq_]; exact (u1_ BK1)⟩; have n2_ : Aside0 (Below w.heap.size w wr) := ⟨bv2n_⟩; clear HO_1 BK1 HB hq_; have HO_1 := n0_; have BK1 := n1_; have HB := n2_; clear n0_ n1_ n2_))
 replace HO_1 := A0_ (rd_ HO_1.out)
 replace BK1 := A0_ (kd_ BK1.out)
 replace HB := A0_ (bd_ HB.out)
 refine start_ (n := 10) (S := fun w' => True) (ds := []) #[false, false, false, false, false, false, false, false, false, false] bfqv_ rfl rfl trivial (fun hHeld => ?_); refine with_tabW impl_SidesOf.tab8 impl_SidesOf.bits8 (fun HT_ HW_ => ?_)
 generalize wr.drew = w4 at HO_1 BK1 HB hHeld ⊢
 refine pu_ 0 37 ?_
 refine pu_ 1 38 ?_
 refine pu_ 4 41 ?_
 refine pu_ 5 42 ?_
 refine pu_ 6 43 ?_
 refine pu_ 7 44 ?_
 refine on_ 2 (some 39) (fun K hK => ?_)
 refine value_ (w1 := ?_) (v := ?_) b139_ rfl ?_ ?_
 rotate_left 2
 ·go_simp
  constructor
  ·rfl
  rfl
 refine hK.out _ _ trivial (fun hHeld => ?_)
 clear hK K
 refine nm_ 39 ?_
 refine on_ 3 (some 40) (fun K hK => ?_)
 refine Kd.R_append_step (Kd.int .i64) (w0 := w) w.heap.size b139_ (.tmp 37) (.tmp 39) 22 3 (.int .i64 0) 8 rfl Tryd.underlying22 info3 rfl bi3y_ bh19_ u6 x6_2 t6 [.int .i64 t6] (fun _ => True) (fun _ => False) rfl rfl ?aP (fun _ hk => hk.elim) ?aF ?aO ?aB ?aS ?aL ?_
 (case aP => exact rfl)
 (case aB => exact be6g_)
 (case aF => exact (fun _ _ => trivial))
 (case aO => exact bwik_)
 (case aS => exact (bz_ be6g_))
 (case aL => have := LMc1.out; omega)
 intro v6 w5 ho hb hg hat
 rw [← Ny2.out] at ho
 have n0_ := A0_ (blk_grown (g := gb1) (o := .cells #[.int .i64 a0_0, .bool a0_1, .slice A0_2 l0_2.length c0_2] 28 (0, 0)) (u1_ BK1) hg (Kd.R_ne HO_1.out BK1.out bi3y_))
 have n1_ := A0_ (hb)
 have n2_ := A0_ (ho)
 clear BK1
 clear HB
 clear HO_1
 have BK1 := n0_
 have HB := n1_
 have HO2 := n2_
 clear n0_ n1_ n2_
 clear ho hb hg hat
 refine hK.out _ _ trivial (fun hHeld => ?_)
 clear hK K
 refine nm_ 40 ?_
 refine pu_ 8 6 ?_
 refine pu_ 9 7 ?_
 refine dn_ ?_
 try go_wp2
 go_roundg k2
 case measure => have := HJ1.out; have := HK1.out; omega
 exact ⟨(y2), (Go.bits .or .u32 x7_2 (ji1)), (wrap64 (x27_2 + 1)), b1tc_, b2ew_, H', ⟨by have := HJ1.out; have := HK1.out; omega⟩, ⟨b9so_⟩, ⟨u1_ BK1⟩, ⟨be6g_⟩⟩

def spec_SidesOf.l0 : Nat → List Int → List Int → Int → Int → Bool → List Int → Option (List Int × Bool)
 | 0, _, _, _, _, _, _ => none
 | k + 1, x1, x6, x8, x538000, x538001, x538002 => if x8 < (x1.length : Int) then (if 0 ≤ x8 then ((spec_l10Between.f k x538000 x538001 x538002 (rd x1 x8)).bind fun bt539 => (if bt539.2 < bt539.1 then (if x6.length < 17592186044416 then ((spec_l2With.f k x538000 x538001 x538002 (rd x1 x8)).bind fun bt545 => (spec_SidesOf.l0 k x1 (x6 ++ [1]) (wrap64 (x8 + 1)) bt545.1 bt545.2.1 bt545.2.2)) else (none)) else (if x6.length < 17592186044416 then ((spec_l2With.f k x538000 x538001 x538002 (rd x1 x8)).bind fun bt554 => (spec_SidesOf.l0 k x1 (x6 ++ [0]) (wrap64 (x8 + 1)) bt554.1 bt554.2.1 bt554.2.2)) else (none)))) else (none)) else (some (x6, true))
def spec_SidesOf.f (k : Nat) (a0_0 : Int) (a0_1 : Bool) (l0_2 : List Int) (l1 : List Int) : Option (List Int × Bool) := (some (([] : List Int) : List Int)).bind fun y533 => ((spec_l10Different.f k a0_0 a0_1 l0_2 l1 false).bind fun t536 => (if t536 = true then (spec_SidesOf.l0 k l1 y533 0 a0_0 a0_1 l0_2) else (some (y533, false))))
theorem spec_SidesOf.mono_l : ∀ k, (∀ y0 y1 y2 y3 y4 y5, LeO (spec_SidesOf.l0 k y0 y1 y2 y3 y4 y5) (spec_SidesOf.l0 (k + 1) y0 y1 y2 y3 y4 y5))
 | 0 => fun _ _ _ _ _ _ r h => by simp [spec_SidesOf.l0] at h
 | k + 1 => by
  have ih0 := spec_SidesOf.mono_l k
  ·intro y0 y1 y2 y3 y4 y5
   unfold spec_SidesOf.l0
   repeat' with_reducible first | exact ih0 .. | exact spec_l10Between.mono .. | exact spec_l10Different.mono .. | exact spec_l2With.mono .. | exact LeO.refl .. | exact LeO.none .. | refine LeO.ite ?_ ?_ | refine LeO.bind ?_ (fun _ => ?_)
theorem spec_SidesOf.mono : ∀ a0 a1 a2 a3 k, LeO (spec_SidesOf.f k a0 a1 a2 a3) (spec_SidesOf.f (k + 1) a0 a1 a2 a3) := by
 intro a0 a1 a2 a3 k
 have ih0 := spec_SidesOf.mono_l k
 unfold spec_SidesOf.f
 repeat' with_reducible first | exact ih0 .. | exact spec_l10Between.mono .. | exact spec_l10Different.mono .. | exact spec_l2With.mono .. | exact LeO.refl .. | exact LeO.none .. | refine LeO.ite ?_ ?_ | refine LeO.bind ?_ (fun _ => ?_)
def spec_SidesOf.T9 : Bool × List (List Nat × List Nat) := (true, [([], []), ([], []), ([], []), ([1, 2], [1, 2]), ([3], [3]), ([0, 4], [0, 4]), ([5], [5]), ([6], [6]), ([6], [6]), ([7, 5, 0, 1, 2, 3, 4, 5, 6, 7], [7]), ([8, 9, 0, 1, 2, 3, 4, 5, 6, 7, 8, 9], [8])])
def spec_SidesOf.B9 : List Nat := [0, 0, 0, 6, 14, 31, 63, 127, 127, 255, 1023]
theorem spec_SidesOf.tab9 : rtab .any (opsOf Tryd.f26 9) = spec_SidesOf.T9 := by kernel_rfl
theorem spec_SidesOf.bits9 : waitsOk spec_SidesOf.T9.2 spec_SidesOf.B9 = true := by kernel_rfl
theorem spec_SidesOf.calls (k : Nat) (a0_0 : Int) (a0_1 : Bool) (P0_2_ : Nat → Prop) (A0_2 : Option Addr) (c0_2 : Nat) (l0_2 : List Int) (A1 : Option Addr) (c1 : Nat) (l1 : List Int) (r1 : List Int) (r2 : Bool) (w : World) (hs0_2 : Kd.V (Kd.int .i64) 3 w w.heap.size (fun k_ => P0_2_ k_) (.slice A0_2 l0_2.length c0_2) l0_2) (hr1 : Kd.C (Kd.int .i64) w A1 l1.length l1) (hc1 : l1.length ≤ c1) (h : spec_SidesOf.f k a0_0 a0_1 l0_2 l1 = some (r1, r2)) :
  Calls Tryd.prog 26 #[.agg #[.int .i64 a0_0, .bool a0_1, .slice A0_2 l0_2.length c0_2], .slice A1 l1.length c1] w fun e w' => ∃ v0_ : Value, e = .returned (.tuple #[v0_, .bool r2]) ∧ Kd.R (Kd.int .i64) 3 w' w.heap.size (fun k_ => (w.heap.size ≤ k_)) v0_ r1 ∧ Below w.heap.size w w' := by
 have hu28 := Tryd.underlying28
 have HO1_2 := A0_ (show Kd.V (Kd.int .i64) 3 w w.heap.size (fun k_ => (P0_2_ k_ ∨ w.heap.size ≤ k_)) (.slice A0_2 l0_2.length c0_2) l0_2 from Kd.V_mono hs0_2 (fun k_ hk => .inl hk))
 have HR1 := A0_ hr1
 have HC1 := A0_ hc1
 clear hr1 hc1
 have HB := A0_ (Below.refl w.heap.size w)
 have H : ((some (([] : List Int) : List Int)).bind fun y1 => ((spec_l10Different.f k a0_0 a0_1 l0_2 l1 false).bind fun t1 => (if t1 = true then (spec_SidesOf.l0 k l1 y1 0 a0_0 a0_1 l0_2) else (some (y1, false))))) = some (r1, r2) := h
 clear h
 obtain ⟨y1, hy1⟩ : ∃ y_ : List Int, y_ = (([] : List Int)) := ⟨_, rfl⟩
 replace H : ((spec_l10Different.f k a0_0 a0_1 l0_2 l1 false).bind fun t1 => (if t1 = true then (spec_SidesOf.l0 k l1 y1 0 a0_0 a0_1 l0_2) else (some (y1, false)))) = some (r1, r2) := bgiq_
 have Ny1 := A0_ hy1
 clear hy1
 obtain ⟨t1, A3, H⟩ := o1_ H
 by_cases c2 : t1 = true
 case neg =>
  obtain rfl := bf_.mpr c2
  rw [if_neg ft_] at H
  simp only [sj_, pj_] at H
  obtain ⟨rfl, rfl⟩ := H
  go_enter Tryd.func26, Tryd.ntmps26
  go_wp2_with (first | ((with_reducible refine gd_ (N := 2) rfl ?_); refine bx_ 2 #[.int .i64 a0_0, .bool a0_1, .slice A0_2 l0_2.length c0_2] 28 ?_; intro gb1 hg w1 BK1 hb; replace HO1_2 := A0_ (Kd.V_below (Kd.V_elderB bqvv_ gb1 (Nat.le_of_eq hg.symm)) hb); have GW1 := ge_ hg brt4_; have GE1 := GW1; replace HB := hb_ hb brt4_; clear hb hg) | ((with_reducible refine gd_ (N := 12) rfl ?_); refine Kd.R_lit (Kd.int .i64) _ 3 ?hg (N := 12) ?hd (xs := ([] : List Int)) (inner := []) (ok := fun _ => True) (okp := fun _ => True) ?hr ?hp (fun _ hk => hk) trivial (Below.refl _ _) (Nat.le_refl _) bxka_ ?_; (case hd => rfl); (case hg => rfl); (case hr => go_simp; first | done | rfl); (case hp => exact (Reps.none _ _)); intro v1 w2 ho44 hb hg_ hnew_; clear hg_ hnew_; (first | rw [← Ny1.out] at ho44 | (simp only [Int.reduceToNat] at ho44; rw [← Ny1.out] at ho44)); replace HO1_2 := A0_ (Kd.V_elder' bqvv_ (Kd.R_base ho44) hb); have HO2 := A0_ (Kd.R_lower (Kd.R_newM (M := fun k_ => (w.heap.size ≤ k_)) ho44 (bz_ be6g_) (fun k_ h_ => h_)) (bz_ be6g_)); replace BK1 := k1_ BK1 hb; replace HB := hb_ hb be6g_; clear hb ho44; have hcz1 := z3_ BK1) | ((with_reducible refine gc_ (f := 55) rfl ?_); refine gl_ 15 Tryd.func55 #[.agg #[.int .i64 a0_0, .bool a0_1, .slice A0_2 l0_2.length c0_2], .slice A1 l1.length c1, .bool false] ?_; (with_reducible refine (spec_l10Different.calls k a0_0 a0_1 _ _ l0_2 _ _ l1 false false _ ?side1 ?side2 ?side3 ?side4 A3.out).mono ?_); (case side1 => exact b26b_); (case side2 => exact (Kd.V_reads' HO1_2.out).2.1); (case side3 => exact b3d8_); (case side4 => exact HC1.out); rintro e w3 ⟨rfl, hb⟩; refine ⟨_, rfl, ?_⟩; replace HO1_2 := A0_ (Kd.V_below bqvv_ hb); replace HO2 := A0_ (Kd.R_below b9so_ hb); replace BK1 := k1_ BK1 hb; replace HB := hb_ hb be6g_; (try clear hb)))
  go_ret2
  exact ⟨_, bnwh_, b4xb_, be6g_⟩
 subst c2
 rw [if_pos rfl] at H
 have H' := A0_ H
 clear H
 go_enter Tryd.func26, Tryd.ntmps26
 go_wp2_with (first | ((with_reducible refine gd_ (N := 2) rfl ?_); refine bx_ 2 #[.int .i64 a0_0, .bool a0_1, .slice A0_2 l0_2.length c0_2] 28 ?_; intro gb1 hg w1 BK1 hb; replace HO1_2 := A0_ (Kd.V_below (Kd.V_elderB bqvv_ gb1 (Nat.le_of_eq hg.symm)) hb); have GW1 := ge_ hg brt4_; have GE1 := GW1; replace HB := hb_ hb brt4_; clear hb hg) | ((with_reducible refine gd_ (N := 12) rfl ?_); refine Kd.R_lit (Kd.int .i64) _ 3 ?hg (N := 12) ?hd (xs := ([] : List Int)) (inner := []) (ok := fun _ => True) (okp := fun _ => True) ?hr ?hp (fun _ hk => hk) trivial (Below.refl _ _) (Nat.le_refl _) bxka_ ?_; (case hd => rfl); (case hg => rfl); (case hr => go_simp; first | done | rfl); (case hp => exact (Reps.none _ _)); intro v1 w2 ho7 hb hg_ hnew_; clear hg_ hnew_; (first | rw [← Ny1.out] at ho7 | (simp only [Int.reduceToNat] at ho7; rw [← Ny1.out] at ho7)); replace HO1_2 := A0_ (Kd.V_elder' bqvv_ (Kd.R_base ho7) hb); have HO2 := A0_ (Kd.R_lower (Kd.R_newM (M := fun k_ => (w.heap.size ≤ k_)) ho7 (bz_ be6g_) (fun k_ h_ => h_)) (bz_ be6g_)); replace BK1 := k1_ BK1 hb; replace HB := hb_ hb be6g_; clear hb ho7; have hcz1 := z3_ BK1) | ((with_reducible refine gc_ (f := 55) rfl ?_); refine gl_ 15 Tryd.func55 #[.agg #[.int .i64 a0_0, .bool a0_1, .slice A0_2 l0_2.length c0_2], .slice A1 l1.length c1, .bool false] ?_; (with_reducible refine (spec_l10Different.calls k a0_0 a0_1 _ _ l0_2 _ _ l1 false true _ ?side1 ?side2 ?side3 ?side4 A3.out).mono ?_); (case side1 => exact b26b_); (case side2 => exact (Kd.V_reads' HO1_2.out).2.1); (case side3 => exact b3d8_); (case side4 => exact HC1.out); rintro e w3 ⟨rfl, hb⟩; refine ⟨_, rfl, ?_⟩; replace HO1_2 := A0_ (Kd.V_below bqvv_ hb); replace HO2 := A0_ (Kd.R_below b9so_ hb); replace BK1 := k1_ BK1 hb; replace HB := hb_ hb be6g_; (try clear hb); have hcz2 := z3_ BK1) | ((with_reducible refine gd_ (N := 7) rfl ?_); refine bx_ 7 #[.int .i64 0, .bool false, .slice none 0 0] 28 ?_; intro gb2 hg w4 BK2 hb; replace HO1_2 := A0_ (Kd.V_below (Kd.V_elderB bqvv_ gb2 (Nat.le_of_eq hg.symm)) hb); replace HO2 := A0_ (Kd.R_below b9so_ hb); have GW2 := ge_ hg be6g_; have GE2 := GW2; replace HB := hb_ hb be6g_; have NB1_2 := nl_ hg BK1; have NB2_1 := ng_ hg BK1; replace BK1 := k1_ BK1 hb; clear hb hg; have hnb1 := NB2_1.out; have hnc1 := NB1_2.out; have hcz3 := z3_ BK2))
 go_loopg [6, 8] k (fun kq v2 v3 w' => ∃ (x6_1 : List Int) (x8_1 : Int) (x538000_1 : Int) (x538001_1 : Bool) (x538002_1 : List Int) (u538002 : Value), v3 = .int .i64 x8_1 ∧ Aside0 (spec_SidesOf.l0 kq l1 x6_1 x8_1 x538000_1 x538001_1 x538002_1 = some (r1, r2)) ∧ Aside0 (kq ≤ k) ∧ Aside0 (Kd.R (Kd.int .i64) 3 w' w.heap.size (fun k_ => (w.heap.size ≤ k_)) v2 x6_1) ∧ Aside0 (Kd.V (Kd.int .i64) 3 w' w.heap.size (fun k_ => (P0_2_ k_ ∨ w.heap.size ≤ k_) ∧ no_ v2 k_ ∧ k_ ≠ gb1 ∧ k_ ≠ gb2) (.slice A0_2 l0_2.length c0_2) l0_2) ∧ Aside0 (Kd.V (Kd.int .i64) 3 w' w.heap.size (fun k_ => (P0_2_ k_ ∨ w.heap.size ≤ k_) ∧ no_ v2 k_ ∧ k_ ≠ gb1 ∧ k_ ≠ gb2) u538002 x538002_1) ∧ Aside0 (w'.heap[gb1]? = some (.cells #[.int .i64 a0_0, .bool a0_1, (.slice A0_2 l0_2.length c0_2)] 28 (0, 0))) ∧ Aside0 (w'.heap[gb2]? = some (.cells #[.int .i64 x538000_1, .bool x538001_1, u538002] 28 (0, 0))) ∧ Aside0 (Below w.heap.size w w'))
 case atStart => exact ⟨(y1), (0), (a0_0), (a0_1), (l0_2), (.slice A0_2 l0_2.length c0_2), b2ew_, H', ⟨Nat.le_refl _⟩, ⟨b63k_⟩, ⟨buls_⟩, ⟨buls_⟩, ⟨u1_ BK1⟩, ⟨u1_ BK2⟩, ⟨bfnq_⟩⟩
 clear H'
 try clear c1
 try clear c2
 (try clear hcz2); (try clear hcz3); (try clear hcz1); (try clear hfz2); (try clear hfz3); (try clear hfz1)
 obtain ⟨x6_1, x8_1, x538000_1, x538001_1, x538002_1, u538002, rfl, HA, HK1, HO_1, HO_2, HO_3, BK1, BK2, HB⟩ := hrel
 cases gk with | zero => exact absurd HA.out (by simp [spec_SidesOf.l0]) | succ k1 => ?_
 have H := HA.out
 clear HA
 simp only [spec_SidesOf.l0] at H
 by_cases c3 : x8_1 < (l1.length : Int)
 case neg =>
  rw [if_neg c3] at H
  have c3b0 : decide (x8_1 < (l1.length : Int)) = false := decide_eq_false c3
  clear c3
  simp only [sj_, pj_] at H
  obtain ⟨rfl, rfl⟩ := H
  go_wp2
  go_ret2
  exact ⟨_, bnwh_, bwik_, bfnq_⟩
 rw [if_pos c3] at H
 have c3b0 : decide (x8_1 < (l1.length : Int)) = true := dt_ c3
 clear c3
 by_cases c4 : 0 ≤ x8_1
 case neg =>
  rw [if_neg c4] at H
  exact absurd H bxka_
 rw [if_pos c4] at H
 have c4b0 : decide (0 ≤ x8_1) = true := dt_ c4
 clear c4
 obtain ⟨⟨t2, t3⟩, A5, H⟩ := o1_ H
 by_cases c5 : t3 < t2
 ·rw [if_pos c5] at H
  have c5b0 : decide (t3 < t2) = true := dt_ c5
  clear c5
  by_cases c6 : x6_1.length < 17592186044416
  case neg =>
   rw [if_neg c6] at H
   exact absurd H bxka_
  rw [if_pos c6] at H
  have LMc1 := A0_ c6
  clear c6
  obtain ⟨y2, hy2⟩ : ∃ y_ : List Int, y_ = (x6_1 ++ [1]) := ⟨_, rfl⟩
  replace H : ((spec_l2With.f k1 x538000_1 x538001_1 x538002_1 (rd l1 x8_1)).bind fun bt1 => (spec_SidesOf.l0 k1 l1 y2 (wrap64 (x8_1 + 1)) bt1.1 bt1.2.1 bt1.2.2)) = some (r1, r2) := bscs_
  have Ny2 := A0_ hy2
  clear hy2
  obtain ⟨⟨t4, t5, t6⟩, A7, H⟩ := o1_ H
  have H' := A0_ H
  clear H
  try go_wp2
  replace HO_1 := A0_ (rd_ HO_1.out)
  replace HO_2 := A0_ (Kd.V_drew HO_2.out)
  replace HO_3 := A0_ (Kd.V_drew HO_3.out)
  replace BK1 := A0_ (kd_ BK1.out)
  replace BK2 := A0_ (kd_ BK2.out)
  replace HB := A0_ (bd_ HB.out)
  have p1 : 0 ≤ (x8_1 : Int) := od_ bpil_
  have q1 : x8_1 < (l1.length : Int) := od_ bpil_
  obtain ⟨ad1, e1, hx1_0⟩ := Kd.at_int HR1.out x8_1 p1 q1
  have hw538_0 := hx1_0
  cases e1
  replace hx1_0 := (HB.out.cell (World.block_lt_of_cell? w _ hx1_0)).trans hx1_0
  replace p1 := eq_true p1
  replace q1 := eq_true q1
  obtain ⟨Ao1, co1, eo1⟩ := Kd.V_slice HO_3.out
  (first | subst eo1 | (injection eo1 with f1_ f2_ f3_; have f4_ := f1_.symm; have f5_ := f3_.symm; clear f1_ f2_ f3_; subst f4_; subst f5_))
  refine start_ (n := 11) (S := fun w' => w'.cell? ⟨gb2, 0, none⟩ = some (.int .i64 x538000_1) ∧ w'.cell? ⟨gb2, 1, none⟩ = some (.bool x538001_1) ∧ w'.cell? ⟨gb2, 2, none⟩ = some (.slice Ao1 x538002_1.length co1) ∧ w'.cell? (ad1.add (x8_1).toNat) = some (.int .i64 (rd l1 x8_1))) (ds := []) #[false, false, false, false, false, false, false, false, false, false, false] bfqv_ rfl rfl ⟨(kc_ BK2.out 0).trans rfl, (kc_ BK2.out 1).trans rfl, (kc_ BK2.out 2).trans rfl, ((HB.out.cell (World.block_lt_of_cell? w _ hw538_0)).trans hw538_0)⟩ (fun hHeld => ?_); refine with_tabW spec_SidesOf.tab9 spec_SidesOf.bits9 (fun HT_ HW_ => ?_)
  generalize wr.drew = w5 at HO_1 HO_2 HO_3 BK1 BK2 HB hx1_0 hHeld ⊢
  refine pu_ 1 27 ?_
  refine pu_ 2 28 ?_
  refine pu_ 3 29 ?_
  refine tk_ 0 26 hHeld ?_
  refine tk_ 4 30 hHeld ?_
  refine on_ 5 (some 31) (fun K hK => ?_)
  refine gs_ Tryd.func57 #[.agg #[.int .i64 x538000_1, .bool x538001_1, .slice Ao1 x538002_1.length co1], .int .i64 (rd l1 x8_1)] ?_
  with_reducible refine (spec_l10Between.calls k1 x538000_1 x538001_1 _ _ x538002_1 (rd l1 x8_1) t2 t3 _ ?side1 ?side2 A5.out).mono ?_
  (case side1 => exact bpur_)
  (case side2 => exact (Kd.V_reads' HO_3.out).2.1)
  rintro e w6 ⟨rfl, hb⟩
  refine ⟨_, rfl, ?_⟩
  replace HO_1 := A0_ (Kd.R_below bwik_ hb)
  replace HO_2 := A0_ (Kd.V_below b0k3_ hb)
  replace HO_3 := A0_ (Kd.V_below bpxd_ hb)
  replace BK1 := k1_ BK1 hb
  replace BK2 := k1_ BK2 hb
  replace HB := hb_ hb bfnq_
  (try clear hb)
  refine hK.out _ _ ⟨(kc_ BK2.out 0).trans rfl, (kc_ BK2.out 1).trans rfl, (kc_ BK2.out 2).trans rfl, ((HB.out.cell (World.block_lt_of_cell? w _ hw538_0)).trans hw538_0)⟩ (fun hHeld => ?_)
  clear hK K
  refine nm_ 31 ?_
  refine pu_ 6 25 ?_
  refine pu_ 7 32 ?_
  refine pu_ 8 33 ?_
  refine pu_ 9 10 ?_
  refine pu_ 10 11 ?_
  refine dn_ ?_
  try go_wp2_with (first | ((with_reducible refine gate_builtin (b := .append) (xs := #[.tmp 37, .tmp 39]) rfl ?_); at_builtin; refine Kd.R_append (Kd.int .i64) (w0 := w) w.heap.size rfl (.tmp 37) (.tmp 39) 22 3 (.int .i64 0) 8 rfl Tryd.underlying22 info3 rfl bi3y_ bh19_ u6 x6_1 1 [.int .i64 1] (fun k_ => (w.heap.size ≤ k_)) (fun _ => False) rfl rfl ?aP (fun _ hk => hk.elim) ?aF ?aO ?aB ?aS ?aL ?_; (case aP => exact rfl); (case aB => exact bfnq_); (case aF => exact (fun k_ hk => (Nat.le_trans (bz_ bfnq_) hk))); (case aO => exact bwik_); (case aS => exact (bz_ bfnq_)); (case aL => have := LMc1.out; omega); intro v4 w7 ho hb hg hat; rw [← Ny2.out] at ho; have n0_ := A0_ (Kd.V_afterv (ok := (fun k_ => (P0_2_ k_ ∨ w.heap.size ≤ k_) ∧ k_ ≠ gb1 ∧ k_ ≠ gb2)) ba38_ hg hat); have n1_ := A0_ (Kd.V_afterv (ok := (fun k_ => (P0_2_ k_ ∨ w.heap.size ≤ k_) ∧ k_ ≠ gb1 ∧ k_ ≠ gb2)) bch9_ hg hat); have n2_ := A0_ (blk_grown (g := gb1) (o := .cells #[.int .i64 a0_0, .bool a0_1, .slice A0_2 l0_2.length c0_2] 28 (0, 0)) (u1_ BK1) hg (Kd.R_ne HO_1.out BK1.out bi3y_)); have n3_ := A0_ (blk_grown (g := gb2) (o := .cells #[.int .i64 x538000_1, .bool x538001_1, .slice Ao1 x538002_1.length co1] 28 (0, 0)) (u1_ BK2) hg (Kd.R_ne HO_1.out BK2.out bi3y_)); have n4_ := A0_ (hb); have n5_ := A0_ (ho); clear HO_2 HO_3 BK1 BK2 HB HO_1; have HO_2 := n0_; have HO_3 := n1_; have BK1 := n2_; have BK2 := n3_; have HB := n4_; have HO3 := n5_; clear n0_ n1_ n2_ n3_ n4_ n5_ ho hb hg hat))
  replace HO_2 := A0_ (Kd.V_drew HO_2.out)
  replace HO_3 := A0_ (Kd.V_drew HO_3.out)
  replace HO3 := A0_ (rd_ HO3.out)
  replace BK1 := A0_ (kd_ BK1.out)
  replace BK2 := A0_ (kd_ BK2.out)
  replace HB := A0_ (bd_ HB.out)
  have p2 : 0 ≤ (x8_1 : Int) := od_ bpil_
  have q2 : x8_1 < (l1.length : Int) := od_ bpil_
  obtain ⟨ad2, e2, hx2_0⟩ := Kd.at_int HR1.out x8_1 p2 q2
  have hw544_0 := hx2_0
  obtain rfl : ad1 = ad2 := bs6y_
  replace hx2_0 := (HB.out.cell (World.block_lt_of_cell? w _ hx2_0)).trans hx2_0
  replace p2 := eq_true p2
  replace q2 := eq_true q2
  refine start_ (n := 7) (S := fun w' => w'.cell? ⟨gb2, 0, none⟩ = some (.int .i64 x538000_1) ∧ w'.cell? ⟨gb2, 1, none⟩ = some (.bool x538001_1) ∧ w'.cell? ⟨gb2, 2, none⟩ = some (.slice Ao1 x538002_1.length co1) ∧ w'.cell? (ad1.add (x8_1).toNat) = some (.int .i64 (rd l1 x8_1))) (ds := [6]) #[false, false, false, false, false, false, false] bfqv_ rfl rfl ⟨(kc_ BK2.out 0).trans rfl, (kc_ BK2.out 1).trans rfl, (kc_ BK2.out 2).trans rfl, ((HB.out.cell (World.block_lt_of_cell? w _ hw544_0)).trans hw544_0)⟩ (fun hHeld => ?_)
  generalize w7.drew = w8 at HO_2 HO_3 HO3 BK1 BK2 HB hx2_0 hHeld ⊢
  refine pu_ 1 42 ?_
  refine pu_ 2 43 ?_
  refine pu_ 3 44 ?_
  refine tk_ 0 41 hHeld ?_
  refine tk_ 4 45 hHeld ?_
  refine on_ 5 (some 46) (fun K hK => ?_)
  refine gs_ Tryd.func44 #[.agg #[.int .i64 x538000_1, .bool x538001_1, .slice Ao1 x538002_1.length co1], .int .i64 (rd l1 x8_1)] ?_
  with_reducible refine (spec_l2With.calls k1 x538000_1 x538001_1 _ _ x538002_1 (rd l1 x8_1) t4 t5 t6 _ ?side1 ?side2 A7.out).mono ?_
  (case side1 => exact bpur_)
  (case side2 => exact (Kd.V_reads' HO_3.out).2.1)
  rintro e w9 ⟨v5, rfl, ho0, hb⟩
  refine ⟨_, rfl, ?_⟩
  replace HO_2 := A0_ (Kd.V_elder' b0k3_ (Kd.R_base ho0) hb)
  replace HO_3 := A0_ (Kd.V_elder' bpxd_ (Kd.R_base ho0) hb)
  have HO4 := A0_ (Kd.R_lower (Kd.R_new' (Kd.R_newM (M := fun k_ => (w.heap.size ≤ k_)) ho0 (bz_ bfnq_) (fun k_ h_ => h_)) (Kd.R_lt buiy_)) (bz_ bfnq_))
  replace HO3 := A0_ (Kd.R_elder' buiy_ (Kd.R_base ho0) hb)
  replace BK1 := k1_ BK1 hb
  replace BK2 := k1_ BK2 hb
  replace HB := hb_ hb bfnq_
  (try clear hb); (try clear ho0)
  obtain ⟨Ao2, co2, eo2⟩ := Kd.R_slice HO4.out
  (first | subst eo2 | (injection eo2 with f1_ f2_ f3_; have f4_ := f1_.symm; have f5_ := f3_.symm; clear f1_ f2_ f3_; subst f4_; subst f5_))
  refine hK.out _ _ ⟨(kc_ BK2.out 0).trans rfl, (kc_ BK2.out 1).trans rfl, (kc_ BK2.out 2).trans rfl, ((HB.out.cell (World.block_lt_of_cell? w _ hw544_0)).trans hw544_0)⟩ (fun hHeld => ?_)
  clear hK K
  refine nm_ 46 ?_
  refine last_ (i := 6) (N := none) #[true, true, true, true, true, true, true] rfl rfl bfqv_ bi3y_ (fun K hK => ?_)
  have hs26 : w9.cell? ⟨gb2, 0, none⟩ = some (.int .i64 x538000_1) := (kc_ BK2.out 0).trans rfl
  have hfs26 := kf_ BK2.out 0
  have hns1_0 := NB1_2.out
  have hms1_0 := NB2_1.out
  have hs27 : w9.cell? ⟨gb2, 1, none⟩ = some (.bool x538001_1) := (kc_ BK2.out 1).trans rfl
  have hfs27 := kf_ BK2.out 1
  have hns2_0 := NB1_2.out
  have hms2_0 := NB2_1.out
  have hs29 : w9.cell? ⟨gb2, 2, none⟩ = some (.slice Ao1 x538002_1.length co1) := (kc_ BK2.out 2).trans rfl
  have hfs29 := kf_ BK2.out 2
  have hns3_0 := NB1_2.out
  have hms3_0 := NB2_1.out
  refine skip_ (w1 := ?_) b139_ rfl ?_ ?_
  rotate_left
  ·go_simp
   rfl
  refine hK.out _ _ ?_
  clear hK K
  refine done_ bfqv_ ?_
  try go_wp2
  go_roundg k1
  case measure => have := HK1.out; omega
  exact ⟨(y2), (wrap64 (x8_1 + 1)), (t4), (t5), (t6), (.slice Ao2 t6.length co2), b2ew_, H', ⟨bxjq_⟩, ⟨bdqd_⟩, ⟨b1uc_⟩, ⟨Kd.V_mono (Kd.R_V bex8_) (fun k_ hk => by exact ⟨(.inr (hk.1.1.1.1.1)), ⟨hk.1.1.1.2, ⟨hk.1.1.2, hk.1.2⟩⟩⟩)⟩, ⟨u1_ BK1⟩, ⟨u1_ BK2⟩, ⟨bfnq_⟩⟩
 rw [if_neg c5] at H
 have c5b0 : decide (t3 < t2) = false := decide_eq_false c5
 clear c5
 by_cases c6 : x6_1.length < 17592186044416
 case neg =>
  rw [if_neg c6] at H
  exact absurd H bxka_
 rw [if_pos c6] at H
 have LMc1 := A0_ c6
 clear c6
 obtain ⟨y2, hy2⟩ : ∃ y_ : List Int, y_ = (x6_1 ++ [0]) := ⟨_, rfl⟩
 replace H : ((spec_l2With.f k1 x538000_1 x538001_1 x538002_1 (rd l1 x8_1)).bind fun bt1 => (spec_SidesOf.l0 k1 l1 y2 (wrap64 (x8_1 + 1)) bt1.1 bt1.2.1 bt1.2.2)) = some (r1, r2) := bscs_
 have Ny2 := A0_ hy2
 clear hy2
 obtain ⟨⟨t4, t5, t6⟩, A7, H⟩ := o1_ H
 have H' := A0_ H
 clear H
 try go_wp2
 replace HO_1 := A0_ (rd_ HO_1.out)
 replace HO_2 := A0_ (Kd.V_drew HO_2.out)
 replace HO_3 := A0_ (Kd.V_drew HO_3.out)
 replace BK1 := A0_ (kd_ BK1.out)
 replace BK2 := A0_ (kd_ BK2.out)
 replace HB := A0_ (bd_ HB.out)
 have p1 : 0 ≤ (x8_1 : Int) := od_ bpil_
 have q1 : x8_1 < (l1.length : Int) := od_ bpil_
 obtain ⟨ad1, e1, hx1_0⟩ := Kd.at_int HR1.out x8_1 p1 q1
 have hw538_0 := hx1_0
 cases e1
 replace hx1_0 := (HB.out.cell (World.block_lt_of_cell? w _ hx1_0)).trans hx1_0
 replace p1 := eq_true p1
 replace q1 := eq_true q1
 obtain ⟨Ao1, co1, eo1⟩ := Kd.V_slice HO_3.out
 (first | subst eo1 | (injection eo1 with f1_ f2_ f3_; have f4_ := f1_.symm; have f5_ := f3_.symm; clear f1_ f2_ f3_; subst f4_; subst f5_))
 refine start_ (n := 11) (S := fun w' => w'.cell? ⟨gb2, 0, none⟩ = some (.int .i64 x538000_1) ∧ w'.cell? ⟨gb2, 1, none⟩ = some (.bool x538001_1) ∧ w'.cell? ⟨gb2, 2, none⟩ = some (.slice Ao1 x538002_1.length co1) ∧ w'.cell? (ad1.add (x8_1).toNat) = some (.int .i64 (rd l1 x8_1))) (ds := []) #[false, false, false, false, false, false, false, false, false, false, false] bfqv_ rfl rfl ⟨(kc_ BK2.out 0).trans rfl, (kc_ BK2.out 1).trans rfl, (kc_ BK2.out 2).trans rfl, ((HB.out.cell (World.block_lt_of_cell? w _ hw538_0)).trans hw538_0)⟩ (fun hHeld => ?_); refine with_tabW spec_SidesOf.tab9 spec_SidesOf.bits9 (fun HT_ HW_ => ?_)
 generalize wr.drew = w5 at HO_1 HO_2 HO_3 BK1 BK2 HB hx1_0 hHeld ⊢
 refine pu_ 1 27 ?_
 refine pu_ 2 28 ?_
 refine pu_ 3 29 ?_
 refine tk_ 0 26 hHeld ?_
 refine tk_ 4 30 hHeld ?_
 refine on_ 5 (some 31) (fun K hK => ?_)
 refine gs_ Tryd.func57 #[.agg #[.int .i64 x538000_1, .bool x538001_1, .slice Ao1 x538002_1.length co1], .int .i64 (rd l1 x8_1)] ?_
 with_reducible refine (spec_l10Between.calls k1 x538000_1 x538001_1 _ _ x538002_1 (rd l1 x8_1) t2 t3 _ ?side1 ?side2 A5.out).mono ?_
 (case side1 => exact bpur_)
 (case side2 => exact (Kd.V_reads' HO_3.out).2.1)
 rintro e w6 ⟨rfl, hb⟩
 refine ⟨_, rfl, ?_⟩
 replace HO_1 := A0_ (Kd.R_below bwik_ hb)
 replace HO_2 := A0_ (Kd.V_below b0k3_ hb)
 replace HO_3 := A0_ (Kd.V_below bpxd_ hb)
 replace BK1 := k1_ BK1 hb
 replace BK2 := k1_ BK2 hb
 replace HB := hb_ hb bfnq_
 (try clear hb)
 refine hK.out _ _ ⟨(kc_ BK2.out 0).trans rfl, (kc_ BK2.out 1).trans rfl, (kc_ BK2.out 2).trans rfl, ((HB.out.cell (World.block_lt_of_cell? w _ hw538_0)).trans hw538_0)⟩ (fun hHeld => ?_)
 clear hK K
 refine nm_ 31 ?_
 refine pu_ 6 25 ?_
 refine pu_ 7 32 ?_
 refine pu_ 8 33 ?_
 refine pu_ 9 10 ?_
 refine pu_ 10 11 ?_
 refine dn_ ?_
 try go_wp2_with (first | ((with_reducible refine gate_builtin (b := .append) (xs := #[.tmp 37, .tmp 39]) rfl ?_); at_builtin; refine Kd.R_append (Kd.int .i64) (w0 := w) w.heap.size rfl (.tmp 37) (.tmp 39) 22 3 (.int .i64 0) 8 rfl Tryd.underlying22 info3 rfl bi3y_ bh19_ u6 x6_1 0 [.int .i64 0] (fun k_ => (w.heap.size ≤ k_)) (fun _ => False) rfl rfl ?aP (fun _ hk => hk.elim) ?aF ?aO ?aB ?aS ?aL ?_; (case aP => exact rfl); (case aB => exact bfnq_); (case aF => exact (fun k_ hk => (Nat.le_trans (bz_ bfnq_) hk))); (case aO => exact bwik_); (case aS => exact (bz_ bfnq_)); (case aL => have := LMc1.out; omega); intro v4 w7 ho hb hg hat; rw [← Ny2.out] at ho; have n0_ := A0_ (Kd.V_afterv (ok := (fun k_ => (P0_2_ k_ ∨ w.heap.size ≤ k_) ∧ k_ ≠ gb1 ∧ k_ ≠ gb2)) ba38_ hg hat); have n1_ := A0_ (Kd.V_afterv (ok := (fun k_ => (P0_2_ k_ ∨ w.heap.size ≤ k_) ∧ k_ ≠ gb1 ∧ k_ ≠ gb2)) bch9_ hg hat); have n2_ := A0_ (blk_grown (g := gb1) (o := .cells #[.int .i64 a0_0, .bool a0_1, .slice A0_2 l0_2.length c0_2] 28 (0, 0)) (u1_ BK1) hg (Kd.R_ne HO_1.out BK1.out bi3y_)); have n3_ := A0_ (blk_grown (g := gb2) (o := .cells #[.int .i64 x538000_1, .bool x538001_1, .slice Ao1 x538002_1.length co1] 28 (0, 0)) (u1_ BK2) hg (Kd.R_ne HO_1.out BK2.out bi3y_)); have n4_ := A0_ (hb); have n5_ := A0_ (ho); clear HO_2 HO_3 BK1 BK2 HB HO_1; have HO_2 := n0_; have HO_3 := n1_; have BK1 := n2_; have BK2 := n3_; have HB := n4_; have HO3 := n5_; clear n0_ n1_ n2_ n3_ n4_ n5_ ho hb hg hat))
 replace HO_2 := A0_ (Kd.V_drew HO_2.out)
 replace HO_3 := A0_ (Kd.V_drew HO_3.out)
 replace HO3 := A0_ (rd_ HO3.out)
 replace BK1 := A0_ (kd_ BK1.out)
 replace BK2 := A0_ (kd_ BK2.out)
 replace HB := A0_ (bd_ HB.out)
 have p2 : 0 ≤ (x8_1 : Int) := od_ bpil_
 have q2 : x8_1 < (l1.length : Int) := od_ bpil_
 obtain ⟨ad2, e2, hx2_0⟩ := Kd.at_int HR1.out x8_1 p2 q2
 have hw553_0 := hx2_0
 obtain rfl : ad1 = ad2 := bs6y_
 replace hx2_0 := (HB.out.cell (World.block_lt_of_cell? w _ hx2_0)).trans hx2_0
 replace p2 := eq_true p2
 replace q2 := eq_true q2
 refine start_ (n := 7) (S := fun w' => w'.cell? ⟨gb2, 0, none⟩ = some (.int .i64 x538000_1) ∧ w'.cell? ⟨gb2, 1, none⟩ = some (.bool x538001_1) ∧ w'.cell? ⟨gb2, 2, none⟩ = some (.slice Ao1 x538002_1.length co1) ∧ w'.cell? (ad1.add (x8_1).toNat) = some (.int .i64 (rd l1 x8_1))) (ds := [6]) #[false, false, false, false, false, false, false] bfqv_ rfl rfl ⟨(kc_ BK2.out 0).trans rfl, (kc_ BK2.out 1).trans rfl, (kc_ BK2.out 2).trans rfl, ((HB.out.cell (World.block_lt_of_cell? w _ hw553_0)).trans hw553_0)⟩ (fun hHeld => ?_)
 generalize w7.drew = w8 at HO_2 HO_3 HO3 BK1 BK2 HB hx2_0 hHeld ⊢
 refine pu_ 1 42 ?_
 refine pu_ 2 43 ?_
 refine pu_ 3 44 ?_
 refine tk_ 0 41 hHeld ?_
 refine tk_ 4 45 hHeld ?_
 refine on_ 5 (some 46) (fun K hK => ?_)
 refine gs_ Tryd.func44 #[.agg #[.int .i64 x538000_1, .bool x538001_1, .slice Ao1 x538002_1.length co1], .int .i64 (rd l1 x8_1)] ?_
 with_reducible refine (spec_l2With.calls k1 x538000_1 x538001_1 _ _ x538002_1 (rd l1 x8_1) t4 t5 t6 _ ?side1 ?side2 A7.out).mono ?_
 (case side1 => exact bpur_)
 (case side2 => exact (Kd.V_reads' HO_3.out).2.1)
 rintro e w9 ⟨v5, rfl, ho0, hb⟩
 refine ⟨_, rfl, ?_⟩
 replace HO_2 := A0_ (Kd.V_elder' b0k3_ (Kd.R_base ho0) hb)
 replace HO_3 := A0_ (Kd.V_elder' bpxd_ (Kd.R_base ho0) hb)
 have HO4 := A0_ (Kd.R_lower (Kd.R_new' (Kd.R_newM (M := fun k_ => (w.heap.size ≤ k_)) ho0 (bz_ bfnq_) (fun k_ h_ => h_)) (Kd.R_lt buiy_)) (bz_ bfnq_))
 replace HO3 := A0_ (Kd.R_elder' buiy_ (Kd.R_base ho0) hb)
 replace BK1 := k1_ BK1 hb
 replace BK2 := k1_ BK2 hb
 replace HB := hb_ hb bfnq_
 (try clear hb); (try clear ho0)
 obtain ⟨Ao2, co2, eo2⟩ := Kd.R_slice HO4.out
 (first | subst eo2 | (injection eo2 with f1_ f2_ f3_; have f4_ := f1_.symm; have f5_ := f3_.symm; clear f1_ f2_ f3_; subst f4_; subst f5_))
 refine hK.out _ _ ⟨(kc_ BK2.out 0).trans rfl, (kc_ BK2.out 1).trans rfl, (kc_ BK2.out 2).trans rfl, ((HB.out.cell (World.block_lt_of_cell? w _ hw553_0)).trans hw553_0)⟩ (fun hHeld => ?_)
 clear hK K
 refine nm_ 46 ?_
 refine last_ (i := 6) (N := none) #[true, true, true, true, true, true, true] rfl rfl bfqv_ bi3y_ (fun K hK => ?_)
 have hs38 : w9.cell? ⟨gb2, 0, none⟩ = some (.int .i64 x538000_1) := (kc_ BK2.out 0).trans rfl
 have hfs38 := kf_ BK2.out 0
 have hns1_0 := NB1_2.out
 have hms1_0 := NB2_1.out
 have hs39 : w9.cell? ⟨gb2, 1, none⟩ = some (.bool x538001_1) := (kc_ BK2.out 1).trans rfl
 have hfs39 := kf_ BK2.out 1
 have hns2_0 := NB1_2.out
 have hms2_0 := NB2_1.out
 have hs41 : w9.cell? ⟨gb2, 2, none⟩ = some (.slice Ao1 x538002_1.length co1) := (kc_ BK2.out 2).trans rfl
 have hfs41 := kf_ BK2.out 2
 have hns3_0 := NB1_2.out
 have hms3_0 := NB2_1.out
 refine skip_ (w1 := ?_) b139_ rfl ?_ ?_
 rotate_left
 ·go_simp
  rfl
 refine hK.out _ _ ?_
 clear hK K
 refine done_ bfqv_ ?_
 try go_wp2
 go_roundg k1
 case measure => have := HK1.out; omega
 exact ⟨(y2), (wrap64 (x8_1 + 1)), (t4), (t5), (t6), (.slice Ao2 t6.length co2), b2ew_, H', ⟨bxjq_⟩, ⟨bdqd_⟩, ⟨b1uc_⟩, ⟨Kd.V_mono (Kd.R_V bex8_) (fun k_ hk => by exact ⟨(.inr (hk.1.1.1.1.1)), ⟨hk.1.1.1.2, ⟨hk.1.1.2, hk.1.2⟩⟩⟩)⟩, ⟨u1_ BK1⟩, ⟨u1_ BK2⟩, ⟨bfnq_⟩⟩

def spec_DrawLeastStands_m.f (k : Nat) (s0_0 : List Int) (s0_1 : Int) (s0_2 : Int) : Option (Int × Bool × List Int × Bool × Int × Int) := (spec_l1Cur_shortRow.f k s0_0 s0_1 s0_2).bind fun bt577 => ((spec_l1Cur_one.f s0_0 bt577.2.2.2.1 bt577.2.2.2.2 16).bind fun bt585 => (if bt585.1 = true then ((spec_l1Cur_one.f s0_0 bt585.2.1 bt585.2.2 2).bind fun bt588 => (some (bt577.1, bt577.2.1, bt577.2.2.1, bt588.1, bt588.2.1, bt588.2.2))) else ((spec_l1Cur_one.f s0_0 bt585.2.1 bt585.2.2 2).bind fun bt591 => (some (bt577.1, false, bt577.2.2.1, bt591.1, bt591.2.1, bt591.2.2)))))
theorem spec_DrawLeastStands_m.mono : ∀ a0 a1 a2 k, LeO (spec_DrawLeastStands_m.f k a0 a1 a2) (spec_DrawLeastStands_m.f (k + 1) a0 a1 a2) := by
 intro a0 a1 a2 k
 unfold spec_DrawLeastStands_m.f
 repeat' with_reducible first | exact spec_l1Cur_shortRow.mono .. | exact LeO.refl .. | exact LeO.none .. | refine LeO.ite ?_ ?_ | refine LeO.bind ?_ (fun _ => ?_)
def spec_DrawLeastStands.f (k : Nat) (l0 : List Int) : Option (Int × Bool × List Int × Bool) := (spec_DrawLeastStands_m.f k l0 0 0).bind fun b => some (b.1, b.2.1, b.2.2.1, b.2.2.2.1)
theorem spec_DrawLeastStands.mono : ∀ a0 k, LeO (spec_DrawLeastStands.f k a0) (spec_DrawLeastStands.f (k + 1) a0) := by
 intro a0 k
 unfold spec_DrawLeastStands.f
 exact LeO.bind (spec_DrawLeastStands_m.mono _ _ _ _) (fun _ => LeO.refl _)
theorem spec_DrawLeastStands.calls (k : Nat) (A0 : Option Addr) (c0 : Nat) (l0 : List Int) (r1 : Int) (r2 : Bool) (r3 : List Int) (r4 : Bool) (w : World) (hr0 : Kd.C (Kd.int .u8) w A0 l0.length l0) (hc0 : l0.length ≤ c0) (h : spec_DrawLeastStands.f k l0 = some (r1, r2, r3, r4)) :
  Calls Tryd.prog 58 #[.slice A0 l0.length c0] w fun e w' => ∃ v2_ : Value, e = .returned (.tuple #[.agg #[.int .i64 r1, .bool r2, v2_], .bool r4]) ∧ Kd.R (Kd.int .i64) 3 w' w.heap.size (fun _ => True) v2_ r3 ∧ Below w.heap.size w w' := by
 have hu75 := Tryd.underlying75
 have HB := A0_ (Below.refl w.heap.size w)
 obtain ⟨⟨r1_, r2_, r3_, r4_, r5, r6⟩, h, h_⟩ := ob_.mp (show (spec_DrawLeastStands_m.f k l0 0 0).bind (fun b => some (b.1, b.2.1, b.2.2.1, b.2.2.2.1)) = some (r1, r2, r3, r4) from h)
 replace h : spec_DrawLeastStands_m.f k l0 0 0 = some (r1, r2, r3, r4, r5, r6) := by rw [h]; cases h_; rfl
 clear h_
 have H : ((spec_l1Cur_shortRow.f k l0 0 0).bind fun bt1 => ((spec_l1Cur_one.f l0 bt1.2.2.2.1 bt1.2.2.2.2 16).bind fun bt2 => (if bt2.1 = true then ((spec_l1Cur_one.f l0 bt2.2.1 bt2.2.2 2).bind fun bt3 => (some (bt1.1, bt1.2.1, bt1.2.2.1, bt3.1, bt3.2.1, bt3.2.2))) else ((spec_l1Cur_one.f l0 bt2.2.1 bt2.2.2 2).bind fun bt4 => (some (bt1.1, false, bt1.2.2.1, bt4.1, bt4.2.1, bt4.2.2)))))) = some (r1, r2, r3, r4, r5, r6) := h
 clear h
 obtain ⟨⟨t1, t2, t3, t4, t5⟩, A2, H⟩ := o1_ H
 obtain ⟨⟨t6, t7, t8⟩, A4, H⟩ := o1_ H
 by_cases c1 : t6 = true
 ·subst c1
  rw [if_pos rfl] at H
  obtain ⟨⟨t9, t10, t11⟩, A6, H⟩ := o1_ H
  replace H : (some (t1, t2, t3, t9, t10, t11)) = some (r1, r2, r3, r4, r5, r6) := H
  simp only [sj_, pj_] at H
  obtain ⟨rfl, rfl, rfl, rfl, rfl, rfl⟩ := H
  go_enter Tryd.func58, Tryd.ntmps58
  try go_wp2_with (first | ((with_reducible refine gd_ (N := 2) rfl ?_); refine bx_ 2 #[.int .i64 0, .bool false, .slice none 0 0] 28 ?_; intro gb1 hg w1 hbox hb; have n2_ := A0_ (bt_ brt4_ hb); have n3_ := hbox; have n4_ := A0_ ((bwen_ : w.heap.size ≤ gb1)); clear HB; have HB := n2_; have BK1 := n3_; have GW1 := n4_; have GE1 := n4_; clear n2_ n3_ n4_ hb hbox hg) | ((with_reducible refine gd_ (N := 8) rfl ?_); refine be_ ?hg (N := 8) ?hd (cs := #[.slice A0 l0.length c0, .int .i64 0, .int .u64 0]) (t := 75) ?hr ?_; (case hd => rfl); (case hg => rfl); (case hr => go_simp; first | done | rfl); intro g hg wB hbox hb; have n0_ := A0_ (show IsS75 w wB g l0 0 0 from ⟨A0, c0, hbox, bwen_, hr0⟩); have n1_ := A0_ (KeepBut.refl wB g none); have n2_ := A0_ (bt_ brt4_ hb); have HW0 := A0_ (Below.size n2_.out); have m576_ := A0_ (kb_ (g := gb1) (o := .cells #[.int .i64 0, .bool false, .slice none 0 0] 28 (0, 0)) (u1_ BK1) hb); have NB0_1 := A0_ ((bvny_ : g ≠ gb1)); have NB1_0 := A0_ (Ne.symm NB0_1.out); clear HB BK1; have HI0 := n0_; have HK := n1_; have HB := n2_; have BK1 := m576_; clear m576_ n0_ n1_ n2_ hb hbox hg) | ((with_reducible refine gc_ (f := 76) rfl ?_); refine gl_ 10 Tryd.func76 #[.pointer (some ⟨g, 0, none⟩)] ?_; (with_reducible refine (spec_l1Cur_shortRow.calls k g l0 0 0 t1 t2 t3 t4 t5 w _ ?side1 ?side2 A2.out).mono ?_); (case side1 => exact b9yh_); (case side2 => exact bois_); rintro e w2 ⟨v1, rfl, ho0, hi, hb, hk⟩; refine ⟨_, rfl, ?_⟩; replace BK1 := kb1_ BK1 hk NB1_0; have HO1 := A0_ (Kd.R_lower ho0 (keep_size (w := wB) (g := g) (row := none) bcka_)); replace HK := A0_ (KeepBut.trans bcka_ hk (.inl rfl)); replace HB := A0_ (hb); replace HI0 := A0_ (hi); (try clear hb); (try clear hk); (try clear hi); (try clear ho0)) | ((with_reducible refine gd_ (N := 5) rfl ?_); refine bx_ 5 #[.int .i64 0, .bool false, .slice none 0 0] 28 ?_; intro gb2 hg w3 BK2 hb; replace HO1 := A0_ (Kd.R_below bsm5_ hb); replace HB := hb_ hb bois_; have GW2 := A0_ ((bgk2_ : wB.heap.size ≤ gb2)); have GE2 := A0_ ((Nat.le_trans HW0.out (bgk2_ : wB.heap.size ≤ gb2) : w.heap.size ≤ gb2)); replace HK := A0_ (KeepBut.trans bcka_ (KeepBut.of_below hb g none) (.inl rfl)); have NB1_2 := nl_ hg BK1; have NB2_1 := ng_ hg BK1; replace BK1 := k1_ BK1 hb; have NB0_2 := A0_ ((b6wa_ : g ≠ gb2)); have NB2_0 := A0_ ((b6tu_ : gb2 ≠ g)); replace HI0 := A0_ (IsS75.below b9yh_ hb); clear hb hg; have hnb1 := NB2_1.out; have hnc1 := NB1_2.out; have hnb2 := NB2_0.out; have hnc2 := NB0_2.out; have hcz1 := z3_ BK2; obtain ⟨Ao1, co1, eo1⟩ := Kd.R_slice HO1.out; subst eo1) | ((with_reducible refine gc_ (f := 51) rfl ?_); refine gl_ 12 Tryd.func51 #[.pointer (some ⟨g, 0, none⟩), .int .i64 16] ?_; (with_reducible refine (spec_l1Cur_one.calls g l0 t4 t5 16 true t7 t8 w _ ?side1 ?side2 A4.out).mono ?_); (case side1 => exact bxkc_); (case side2 => exact b2rv_); rintro e w4 ⟨rfl, hi, hb, hk⟩; refine ⟨_, rfl, ?_⟩; replace BK1 := kb1_ BK1 hk NB1_0; replace HO1 := A0_ (Kd.R_mono (Kd.R_keep (IsS75.apart (show IsS75 w _ g l0 t4 t5 from bxkc_) byf5_ bi3y_) hk (fun _ h => h.2)) (fun _ h => h.1)); replace BK2 := A0_ (KeepBut.blk hk (g' := gb2) (o := .cells #[.int .i64 t1, .bool t2, .slice Ao1 t3.length co1] 28 (0, 0)) (u1_ BK2) NB2_0.out bxka_); replace HK := A0_ (KeepBut.trans bgjc_ hk (.inl rfl)); replace HB := A0_ (hb); replace HI0 := A0_ (hi); (try clear hb); (try clear hk); (try clear hi)))
  replace HO1 := A0_ (rd_ HO1.out)
  replace BK1 := A0_ (kd_ BK1.out)
  replace BK2 := A0_ (kd_ BK2.out)
  replace HI0 := A0_ (IsS75.drew HI0.out)
  replace HK := A0_ (keep_drew HK.out)
  replace HB := A0_ (bd_ HB.out)
  refine start_ (n := 5) (S := fun w' => w'.cell? ⟨gb2, 0, none⟩ = some (.int .i64 t1) ∧ w'.cell? ⟨gb2, 1, none⟩ = some (.bool t2) ∧ w'.cell? ⟨gb2, 2, none⟩ = some (.slice Ao1 t3.length co1)) (ds := []) #[false, false, false, false, false] bfqv_ rfl rfl ⟨(kc_ BK2.out 0).trans rfl, (kc_ BK2.out 1).trans rfl, (kc_ BK2.out 2).trans rfl⟩ (fun hHeld => ?_)
  generalize w4.drew = w5 at HO1 BK1 BK2 HI0 HK HB hHeld ⊢
  refine pu_ 1 16 ?_
  refine tk_ 0 15 hHeld ?_
  refine on_ 2 (some 17) (fun K hK => ?_)
  refine gs_ Tryd.func51 #[.pointer (some ⟨g, 0, none⟩), .int .i64 2] ?_
  with_reducible refine (spec_l1Cur_one.calls g l0 t7 t8 2 t9 t10 t11 w _ ?side1 ?side2 A6.out).mono ?_
  (case side1 => exact bxkc_)
  (case side2 => exact b2rv_)
  rintro e w6 ⟨rfl, hi, hb, hk⟩
  refine ⟨_, rfl, ?_⟩
  replace BK1 := kb1_ BK1 hk NB1_0
  replace HO1 := A0_ (Kd.R_mono (Kd.R_keep (IsS75.apart (show IsS75 w _ g l0 t7 t8 from bxkc_) bsm5_ bi3y_) hk (fun _ h => h.2)) (fun _ h => h.1))
  replace BK2 := kb1_ BK2 hk NB2_0
  replace HK := A0_ (KeepBut.trans bgjc_ hk (.inl rfl))
  replace HB := A0_ (hb)
  replace HI0 := A0_ (hi)
  (try clear hb); (try clear hk); (try clear hi)
  refine hK.out _ _ (c3_ BK2) (fun hHeld => ?_)
  clear hK K
  refine nm_ 17 ?_
  refine on_ 3 none (fun K hK => ?_)
  have hs16 : w6.cell? ⟨gb1, 0, none⟩ = some (.int .i64 0) := (kc_ BK1.out 0).trans rfl
  have hfs16 := kf_ BK1.out 0
  have hns1_1 := NB2_1.out
  have hms1_1 := NB1_2.out
  have hs17 : w6.cell? ⟨gb1, 1, none⟩ = some (.bool false) := (kc_ BK1.out 1).trans rfl
  have hfs17 := kf_ BK1.out 1
  have hns2_1 := NB2_1.out
  have hms2_1 := NB1_2.out
  have hs18 : w6.cell? ⟨gb1, 2, none⟩ = some (.slice none 0 0) := (kc_ BK1.out 2).trans rfl
  have hfs18 := kf_ BK1.out 2
  have hns3_1 := NB2_1.out
  have hms3_1 := NB1_2.out
  refine skip_ (w1 := ?_) b139_ rfl ?_ ?_
  rotate_left
  ·go_simp
   rfl
  refine hK.out _ _ ⟨((cell_far (p := ⟨gb1, _, none⟩) NB2_1.out _).trans (((cell_far (p := ⟨gb1, _, none⟩) NB2_1.out _).trans (((cell_far (p := ⟨gb1, _, none⟩) NB2_1.out _).trans (hHeld.1)))))), ((cell_far (p := ⟨gb1, _, none⟩) NB2_1.out _).trans (((cell_far (p := ⟨gb1, _, none⟩) NB2_1.out _).trans (((cell_far (p := ⟨gb1, _, none⟩) NB2_1.out _).trans (hHeld.2.1)))))), ((cell_far (p := ⟨gb1, _, none⟩) NB2_1.out _).trans (((cell_far (p := ⟨gb1, _, none⟩) NB2_1.out _).trans (((cell_far (p := ⟨gb1, _, none⟩) NB2_1.out _).trans (hHeld.2.2))))))⟩ (fun hHeld => ?_)
  clear hK K
  refine pu_ 4 3 ?_
  refine done_ bfqv_ ?_
  try go_wp2
  refine bodyPost_ret (results_ct rfl _ _ gb1 28 #[.int .i64 t1, .bool t2, .slice Ao1 t3.length co1] (0, 0) _ rfl (u1_ BK1) Tryd.underlying28 rfl bfqv_) rfl ?_
  exact ⟨_, bnwh_, br6m_, b2rv_⟩
 obtain rfl := bf_.mpr c1
 rw [if_neg ft_] at H
 obtain ⟨⟨t9, t10, t11⟩, A6, H⟩ := o1_ H
 replace H : (some (t1, false, t3, t9, t10, t11)) = some (r1, r2, r3, r4, r5, r6) := H
 simp only [sj_, pj_] at H
 obtain ⟨rfl, rfl, rfl, rfl, rfl, rfl⟩ := H
 go_enter Tryd.func58, Tryd.ntmps58
 try go_wp2_with (first | ((with_reducible refine gd_ (N := 2) rfl ?_); refine bx_ 2 #[.int .i64 0, .bool false, .slice none 0 0] 28 ?_; intro gb1 hg w1 hbox hb; have n2_ := A0_ (bt_ brt4_ hb); have n3_ := hbox; have n4_ := A0_ ((bwen_ : w.heap.size ≤ gb1)); clear HB; have HB := n2_; have BK1 := n3_; have GW1 := n4_; have GE1 := n4_; clear n2_ n3_ n4_ hb hbox hg) | ((with_reducible refine gd_ (N := 8) rfl ?_); refine be_ ?hg (N := 8) ?hd (cs := #[.slice A0 l0.length c0, .int .i64 0, .int .u64 0]) (t := 75) ?hr ?_; (case hd => rfl); (case hg => rfl); (case hr => go_simp; first | done | rfl); intro g hg wB hbox hb; have n0_ := A0_ (show IsS75 w wB g l0 0 0 from ⟨A0, c0, hbox, bwen_, hr0⟩); have n1_ := A0_ (KeepBut.refl wB g none); have n2_ := A0_ (bt_ brt4_ hb); have HW0 := A0_ (Below.size n2_.out); have m576_ := A0_ (kb_ (g := gb1) (o := .cells #[.int .i64 0, .bool false, .slice none 0 0] 28 (0, 0)) (u1_ BK1) hb); have NB0_1 := A0_ ((bvny_ : g ≠ gb1)); have NB1_0 := A0_ (Ne.symm NB0_1.out); clear HB BK1; have HI0 := n0_; have HK := n1_; have HB := n2_; have BK1 := m576_; clear m576_ n0_ n1_ n2_ hb hbox hg) | ((with_reducible refine gc_ (f := 76) rfl ?_); refine gl_ 10 Tryd.func76 #[.pointer (some ⟨g, 0, none⟩)] ?_; (with_reducible refine (spec_l1Cur_shortRow.calls k g l0 0 0 t1 t2 t3 t4 t5 w _ ?side1 ?side2 A2.out).mono ?_); (case side1 => exact b9yh_); (case side2 => exact bois_); rintro e w2 ⟨v1, rfl, ho0, hi, hb, hk⟩; refine ⟨_, rfl, ?_⟩; replace BK1 := kb1_ BK1 hk NB1_0; have HO1 := A0_ (Kd.R_lower ho0 (keep_size (w := wB) (g := g) (row := none) bcka_)); replace HK := A0_ (KeepBut.trans bcka_ hk (.inl rfl)); replace HB := A0_ (hb); replace HI0 := A0_ (hi); (try clear hb); (try clear hk); (try clear hi); (try clear ho0)) | ((with_reducible refine gd_ (N := 5) rfl ?_); refine bx_ 5 #[.int .i64 0, .bool false, .slice none 0 0] 28 ?_; intro gb2 hg w3 BK2 hb; replace HO1 := A0_ (Kd.R_below bsm5_ hb); replace HB := hb_ hb bois_; have GW2 := A0_ ((bgk2_ : wB.heap.size ≤ gb2)); have GE2 := A0_ ((Nat.le_trans HW0.out (bgk2_ : wB.heap.size ≤ gb2) : w.heap.size ≤ gb2)); replace HK := A0_ (KeepBut.trans bcka_ (KeepBut.of_below hb g none) (.inl rfl)); have NB1_2 := nl_ hg BK1; have NB2_1 := ng_ hg BK1; replace BK1 := k1_ BK1 hb; have NB0_2 := A0_ ((b6wa_ : g ≠ gb2)); have NB2_0 := A0_ ((b6tu_ : gb2 ≠ g)); replace HI0 := A0_ (IsS75.below b9yh_ hb); clear hb hg; have hnb1 := NB2_1.out; have hnc1 := NB1_2.out; have hnb2 := NB2_0.out; have hnc2 := NB0_2.out; have hcz1 := z3_ BK2; obtain ⟨Ao1, co1, eo1⟩ := Kd.R_slice HO1.out; subst eo1) | ((with_reducible refine gc_ (f := 51) rfl ?_); refine gl_ 12 Tryd.func51 #[.pointer (some ⟨g, 0, none⟩), .int .i64 16] ?_; (with_reducible refine (spec_l1Cur_one.calls g l0 t4 t5 16 false t7 t8 w _ ?side1 ?side2 A4.out).mono ?_); (case side1 => exact bxkc_); (case side2 => exact b2rv_); rintro e w4 ⟨rfl, hi, hb, hk⟩; refine ⟨_, rfl, ?_⟩; replace BK1 := kb1_ BK1 hk NB1_0; replace HO1 := A0_ (Kd.R_mono (Kd.R_keep (IsS75.apart (show IsS75 w _ g l0 t4 t5 from bxkc_) byf5_ bi3y_) hk (fun _ h => h.2)) (fun _ h => h.1)); replace BK2 := A0_ (KeepBut.blk hk (g' := gb2) (o := .cells #[.int .i64 t1, .bool t2, .slice Ao1 t3.length co1] 28 (0, 0)) (u1_ BK2) NB2_0.out bxka_); replace HK := A0_ (KeepBut.trans bgjc_ hk (.inl rfl)); replace HB := A0_ (hb); replace HI0 := A0_ (hi); (try clear hb); (try clear hk); (try clear hi); have hcz2 := z3_ BK2))
 have n0_ : Aside0 (Kd.R (Kd.int .i64) 3 (w4.setCell ⟨gb2, 1, none⟩ (.bool false)) wB.heap.size (fun _ => True) (.slice Ao1 t3.length co1) t3) := ⟨by (with_reducible repeat (first | apply ra_ | apply rn_ | apply rd_)); exact Kd.R_mono (rf_ (Kd.R_types HO1.out BK2.out bi3y_) k2_0 _) (fun _ hk => trivial)⟩
 have n1_ : Aside0 ((w4.setCell ⟨gb2, 1, none⟩ (.bool false)).heap[gb1]? = some (.cells #[.int .i64 0, .bool false, .slice none 0 0] 28 (0, 0))) := ⟨u1_ BK1⟩
 have n2_ : Aside0 ((w4.setCell ⟨gb2, 1, none⟩ (.bool false)).heap[gb2]? = some (.cells #[.int .i64 t1, .bool false, .slice Ao1 t3.length co1] 28 (0, 0))) := ⟨u1_ BK2⟩
 have n3_ : Aside0 (IsS75 w (w4.setCell ⟨gb2, 1, none⟩ (.bool false)) g l0 t7 t8) := ⟨bxkc_⟩
 have n4_ : Aside0 (KeepBut wB (w4.setCell ⟨gb2, 1, none⟩ (.bool false)) g none) := ⟨bgjc_⟩
 have n5_ : Aside0 (Below w.heap.size w (w4.setCell ⟨gb2, 1, none⟩ (.bool false))) := ⟨b2rv_⟩
 (try clear HO1)
 (try clear BK1)
 (try clear BK2)
 (try clear HI0)
 (try clear HK)
 (try clear HB)
 generalize (w4.setCell ⟨gb2, 1, none⟩ (.bool false)) = w5 at n0_ n1_ n2_ n3_ n4_ n5_ ⊢
 have HO1 := n0_
 have BK1 := n1_
 have BK2 := n2_
 have HI0 := n3_
 have HK := n4_
 have HB := n5_
 clear n0_ n1_ n2_ n3_ n4_ n5_
 replace HO1 := A0_ (rd_ HO1.out)
 replace BK1 := A0_ (kd_ BK1.out)
 replace BK2 := A0_ (kd_ BK2.out)
 replace HI0 := A0_ (IsS75.drew HI0.out)
 replace HK := A0_ (keep_drew HK.out)
 replace HB := A0_ (bd_ HB.out)
 refine start_ (n := 5) (S := fun w' => w'.cell? ⟨gb2, 0, none⟩ = some (.int .i64 t1) ∧ w'.cell? ⟨gb2, 1, none⟩ = some (.bool false) ∧ w'.cell? ⟨gb2, 2, none⟩ = some (.slice Ao1 t3.length co1)) (ds := []) #[false, false, false, false, false] bfqv_ rfl rfl ⟨(kc_ BK2.out 0).trans rfl, (kc_ BK2.out 1).trans rfl, (kc_ BK2.out 2).trans rfl⟩ (fun hHeld => ?_)
 generalize w5.drew = w6 at HO1 BK1 BK2 HI0 HK HB hHeld ⊢
 refine pu_ 1 16 ?_
 refine tk_ 0 15 hHeld ?_
 refine on_ 2 (some 17) (fun K hK => ?_)
 refine gs_ Tryd.func51 #[.pointer (some ⟨g, 0, none⟩), .int .i64 2] ?_
 with_reducible refine (spec_l1Cur_one.calls g l0 t7 t8 2 t9 t10 t11 w _ ?side1 ?side2 A6.out).mono ?_
 (case side1 => exact bxkc_)
 (case side2 => exact b2rv_)
 rintro e w7 ⟨rfl, hi, hb, hk⟩
 refine ⟨_, rfl, ?_⟩
 replace BK1 := kb1_ BK1 hk NB1_0
 replace HO1 := A0_ (Kd.R_mono (Kd.R_keep (IsS75.apart (show IsS75 w _ g l0 t7 t8 from bxkc_) bsm5_ bi3y_) hk (fun _ h => h.2)) (fun _ h => h.1))
 replace BK2 := kb1_ BK2 hk NB2_0
 replace HK := A0_ (KeepBut.trans bgjc_ hk (.inl rfl))
 replace HB := A0_ (hb)
 replace HI0 := A0_ (hi)
 (try clear hb); (try clear hk); (try clear hi)
 refine hK.out _ _ (c3_ BK2) (fun hHeld => ?_)
 clear hK K
 refine nm_ 17 ?_
 refine on_ 3 none (fun K hK => ?_)
 have hs32 : w7.cell? ⟨gb1, 0, none⟩ = some (.int .i64 0) := (kc_ BK1.out 0).trans rfl
 have hfs32 := kf_ BK1.out 0
 have hns1_1 := NB2_1.out
 have hms1_1 := NB1_2.out
 have hs33 : w7.cell? ⟨gb1, 1, none⟩ = some (.bool false) := (kc_ BK1.out 1).trans rfl
 have hfs33 := kf_ BK1.out 1
 have hns2_1 := NB2_1.out
 have hms2_1 := NB1_2.out
 have hs34 : w7.cell? ⟨gb1, 2, none⟩ = some (.slice none 0 0) := (kc_ BK1.out 2).trans rfl
 have hfs34 := kf_ BK1.out 2
 have hns3_1 := NB2_1.out
 have hms3_1 := NB1_2.out
 refine skip_ (w1 := ?_) b139_ rfl ?_ ?_
 rotate_left
 ·go_simp
  rfl
 refine hK.out _ _ ⟨((cell_far (p := ⟨gb1, _, none⟩) NB2_1.out _).trans (((cell_far (p := ⟨gb1, _, none⟩) NB2_1.out _).trans (((cell_far (p := ⟨gb1, _, none⟩) NB2_1.out _).trans (hHeld.1)))))), ((cell_far (p := ⟨gb1, _, none⟩) NB2_1.out _).trans (((cell_far (p := ⟨gb1, _, none⟩) NB2_1.out _).trans (((cell_far (p := ⟨gb1, _, none⟩) NB2_1.out _).trans (hHeld.2.1)))))), ((cell_far (p := ⟨gb1, _, none⟩) NB2_1.out _).trans (((cell_far (p := ⟨gb1, _, none⟩) NB2_1.out _).trans (((cell_far (p := ⟨gb1, _, none⟩) NB2_1.out _).trans (hHeld.2.2))))))⟩ (fun hHeld => ?_)
 clear hK K
 refine pu_ 4 3 ?_
 refine done_ bfqv_ ?_
 try go_wp2
 refine bodyPost_ret (results_ct rfl _ _ gb1 28 #[.int .i64 t1, .bool false, .slice Ao1 t3.length co1] (0, 0) _ rfl (u1_ BK1) Tryd.underlying28 rfl bfqv_) rfl ?_
 exact ⟨_, bnwh_, br6m_, b2rv_⟩


def spec_DrawBestArrival.f (k : Nat) (l0 : List Int) : Option (Int × Bool × List Int × Bool) := (spec_DrawLeastStands.f k l0).bind fun bt560 => (some (bt560.1, bt560.2.1, bt560.2.2.1, bt560.2.2.2))
theorem spec_DrawBestArrival.mono : ∀ a0 k, LeO (spec_DrawBestArrival.f k a0) (spec_DrawBestArrival.f (k + 1) a0) := by
 intro a0 k
 unfold spec_DrawBestArrival.f
 repeat' with_reducible first | exact spec_DrawLeastStands.mono .. | exact LeO.refl .. | exact LeO.none .. | refine LeO.ite ?_ ?_ | refine LeO.bind ?_ (fun _ => ?_)
theorem spec_DrawBestArrival.calls (k : Nat) (A0 : Option Addr) (c0 : Nat) (l0 : List Int) (r1 : Int) (r2 : Bool) (r3 : List Int) (r4 : Bool) (w : World) (hr0 : Kd.C (Kd.int .u8) w A0 l0.length l0) (hc0 : l0.length ≤ c0) (h : spec_DrawBestArrival.f k l0 = some (r1, r2, r3, r4)) :
  Calls Tryd.prog 27 #[.slice A0 l0.length c0] w fun e w' => ∃ v2_ : Value, e = .returned (.tuple #[.agg #[.int .i64 r1, .bool r2, v2_], .bool r4]) ∧ Kd.R (Kd.int .i64) 3 w' w.heap.size (fun _ => True) v2_ r3 ∧ Below w.heap.size w w' := by
 have hu28 := Tryd.underlying28
 have HR0 := A0_ hr0
 have HC0 := A0_ hc0
 clear hr0 hc0
 have HB := A0_ (Below.refl w.heap.size w)
 have H : ((spec_DrawLeastStands.f k l0).bind fun bt1 => (some (bt1.1, bt1.2.1, bt1.2.2.1, bt1.2.2.2))) = some (r1, r2, r3, r4) := h
 clear h
 obtain ⟨⟨t1, t2, t3, t4⟩, A2, H⟩ := o1_ H
 replace H : (some (t1, t2, t3, t4)) = some (r1, r2, r3, r4) := H
 simp only [sj_, pj_] at H
 obtain ⟨rfl, rfl, rfl, rfl⟩ := H
 go_enter Tryd.func27, Tryd.ntmps27
 go_wp2_with (first | ((with_reducible refine gd_ (N := 2) rfl ?_); refine bx_ 2 #[.int .i64 0, .bool false, .slice none 0 0] 28 ?_; intro gb1 hg w1 BK1 hb; have GW1 := ge_ hg brt4_; have GE1 := GW1; replace HB := hb_ hb brt4_; clear hb hg) | ((with_reducible refine gc_ (f := 58) rfl ?_); refine gl_ 5 Tryd.func58 #[.slice A0 l0.length c0] ?_; (with_reducible refine (spec_DrawLeastStands.calls k _ _ l0 t1 t2 t3 t4 _ ?side1 ?side2 A2.out).mono ?_); (case side1 => exact bg0z_); (case side2 => exact HC0.out); rintro e w2 ⟨v1, rfl, ho0, hb⟩; refine ⟨_, rfl, ?_⟩; have HO1 := A0_ (Kd.R_lower ho0 (bz_ be6g_)); replace BK1 := k1_ BK1 hb; replace HB := hb_ hb be6g_; (try clear hb); (try clear ho0); have hcz1 := z3_ BK1; obtain ⟨Ao1, co1, eo1⟩ := Kd.R_slice HO1.out; subst eo1))
 refine bodyPost_ret (results_ct rfl _ _ gb1 28 #[.int .i64 t1, .bool t2, .slice Ao1 t3.length co1] (0, 0) _ rfl (u1_ BK1) Tryd.underlying28 rfl bfqv_) rfl ?_
 exact ⟨_, bnwh_, b083_, be6g_⟩

mutual
def spec_DrawLeaveStands_m.l0 : Nat → List Int → Int → List Int → Int → Int → Int → Bool → List Int → Option (Int × Bool × List Int × List Int × Int × Int)
 | 0, _, _, _, _, _, _, _, _ => none
 | k + 1, x6, x7, x1000, x1001, x1002, x607000, x607001, x607002 => if x7 > 0 then ((spec_l1Cur_seat.f x1000 x1001 x1002 x607000 x607001 x607002).bind fun bt613 => (if (x607002.length : Int) > 0 then ((spec_l1Cur_one.f x1000 bt613.2.1 bt613.2.2 12).bind fun bt616 => (spec_DrawLeaveStands_m.j1 k x6 x7 bt613.1 (x607002.length : Int) (!bt616.1) x1000 bt616.2.1 bt616.2.2 x607000 x607001 x607002)) else (spec_DrawLeaveStands_m.j1 k x6 x7 bt613.1 (x607002.length : Int) false x1000 bt613.2.1 bt613.2.2 x607000 x607001 x607002))) else (some (x607000, x607001, x607002, x6, x1001, x1002))
def spec_DrawLeaveStands_m.j1 : Nat → List Int → Int → Int → Int → Bool → List Int → Int → Int → Int → Bool → List Int → Option (Int × Bool × List Int × List Int × Int × Int)
 | 0, _, _, _, _, _, _, _, _, _, _, _ => none
 | k + 1, x6, x7, x8, x9, x35, x1000, x1001, x1002, x607000, x607001, x607002 => if x35 = true then ((spec_l1Cur_pick.f x1000 x1001 x1002 x9).bind fun bt619 => (if 0 ≤ bt619.1 then (if bt619.1 < (x607002.length : Int) then (spec_DrawLeaveStands_m.j2 k x6 x7 (rd x607002 bt619.1) x1000 bt619.2.1 bt619.2.2 x607000 x607001 x607002) else (none)) else (none))) else (spec_DrawLeaveStands_m.j2 k x6 x7 x8 x1000 x1001 x1002 x607000 x607001 x607002)
def spec_DrawLeaveStands_m.j2 : Nat → List Int → Int → Int → List Int → Int → Int → Int → Bool → List Int → Option (Int × Bool × List Int × List Int × Int × Int)
 | 0, _, _, _, _, _, _, _, _, _ => none
 | k + 1, x6, x7, x8, x1000, x1001, x1002, x607000, x607001, x607002 => (spec_l1Has.f k x6 x8).bind fun t623 => (if t623 = true then ((spec_l1Cur_one.f x1000 x1001 x1002 20).bind fun bt624 => (if bt624.1 = true then (if x6.length < 17592186044416 then (spec_DrawLeaveStands_m.l0 k (x6 ++ [x8]) (wrap64 (x7 - 1)) x1000 bt624.2.1 bt624.2.2 x607000 x607001 x607002) else (none)) else (spec_DrawLeaveStands_m.l0 k x6 (wrap64 (x7 - 1)) x1000 bt624.2.1 bt624.2.2 x607000 x607001 x607002))) else (if x6.length < 17592186044416 then (spec_DrawLeaveStands_m.l0 k (x6 ++ [x8]) (wrap64 (x7 - 1)) x1000 x1001 x1002 x607000 x607001 x607002) else (none)))
end
def spec_DrawLeaveStands_m.f (k : Nat) (s0_0 : List Int) (s0_1 : Int) (s0_2 : Int) : Option (Int × Bool × List Int × List Int × Int × Int) := (spec_l1Cur_lineRow.f k s0_0 s0_1 s0_2).bind fun bt596 => ((spec_l1Cur_among.f s0_0 bt596.2.2.2.1 bt596.2.2.2.2 (([2, 3, 1, 4, 0, 8] : List Int))).bind fun bt610 => (spec_DrawLeaveStands_m.l0 k (([] : List Int)) bt610.1 s0_0 bt610.2.1 bt610.2.2 bt596.1 bt596.2.1 bt596.2.2.1))
theorem spec_DrawLeaveStands_m.mono_l : ∀ k, (∀ y0 y1 y2 y3 y4 y5 y6 y7, LeO (spec_DrawLeaveStands_m.l0 k y0 y1 y2 y3 y4 y5 y6 y7) (spec_DrawLeaveStands_m.l0 (k + 1) y0 y1 y2 y3 y4 y5 y6 y7)) ∧ (∀ y0 y1 y2 y3 y4 y5 y6 y7 y8 y9 y10, LeO (spec_DrawLeaveStands_m.j1 k y0 y1 y2 y3 y4 y5 y6 y7 y8 y9 y10) (spec_DrawLeaveStands_m.j1 (k + 1) y0 y1 y2 y3 y4 y5 y6 y7 y8 y9 y10)) ∧ (∀ y0 y1 y2 y3 y4 y5 y6 y7 y8, LeO (spec_DrawLeaveStands_m.j2 k y0 y1 y2 y3 y4 y5 y6 y7 y8) (spec_DrawLeaveStands_m.j2 (k + 1) y0 y1 y2 y3 y4 y5 y6 y7 y8))
 | 0 => ⟨fun _ _ _ _ _ _ _ _ r h => by simp [spec_DrawLeaveStands_m.l0] at h, fun _ _ _ _ _ _ _ _ _ _ _ r h => by simp [spec_DrawLeaveStands_m.j1] at h, fun _ _ _ _ _ _ _ _ _ r h => by simp [spec_DrawLeaveStands_m.j2] at h⟩
 | k + 1 => by
  obtain ⟨ih0, ih1, ih2⟩ := spec_DrawLeaveStands_m.mono_l k
  refine ⟨?_, ?_, ?_⟩
  ·intro y0 y1 y2 y3 y4 y5 y6 y7
   unfold spec_DrawLeaveStands_m.l0
   repeat' with_reducible first | exact ih0 .. | exact ih1 .. | exact ih2 .. | exact spec_l1Cur_lineRow.mono .. | exact spec_l1Has.mono .. | exact LeO.refl .. | exact LeO.none .. | refine LeO.ite ?_ ?_ | refine LeO.bind ?_ (fun _ => ?_)
  ·intro y0 y1 y2 y3 y4 y5 y6 y7 y8 y9 y10
   unfold spec_DrawLeaveStands_m.j1
   repeat' with_reducible first | exact ih0 .. | exact ih1 .. | exact ih2 .. | exact spec_l1Cur_lineRow.mono .. | exact spec_l1Has.mono .. | exact LeO.refl .. | exact LeO.none .. | refine LeO.ite ?_ ?_ | refine LeO.bind ?_ (fun _ => ?_)
  ·intro y0 y1 y2 y3 y4 y5 y6 y7 y8
   unfold spec_DrawLeaveStands_m.j2
   repeat' with_reducible first | exact ih0 .. | exact ih1 .. | exact ih2 .. | exact spec_l1Cur_lineRow.mono .. | exact spec_l1Has.mono .. | exact LeO.refl .. | exact LeO.none .. | refine LeO.ite ?_ ?_ | refine LeO.bind ?_ (fun _ => ?_)
theorem spec_DrawLeaveStands_m.mono : ∀ a0 a1 a2 k, LeO (spec_DrawLeaveStands_m.f k a0 a1 a2) (spec_DrawLeaveStands_m.f (k + 1) a0 a1 a2) := by
 intro a0 a1 a2 k
 obtain ⟨ih0, ih1, ih2⟩ := spec_DrawLeaveStands_m.mono_l k
 unfold spec_DrawLeaveStands_m.f
 repeat' with_reducible first | exact ih0 .. | exact ih1 .. | exact ih2 .. | exact spec_l1Cur_lineRow.mono .. | exact spec_l1Has.mono .. | exact LeO.refl .. | exact LeO.none .. | refine LeO.ite ?_ ?_ | refine LeO.bind ?_ (fun _ => ?_)
def spec_DrawLeaveStands_m.T9 : Bool × List (List Nat × List Nat) := (true, [([], []), ([0], [0]), ([], []), ([], []), ([2, 3], [2, 3]), ([1, 4], [1, 4]), ([5], [5]), ([6, 4, 0, 1, 2, 3, 4, 5, 6], [6])])
def spec_DrawLeaveStands_m.B9 : List Nat := [0, 1, 0, 0, 12, 31, 63, 127]
theorem spec_DrawLeaveStands_m.tab9 : rtab .any (opsOf Tryd.f28 9) = spec_DrawLeaveStands_m.T9 := by kernel_rfl
theorem spec_DrawLeaveStands_m.bits9 : waitsOk spec_DrawLeaveStands_m.T9.2 spec_DrawLeaveStands_m.B9 = true := by kernel_rfl
def spec_DrawLeaveStands.f (k : Nat) (l0 : List Int) : Option (Int × Bool × List Int × List Int) := (spec_DrawLeaveStands_m.f k l0 0 0).bind fun b => some (b.1, b.2.1, b.2.2.1, b.2.2.2.1)
theorem spec_DrawLeaveStands.mono : ∀ a0 k, LeO (spec_DrawLeaveStands.f k a0) (spec_DrawLeaveStands.f (k + 1) a0) := by
 intro a0 k
 unfold spec_DrawLeaveStands.f
 exact LeO.bind (spec_DrawLeaveStands_m.mono _ _ _ _) (fun _ => LeO.refl _)
theorem spec_DrawLeaveStands.calls (k : Nat) (A0 : Option Addr) (c0 : Nat) (l0 : List Int) (r1 : Int) (r2 : Bool) (r3 : List Int) (r4 : List Int) (w : World) (hr0 : Kd.C (Kd.int .u8) w A0 l0.length l0) (hc0 : l0.length ≤ c0) (h : spec_DrawLeaveStands.f k l0 = some (r1, r2, r3, r4)) :
  Calls Tryd.prog 28 #[.slice A0 l0.length c0] w fun e w' => ∃ v2_ v3_ : Value, e = .returned (.tuple #[.agg #[.int .i64 r1, .bool r2, v2_], v3_]) ∧ Kd.R (Kd.int .i64) 3 w' w.heap.size (fun k_ => no_ v3_ k_) v2_ r3 ∧ Kd.R (Kd.int .i64) 3 w' w.heap.size (fun k_ => no_ v2_ k_) v3_ r4 ∧ Below w.heap.size w w' := by
 have hu75 := Tryd.underlying75
 have HB := A0_ (Below.refl w.heap.size w)
 obtain ⟨⟨r1_, r2_, r3_, r4_, r5, r6⟩, h, h_⟩ := ob_.mp (show (spec_DrawLeaveStands_m.f k l0 0 0).bind (fun b => some (b.1, b.2.1, b.2.2.1, b.2.2.2.1)) = some (r1, r2, r3, r4) from h)
 replace h : spec_DrawLeaveStands_m.f k l0 0 0 = some (r1, r2, r3, r4, r5, r6) := by rw [h]; cases h_; rfl
 clear h_
 have H : ((spec_l1Cur_lineRow.f k l0 0 0).bind fun bt1 => ((spec_l1Cur_among.f l0 bt1.2.2.2.1 bt1.2.2.2.2 (([2, 3, 1, 4, 0, 8] : List Int))).bind fun bt2 => (spec_DrawLeaveStands_m.l0 k (([] : List Int)) bt2.1 l0 bt2.2.1 bt2.2.2 bt1.1 bt1.2.1 bt1.2.2.1))) = some (r1, r2, r3, r4, r5, r6) := h
 clear h
 obtain ⟨⟨t1, t2, t3, t4, t5⟩, A2, H⟩ := o1_ H
 obtain ⟨y1, hy1⟩ : ∃ y_ : List Int, y_ = (([] : List Int)) := ⟨_, rfl⟩
 replace H : ((spec_l1Cur_among.f l0 t4 t5 (([2, 3, 1, 4, 0, 8] : List Int))).bind fun bt2 => (spec_DrawLeaveStands_m.l0 k y1 bt2.1 l0 bt2.2.1 bt2.2.2 t1 t2 t3)) = some (r1, r2, r3, r4, r5, r6) := bgiq_
 have Ny1 := A0_ hy1
 clear hy1
 obtain ⟨y2, hy2⟩ : ∃ y_ : List Int, y_ = (([2, 3, 1, 4, 0, 8] : List Int)) := ⟨_, rfl⟩
 replace H : ((spec_l1Cur_among.f l0 t4 t5 y2).bind fun bt2 => (spec_DrawLeaveStands_m.l0 k y1 bt2.1 l0 bt2.2.1 bt2.2.2 t1 t2 t3)) = some (r1, r2, r3, r4, r5, r6) := bscs_
 have Ny2 := A0_ hy2
 clear hy2
 obtain ⟨⟨t6, t7, t8⟩, A4, H⟩ := o1_ H
 have H' := A0_ H
 clear H
 go_enter Tryd.func28, Tryd.ntmps28
 go_wp2_with (first | ((with_reducible refine gd_ (N := 2) rfl ?_); refine bx_ 2 #[.int .i64 0, .bool false, .slice none 0 0] 28 ?_; intro gb1 hg w1 hbox hb; have n2_ := A0_ (bt_ brt4_ hb); have n3_ := hbox; have n4_ := A0_ ((bwen_ : w.heap.size ≤ gb1)); clear HB; have HB := n2_; have BK1 := n3_; have GW1 := n4_; have GE1 := n4_; clear n2_ n3_ n4_ hb hbox hg) | ((with_reducible refine gd_ (N := 12) rfl ?_); refine be_ ?hg (N := 12) ?hd (cs := #[.slice A0 l0.length c0, .int .i64 0, .int .u64 0]) (t := 75) ?hr ?_; (case hd => rfl); (case hg => rfl); (case hr => go_simp; first | done | rfl); intro g hg wB hbox hb; have n0_ := A0_ (show IsS75 w wB g l0 0 0 from ⟨A0, c0, hbox, bwen_, hr0⟩); have n1_ := A0_ (KeepBut.refl wB g none); have n2_ := A0_ (bt_ brt4_ hb); have HW0 := A0_ (Below.size n2_.out); have m595_ := A0_ (kb_ (g := gb1) (o := .cells #[.int .i64 0, .bool false, .slice none 0 0] 28 (0, 0)) (u1_ BK1) hb); have NB0_1 := A0_ ((bvny_ : g ≠ gb1)); have NB1_0 := A0_ (Ne.symm NB0_1.out); clear HB BK1; have HI0 := n0_; have HK := n1_; have HB := n2_; have BK1 := m595_; clear m595_ n0_ n1_ n2_ hb hbox hg) | ((with_reducible refine gc_ (f := 49) rfl ?_); refine gl_ 14 Tryd.func49 #[.pointer (some ⟨g, 0, none⟩)] ?_; (with_reducible refine (spec_l1Cur_lineRow.calls k g l0 0 0 t1 t2 t3 t4 t5 w _ ?side1 ?side2 A2.out).mono ?_); (case side1 => exact b9yh_); (case side2 => exact bois_); rintro e w2 ⟨v1, rfl, ho0, hi, hb, hk⟩; refine ⟨_, rfl, ?_⟩; replace BK1 := kb1_ BK1 hk NB1_0; have HO1 := A0_ (Kd.R_lower ho0 (keep_size (w := wB) (g := g) (row := none) bcka_)); replace HK := A0_ (KeepBut.trans bcka_ hk (.inl rfl)); replace HB := A0_ (hb); replace HI0 := A0_ (hi); (try clear hb); (try clear hk); (try clear hi); (try clear ho0)) | ((with_reducible refine gd_ (N := 15) rfl ?_); refine Kd.R_lit (Kd.int .i64) _ 3 ?hg (N := 15) ?hd (xs := ([] : List Int)) (inner := []) (ok := fun _ => True) (okp := fun _ => True) ?hr ?hp (fun _ hk => hk) trivial (Below.refl _ _) (Nat.le_refl _) bxka_ ?_; (case hd => rfl); (case hg => rfl); (case hr => go_simp; first | done | rfl); (case hp => exact (Reps.none _ _)); intro v4 w3 ho7 hb hg_ hnew_; clear hg_ hnew_; (first | rw [← Ny1.out] at ho7 | (simp only [Int.reduceToNat] at ho7; rw [← Ny1.out] at ho7)); have HO2 := A0_ (Kd.R_lower (Kd.R_new' ho7 (Kd.R_lt bsm5_)) (keep_size (w := wB) (g := g) (row := none) bcka_)); replace HO1 := A0_ (Kd.R_elder' bsm5_ (Kd.R_base ho7) hb); replace BK1 := k1_ BK1 hb; replace HK := A0_ (KeepBut.trans bcka_ (KeepBut.of_below hb g none) (.inl rfl)); replace HB := hb_ hb bois_; replace HI0 := A0_ (IsS75.below b9yh_ hb); clear hb ho7) | ((with_reducible refine gd_ (N := 5) rfl ?_); refine bx_ 5 #[.int .i64 0, .bool false, .slice none 0 0] 28 ?_; intro gb2 hg w4 BK2 hb; replace HO1 := A0_ (Kd.R_below bsm5_ hb); replace HO2 := A0_ (Kd.R_below b9so_ hb); replace HB := hb_ hb bois_; have GW2 := A0_ ((bgk2_ : wB.heap.size ≤ gb2)); have GE2 := A0_ ((Nat.le_trans HW0.out (bgk2_ : wB.heap.size ≤ gb2) : w.heap.size ≤ gb2)); replace HK := A0_ (KeepBut.trans bcka_ (KeepBut.of_below hb g none) (.inl rfl)); have NB1_2 := nl_ hg BK1; have NB2_1 := ng_ hg BK1; replace BK1 := k1_ BK1 hb; have NB0_2 := A0_ ((b6wa_ : g ≠ gb2)); have NB2_0 := A0_ ((b6tu_ : gb2 ≠ g)); replace HI0 := A0_ (IsS75.below b9yh_ hb); clear hb hg; have hnb1 := NB2_1.out; have hnc1 := NB1_2.out; have hnb2 := NB2_0.out; have hnc2 := NB0_2.out; have hcz1 := z3_ BK2; obtain ⟨Ao1, co1, eo1⟩ := Kd.R_slice HO1.out; subst eo1) | ((with_reducible refine gd_ (N := 17) rfl ?_); refine Kd.R_lit (Kd.int .i64) _ 3 ?hg (N := 17) ?hd (xs := ([2, 3, 1, 4, 0, 8] : List Int)) (inner := [.int .i64 2, .int .i64 3, .int .i64 1, .int .i64 4, .int .i64 0, .int .i64 8]) (ok := fun _ => True) (okp := fun _ => True) ?hr ?hp (fun _ hk => hk) trivial (Below.refl _ _) (Nat.le_refl _) bxka_ ?_; (case hd => rfl); (case hg => rfl); (case hr => go_simp; first | done | rfl); (case hp => exact (Reps.one (show Kd.M (Kd.int .i64) _ _ _ 2 [.int .i64 2] from rfl) (Reps.one (show Kd.M (Kd.int .i64) _ _ _ 3 [.int .i64 3] from rfl) (Reps.one (show Kd.M (Kd.int .i64) _ _ _ 1 [.int .i64 1] from rfl) (Reps.one (show Kd.M (Kd.int .i64) _ _ _ 4 [.int .i64 4] from rfl) (Reps.one (show Kd.M (Kd.int .i64) _ _ _ 0 [.int .i64 0] from rfl) (Reps.one (show Kd.M (Kd.int .i64) _ _ _ 8 [.int .i64 8] from rfl) (Reps.none _ _)))))))); intro v5 w5 ho14 hb hg_ hnew_; clear hg_ hnew_; (first | rw [← Ny2.out] at ho14 | (simp only [Int.reduceToNat] at ho14; rw [← Ny2.out] at ho14)); have HO3 := A0_ (Kd.R_lower (Kd.R_new' (Kd.R_new' ho14 (Kd.R_lt byf5_)) (Kd.R_lt b9d1_)) (keep_size (w := wB) (g := g) (row := none) bgjc_)); replace HO1 := A0_ (Kd.R_elder' byf5_ (Kd.R_base ho14) hb); replace HO2 := A0_ (Kd.R_elder' b9d1_ (Kd.R_base ho14) hb); replace BK1 := k1_ BK1 hb; replace BK2 := k2_ (.cells #[.int .i64 t1, .bool t2, .slice Ao1 t3.length co1] 28 (0, 0)) BK2 hb; replace HK := A0_ (KeepBut.trans bgjc_ (KeepBut.of_below hb g none) (.inl rfl)); replace HB := hb_ hb b2rv_; replace HI0 := A0_ (IsS75.below (show IsS75 w (((w4.setCell ⟨gb2, 0, none⟩ (.int .i64 t1)).setCell ⟨gb2, 1, none⟩ (.bool t2)).setCell ⟨gb2, 2, none⟩ (.slice Ao1 t3.length co1)) g l0 t4 t5 from bxkc_) hb); clear hb ho14; obtain ⟨Ao2, co2, eo2⟩ := Kd.R_slice HO3.out; subst eo2) | ((with_reducible refine gc_ (f := 59) rfl ?_); refine gl_ 18 Tryd.func59 #[.pointer (some ⟨g, 0, none⟩), .slice Ao2 y2.length co2] ?_; (with_reducible refine (spec_l1Cur_among.calls g l0 t4 t5 _ _ y2 t6 t7 t8 w _ ?side1 ?side2 ?side3 ?side4 ?side5 A4.out).mono ?_); (case side1 => exact bxkc_); (case side2 => exact b2rv_); (case side3 => exact be4z_); (case side4 => exact (rr_ HO3.out).2.1); (case side5 => exact far_slice (IsS75.own_ne HI0.out HO3.out bi3y_)); rintro e w6 ⟨rfl, hi, hb, hk⟩; refine ⟨_, rfl, ?_⟩; replace BK1 := kb1_ BK1 hk NB1_0; replace HO1 := A0_ (Kd.R_mono (Kd.R_keep (IsS75.apart (show IsS75 w _ g l0 t4 t5 from bxkc_) bsm5_ bi3y_) hk (fun _ h => h.2)) (fun _ h => h.1)); replace HO2 := A0_ (Kd.R_mono (Kd.R_keep (IsS75.apart (show IsS75 w _ g l0 t4 t5 from bxkc_) b9so_ bi3y_) hk (fun _ h => h.2)) (fun _ h => h.1)); replace BK2 := kb1_ BK2 hk NB2_0; replace HO3 := A0_ (Kd.R_mono (Kd.R_keep (IsS75.apart (show IsS75 w _ g l0 t4 t5 from bxkc_) buiy_ bi3y_) hk (fun _ h => h.2)) (fun _ h => h.1)); replace HK := A0_ (KeepBut.trans bgjc_ hk (.inl rfl)); replace HB := A0_ (hb); replace HI0 := A0_ (hi); (try clear hb); (try clear hk); (try clear hi)))
 go_loopg [6, 7] k (fun kq v6 v7 w' => ∃ (x6_1 : List Int) (x7_1 : Int) (x1001_1 : Int) (x1002_1 : Int), v7 = .int .i64 x7_1 ∧ Aside0 (spec_DrawLeaveStands_m.l0 kq x6_1 x7_1 l0 x1001_1 x1002_1 t1 t2 t3 = some (r1, r2, r3, r4, r5, r6)) ∧ Aside0 (kq ≤ k) ∧ Aside0 (Kd.R (Kd.int .i64) 3 w' wB.heap.size (fun k_ => no_ (.slice Ao1 t3.length co1) k_) v6 x6_1) ∧ Aside0 (Kd.R (Kd.int .i64) 3 w' wB.heap.size (fun k_ => no_ v6 k_) (.slice Ao1 t3.length co1) t3) ∧ Aside0 (w'.heap[gb1]? = some (.cells #[.int .i64 0, .bool false, (.slice none 0 0)] 28 (0, 0))) ∧ Aside0 (w'.heap[gb2]? = some (.cells #[.int .i64 t1, .bool t2, (.slice Ao1 t3.length co1)] 28 (0, 0))) ∧ Aside0 (IsS75 w w' g l0 x1001_1 x1002_1) ∧ Aside0 (KeepBut wB w' g none) ∧ Aside0 (Below w.heap.size w w'))
 case atStart => exact ⟨(y1), (t6), (t7), (t8), b2ew_, H', ⟨Nat.le_refl _⟩, ⟨by (with_reducible repeat (first | apply ra_ | apply rn_ | apply rd_)); exact Kd.R_mono HO2.out (fun _ hk => hk.1.2)⟩, ⟨by (with_reducible repeat (first | apply ra_ | apply rn_ | apply rd_)); exact Kd.R_mono HO1.out (fun _ hk => hk.1.2)⟩, ⟨u1_ BK1⟩, ⟨u1_ BK2⟩, ⟨bxkc_⟩, ⟨bgjc_⟩, ⟨b2rv_⟩⟩
 clear H'
 (try clear hcz1); (try clear hfz1)
 obtain ⟨x6_1, x7_1, x1001_1, x1002_1, rfl, HA, HK1, HO_1, HO_2, BK1, BK2, HI0, HK, HB⟩ := hrel
 cases gk with | zero => exact absurd HA.out (by simp [spec_DrawLeaveStands_m.l0]) | succ k1 => ?_
 have H := HA.out
 clear HA
 simp only [spec_DrawLeaveStands_m.l0] at H
 by_cases c1 : x7_1 > 0
 case neg =>
  rw [if_neg c1] at H
  have c1b0 : decide (0 < x7_1) = false := decide_eq_false c1
  clear c1
  simp only [sj_, pj_] at H
  obtain ⟨rfl, rfl, rfl, rfl, rfl, rfl⟩ := H
  have hnb3 := NB2_1.out
  have hnc3 := NB1_2.out
  have hnb4 := NB2_0.out
  have hnc4 := NB0_2.out
  have hcz2 := z3_ BK2
  have hnb5 := NB1_0.out
  have hnc5 := NB0_1.out
  have hcz3 := z3_ BK1
  go_wp2
  refine bodyPost_ret (results_ct rfl _ _ gb1 28 #[.int .i64 t1, .bool t2, .slice Ao1 t3.length co1] (0, 0) _ rfl (u1_ BK1) Tryd.underlying28 rfl bfqv_) rfl ?_
  exact ⟨_, _, bnwh_, by (with_reducible repeat (first | apply ra_ | apply rn_ | apply rd_)); exact Kd.R_lower (Kd.R_mono (rf_ (rf_ (rf_ (Kd.R_types HO_2.out BK1.out bi3y_) k2_0 _) k2_0 _) k2_0 _) (fun _ hk => hk.1)) HW0.out, by (with_reducible repeat (first | apply ra_ | apply rn_ | apply rd_)); exact Kd.R_lower (Kd.R_mono (rf_ (rf_ (rf_ (Kd.R_types HO_1.out BK1.out bi3y_) k2_0 _) k2_0 _) k2_0 _) (fun _ hk => hk.1)) HW0.out, b2rv_⟩
 rw [if_pos c1] at H
 have c1b0 : decide (0 < x7_1) = true := dt_ c1
 clear c1
 obtain ⟨⟨t9, t10, t11⟩, A6, H⟩ := o1_ H
 have HC19 := A0_ H
 clear H
 have hnb3 := NB2_1.out
 have hnc3 := NB1_2.out
 have hnb4 := NB2_0.out
 have hnc4 := NB0_2.out
 have hcz2 := z3_ BK2
 go_upto_region 8 with (first | ((with_reducible refine gc_ (f := 60) rfl ?_); refine gl_ 25 Tryd.func60 #[.pointer (some ⟨g, 0, none⟩), .agg #[.int .i64 t1, .bool t2, .slice Ao1 t3.length co1]] ?_; (with_reducible refine (spec_l1Cur_seat.calls g l0 x1001_1 x1002_1 t1 t2 _ _ t3 t9 t10 t11 w _ ?side1 ?side2 ?side3 ?side4 ?side5 A6.out).mono ?_); (case side1 => exact bxkc_); (case side2 => exact b2rv_); (case side3 => exact bqlu_); (case side4 => exact (rr_ HO_2.out).2.1); (case side5 => exact far_slice (IsS75.own_ne HI0.out HO_2.out bi3y_)); rintro e w7 ⟨rfl, hi, hb, hk⟩; refine ⟨_, rfl, ?_⟩; replace HO_1 := A0_ (Kd.R_mono (Kd.R_keep (IsS75.apart (show IsS75 w _ g l0 x1001_1 x1002_1 from bxkc_) bwik_ bi3y_) hk (fun _ h => h.2)) (fun _ h => h.1)); replace HO_2 := A0_ (Kd.R_mono (Kd.R_keep (IsS75.apart (show IsS75 w _ g l0 x1001_1 x1002_1 from bxkc_) b7sq_ bi3y_) hk (fun _ h => h.2)) (fun _ h => h.1)); replace BK1 := kb1_ BK1 hk NB1_0; replace BK2 := kb1_ BK2 hk NB2_0; replace HK := A0_ (KeepBut.trans bgjc_ hk (.inl rfl)); replace HB := A0_ (hb); replace HI0 := A0_ (hi); (try clear hb); (try clear hk); (try clear hi); have hcz3 := z3_ BK2))
 (try simp only [Act.put, sa_, sz_, ss_])
 go_cut [35] (fun v8 wc => ∃ (kq : Nat) (x35_18 : Bool) (x1001_18 : Int) (x1002_18 : Int), v8 = .bool x35_18 ∧ Aside0 (spec_DrawLeaveStands_m.j1 kq x6_1 x7_1 t9 (t3.length : Int) x35_18 l0 x1001_18 x1002_18 t1 t2 t3 = some (r1, r2, r3, r4, r5, r6)) ∧ Aside0 (kq ≤ k1) ∧ Aside0 (Kd.R (Kd.int .i64) 3 wc wB.heap.size (fun k_ => no_ (.slice Ao1 t3.length co1) k_) u6 x6_1) ∧ Aside0 (Kd.R (Kd.int .i64) 3 wc wB.heap.size (fun k_ => no_ u6 k_) (.slice Ao1 t3.length co1) t3) ∧ Aside0 (wc.heap[gb1]? = some (.cells #[.int .i64 0, .bool false, (.slice none 0 0)] 28 (0, 0))) ∧ Aside0 (wc.heap[gb2]? = some (.cells #[.int .i64 t1, .bool t2, (.slice Ao1 t3.length co1)] 28 (0, 0))) ∧ Aside0 (IsS75 w wc g l0 x1001_18 x1002_18) ∧ Aside0 (KeepBut wB wc g none) ∧ Aside0 (Below w.heap.size w wc))
 case first =>
  have H := HC19.out
  clear HC19
  by_cases c2 : (t3.length : Int) > 0
  case neg =>
   rw [if_neg c2] at H
   have c2b0 : decide (0 < (t3.length : Int)) = false := decide_eq_false c2
   have c2b1 : decide (0 < t3.length) = false := decide_eq_false bh19_
   clear c2
   (first | rw [c2b0] | (simp only [i64_w, i32_w]; rw [c2b0]) | skip)
   have H' := A0_ H
   clear H
   go_wp2
   go_meet
   exact ⟨_, (false), (t10), (t11), b2ew_, H', ⟨b1kt_⟩, ⟨bwik_⟩, ⟨b7sq_⟩, ⟨u1_ BK1⟩, ⟨u1_ BK2⟩, ⟨bxkc_⟩, ⟨bgjc_⟩, ⟨b2rv_⟩⟩
  rw [if_pos c2] at H
  have c2b0 : decide (0 < (t3.length : Int)) = true := dt_ c2
  have c2b1 : decide (0 < t3.length) = true := dt_ bh19_
  clear c2
  (first | rw [c2b0] | (simp only [i64_w, i32_w]; rw [c2b0]) | skip)
  obtain ⟨⟨t12, t13, t14⟩, A8, H⟩ := o1_ H
  have H' := A0_ H
  clear H
  go_wp2_with (first | (go_at_call 51; (with_reducible refine (spec_l1Cur_one.calls g l0 t10 t11 12 t12 t13 t14 w _ ?side1 ?side2 A8.out).mono ?_); (case side1 => exact bxkc_); (case side2 => exact b2rv_); rintro e w8 ⟨rfl, hi, hb, hk⟩; replace HO_1 := A0_ (Kd.R_mono (Kd.R_keep (IsS75.apart (show IsS75 w _ g l0 t10 t11 from bxkc_) bwik_ bi3y_) hk (fun _ h => h.2)) (fun _ h => h.1)); replace HO_2 := A0_ (Kd.R_mono (Kd.R_keep (IsS75.apart (show IsS75 w _ g l0 t10 t11 from bxkc_) b7sq_ bi3y_) hk (fun _ h => h.2)) (fun _ h => h.1)); replace BK1 := kb1_ BK1 hk NB1_0; replace BK2 := kb1_ BK2 hk NB2_0; replace HK := A0_ (KeepBut.trans bgjc_ hk (.inl rfl)); replace HB := A0_ (hb); replace HI0 := A0_ (hi); (try clear hb); (try clear hk); (try clear hi)))
  go_meet
  exact ⟨_, (!t12), (t13), (t14), b2ew_, H', ⟨b1kt_⟩, ⟨bwik_⟩, ⟨b7sq_⟩, ⟨u1_ BK1⟩, ⟨u1_ BK2⟩, ⟨bxkc_⟩, ⟨bgjc_⟩, ⟨b2rv_⟩⟩
 clear HC19
 try clear c1
 try clear c1b0
 (try clear hcz1); (try clear hcz2); (try clear hcz3); (try clear hfz1); (try clear hfz2); (try clear hfz3)
 obtain ⟨kq, x35_18, x1001_18, x1002_18, rfl, HA, HJ1, HO_1, HO_2, BK1, BK2, HI0, HK, HB⟩ := hcut
 cases kq with | zero => exact absurd HA.out (by simp [spec_DrawLeaveStands_m.j1]) | succ kj1 => ?_
 have H := HA.out
 clear HA
 simp only [spec_DrawLeaveStands_m.j1] at H
 have HC28 := A0_ H
 clear H
 go_upto_if 35 with (fail)
 go_cut [8] (fun v9 wc => ∃ (kq : Nat) (x8_27 : Int) (x1001_27 : Int) (x1002_27 : Int), v9 = .int .i64 x8_27 ∧ Aside0 (spec_DrawLeaveStands_m.j2 kq x6_1 x7_1 x8_27 l0 x1001_27 x1002_27 t1 t2 t3 = some (r1, r2, r3, r4, r5, r6)) ∧ Aside0 (kq ≤ kj1) ∧ Aside0 (Kd.R (Kd.int .i64) 3 wc wB.heap.size (fun k_ => no_ (.slice Ao1 t3.length co1) k_) u6 x6_1) ∧ Aside0 (Kd.R (Kd.int .i64) 3 wc wB.heap.size (fun k_ => no_ u6 k_) (.slice Ao1 t3.length co1) t3) ∧ Aside0 (wc.heap[gb1]? = some (.cells #[.int .i64 0, .bool false, (.slice none 0 0)] 28 (0, 0))) ∧ Aside0 (wc.heap[gb2]? = some (.cells #[.int .i64 t1, .bool t2, (.slice Ao1 t3.length co1)] 28 (0, 0))) ∧ Aside0 (IsS75 w wc g l0 x1001_27 x1002_27) ∧ Aside0 (KeepBut wB wc g none) ∧ Aside0 (Below w.heap.size w wc))
 case first =>
  have H := HC28.out
  clear HC28
  by_cases c2 : x35_18 = true
  case neg =>
   obtain rfl := bf_.mpr c2
   rw [if_neg ft_] at H
   have H' := A0_ H
   clear H
   go_wp2
   go_meet
   exact ⟨_, (t9), (x1001_18), (x1002_18), b2ew_, H', ⟨brmx_⟩, ⟨bwik_⟩, ⟨b7sq_⟩, ⟨u1_ BK1⟩, ⟨u1_ BK2⟩, ⟨bxkc_⟩, ⟨bgjc_⟩, ⟨b2rv_⟩⟩
  subst c2
  rw [if_pos rfl] at H
  obtain ⟨⟨t12, t13, t14⟩, A3, H⟩ := o1_ H
  by_cases c3 : 0 ≤ t12
  case neg =>
   rw [if_neg c3] at H
   exact absurd H bxka_
  rw [if_pos c3] at H
  have c3b0 : decide (0 ≤ t12) = true := dt_ c3
  clear c3
  (first | rw [c3b0] | (simp only [i64_w, i32_w]; rw [c3b0]) | skip)
  by_cases c4 : t12 < (t3.length : Int)
  case neg =>
   rw [if_neg c4] at H
   exact absurd H bxka_
  rw [if_pos c4] at H
  have c4b0 : decide (t12 < (t3.length : Int)) = true := dt_ c4
  clear c4
  have H' := A0_ H
  clear H
  try go_wp2
  replace HO_1 := A0_ (rd_ HO_1.out)
  replace HO_2 := A0_ (rd_ HO_2.out)
  replace BK1 := A0_ (kd_ BK1.out)
  replace BK2 := A0_ (kd_ BK2.out)
  replace HI0 := A0_ (IsS75.drew HI0.out)
  replace HK := A0_ (keep_drew HK.out)
  replace HB := A0_ (bd_ HB.out)
  have p1 : 0 ≤ (t12 : Int) := od_ bpil_
  have q1 : t12 < (t3.length : Int) := od_ bpil_
  obtain ⟨ad1, e1, hx1_0⟩ := Kd.at_int (rr_ HO_2.out).2.2 t12 p1 q1
  cases e1
  replace p1 := eq_true p1
  replace q1 := eq_true q1
  refine start_ (n := 8) (S := fun w' => w'.cell? ⟨gb2, 0, none⟩ = some (.int .i64 t1) ∧ w'.cell? ⟨gb2, 1, none⟩ = some (.bool t2) ∧ w'.cell? ⟨gb2, 2, none⟩ = some (.slice (some ad1) t3.length co1) ∧ w'.cell? (ad1.add (t12).toNat) = some (.int .i64 (rd t3 t12))) (ds := []) #[false, false, false, false, false, false, false, false] bfqv_ rfl rfl ⟨(kc_ BK2.out 0).trans rfl, (kc_ BK2.out 1).trans rfl, (kc_ BK2.out 2).trans rfl, hx1_0⟩ (fun hHeld => ?_); refine with_tabW spec_DrawLeaveStands_m.tab9 spec_DrawLeaveStands_m.bits9 (fun HT_ HW_ => ?_)
  generalize wc.drew = w8 at HO_1 HO_2 BK1 BK2 HI0 HK HB hx1_0 hHeld ⊢
  refine pu_ 0 36 ?_
  refine pu_ 2 38 ?_
  refine pu_ 3 39 ?_
  refine tk_ 1 37 hHeld ?_
  refine on_ 4 (some 40) (fun K hK => ?_)
  refine gs_ Tryd.func61 #[.pointer (some ⟨g, 0, none⟩), .int .i64 (t3.length : Int)] ?_
  with_reducible refine (spec_l1Cur_pick.calls g l0 x1001_18 x1002_18 (t3.length : Int) t12 t13 t14 w _ ?side1 ?side2 A3.out).mono ?_
  (case side1 => exact bxkc_)
  (case side2 => exact b2rv_)
  rintro e w9 ⟨rfl, hi, hb, hk⟩
  have HS3_ := keep_cell hk (hHeld.2.2.2) (by first | (rw [add_block]; exact Kd.own_blk (IsS75.own_ne HI0.out HO_2.out bi3y_)) | (show (Addr.add _ _).block ≠ _; rw [add_block]; exact Kd.own_blk (IsS75.own_ne HI0.out HO_2.out bi3y_)) | exact Kd.own_blk (IsS75.own_ne HI0.out HO_2.out bi3y_))
  refine ⟨_, rfl, ?_⟩
  replace HO_1 := A0_ (Kd.R_mono (Kd.R_keep (IsS75.apart (show IsS75 w _ g l0 x1001_18 x1002_18 from bxkc_) bwik_ bi3y_) hk (fun _ h => h.2)) (fun _ h => h.1))
  replace HO_2 := A0_ (Kd.R_mono (Kd.R_keep (IsS75.apart (show IsS75 w _ g l0 x1001_18 x1002_18 from bxkc_) b7sq_ bi3y_) hk (fun _ h => h.2)) (fun _ h => h.1))
  replace BK1 := kb1_ BK1 hk NB1_0
  replace BK2 := kb1_ BK2 hk NB2_0
  replace HK := A0_ (KeepBut.trans bgjc_ hk (.inl rfl))
  replace HB := A0_ (hb)
  replace HI0 := A0_ (hi)
  (try clear hb); (try clear hk); (try clear hi)
  refine hK.out _ _ ⟨(kc_ BK2.out 0).trans rfl, (kc_ BK2.out 1).trans rfl, (kc_ BK2.out 2).trans rfl, HS3_⟩ (fun hHeld => ?_)
  clear hK K
  refine nm_ 40 ?_
  refine pu_ 5 41 ?_
  refine tk_ 6 42 hHeld ?_
  refine pu_ 7 8 ?_
  refine dn_ ?_
  try go_wp2
  go_meet
  exact ⟨_, (rd t3 t12), (t13), (t14), b2ew_, H', ⟨brmx_⟩, ⟨bwik_⟩, ⟨b7sq_⟩, ⟨u1_ BK1⟩, ⟨u1_ BK2⟩, ⟨bxkc_⟩, ⟨bgjc_⟩, ⟨b2rv_⟩⟩
 clear HC28
 try clear c1
 try clear c1b0
 (try clear hcz1); (try clear hcz2); (try clear hcz3); (try clear hfz1); (try clear hfz2); (try clear hfz3)
 obtain ⟨kq, x8_27, x1001_27, x1002_27, rfl, HA, HJ2, HO_1, HO_2, BK1, BK2, HI0, HK, HB⟩ := hcut
 cases kq with | zero => exact absurd HA.out (by simp [spec_DrawLeaveStands_m.j2]) | succ kj2 => ?_
 have H := HA.out
 clear HA
 simp only [spec_DrawLeaveStands_m.j2] at H
 obtain ⟨t12, A8, H⟩ := o1_ H
 by_cases c2 : t12 = true
 case neg =>
  obtain rfl := bf_.mpr c2
  rw [if_neg ft_] at H
  by_cases c3 : x6_1.length < 17592186044416
  case neg =>
   rw [if_neg c3] at H
   exact absurd H bxka_
  rw [if_pos c3] at H
  have LMc1 := A0_ c3
  clear c3
  obtain ⟨y3, hy3⟩ : ∃ y_ : List Int, y_ = (x6_1 ++ [x8_27]) := ⟨_, rfl⟩
  replace H : (spec_DrawLeaveStands_m.l0 kj2 y3 (wrap64 (x7_1 - 1)) l0 x1001_27 x1002_27 t1 t2 t3) = some (r1, r2, r3, r4, r5, r6) := b2x6_
  have Ny3 := A0_ hy3
  clear hy3
  have H' := A0_ H
  clear H
  obtain ⟨Ao3, co3, eo3⟩ := Kd.R_slice HO_1.out
  subst eo3
  go_wp2_with (first | ((with_reducible refine gc_ (f := 62) rfl ?_); refine gl_ 45 Tryd.func62 #[.slice Ao3 x6_1.length co3, .int .i64 x8_27] ?_; (with_reducible refine (spec_l1Has.calls kj2 _ _ x6_1 x8_27 false _ ?side1 ?side2 A8.out).mono ?_); (case side1 => exact btcf_); (case side2 => exact (rr_ HO_1.out).2.1); rintro e w' ⟨rfl, ⟨nd, rfl⟩⟩; refine ⟨_, rfl, ?_⟩) | ((with_reducible refine gate_builtin (b := .append) (xs := #[.tmp 51, .tmp 53]) rfl ?_); at_builtin; refine Kd.R_append (Kd.int .i64) wB.heap.size rfl (.tmp 51) (.tmp 53) 22 3 (.int .i64 0) 8 rfl Tryd.underlying22 info3 rfl bi3y_ bh19_ (.slice Ao3 x6_1.length co3) x6_1 x8_27 [.int .i64 x8_27] (fun k_ => no_ (.slice Ao1 t3.length co1) k_) (fun _ => False) rfl rfl ?aP (fun _ hk => hk.elim) ?aF ?aO (Below.refl _ _) ?aS ?aL ?_; (case aP => exact rfl); (case aF => exact (fun k_ hk => Kd.fresh' (Kd.R_lt b7sq_) k_ hk)); (case aO => exact bwik_); (case aS => exact (keep_size (w := wB) (g := g) (row := none) bgjc_)); (case aL => have := LMc1.out; omega); intro v10 w8 ho hb hg hat; rw [← Ny3.out] at ho; have n0_ := A0_ (Kd.R_after (ok := (fun _ => True)) bapr_ hg hat); have n1_ := A0_ (blk_grown (g := gb1) (o := .cells #[.int .i64 0, .bool false, .slice none 0 0] 28 (0, 0)) (u1_ BK1) hg (Kd.R_ne HO_1.out BK1.out bi3y_)); have n2_ := A0_ (blk_grown (g := gb2) (o := .cells #[.int .i64 t1, .bool t2, .slice Ao1 t3.length co1] 28 (0, 0)) (u1_ BK2) hg (Kd.R_ne HO_1.out BK2.out bi3y_)); have n3_ := A0_ (IsS75.grown bxkc_ hg (IsS75.own_ne HI0.out HO_1.out bi3y_)); have n4_ := A0_ (below_weaken b2rv_ HW0.out hb); have n5_ := A0_ (KeepBut.trans bgjc_ (KeepBut.of_grown hg g) (Kd.R_base2 HO_1.out)); have n6_ := A0_ (ho); clear HO_2 BK1 BK2 HI0 HB HK HO_1; have HO_2 := n0_; have BK1 := n1_; have BK2 := n2_; have HI0 := n3_; have HB := n4_; have HK := n5_; have HO4 := n6_; clear n0_ n1_ n2_ n3_ n4_ n5_ n6_ ho hb hg hat))
  go_roundg kj2
  case measure => have := HK1.out; have := HJ1.out; have := HJ2.out; omega
  exact ⟨(y3), (wrap64 (x7_1 - 1)), (x1001_27), (x1002_27), b2ew_, H', ⟨by have := HK1.out; have := HJ1.out; have := HJ2.out; omega⟩, ⟨b6ip_⟩, ⟨by (with_reducible repeat (first | apply ra_ | apply rn_ | apply rd_)); exact Kd.R_mono HO_2.out (fun _ hk => hk.2)⟩, ⟨u1_ BK1⟩, ⟨u1_ BK2⟩, ⟨bxkc_⟩, ⟨bgjc_⟩, ⟨b2rv_⟩⟩
 subst c2
 rw [if_pos rfl] at H
 obtain ⟨⟨t13, t14, t15⟩, A10, H⟩ := o1_ H
 by_cases c3 : t13 = true
 case neg =>
  obtain rfl := bf_.mpr c3
  rw [if_neg ft_] at H
  have H' := A0_ H
  clear H
  obtain ⟨Ao3, co3, eo3⟩ := Kd.R_slice HO_1.out
  subst eo3
  go_wp2_with (first | ((with_reducible refine gc_ (f := 62) rfl ?_); refine gl_ 45 Tryd.func62 #[.slice Ao3 x6_1.length co3, .int .i64 x8_27] ?_; (with_reducible refine (spec_l1Has.calls kj2 _ _ x6_1 x8_27 true _ ?side1 ?side2 A8.out).mono ?_); (case side1 => exact btcf_); (case side2 => exact (rr_ HO_1.out).2.1); rintro e w' ⟨rfl, ⟨nd, rfl⟩⟩; refine ⟨_, rfl, ?_⟩) | (go_at_call 51; (with_reducible refine (spec_l1Cur_one.calls g l0 x1001_27 x1002_27 20 false t14 t15 w _ ?side1 ?side2 A10.out).mono ?_); (case side1 => exact bxkc_); (case side2 => exact b2rv_); rintro e w8 ⟨rfl, hi, hb, hk⟩; replace HO_1 := A0_ (Kd.R_mono (Kd.R_keep (IsS75.apart (show IsS75 w _ g l0 x1001_27 x1002_27 from bxkc_) bwik_ bi3y_) hk (fun _ h => h.2)) (fun _ h => h.1)); replace HO_2 := A0_ (Kd.R_mono (Kd.R_keep (IsS75.apart (show IsS75 w _ g l0 x1001_27 x1002_27 from bxkc_) b7sq_ bi3y_) hk (fun _ h => h.2)) (fun _ h => h.1)); replace BK1 := kb1_ BK1 hk NB1_0; replace BK2 := kb1_ BK2 hk NB2_0; replace HK := A0_ (KeepBut.trans bgjc_ hk (.inl rfl)); replace HB := A0_ (hb); replace HI0 := A0_ (hi); (try clear hb); (try clear hk); (try clear hi)))
  go_roundg kj2
  case measure => have := HK1.out; have := HJ1.out; have := HJ2.out; omega
  exact ⟨(x6_1), (wrap64 (x7_1 - 1)), (t14), (t15), b2ew_, H', ⟨by have := HK1.out; have := HJ1.out; have := HJ2.out; omega⟩, ⟨bwik_⟩, ⟨b7sq_⟩, ⟨u1_ BK1⟩, ⟨u1_ BK2⟩, ⟨bxkc_⟩, ⟨bgjc_⟩, ⟨b2rv_⟩⟩
 subst c3
 rw [if_pos rfl] at H
 by_cases c4 : x6_1.length < 17592186044416
 case neg =>
  rw [if_neg c4] at H
  exact absurd H bxka_
 rw [if_pos c4] at H
 have LMc1 := A0_ c4
 clear c4
 obtain ⟨y3, hy3⟩ : ∃ y_ : List Int, y_ = (x6_1 ++ [x8_27]) := ⟨_, rfl⟩
 replace H : (spec_DrawLeaveStands_m.l0 kj2 y3 (wrap64 (x7_1 - 1)) l0 t14 t15 t1 t2 t3) = some (r1, r2, r3, r4, r5, r6) := b2x6_
 have Ny3 := A0_ hy3
 clear hy3
 have H' := A0_ H
 clear H
 obtain ⟨Ao3, co3, eo3⟩ := Kd.R_slice HO_1.out
 subst eo3
 go_wp2_with (first | ((with_reducible refine gc_ (f := 62) rfl ?_); refine gl_ 45 Tryd.func62 #[.slice Ao3 x6_1.length co3, .int .i64 x8_27] ?_; (with_reducible refine (spec_l1Has.calls kj2 _ _ x6_1 x8_27 true _ ?side1 ?side2 A8.out).mono ?_); (case side1 => exact btcf_); (case side2 => exact (rr_ HO_1.out).2.1); rintro e w' ⟨rfl, ⟨nd, rfl⟩⟩; refine ⟨_, rfl, ?_⟩) | (go_at_call 51; (with_reducible refine (spec_l1Cur_one.calls g l0 x1001_27 x1002_27 20 true t14 t15 w _ ?side1 ?side2 A10.out).mono ?_); (case side1 => exact bxkc_); (case side2 => exact b2rv_); rintro e w8 ⟨rfl, hi, hb, hk⟩; replace HO_1 := A0_ (Kd.R_mono (Kd.R_keep (IsS75.apart (show IsS75 w _ g l0 x1001_27 x1002_27 from bxkc_) bwik_ bi3y_) hk (fun _ h => h.2)) (fun _ h => h.1)); replace HO_2 := A0_ (Kd.R_mono (Kd.R_keep (IsS75.apart (show IsS75 w _ g l0 x1001_27 x1002_27 from bxkc_) b7sq_ bi3y_) hk (fun _ h => h.2)) (fun _ h => h.1)); replace BK1 := kb1_ BK1 hk NB1_0; replace BK2 := kb1_ BK2 hk NB2_0; replace HK := A0_ (KeepBut.trans bgjc_ hk (.inl rfl)); replace HB := A0_ (hb); replace HI0 := A0_ (hi); (try clear hb); (try clear hk); (try clear hi)) | ((with_reducible refine gate_builtin (b := .append) (xs := #[.tmp 51, .tmp 53]) rfl ?_); at_builtin; refine Kd.R_append (Kd.int .i64) wB.heap.size rfl (.tmp 51) (.tmp 53) 22 3 (.int .i64 0) 8 rfl Tryd.underlying22 info3 rfl bi3y_ bh19_ (.slice Ao3 x6_1.length co3) x6_1 x8_27 [.int .i64 x8_27] (fun k_ => no_ (.slice Ao1 t3.length co1) k_) (fun _ => False) rfl rfl ?aP (fun _ hk => hk.elim) ?aF ?aO (Below.refl _ _) ?aS ?aL ?_; (case aP => exact rfl); (case aF => exact (fun k_ hk => Kd.fresh' (Kd.R_lt b7sq_) k_ hk)); (case aO => exact bwik_); (case aS => exact (keep_size (w := wB) (g := g) (row := none) bgjc_)); (case aL => have := LMc1.out; omega); intro v10 w9 ho hb hg hat; rw [← Ny3.out] at ho; have n0_ := A0_ (Kd.R_after (ok := (fun _ => True)) bapr_ hg hat); have n1_ := A0_ (blk_grown (g := gb1) (o := .cells #[.int .i64 0, .bool false, .slice none 0 0] 28 (0, 0)) (u1_ BK1) hg (Kd.R_ne HO_1.out BK1.out bi3y_)); have n2_ := A0_ (blk_grown (g := gb2) (o := .cells #[.int .i64 t1, .bool t2, .slice Ao1 t3.length co1] 28 (0, 0)) (u1_ BK2) hg (Kd.R_ne HO_1.out BK2.out bi3y_)); have n3_ := A0_ (IsS75.grown bxkc_ hg (IsS75.own_ne HI0.out HO_1.out bi3y_)); have n4_ := A0_ (below_weaken b2rv_ HW0.out hb); have n5_ := A0_ (KeepBut.trans bgjc_ (KeepBut.of_grown hg g) (Kd.R_base2 HO_1.out)); have n6_ := A0_ (ho); clear HO_2 BK1 BK2 HI0 HB HK HO_1; have HO_2 := n0_; have BK1 := n1_; have BK2 := n2_; have HI0 := n3_; have HB := n4_; have HK := n5_; have HO4 := n6_; clear n0_ n1_ n2_ n3_ n4_ n5_ n6_ ho hb hg hat))
 go_roundg kj2
 case measure => have := HK1.out; have := HJ1.out; have := HJ2.out; omega
 exact ⟨(y3), (wrap64 (x7_1 - 1)), (t14), (t15), b2ew_, H', ⟨by have := HK1.out; have := HJ1.out; have := HJ2.out; omega⟩, ⟨b6ip_⟩, ⟨by (with_reducible repeat (first | apply ra_ | apply rn_ | apply rd_)); exact Kd.R_mono HO_2.out (fun _ hk => hk.2)⟩, ⟨u1_ BK1⟩, ⟨u1_ BK2⟩, ⟨bxkc_⟩, ⟨bgjc_⟩, ⟨b2rv_⟩⟩

mutual
def impl_LeaveStands.j0 : Nat → List Int → Bool → Int → Bool → List Int → Option (List Int × Int × Bool)
 | 0, _, _, _, _, _ => none
 | k + 1, x1, x23, x567000, x567001, x567002 => if x23 = true then (some (([] : List Int), 0, false)) else ((impl_Row_taken.f k x567000 x567001 x567002).bind fun t573 => (impl_LeaveStands.l0 k (([] : List Int)) 0 t573 x1 (x1.length : Int) 0))
def impl_LeaveStands.l0 : Nat → List Int → Int → Int → List Int → Int → Int → Option (List Int × Int × Bool)
 | 0, _, _, _, _, _, _ => none
 | k + 1, x7, x8, x9, x27, x28, x29 => if x29 < x28 then (if 0 ≤ x29 then (if x29 < (x27.length : Int) then ((impl_stands.f x9 (rd x27 x29) false).bind fun bt575 => (if x7.length < 17592186044416 then (if 0 ≤ (rd x27 x29) then (impl_LeaveStands.l0 k (x7 ++ [bt575.1]) (wrap64 (x8 + bt575.1)) (Go.bits .andNot .u32 x9 (shl .u32 1 (rd x27 x29))) x27 x28 (wrap64 (x29 + 1))) else (none)) else (none))) else (none)) else (none)) else (some (x7, x8, true))
end
def impl_LeaveStands.f (k : Nat) (a0_0 : Int) (a0_1 : Bool) (l0_2 : List Int) (l1 : List Int) : Option (List Int × Int × Bool) := (impl_isLine.f k a0_0 a0_1 l0_2).bind fun t567 => (if t567 = true then ((impl_Row_taken.f k a0_0 a0_1 l0_2).bind fun t568 => ((impl_areOf.f k l1 t568).bind fun t569 => (impl_LeaveStands.j0 k l1 (!t569) a0_0 a0_1 l0_2))) else (impl_LeaveStands.j0 k l1 true a0_0 a0_1 l0_2))
theorem impl_LeaveStands.mono_l : ∀ k, (∀ y0 y1 y2 y3 y4, LeO (impl_LeaveStands.j0 k y0 y1 y2 y3 y4) (impl_LeaveStands.j0 (k + 1) y0 y1 y2 y3 y4)) ∧ (∀ y0 y1 y2 y3 y4 y5, LeO (impl_LeaveStands.l0 k y0 y1 y2 y3 y4 y5) (impl_LeaveStands.l0 (k + 1) y0 y1 y2 y3 y4 y5))
 | 0 => ⟨fun _ _ _ _ _ r h => by simp [impl_LeaveStands.j0] at h, fun _ _ _ _ _ _ r h => by simp [impl_LeaveStands.l0] at h⟩
 | k + 1 => by
  obtain ⟨ih0, ih1⟩ := impl_LeaveStands.mono_l k
  refine ⟨?_, ?_⟩
  ·intro y0 y1 y2 y3 y4
   unfold impl_LeaveStands.j0
   repeat' with_reducible first | exact ih0 .. | exact ih1 .. | exact impl_Row_taken.mono .. | exact impl_areOf.mono .. | exact impl_isLine.mono .. | exact LeO.refl .. | exact LeO.none .. | refine LeO.ite ?_ ?_ | refine LeO.bind ?_ (fun _ => ?_)
  ·intro y0 y1 y2 y3 y4 y5
   unfold impl_LeaveStands.l0
   repeat' with_reducible first | exact ih0 .. | exact ih1 .. | exact impl_Row_taken.mono .. | exact impl_areOf.mono .. | exact impl_isLine.mono .. | exact LeO.refl .. | exact LeO.none .. | refine LeO.ite ?_ ?_ | refine LeO.bind ?_ (fun _ => ?_)
theorem impl_LeaveStands.mono : ∀ a0 a1 a2 a3 k, LeO (impl_LeaveStands.f k a0 a1 a2 a3) (impl_LeaveStands.f (k + 1) a0 a1 a2 a3) := by
 intro a0 a1 a2 a3 k
 obtain ⟨ih0, ih1⟩ := impl_LeaveStands.mono_l k
 unfold impl_LeaveStands.f
 repeat' with_reducible first | exact ih0 .. | exact ih1 .. | exact impl_Row_taken.mono .. | exact impl_areOf.mono .. | exact impl_isLine.mono .. | exact LeO.refl .. | exact LeO.none .. | refine LeO.ite ?_ ?_ | refine LeO.bind ?_ (fun _ => ?_)
def impl_LeaveStands.T8 : Bool × List (List Nat × List Nat) := (true, [([], []), ([], []), ([1], [1]), ([0, 2], [0, 2]), ([], []), ([], []), ([4, 5], [4, 5]), ([], []), ([], []), ([8], [8]), ([7, 9], [7, 9]), ([3, 3, 0, 1, 2, 3], [0, 3]), ([6, 11, 0, 1, 2, 3, 4, 5, 6, 11], [4, 6]), ([10, 12, 0, 1, 2, 3, 4, 5, 6, 7, 8, 9, 10, 11, 12], [7, 10])])
def impl_LeaveStands.B8 : List Nat := [0, 0, 2, 7, 0, 0, 48, 0, 0, 256, 896, 15, 2175, 8191]
theorem impl_LeaveStands.tab8 : rtab .any (opsOf Tryd.f29 8) = impl_LeaveStands.T8 := by kernel_rfl
theorem impl_LeaveStands.bits8 : waitsOk impl_LeaveStands.T8.2 impl_LeaveStands.B8 = true := by kernel_rfl
theorem impl_LeaveStands.calls (k : Nat) (a0_0 : Int) (a0_1 : Bool) (A0_2 : Option Addr) (c0_2 : Nat) (l0_2 : List Int) (A1 : Option Addr) (c1 : Nat) (l1 : List Int) (r1 : List Int) (r2 : Int) (r3 : Bool) (w : World) (hr0_2 : Kd.C (Kd.int .i64) w A0_2 l0_2.length l0_2) (hc0_2 : l0_2.length ≤ c0_2) (hr1 : Kd.C (Kd.int .i64) w A1 l1.length l1) (hc1 : l1.length ≤ c1) (h : impl_LeaveStands.f k a0_0 a0_1 l0_2 l1 = some (r1, r2, r3)) :
  Calls Tryd.prog 29 #[.agg #[.int .i64 a0_0, .bool a0_1, .slice A0_2 l0_2.length c0_2], .slice A1 l1.length c1] w fun e w' => ∃ v0_ : Value, e = .returned (.tuple #[v0_, .int .i64 r2, .bool r3]) ∧ Kd.R (Kd.int .i64) 3 w' w.heap.size (fun _ => True) v0_ r1 ∧ Below w.heap.size w w' := by
 have hu28 := Tryd.underlying28
 have HR0_2 := A0_ hr0_2
 have HC0_2 := A0_ hc0_2
 clear hr0_2 hc0_2
 have HR1 := A0_ hr1
 have HC1 := A0_ hc1
 clear hr1 hc1
 have HB := A0_ (Below.refl w.heap.size w)
 have H : ((impl_isLine.f k a0_0 a0_1 l0_2).bind fun t1 => (if t1 = true then ((impl_Row_taken.f k a0_0 a0_1 l0_2).bind fun t2 => ((impl_areOf.f k l1 t2).bind fun t3 => (impl_LeaveStands.j0 k l1 (!t3) a0_0 a0_1 l0_2))) else (impl_LeaveStands.j0 k l1 true a0_0 a0_1 l0_2))) = some (r1, r2, r3) := h
 clear h
 have HC3 := A0_ H
 clear H
 go_enter Tryd.func29, Tryd.ntmps29
 go_upto_region 1 with (first | ((with_reducible refine gd_ (N := 2) rfl ?_); refine bx_ 2 #[.int .i64 a0_0, .bool a0_1, .slice A0_2 l0_2.length c0_2] 28 ?_; intro gb1 hg w1 BK1 hb; have GW1 := ge_ hg brt4_; have GE1 := GW1; replace HB := hb_ hb brt4_; clear hb hg))
 (try simp only [Act.put, sa_, sz_, ss_])
 go_cut [23] (fun v1 wc => ∃ (kq : Nat) (x23_2 : Bool), v1 = .bool x23_2 ∧ Aside0 (impl_LeaveStands.j0 kq l1 x23_2 a0_0 a0_1 l0_2 = some (r1, r2, r3)) ∧ Aside0 (kq ≤ k) ∧ Aside0 (wc.heap[gb1]? = some (.cells #[.int .i64 a0_0, .bool a0_1, (.slice A0_2 l0_2.length c0_2)] 28 (0, 0))) ∧ Aside0 (Below w.heap.size w wc))
 case first =>
  have H := HC3.out
  clear HC3
  obtain ⟨t1, A3, H⟩ := o1_ H
  by_cases c2 : t1 = true
  case neg =>
   obtain rfl := bf_.mpr c2
   rw [if_neg ft_] at H
   have H' := A0_ H
   clear H
   have hcz1 := c3_ BK1
   go_wp2_with (first | ((with_reducible refine gc_ (f := 52) rfl ?_); refine gl_ 15 Tryd.func52 #[.agg #[.int .i64 a0_0, .bool a0_1, .slice A0_2 l0_2.length c0_2]] ?_; (with_reducible refine (impl_isLine.calls k a0_0 a0_1 _ _ l0_2 false _ ?side1 ?side2 A3.out).mono ?_); (case side1 => exact b6n8_); (case side2 => exact HC0_2.out); rintro e w2 ⟨rfl, hb⟩; refine ⟨_, rfl, ?_⟩; replace BK1 := k1_ BK1 hb; replace HB := hb_ hb be6g_; (try clear hb)))
   go_meet
   exact ⟨_, (true), b2ew_, H', ⟨bbn0_⟩, ⟨u1_ BK1⟩, ⟨be6g_⟩⟩
  subst c2
  rw [if_pos rfl] at H
  obtain ⟨t2, A5, H⟩ := o1_ H
  obtain ⟨t3, A7, H⟩ := o1_ H
  have H' := A0_ H
  clear H
  have hcz1 := c3_ BK1
  go_wp2_with (first | ((with_reducible refine gc_ (f := 52) rfl ?_); refine gl_ 15 Tryd.func52 #[.agg #[.int .i64 a0_0, .bool a0_1, .slice A0_2 l0_2.length c0_2]] ?_; (with_reducible refine (impl_isLine.calls k a0_0 a0_1 _ _ l0_2 true _ ?side1 ?side2 A3.out).mono ?_); (case side1 => exact b6n8_); (case side2 => exact HC0_2.out); rintro e w2 ⟨rfl, hb⟩; refine ⟨_, rfl, ?_⟩; replace BK1 := k1_ BK1 hb; replace HB := hb_ hb be6g_; (try clear hb); have hcz2 := c3_ BK1) | (go_at_call 41; (with_reducible refine (impl_Row_taken.calls k a0_0 a0_1 _ _ l0_2 t2 _ ?side1 ?side2 A5.out).mono ?_); (case side1 => exact b6n8_); (case side2 => exact HC0_2.out); rintro e w3 ⟨rfl, hb⟩; replace BK1 := k1_ BK1 hb; replace HB := hb_ hb be6g_; (try clear hb)) | (go_at_call 53; (with_reducible refine (impl_areOf.calls k _ _ l1 t2 t3 _ ?side1 ?side2 A7.out).mono ?_); (case side1 => exact b3d8_); (case side2 => exact HC1.out); rintro e w' ⟨rfl, ⟨nd, rfl⟩⟩))
  go_meet
  exact ⟨_, (!t3), b2ew_, H', ⟨bbn0_⟩, ⟨u1_ BK1⟩, ⟨be6g_⟩⟩
 clear HC3
 try clear c1
 obtain ⟨kq, x23_2, rfl, HA, HJ1, BK1, HB⟩ := hcut
 cases kq with | zero => exact absurd HA.out (by simp [impl_LeaveStands.j0]) | succ kj1 => ?_
 have H := HA.out
 clear HA
 simp only [impl_LeaveStands.j0] at H
 by_cases c2 : x23_2 = true
 ·subst c2
  rw [if_pos rfl] at H
  simp only [sj_, pj_] at H
  obtain ⟨rfl, rfl, rfl⟩ := H
  go_wp2
  go_ret3
  exact ⟨_, bnwh_, bwfe_, be6g_⟩
 obtain rfl := bf_.mpr c2
 rw [if_neg ft_] at H
 obtain ⟨y1, hy1⟩ : ∃ y_ : List Int, y_ = (([] : List Int)) := ⟨_, rfl⟩
 replace H : ((impl_Row_taken.f kj1 a0_0 a0_1 l0_2).bind fun t4 => (impl_LeaveStands.l0 kj1 y1 0 t4 l1 (l1.length : Int) 0)) = some (r1, r2, r3) := bgiq_
 have Ny1 := A0_ hy1
 clear hy1
 obtain ⟨t4, A3, H⟩ := o1_ H
 have H' := A0_ H
 clear H
 go_wp2_with (first | ((with_reducible refine gd_ (N := 24) rfl ?_); refine Kd.R_lit (Kd.int .i64) _ 3 ?hg (N := 24) ?hd (xs := ([] : List Int)) (inner := []) (ok := fun _ => True) (okp := fun _ => True) ?hr ?hp (fun _ hk => hk) trivial (Below.refl _ _) (Nat.le_refl _) bxka_ ?_; (case hd => rfl); (case hg => rfl); (case hr => go_simp; first | done | rfl); (case hp => exact (Reps.none _ _)); intro v2 w2 ho18 hb hg_ hnew_; clear hg_ hnew_; (first | rw [← Ny1.out] at ho18 | (simp only [Int.reduceToNat] at ho18; rw [← Ny1.out] at ho18)); have HO1 := A0_ (Kd.R_lower ho18 (bz_ be6g_)); replace BK1 := k1_ BK1 hb; replace HB := hb_ hb be6g_; clear hb ho18; have hcz1 := c3_ BK1) | ((with_reducible refine gc_ (f := 41) rfl ?_); refine gl_ 26 Tryd.func41 #[.agg #[.int .i64 a0_0, .bool a0_1, .slice A0_2 l0_2.length c0_2]] ?_; (with_reducible refine (impl_Row_taken.calls kj1 a0_0 a0_1 _ _ l0_2 t4 _ ?side1 ?side2 A3.out).mono ?_); (case side1 => exact b6n8_); (case side2 => exact HC0_2.out); rintro e w3 ⟨rfl, hb⟩; refine ⟨_, rfl, ?_⟩; replace HO1 := A0_ (Kd.R_below bsm5_ hb); replace BK1 := k1_ BK1 hb; replace HB := hb_ hb be6g_; (try clear hb)))
 go_loopg [7, 8, 9, 29] kj1 (fun kq v3 v4 v5 v6 w' => ∃ (x7_2 : List Int) (x8_2 : Int) (x9_2 : Int) (x29_2 : Int), v4 = .int .i64 x8_2 ∧ v5 = .int .u32 x9_2 ∧ v6 = .int .i64 x29_2 ∧ Aside0 (impl_LeaveStands.l0 kq x7_2 x8_2 x9_2 l1 (l1.length : Int) x29_2 = some (r1, r2, r3)) ∧ Aside0 (kq ≤ kj1) ∧ Aside0 (Kd.R (Kd.int .i64) 3 w' w.heap.size (fun _ => True) v3 x7_2) ∧ Aside0 (w'.heap[gb1]? = some (.cells #[.int .i64 a0_0, .bool a0_1, (.slice A0_2 l0_2.length c0_2)] 28 (0, 0))) ∧ Aside0 (Below w.heap.size w w'))
 case atStart => exact ⟨(y1), (0), (t4), (0), b2ew_, b2ew_, b2ew_, H', ⟨Nat.le_refl _⟩, ⟨bsm5_⟩, ⟨u1_ BK1⟩, ⟨be6g_⟩⟩
 clear H'
 try clear c1
 try clear c2
 (try clear hcz1)
 obtain ⟨x7_2, x8_2, x9_2, x29_2, rfl, rfl, rfl, HA, HK1, HO_1, BK1, HB⟩ := hrel
 cases gk with | zero => exact absurd HA.out (by simp [impl_LeaveStands.l0]) | succ k2 => ?_
 have H := HA.out
 clear HA
 simp only [impl_LeaveStands.l0] at H
 by_cases c3 : x29_2 < (l1.length : Int)
 case neg =>
  rw [if_neg c3] at H
  have c3b0 : decide (x29_2 < (l1.length : Int)) = false := decide_eq_false c3
  clear c3
  simp only [sj_, pj_] at H
  obtain ⟨rfl, rfl, rfl⟩ := H
  go_wp2
  go_ret3
  exact ⟨_, bnwh_, bwik_, be6g_⟩
 rw [if_pos c3] at H
 have c3b0 : decide (x29_2 < (l1.length : Int)) = true := dt_ c3
 clear c3
 by_cases c4 : 0 ≤ x29_2
 case neg =>
  rw [if_neg c4] at H
  exact absurd H bxka_
 rw [if_pos c4] at H
 have c4b0 : decide (0 ≤ x29_2) = true := dt_ c4
 clear c4
 by_cases c5 : x29_2 < (l1.length : Int)
 case neg =>
  rw [if_neg c5] at H
  exact absurd H bxka_
 rw [if_pos c5] at H
 have c5b0 : decide (x29_2 < (l1.length : Int)) = true := dt_ c5
 clear c5
 obtain ⟨⟨t5, t6⟩, A5, H⟩ := o1_ H
 by_cases c6 : x7_2.length < 17592186044416
 case neg =>
  rw [if_neg c6] at H
  exact absurd H bxka_
 rw [if_pos c6] at H
 have LMc1 := A0_ c6
 clear c6
 obtain ⟨y2, hy2⟩ : ∃ y_ : List Int, y_ = (x7_2 ++ [t5]) := ⟨_, rfl⟩
 replace H : (if 0 ≤ (rd l1 x29_2) then (impl_LeaveStands.l0 k2 y2 (wrap64 (x8_2 + t5)) (Go.bits .andNot .u32 x9_2 (shl .u32 1 (rd l1 x29_2))) l1 (l1.length : Int) (wrap64 (x29_2 + 1))) else (none)) = some (r1, r2, r3) := bscs_
 have Ny2 := A0_ hy2
 clear hy2
 by_cases c7 : 0 ≤ (rd l1 x29_2)
 case neg =>
  rw [if_neg c7] at H
  exact absurd H bxka_
 rw [if_pos c7] at H
 have c7b0 := eq_true c7
 have c7b1 : decide (0 ≤ (rd l1 x29_2)) = true := dt_ c7
 clear c7
 obtain ⟨ji1, hji1⟩ : ∃ j_ : Int, (shl .u32 1 (rd l1 x29_2)) = j_ := ⟨_, rfl⟩
 replace H : (impl_LeaveStands.l0 k2 y2 (wrap64 (x8_2 + t5)) (Go.bits .andNot .u32 x9_2 (ji1)) l1 (l1.length : Int) (wrap64 (x29_2 + 1))) = some (r1, r2, r3) := bmns_
 (try rw [hji1] at A5)
 have hji1_ : (IntKind.u32.wrap (1 * 2 ^ min (rd l1 x29_2).toNat 32)) = ji1 := hji1
 have hji27z : (rd l1 x29_2) ≤ 32 → (IntKind.u32.wrap (1 * 2 ^ (rd l1 x29_2).toNat)) = ji1 := shl_small hji1
 have hji27u : (IntKind.u32.wrap (2 ^ min (rd l1 x29_2).toNat 32)) = ji1 := by have h_ := hji1_; rw [Int.one_mul] at h_; exact h_
 have hji27v : (rd l1 x29_2) ≤ 32 → (IntKind.u32.wrap (2 ^ (rd l1 x29_2).toNat)) = ji1 := fun hle_ => by have h_ := hji27z hle_; rw [Int.one_mul] at h_; exact h_
 have H' := A0_ H
 clear H
 have p1 : 0 ≤ (x29_2 : Int) := od_ bpil_
 have q1 : x29_2 < (l1.length : Int) := od_ bpil_
 obtain ⟨ad1, e1, hx1_0⟩ := Kd.at_int HR1.out x29_2 p1 q1
 cases e1
 replace hx1_0 := (HB.out.cell (World.block_lt_of_cell? w _ hx1_0)).trans hx1_0
 replace p1 := eq_true p1
 replace q1 := eq_true q1
 try go_wp2_with (first | ((with_reducible refine gc_ (f := 48) rfl ?_); refine gl_ 36 Tryd.func48 #[.int .u32 x9_2, .int .i64 (rd l1 x29_2), .bool false] ?_; (with_reducible refine (impl_stands.calls x9_2 (rd l1 x29_2) false t5 t6 _ A5.out).mono ?_); rintro e w' ⟨rfl, ⟨nd, rfl⟩⟩; refine ⟨_, rfl, ?_⟩))
 (try (rw [drewN_self wr]; generalize hq_ : World.drewN wr _ = wr; have n0_ : Aside0 (Kd.R (Kd.int .i64) 3 wr w.heap.size (fun _ => True) u7 x7_2) := ⟨bfiv_⟩; have n1_ : Aside0 (wr.heap[gb1]? = some (.cells #[.int .i64 a0_0, .bool a0_1, .slice A0_2 l0_2.length c0_2] 28 (0, 0))) := ⟨by rw [← hq_]; exact (u1_ BK1)⟩; have n2_ : Aside0 (Below w.heap.size w wr) := ⟨bv2n_⟩; clear HO_1 BK1 HB hq_; have HO_1 := n0_; have BK1 := n1_; have HB := n2_; clear n0_ n1_ n2_))
 replace HO_1 := A0_ (rd_ HO_1.out)
 replace BK1 := A0_ (kd_ BK1.out)
 replace HB := A0_ (bd_ HB.out)
 refine start_ (n := 14) (S := fun w' => True) (ds := []) #[false, false, false, false, false, false, false, false, false, false, false, false, false, false] bfqv_ rfl rfl trivial (fun hHeld => ?_); refine with_tabW impl_LeaveStands.tab8 impl_LeaveStands.bits8 (fun HT_ HW_ => ?_)
 generalize wr.drew = w4 at HO_1 BK1 HB hHeld ⊢
 refine pu_ 0 39 ?_
 refine pu_ 1 40 ?_
 refine pu_ 4 43 ?_
 refine pu_ 5 44 ?_
 refine pu_ 6 45 ?_
 refine pu_ 7 46 ?_
 refine pu_ 8 47 ?_
 refine pu_ 9 48 ?_
 refine pu_ 10 49 ?_
 refine on_ 2 (some 41) (fun K hK => ?_)
 refine value_ (w1 := ?_) (v := ?_) b139_ rfl ?_ ?_
 rotate_left 2
 ·go_simp
  constructor
  ·rfl
  rfl
 refine hK.out _ _ trivial (fun hHeld => ?_)
 clear hK K
 refine nm_ 41 ?_
 refine on_ 3 (some 42) (fun K hK => ?_)
 refine Kd.R_append_step (Kd.int .i64) (w0 := w) w.heap.size b139_ (.tmp 39) (.tmp 41) 22 3 (.int .i64 0) 8 rfl Tryd.underlying22 info3 rfl bi3y_ bh19_ u7 x7_2 t5 [.int .i64 t5] (fun _ => True) (fun _ => False) rfl rfl ?aP (fun _ hk => hk.elim) ?aF ?aO ?aB ?aS ?aL ?_
 (case aP => exact rfl)
 (case aB => exact be6g_)
 (case aF => exact (fun _ _ => trivial))
 (case aO => exact bwik_)
 (case aS => exact (bz_ be6g_))
 (case aL => have := LMc1.out; omega)
 intro v7 w5 ho hb hg hat
 rw [← Ny2.out] at ho
 have n0_ := A0_ (blk_grown (g := gb1) (o := .cells #[.int .i64 a0_0, .bool a0_1, .slice A0_2 l0_2.length c0_2] 28 (0, 0)) (u1_ BK1) hg (Kd.R_ne HO_1.out BK1.out bi3y_))
 have n1_ := A0_ (hb)
 have n2_ := A0_ (ho)
 clear BK1
 clear HB
 clear HO_1
 have BK1 := n0_
 have HB := n1_
 have HO2 := n2_
 clear n0_ n1_ n2_
 clear ho hb hg hat
 refine hK.out _ _ trivial (fun hHeld => ?_)
 clear hK K
 refine nm_ 42 ?_
 refine pu_ 11 7 ?_
 refine pu_ 12 8 ?_
 refine pu_ 13 9 ?_
 refine dn_ ?_
 try go_wp2
 go_roundg k2
 case measure => have := HJ1.out; have := HK1.out; omega
 exact ⟨(y2), (wrap64 (x8_2 + t5)), (Go.bits .andNot .u32 x9_2 (ji1)), (wrap64 (x29_2 + 1)), b2ew_, b1tc_, b2ew_, H', ⟨by have := HJ1.out; have := HK1.out; omega⟩, ⟨b9so_⟩, ⟨u1_ BK1⟩, ⟨be6g_⟩⟩

def spec_l2Without.l0 : Nat → Int → List Int → Int → Int → Bool → List Int → Option (Int × Bool × List Int)
 | 0, _, _, _, _, _, _ => none
 | k + 1, x1, x5, x6, x581000, x581001, x581002 => if x6 < (x581002.length : Int) then (if 0 ≤ x6 then (if (rd x581002 x6) = x1 then (spec_l2Without.l0 k x1 x5 (wrap64 (x6 + 1)) x581000 x581001 x581002) else (if x5.length < 17592186044416 then (spec_l2Without.l0 k x1 (x5 ++ [rd x581002 x6]) (wrap64 (x6 + 1)) x581000 x581001 x581002) else (none))) else (none)) else ((spec_l2Made.f x581000 x581001 x581002 x5).bind fun bt590 => (some (bt590.1, bt590.2.1, bt590.2.2)))
def spec_l2Without.f (k : Nat) (a0_0 : Int) (a0_1 : Bool) (l0_2 : List Int) (a1 : Int) : Option (Int × Bool × List Int) := spec_l2Without.l0 k a1 (([] : List Int)) 0 a0_0 a0_1 l0_2
theorem spec_l2Without.mono_l : ∀ k, (∀ y0 y1 y2 y3 y4 y5, LeO (spec_l2Without.l0 k y0 y1 y2 y3 y4 y5) (spec_l2Without.l0 (k + 1) y0 y1 y2 y3 y4 y5))
 | 0 => fun _ _ _ _ _ _ r h => by simp [spec_l2Without.l0] at h
 | k + 1 => by
  have ih0 := spec_l2Without.mono_l k
  ·intro y0 y1 y2 y3 y4 y5
   unfold spec_l2Without.l0
   repeat' with_reducible first | exact ih0 .. | exact LeO.refl .. | exact LeO.none .. | refine LeO.ite ?_ ?_ | refine LeO.bind ?_ (fun _ => ?_)
theorem spec_l2Without.mono : ∀ a0 a1 a2 a3 k, LeO (spec_l2Without.f k a0 a1 a2 a3) (spec_l2Without.f (k + 1) a0 a1 a2 a3) := by
 intro a0 a1 a2 a3 k
 have ih0 := spec_l2Without.mono_l k
 unfold spec_l2Without.f
 repeat' with_reducible first | exact ih0 .. | exact LeO.refl .. | exact LeO.none .. | refine LeO.ite ?_ ?_ | refine LeO.bind ?_ (fun _ => ?_)
theorem spec_l2Without.calls (k : Nat) (a0_0 : Int) (a0_1 : Bool) (A0_2 : Option Addr) (c0_2 : Nat) (l0_2 : List Int) (a1 : Int) (r1 : Int) (r2 : Bool) (r3 : List Int) (w : World) (hr0_2 : Kd.C (Kd.int .i64) w A0_2 l0_2.length l0_2) (hc0_2 : l0_2.length ≤ c0_2) (h : spec_l2Without.f k a0_0 a0_1 l0_2 a1 = some (r1, r2, r3)) :
  Calls Tryd.prog 63 #[.agg #[.int .i64 a0_0, .bool a0_1, .slice A0_2 l0_2.length c0_2], .int .i64 a1] w fun e w' => ∃ v2_ : Value, e = .returned (.agg #[.int .i64 r1, .bool r2, v2_]) ∧ Kd.R (Kd.int .i64) 3 w' w.heap.size (fun _ => True) v2_ r3 ∧ Below w.heap.size w w' := by
 have hu28 := Tryd.underlying28
 have HR0_2 := A0_ hr0_2
 have HC0_2 := A0_ hc0_2
 clear hr0_2 hc0_2
 have HB := A0_ (Below.refl w.heap.size w)
 have H : (spec_l2Without.l0 k a1 (([] : List Int)) 0 a0_0 a0_1 l0_2) = some (r1, r2, r3) := h
 clear h
 obtain ⟨y1, hy1⟩ : ∃ y_ : List Int, y_ = (([] : List Int)) := ⟨_, rfl⟩
 replace H : (spec_l2Without.l0 k a1 y1 0 a0_0 a0_1 l0_2) = some (r1, r2, r3) := bgiq_
 have Ny1 := A0_ hy1
 clear hy1
 have H' := A0_ H
 clear H
 go_enter Tryd.func63, Tryd.ntmps63
 go_wp2_with (first | ((with_reducible refine gd_ (N := 2) rfl ?_); refine bx_ 2 #[.int .i64 a0_0, .bool a0_1, .slice A0_2 l0_2.length c0_2] 28 ?_; intro gb1 hg w1 BK1 hb; have GW1 := ge_ hg brt4_; have GE1 := GW1; replace HB := hb_ hb brt4_; clear hb hg) | ((with_reducible refine gd_ (N := 4) rfl ?_); refine bx_ 4 #[.int .i64 0, .bool false, .slice none 0 0] 28 ?_; intro gb2 hg w2 BK2 hb; have GW2 := ge_ hg be6g_; have GE2 := GW2; replace HB := hb_ hb be6g_; have NB1_2 := nl_ hg BK1; have NB2_1 := ng_ hg BK1; replace BK1 := k1_ BK1 hb; clear hb hg) | ((with_reducible refine gd_ (N := 7) rfl ?_); refine Kd.R_lit (Kd.int .i64) _ 3 ?hg (N := 7) ?hd (xs := ([] : List Int)) (inner := []) (ok := fun _ => True) (okp := fun _ => True) ?hr ?hp (fun _ hk => hk) trivial (Below.refl _ _) (Nat.le_refl _) bxka_ ?_; (case hd => rfl); (case hg => rfl); (case hr => go_simp; first | done | rfl); (case hp => exact (Reps.none _ _)); intro v1 w3 ho6 hb hg_ hnew_; clear hg_ hnew_; (first | rw [← Ny1.out] at ho6 | (simp only [Int.reduceToNat] at ho6; rw [← Ny1.out] at ho6)); have HO1 := A0_ (Kd.R_lower ho6 (bz_ bfnq_)); replace BK1 := k1_ BK1 hb; replace BK2 := k1_ BK2 hb; replace HB := hb_ hb bfnq_; clear hb ho6))
 go_loopg [5, 6] k (fun kq v3 v4 w' => ∃ (x5_1 : List Int) (x6_1 : Int), v4 = .int .i64 x6_1 ∧ Aside0 (spec_l2Without.l0 kq a1 x5_1 x6_1 a0_0 a0_1 l0_2 = some (r1, r2, r3)) ∧ Aside0 (kq ≤ k) ∧ Aside0 (Kd.R (Kd.int .i64) 3 w' w.heap.size (fun _ => True) v3 x5_1) ∧ Aside0 (w'.heap[gb1]? = some (.cells #[.int .i64 a0_0, .bool a0_1, (.slice A0_2 l0_2.length c0_2)] 28 (0, 0))) ∧ Aside0 (w'.heap[gb2]? = some (.cells #[.int .i64 0, .bool false, (.slice none 0 0)] 28 (0, 0))) ∧ Aside0 (Below w.heap.size w w'))
 case atStart => exact ⟨(y1), (0), b2ew_, H', ⟨Nat.le_refl _⟩, ⟨bsm5_⟩, ⟨u1_ BK1⟩, ⟨u1_ BK2⟩, ⟨bfnq_⟩⟩
 clear H'
 obtain ⟨x5_1, x6_1, rfl, HA, HK1, HO_1, BK1, BK2, HB⟩ := hrel
 cases gk with | zero => exact absurd HA.out (by simp [spec_l2Without.l0]) | succ k1 => ?_
 have H := HA.out
 clear HA
 simp only [spec_l2Without.l0] at H
 by_cases c1 : x6_1 < (l0_2.length : Int)
 case neg =>
  rw [if_neg c1] at H
  have c1b0 : decide (x6_1 < (l0_2.length : Int)) = false := decide_eq_false c1
  clear c1
  obtain ⟨⟨t1, t2, t3⟩, A2, H⟩ := o1_ H
  replace H : (some (t1, t2, t3)) = some (r1, r2, r3) := H
  simp only [sj_, pj_] at H
  obtain ⟨rfl, rfl, rfl⟩ := H
  have hnb1 := NB1_2.out
  have hnc1 := NB2_1.out
  have hcz1 := z3_ BK1
  obtain ⟨Ao1, co1, eo1⟩ := Kd.R_slice HO_1.out
  subst eo1
  go_wp2_with (first | ((with_reducible refine gc_ (f := 71) rfl ?_); refine gl_ 32 Tryd.func71 #[.agg #[.int .i64 a0_0, .bool a0_1, .slice A0_2 l0_2.length c0_2], .slice Ao1 x5_1.length co1] ?_; (with_reducible refine (spec_l2Made.calls a0_0 a0_1 _ _ l0_2 (fun k_ => some k_ = (.slice Ao1 x5_1.length co1 : Value).ownBlock) (.slice Ao1 x5_1.length co1) x5_1 t1 t2 t3 w _ ?side1 ?side2 ?side3 ?side4 A2.out).mono ?_); (case side1 => exact bfnq_); (case side2 => exact Kd.C_kept_came (Kd.heap_int .i64) HR0_2.out bfnq_ (fun k_ hs_ => (fun e_ => Kd.R_base HO_1.out k_ e_.symm) hs_)); (case side3 => exact HC0_2.out); (case side4 => exact Kd.R_tight rfl HO_1.out); rintro e w4 ⟨v5, rfl, ho0, hb, hkp⟩; refine ⟨_, rfl, ?_⟩; have n0_ := A0_ (blk_kept (u1_ BK1) hkp (fun hs_ => (fun e_ => (Kd.R_ne HO_1.out BK1.out bi3y_) e_) hs_)); have n1_ := A0_ (blk_kept (u1_ BK2) hkp (fun hs_ => (fun e_ => (Kd.R_ne HO_1.out BK2.out bi3y_) e_) hs_)); have n2_ := A0_ (Kd.R_mono (ok' := fun k_ => True) ho0 (fun k_ hk_ => trivial)); have n3_ := A0_ (hb); clear BK1 BK2 HB HO_1; have BK1 := n0_; have BK2 := n1_; have HO2 := n2_; have HB := n3_; clear n0_ n1_ n2_ n3_; (try clear hb); (try clear hkp); (try clear ho0); have hcz2 := z3_ BK2; obtain ⟨Ao2, co2, eo2⟩ := Kd.R_slice HO2.out; subst eo2))
  refine bodyPost_ret (results_cell_row rfl _ _ gb2 28 #[.int .i64 t1, .bool t2, .slice Ao2 t3.length co2] (0, 0) _ rfl (u1_ BK2) Tryd.underlying28 rfl bfqv_) rfl ?_
  exact ⟨_, bnwh_, bhxu_, bfnq_⟩
 rw [if_pos c1] at H
 have c1b0 : decide (x6_1 < (l0_2.length : Int)) = true := dt_ c1
 clear c1
 by_cases c2 : 0 ≤ x6_1
 case neg =>
  rw [if_neg c2] at H
  exact absurd H bxka_
 rw [if_pos c2] at H
 have c2b0 : decide (0 ≤ x6_1) = true := dt_ c2
 clear c2
 by_cases c3 : (rd l0_2 x6_1) = a1
 ·rw [if_pos c3] at H
  obtain ⟨c3b0, c3b1⟩ := et_ c3
  clear c3
  have H' := A0_ H
  clear H
  have hnb1 := NB1_2.out
  have hnc1 := NB2_1.out
  have hcz1 := z3_ BK1
  have p1 : 0 ≤ (x6_1 : Int) := od_ bpil_
  have q1 : x6_1 < (l0_2.length : Int) := od_ bpil_
  obtain ⟨ad1, e1, hx1_0⟩ := Kd.at_int HR0_2.out x6_1 p1 q1
  cases e1
  replace hx1_0 := (HB.out.cell (World.block_lt_of_cell? w _ hx1_0)).trans hx1_0
  replace p1 := eq_true p1
  replace q1 := eq_true q1
  go_wp2
  go_roundg k1
  case measure => have := HK1.out; omega
  exact ⟨(x5_1), (wrap64 (x6_1 + 1)), b2ew_, H', ⟨bxjq_⟩, ⟨bwik_⟩, ⟨u1_ BK1⟩, ⟨u1_ BK2⟩, ⟨bfnq_⟩⟩
 rw [if_neg c3] at H
 obtain ⟨c3b0, c3b1⟩ := ef_ c3
 by_cases c4 : x5_1.length < 17592186044416
 case neg =>
  rw [if_neg c4] at H
  exact absurd H bxka_
 rw [if_pos c4] at H
 have LMc1 := A0_ c4
 clear c4
 obtain ⟨y2, hy2⟩ : ∃ y_ : List Int, y_ = (x5_1 ++ [rd l0_2 x6_1]) := ⟨_, rfl⟩
 replace H : (spec_l2Without.l0 k1 a1 y2 (wrap64 (x6_1 + 1)) a0_0 a0_1 l0_2) = some (r1, r2, r3) := bscs_
 have Ny2 := A0_ hy2
 clear hy2
 have H' := A0_ H
 clear H
 have hnb1 := NB1_2.out
 have hnc1 := NB2_1.out
 have hcz1 := z3_ BK1
 have p1 : 0 ≤ (x6_1 : Int) := od_ bpil_
 have q1 : x6_1 < (l0_2.length : Int) := od_ bpil_
 obtain ⟨ad1, e1, hx1_0⟩ := Kd.at_int HR0_2.out x6_1 p1 q1
 cases e1
 replace hx1_0 := (HB.out.cell (World.block_lt_of_cell? w _ hx1_0)).trans hx1_0
 replace p1 := eq_true p1
 replace q1 := eq_true q1
 have p2 : 0 ≤ (x6_1 : Int) := od_ bpil_
 have q2 : x6_1 < (l0_2.length : Int) := od_ bpil_
 obtain ⟨ad2, e2, hx2_0⟩ := Kd.at_int HR0_2.out x6_1 p2 q2
 obtain rfl : ad1 = ad2 := bs6y_
 replace hx2_0 := (HB.out.cell (World.block_lt_of_cell? w _ hx2_0)).trans hx2_0
 replace p2 := eq_true p2
 replace q2 := eq_true q2
 go_wp2_with (first | ((with_reducible refine gate_builtin (b := .append) (xs := #[.tmp 22, .tmp 28]) rfl ?_); at_builtin; refine Kd.R_append (Kd.int .i64) (w0 := w) w.heap.size rfl (.tmp 22) (.tmp 28) 22 3 (.int .i64 0) 8 rfl Tryd.underlying22 info3 rfl bi3y_ bh19_ u5 x5_1 (rd l0_2 x6_1) [.int .i64 (rd l0_2 x6_1)] (fun _ => True) (fun _ => False) rfl rfl ?aP (fun _ hk => hk.elim) ?aF ?aO ?aB ?aS ?aL ?_; (case aP => exact rfl); (case aB => exact bfnq_); (case aF => exact (fun _ _ => trivial)); (case aO => exact bwik_); (case aS => exact (bz_ bfnq_)); (case aL => have := LMc1.out; omega); intro v5 w4 ho hb hg hat; rw [← Ny2.out] at ho; have n0_ := A0_ (blk_grown (g := gb1) (o := .cells #[.int .i64 a0_0, .bool a0_1, .slice (some ad1) l0_2.length c0_2] 28 (0, 0)) (u1_ BK1) hg (Kd.R_ne HO_1.out BK1.out bi3y_)); have n1_ := A0_ (blk_grown (g := gb2) (o := .cells #[.int .i64 0, .bool false, .slice none 0 0] 28 (0, 0)) (u1_ BK2) hg (Kd.R_ne HO_1.out BK2.out bi3y_)); have n2_ := A0_ (hb); have n3_ := A0_ (ho); clear BK1 BK2 HB HO_1; have BK1 := n0_; have BK2 := n1_; have HB := n2_; have HO2 := n3_; clear n0_ n1_ n2_ n3_ ho hb hg hat))
 go_roundg k1
 case measure => have := HK1.out; omega
 exact ⟨(y2), (wrap64 (x6_1 + 1)), b2ew_, H', ⟨bxjq_⟩, ⟨b9so_⟩, ⟨u1_ BK1⟩, ⟨u1_ BK2⟩, ⟨bfnq_⟩⟩

def spec_LeaveStands.l0 : Nat → List Int → List Int → Int → Int → Int → Bool → List Int → Option (List Int × Int × Bool)
 | 0, _, _, _, _, _, _, _ => none
 | k + 1, x1, x7, x8, x10, x601000, x601001, x601002 => if x10 < (x1.length : Int) then (if 0 ≤ x10 then ((spec_l10Between.f k x601000 x601001 x601002 (rd x1 x10)).bind fun bt602 => (if x7.length < 17592186044416 then ((spec_l2Without.f k x601000 x601001 x601002 (rd x1 x10)).bind fun bt608 => (spec_LeaveStands.l0 k x1 (x7 ++ [bt602.1]) (wrap64 (x8 + bt602.1)) (wrap64 (x10 + 1)) bt608.1 bt608.2.1 bt608.2.2)) else (none))) else (none)) else (some (x7, x8, true))
def spec_LeaveStands.f (k : Nat) (a0_0 : Int) (a0_1 : Bool) (l0_2 : List Int) (l1 : List Int) : Option (List Int × Int × Bool) := (some (([] : List Int) : List Int)).bind fun y596 => ((spec_l10Different.f k a0_0 a0_1 l0_2 l1 true).bind fun t599 => (if t599 = true then (spec_LeaveStands.l0 k l1 y596 0 0 a0_0 a0_1 l0_2) else (some (y596, 0, false))))
theorem spec_LeaveStands.mono_l : ∀ k, (∀ y0 y1 y2 y3 y4 y5 y6, LeO (spec_LeaveStands.l0 k y0 y1 y2 y3 y4 y5 y6) (spec_LeaveStands.l0 (k + 1) y0 y1 y2 y3 y4 y5 y6))
 | 0 => fun _ _ _ _ _ _ _ r h => by simp [spec_LeaveStands.l0] at h
 | k + 1 => by
  have ih0 := spec_LeaveStands.mono_l k
  ·intro y0 y1 y2 y3 y4 y5 y6
   unfold spec_LeaveStands.l0
   repeat' with_reducible first | exact ih0 .. | exact spec_l10Between.mono .. | exact spec_l10Different.mono .. | exact spec_l2Without.mono .. | exact LeO.refl .. | exact LeO.none .. | refine LeO.ite ?_ ?_ | refine LeO.bind ?_ (fun _ => ?_)
theorem spec_LeaveStands.mono : ∀ a0 a1 a2 a3 k, LeO (spec_LeaveStands.f k a0 a1 a2 a3) (spec_LeaveStands.f (k + 1) a0 a1 a2 a3) := by
 intro a0 a1 a2 a3 k
 have ih0 := spec_LeaveStands.mono_l k
 unfold spec_LeaveStands.f
 repeat' with_reducible first | exact ih0 .. | exact spec_l10Between.mono .. | exact spec_l10Different.mono .. | exact spec_l2Without.mono .. | exact LeO.refl .. | exact LeO.none .. | refine LeO.ite ?_ ?_ | refine LeO.bind ?_ (fun _ => ?_)
def spec_LeaveStands.T8 : Bool × List (List Nat × List Nat) := (true, [([], []), ([], []), ([], []), ([1, 2], [1, 2]), ([3], [3]), ([0, 4], [0, 4]), ([5], [5]), ([6], [6]), ([6], [6]), ([7, 5, 0, 1, 2, 3, 4, 5, 6, 7], [7]), ([8, 9, 0, 1, 2, 3, 4, 5, 6, 7, 8, 9], [8])])
def spec_LeaveStands.B8 : List Nat := [0, 0, 0, 6, 14, 31, 63, 127, 127, 255, 1023]
theorem spec_LeaveStands.tab8 : rtab .any (opsOf Tryd.f30 8) = spec_LeaveStands.T8 := by kernel_rfl
theorem spec_LeaveStands.bits8 : waitsOk spec_LeaveStands.T8.2 spec_LeaveStands.B8 = true := by kernel_rfl
theorem spec_LeaveStands.calls (k : Nat) (a0_0 : Int) (a0_1 : Bool) (P0_2_ : Nat → Prop) (A0_2 : Option Addr) (c0_2 : Nat) (l0_2 : List Int) (A1 : Option Addr) (c1 : Nat) (l1 : List Int) (r1 : List Int) (r2 : Int) (r3 : Bool) (w : World) (hs0_2 : Kd.V (Kd.int .i64) 3 w w.heap.size (fun k_ => P0_2_ k_) (.slice A0_2 l0_2.length c0_2) l0_2) (hr1 : Kd.C (Kd.int .i64) w A1 l1.length l1) (hc1 : l1.length ≤ c1) (h : spec_LeaveStands.f k a0_0 a0_1 l0_2 l1 = some (r1, r2, r3)) :
  Calls Tryd.prog 30 #[.agg #[.int .i64 a0_0, .bool a0_1, .slice A0_2 l0_2.length c0_2], .slice A1 l1.length c1] w fun e w' => ∃ v0_ : Value, e = .returned (.tuple #[v0_, .int .i64 r2, .bool r3]) ∧ Kd.R (Kd.int .i64) 3 w' w.heap.size (fun k_ => (w.heap.size ≤ k_)) v0_ r1 ∧ Below w.heap.size w w' := by
 have hu28 := Tryd.underlying28
 have HO1_2 := A0_ (show Kd.V (Kd.int .i64) 3 w w.heap.size (fun k_ => (P0_2_ k_ ∨ w.heap.size ≤ k_)) (.slice A0_2 l0_2.length c0_2) l0_2 from Kd.V_mono hs0_2 (fun k_ hk => .inl hk))
 have HR1 := A0_ hr1
 have HC1 := A0_ hc1
 clear hr1 hc1
 have HB := A0_ (Below.refl w.heap.size w)
 have H : ((some (([] : List Int) : List Int)).bind fun y1 => ((spec_l10Different.f k a0_0 a0_1 l0_2 l1 true).bind fun t1 => (if t1 = true then (spec_LeaveStands.l0 k l1 y1 0 0 a0_0 a0_1 l0_2) else (some (y1, 0, false))))) = some (r1, r2, r3) := h
 clear h
 obtain ⟨y1, hy1⟩ : ∃ y_ : List Int, y_ = (([] : List Int)) := ⟨_, rfl⟩
 replace H : ((spec_l10Different.f k a0_0 a0_1 l0_2 l1 true).bind fun t1 => (if t1 = true then (spec_LeaveStands.l0 k l1 y1 0 0 a0_0 a0_1 l0_2) else (some (y1, 0, false)))) = some (r1, r2, r3) := bgiq_
 have Ny1 := A0_ hy1
 clear hy1
 obtain ⟨t1, A3, H⟩ := o1_ H
 by_cases c2 : t1 = true
 case neg =>
  obtain rfl := bf_.mpr c2
  rw [if_neg ft_] at H
  simp only [sj_, pj_] at H
  obtain ⟨rfl, rfl, rfl⟩ := H
  go_enter Tryd.func30, Tryd.ntmps30
  go_wp2_with (first | ((with_reducible refine gd_ (N := 2) rfl ?_); refine bx_ 2 #[.int .i64 a0_0, .bool a0_1, .slice A0_2 l0_2.length c0_2] 28 ?_; intro gb1 hg w1 BK1 hb; replace HO1_2 := A0_ (Kd.V_below (Kd.V_elderB bqvv_ gb1 (Nat.le_of_eq hg.symm)) hb); have GW1 := ge_ hg brt4_; have GE1 := GW1; replace HB := hb_ hb brt4_; clear hb hg) | ((with_reducible refine gd_ (N := 13) rfl ?_); refine Kd.R_lit (Kd.int .i64) _ 3 ?hg (N := 13) ?hd (xs := ([] : List Int)) (inner := []) (ok := fun _ => True) (okp := fun _ => True) ?hr ?hp (fun _ hk => hk) trivial (Below.refl _ _) (Nat.le_refl _) bxka_ ?_; (case hd => rfl); (case hg => rfl); (case hr => go_simp; first | done | rfl); (case hp => exact (Reps.none _ _)); intro v1 w2 ho31 hb hg_ hnew_; clear hg_ hnew_; (first | rw [← Ny1.out] at ho31 | (simp only [Int.reduceToNat] at ho31; rw [← Ny1.out] at ho31)); replace HO1_2 := A0_ (Kd.V_elder' bqvv_ (Kd.R_base ho31) hb); have HO2 := A0_ (Kd.R_lower (Kd.R_newM (M := fun k_ => (w.heap.size ≤ k_)) ho31 (bz_ be6g_) (fun k_ h_ => h_)) (bz_ be6g_)); replace BK1 := k1_ BK1 hb; replace HB := hb_ hb be6g_; clear hb ho31; have hcz1 := z3_ BK1) | ((with_reducible refine gc_ (f := 55) rfl ?_); refine gl_ 16 Tryd.func55 #[.agg #[.int .i64 a0_0, .bool a0_1, .slice A0_2 l0_2.length c0_2], .slice A1 l1.length c1, .bool true] ?_; (with_reducible refine (spec_l10Different.calls k a0_0 a0_1 _ _ l0_2 _ _ l1 true false _ ?side1 ?side2 ?side3 ?side4 A3.out).mono ?_); (case side1 => exact b26b_); (case side2 => exact (Kd.V_reads' HO1_2.out).2.1); (case side3 => exact b3d8_); (case side4 => exact HC1.out); rintro e w3 ⟨rfl, hb⟩; refine ⟨_, rfl, ?_⟩; replace HO1_2 := A0_ (Kd.V_below bqvv_ hb); replace HO2 := A0_ (Kd.R_below b9so_ hb); replace BK1 := k1_ BK1 hb; replace HB := hb_ hb be6g_; (try clear hb)))
  go_ret3
  exact ⟨_, bnwh_, b4xb_, be6g_⟩
 subst c2
 rw [if_pos rfl] at H
 have H' := A0_ H
 clear H
 go_enter Tryd.func30, Tryd.ntmps30
 go_wp2_with (first | ((with_reducible refine gd_ (N := 2) rfl ?_); refine bx_ 2 #[.int .i64 a0_0, .bool a0_1, .slice A0_2 l0_2.length c0_2] 28 ?_; intro gb1 hg w1 BK1 hb; replace HO1_2 := A0_ (Kd.V_below (Kd.V_elderB bqvv_ gb1 (Nat.le_of_eq hg.symm)) hb); have GW1 := ge_ hg brt4_; have GE1 := GW1; replace HB := hb_ hb brt4_; clear hb hg) | ((with_reducible refine gd_ (N := 13) rfl ?_); refine Kd.R_lit (Kd.int .i64) _ 3 ?hg (N := 13) ?hd (xs := ([] : List Int)) (inner := []) (ok := fun _ => True) (okp := fun _ => True) ?hr ?hp (fun _ hk => hk) trivial (Below.refl _ _) (Nat.le_refl _) bxka_ ?_; (case hd => rfl); (case hg => rfl); (case hr => go_simp; first | done | rfl); (case hp => exact (Reps.none _ _)); intro v1 w2 ho7 hb hg_ hnew_; clear hg_ hnew_; (first | rw [← Ny1.out] at ho7 | (simp only [Int.reduceToNat] at ho7; rw [← Ny1.out] at ho7)); replace HO1_2 := A0_ (Kd.V_elder' bqvv_ (Kd.R_base ho7) hb); have HO2 := A0_ (Kd.R_lower (Kd.R_newM (M := fun k_ => (w.heap.size ≤ k_)) ho7 (bz_ be6g_) (fun k_ h_ => h_)) (bz_ be6g_)); replace BK1 := k1_ BK1 hb; replace HB := hb_ hb be6g_; clear hb ho7; have hcz1 := z3_ BK1) | ((with_reducible refine gc_ (f := 55) rfl ?_); refine gl_ 16 Tryd.func55 #[.agg #[.int .i64 a0_0, .bool a0_1, .slice A0_2 l0_2.length c0_2], .slice A1 l1.length c1, .bool true] ?_; (with_reducible refine (spec_l10Different.calls k a0_0 a0_1 _ _ l0_2 _ _ l1 true true _ ?side1 ?side2 ?side3 ?side4 A3.out).mono ?_); (case side1 => exact b26b_); (case side2 => exact (Kd.V_reads' HO1_2.out).2.1); (case side3 => exact b3d8_); (case side4 => exact HC1.out); rintro e w3 ⟨rfl, hb⟩; refine ⟨_, rfl, ?_⟩; replace HO1_2 := A0_ (Kd.V_below bqvv_ hb); replace HO2 := A0_ (Kd.R_below b9so_ hb); replace BK1 := k1_ BK1 hb; replace HB := hb_ hb be6g_; (try clear hb); have hcz2 := z3_ BK1) | ((with_reducible refine gd_ (N := 9) rfl ?_); refine bx_ 9 #[.int .i64 0, .bool false, .slice none 0 0] 28 ?_; intro gb2 hg w4 BK2 hb; replace HO1_2 := A0_ (Kd.V_below (Kd.V_elderB bqvv_ gb2 (Nat.le_of_eq hg.symm)) hb); replace HO2 := A0_ (Kd.R_below b9so_ hb); have GW2 := ge_ hg be6g_; have GE2 := GW2; replace HB := hb_ hb be6g_; have NB1_2 := nl_ hg BK1; have NB2_1 := ng_ hg BK1; replace BK1 := k1_ BK1 hb; clear hb hg; have hnb1 := NB2_1.out; have hnc1 := NB1_2.out; have hcz3 := z3_ BK2))
 go_loopg [7, 8, 10] k (fun kq v2 v3 v4 w' => ∃ (x7_1 : List Int) (x8_1 : Int) (x10_1 : Int) (x601000_1 : Int) (x601001_1 : Bool) (x601002_1 : List Int) (u601002 : Value), v3 = .int .i64 x8_1 ∧ v4 = .int .i64 x10_1 ∧ Aside0 (spec_LeaveStands.l0 kq l1 x7_1 x8_1 x10_1 x601000_1 x601001_1 x601002_1 = some (r1, r2, r3)) ∧ Aside0 (kq ≤ k) ∧ Aside0 (Kd.R (Kd.int .i64) 3 w' w.heap.size (fun k_ => (w.heap.size ≤ k_)) v2 x7_1) ∧ Aside0 (Kd.V (Kd.int .i64) 3 w' w.heap.size (fun k_ => (P0_2_ k_ ∨ w.heap.size ≤ k_) ∧ no_ v2 k_ ∧ k_ ≠ gb1 ∧ k_ ≠ gb2) (.slice A0_2 l0_2.length c0_2) l0_2) ∧ Aside0 (Kd.V (Kd.int .i64) 3 w' w.heap.size (fun k_ => (P0_2_ k_ ∨ w.heap.size ≤ k_) ∧ no_ v2 k_ ∧ k_ ≠ gb1 ∧ k_ ≠ gb2) u601002 x601002_1) ∧ Aside0 (w'.heap[gb1]? = some (.cells #[.int .i64 a0_0, .bool a0_1, (.slice A0_2 l0_2.length c0_2)] 28 (0, 0))) ∧ Aside0 (w'.heap[gb2]? = some (.cells #[.int .i64 x601000_1, .bool x601001_1, u601002] 28 (0, 0))) ∧ Aside0 (Below w.heap.size w w'))
 case atStart => exact ⟨(y1), (0), (0), (a0_0), (a0_1), (l0_2), (.slice A0_2 l0_2.length c0_2), b2ew_, b2ew_, H', ⟨Nat.le_refl _⟩, ⟨b63k_⟩, ⟨buls_⟩, ⟨buls_⟩, ⟨u1_ BK1⟩, ⟨u1_ BK2⟩, ⟨bfnq_⟩⟩
 clear H'
 try clear c1
 try clear c2
 (try clear hcz2); (try clear hcz3); (try clear hcz1); (try clear hfz2); (try clear hfz3); (try clear hfz1)
 obtain ⟨x7_1, x8_1, x10_1, x601000_1, x601001_1, x601002_1, u601002, rfl, rfl, HA, HK1, HO_1, HO_2, HO_3, BK1, BK2, HB⟩ := hrel
 cases gk with | zero => exact absurd HA.out (by simp [spec_LeaveStands.l0]) | succ k1 => ?_
 have H := HA.out
 clear HA
 simp only [spec_LeaveStands.l0] at H
 by_cases c3 : x10_1 < (l1.length : Int)
 case neg =>
  rw [if_neg c3] at H
  have c3b0 : decide (x10_1 < (l1.length : Int)) = false := decide_eq_false c3
  clear c3
  simp only [sj_, pj_] at H
  obtain ⟨rfl, rfl, rfl⟩ := H
  go_wp2
  go_ret3
  exact ⟨_, bnwh_, bwik_, bfnq_⟩
 rw [if_pos c3] at H
 have c3b0 : decide (x10_1 < (l1.length : Int)) = true := dt_ c3
 clear c3
 by_cases c4 : 0 ≤ x10_1
 case neg =>
  rw [if_neg c4] at H
  exact absurd H bxka_
 rw [if_pos c4] at H
 have c4b0 : decide (0 ≤ x10_1) = true := dt_ c4
 clear c4
 obtain ⟨⟨t2, t3⟩, A5, H⟩ := o1_ H
 by_cases c5 : x7_1.length < 17592186044416
 case neg =>
  rw [if_neg c5] at H
  exact absurd H bxka_
 rw [if_pos c5] at H
 have LMc1 := A0_ c5
 clear c5
 obtain ⟨y2, hy2⟩ : ∃ y_ : List Int, y_ = (x7_1 ++ [t2]) := ⟨_, rfl⟩
 replace H : ((spec_l2Without.f k1 x601000_1 x601001_1 x601002_1 (rd l1 x10_1)).bind fun bt1 => (spec_LeaveStands.l0 k1 l1 y2 (wrap64 (x8_1 + t2)) (wrap64 (x10_1 + 1)) bt1.1 bt1.2.1 bt1.2.2)) = some (r1, r2, r3) := bscs_
 have Ny2 := A0_ hy2
 clear hy2
 obtain ⟨⟨t4, t5, t6⟩, A7, H⟩ := o1_ H
 have H' := A0_ H
 clear H
 try go_wp2
 replace HO_1 := A0_ (rd_ HO_1.out)
 replace HO_2 := A0_ (Kd.V_drew HO_2.out)
 replace HO_3 := A0_ (Kd.V_drew HO_3.out)
 replace BK1 := A0_ (kd_ BK1.out)
 replace BK2 := A0_ (kd_ BK2.out)
 replace HB := A0_ (bd_ HB.out)
 have p1 : 0 ≤ (x10_1 : Int) := od_ bpil_
 have q1 : x10_1 < (l1.length : Int) := od_ bpil_
 obtain ⟨ad1, e1, hx1_0⟩ := Kd.at_int HR1.out x10_1 p1 q1
 have hw601_0 := hx1_0
 cases e1
 replace hx1_0 := (HB.out.cell (World.block_lt_of_cell? w _ hx1_0)).trans hx1_0
 replace p1 := eq_true p1
 replace q1 := eq_true q1
 obtain ⟨Ao1, co1, eo1⟩ := Kd.V_slice HO_3.out
 (first | subst eo1 | (injection eo1 with f1_ f2_ f3_; have f4_ := f1_.symm; have f5_ := f3_.symm; clear f1_ f2_ f3_; subst f4_; subst f5_))
 refine start_ (n := 11) (S := fun w' => w'.cell? ⟨gb2, 0, none⟩ = some (.int .i64 x601000_1) ∧ w'.cell? ⟨gb2, 1, none⟩ = some (.bool x601001_1) ∧ w'.cell? ⟨gb2, 2, none⟩ = some (.slice Ao1 x601002_1.length co1) ∧ w'.cell? (ad1.add (x10_1).toNat) = some (.int .i64 (rd l1 x10_1))) (ds := []) #[false, false, false, false, false, false, false, false, false, false, false] bfqv_ rfl rfl ⟨(kc_ BK2.out 0).trans rfl, (kc_ BK2.out 1).trans rfl, (kc_ BK2.out 2).trans rfl, ((HB.out.cell (World.block_lt_of_cell? w _ hw601_0)).trans hw601_0)⟩ (fun hHeld => ?_); refine with_tabW spec_LeaveStands.tab8 spec_LeaveStands.bits8 (fun HT_ HW_ => ?_)
 generalize wr.drew = w5 at HO_1 HO_2 HO_3 BK1 BK2 HB hx1_0 hHeld ⊢
 refine pu_ 1 28 ?_
 refine pu_ 2 29 ?_
 refine pu_ 3 30 ?_
 refine tk_ 0 27 hHeld ?_
 refine tk_ 4 31 hHeld ?_
 refine on_ 5 (some 32) (fun K hK => ?_)
 refine gs_ Tryd.func57 #[.agg #[.int .i64 x601000_1, .bool x601001_1, .slice Ao1 x601002_1.length co1], .int .i64 (rd l1 x10_1)] ?_
 with_reducible refine (spec_l10Between.calls k1 x601000_1 x601001_1 _ _ x601002_1 (rd l1 x10_1) t2 t3 _ ?side1 ?side2 A5.out).mono ?_
 (case side1 => exact bpur_)
 (case side2 => exact (Kd.V_reads' HO_3.out).2.1)
 rintro e w6 ⟨rfl, hb⟩
 refine ⟨_, rfl, ?_⟩
 replace HO_1 := A0_ (Kd.R_below bwik_ hb)
 replace HO_2 := A0_ (Kd.V_below b0k3_ hb)
 replace HO_3 := A0_ (Kd.V_below bpxd_ hb)
 replace BK1 := k1_ BK1 hb
 replace BK2 := k1_ BK2 hb
 replace HB := hb_ hb bfnq_
 (try clear hb)
 refine hK.out _ _ ⟨(kc_ BK2.out 0).trans rfl, (kc_ BK2.out 1).trans rfl, (kc_ BK2.out 2).trans rfl, ((HB.out.cell (World.block_lt_of_cell? w _ hw601_0)).trans hw601_0)⟩ (fun hHeld => ?_)
 clear hK K
 refine nm_ 32 ?_
 refine pu_ 6 26 ?_
 refine pu_ 7 33 ?_
 refine pu_ 8 34 ?_
 refine pu_ 9 11 ?_
 refine pu_ 10 12 ?_
 refine dn_ ?_
 try go_wp2_with (first | ((with_reducible refine gate_builtin (b := .append) (xs := #[.tmp 35, .tmp 37]) rfl ?_); at_builtin; refine Kd.R_append (Kd.int .i64) (w0 := w) w.heap.size rfl (.tmp 35) (.tmp 37) 22 3 (.int .i64 0) 8 rfl Tryd.underlying22 info3 rfl bi3y_ bh19_ u7 x7_1 t2 [.int .i64 t2] (fun k_ => (w.heap.size ≤ k_)) (fun _ => False) rfl rfl ?aP (fun _ hk => hk.elim) ?aF ?aO ?aB ?aS ?aL ?_; (case aP => exact rfl); (case aB => exact bfnq_); (case aF => exact (fun k_ hk => (Nat.le_trans (bz_ bfnq_) hk))); (case aO => exact bwik_); (case aS => exact (bz_ bfnq_)); (case aL => have := LMc1.out; omega); intro v5 w7 ho hb hg hat; rw [← Ny2.out] at ho; have n0_ := A0_ (Kd.V_afterv (ok := (fun k_ => (P0_2_ k_ ∨ w.heap.size ≤ k_) ∧ k_ ≠ gb1 ∧ k_ ≠ gb2)) ba38_ hg hat); have n1_ := A0_ (Kd.V_afterv (ok := (fun k_ => (P0_2_ k_ ∨ w.heap.size ≤ k_) ∧ k_ ≠ gb1 ∧ k_ ≠ gb2)) bch9_ hg hat); have n2_ := A0_ (blk_grown (g := gb1) (o := .cells #[.int .i64 a0_0, .bool a0_1, .slice A0_2 l0_2.length c0_2] 28 (0, 0)) (u1_ BK1) hg (Kd.R_ne HO_1.out BK1.out bi3y_)); have n3_ := A0_ (blk_grown (g := gb2) (o := .cells #[.int .i64 x601000_1, .bool x601001_1, .slice Ao1 x601002_1.length co1] 28 (0, 0)) (u1_ BK2) hg (Kd.R_ne HO_1.out BK2.out bi3y_)); have n4_ := A0_ (hb); have n5_ := A0_ (ho); clear HO_2 HO_3 BK1 BK2 HB HO_1; have HO_2 := n0_; have HO_3 := n1_; have BK1 := n2_; have BK2 := n3_; have HB := n4_; have HO3 := n5_; clear n0_ n1_ n2_ n3_ n4_ n5_ ho hb hg hat))
 replace HO_2 := A0_ (Kd.V_drew HO_2.out)
 replace HO_3 := A0_ (Kd.V_drew HO_3.out)
 replace HO3 := A0_ (rd_ HO3.out)
 replace BK1 := A0_ (kd_ BK1.out)
 replace BK2 := A0_ (kd_ BK2.out)
 replace HB := A0_ (bd_ HB.out)
 have p2 : 0 ≤ (x10_1 : Int) := od_ bpil_
 have q2 : x10_1 < (l1.length : Int) := od_ bpil_
 obtain ⟨ad2, e2, hx2_0⟩ := Kd.at_int HR1.out x10_1 p2 q2
 have hw607_0 := hx2_0
 obtain rfl : ad1 = ad2 := bs6y_
 replace hx2_0 := (HB.out.cell (World.block_lt_of_cell? w _ hx2_0)).trans hx2_0
 replace p2 := eq_true p2
 replace q2 := eq_true q2
 refine start_ (n := 7) (S := fun w' => w'.cell? ⟨gb2, 0, none⟩ = some (.int .i64 x601000_1) ∧ w'.cell? ⟨gb2, 1, none⟩ = some (.bool x601001_1) ∧ w'.cell? ⟨gb2, 2, none⟩ = some (.slice Ao1 x601002_1.length co1) ∧ w'.cell? (ad1.add (x10_1).toNat) = some (.int .i64 (rd l1 x10_1))) (ds := [6]) #[false, false, false, false, false, false, false] bfqv_ rfl rfl ⟨(kc_ BK2.out 0).trans rfl, (kc_ BK2.out 1).trans rfl, (kc_ BK2.out 2).trans rfl, ((HB.out.cell (World.block_lt_of_cell? w _ hw607_0)).trans hw607_0)⟩ (fun hHeld => ?_)
 generalize w7.drew = w8 at HO_2 HO_3 HO3 BK1 BK2 HB hx2_0 hHeld ⊢
 refine pu_ 1 43 ?_
 refine pu_ 2 44 ?_
 refine pu_ 3 45 ?_
 refine tk_ 0 42 hHeld ?_
 refine tk_ 4 46 hHeld ?_
 refine on_ 5 (some 47) (fun K hK => ?_)
 refine gs_ Tryd.func63 #[.agg #[.int .i64 x601000_1, .bool x601001_1, .slice Ao1 x601002_1.length co1], .int .i64 (rd l1 x10_1)] ?_
 with_reducible refine (spec_l2Without.calls k1 x601000_1 x601001_1 _ _ x601002_1 (rd l1 x10_1) t4 t5 t6 _ ?side1 ?side2 A7.out).mono ?_
 (case side1 => exact bpur_)
 (case side2 => exact (Kd.V_reads' HO_3.out).2.1)
 rintro e w9 ⟨v6, rfl, ho0, hb⟩
 refine ⟨_, rfl, ?_⟩
 replace HO_2 := A0_ (Kd.V_elder' b0k3_ (Kd.R_base ho0) hb)
 replace HO_3 := A0_ (Kd.V_elder' bpxd_ (Kd.R_base ho0) hb)
 have HO4 := A0_ (Kd.R_lower (Kd.R_new' (Kd.R_newM (M := fun k_ => (w.heap.size ≤ k_)) ho0 (bz_ bfnq_) (fun k_ h_ => h_)) (Kd.R_lt buiy_)) (bz_ bfnq_))
 replace HO3 := A0_ (Kd.R_elder' buiy_ (Kd.R_base ho0) hb)
 replace BK1 := k1_ BK1 hb
 replace BK2 := k1_ BK2 hb
 replace HB := hb_ hb bfnq_
 (try clear hb); (try clear ho0)
 obtain ⟨Ao2, co2, eo2⟩ := Kd.R_slice HO4.out
 (first | subst eo2 | (injection eo2 with f1_ f2_ f3_; have f4_ := f1_.symm; have f5_ := f3_.symm; clear f1_ f2_ f3_; subst f4_; subst f5_))
 refine hK.out _ _ ⟨(kc_ BK2.out 0).trans rfl, (kc_ BK2.out 1).trans rfl, (kc_ BK2.out 2).trans rfl, ((HB.out.cell (World.block_lt_of_cell? w _ hw607_0)).trans hw607_0)⟩ (fun hHeld => ?_)
 clear hK K
 refine nm_ 47 ?_
 refine last_ (i := 6) (N := none) #[true, true, true, true, true, true, true] rfl rfl bfqv_ bi3y_ (fun K hK => ?_)
 have hs25 : w9.cell? ⟨gb2, 0, none⟩ = some (.int .i64 x601000_1) := (kc_ BK2.out 0).trans rfl
 have hfs25 := kf_ BK2.out 0
 have hns1_0 := NB1_2.out
 have hms1_0 := NB2_1.out
 have hs26 : w9.cell? ⟨gb2, 1, none⟩ = some (.bool x601001_1) := (kc_ BK2.out 1).trans rfl
 have hfs26 := kf_ BK2.out 1
 have hns2_0 := NB1_2.out
 have hms2_0 := NB2_1.out
 have hs28 : w9.cell? ⟨gb2, 2, none⟩ = some (.slice Ao1 x601002_1.length co1) := (kc_ BK2.out 2).trans rfl
 have hfs28 := kf_ BK2.out 2
 have hns3_0 := NB1_2.out
 have hms3_0 := NB2_1.out
 refine skip_ (w1 := ?_) b139_ rfl ?_ ?_
 rotate_left
 ·go_simp
  rfl
 refine hK.out _ _ ?_
 clear hK K
 refine done_ bfqv_ ?_
 try go_wp2
 go_roundg k1
 case measure => have := HK1.out; omega
 exact ⟨(y2), (wrap64 (x8_1 + t2)), (wrap64 (x10_1 + 1)), (t4), (t5), (t6), (.slice Ao2 t6.length co2), b2ew_, b2ew_, H', ⟨bxjq_⟩, ⟨bdqd_⟩, ⟨b1uc_⟩, ⟨Kd.V_mono (Kd.R_V bex8_) (fun k_ hk => by exact ⟨(.inr (hk.1.1.1.1.1)), ⟨hk.1.1.1.2, ⟨hk.1.1.2, hk.1.2⟩⟩⟩)⟩, ⟨u1_ BK1⟩, ⟨u1_ BK2⟩, ⟨bfnq_⟩⟩

def spec_DrawCountStands.f (l0 : List Int) : Option (Int) := (spec_l1Cur_among.f l0 0 0 (([3, 4, 2, 5, 1, 8, 10, 11, 0, (-1)] : List Int))).bind fun bt683 => (some (bt683.1))
theorem spec_DrawCountStands.calls (A0 : Option Addr) (c0 : Nat) (l0 : List Int) (r1 : Int) (w : World) (hr0 : Kd.C (Kd.int .u8) w A0 l0.length l0) (hc0 : l0.length ≤ c0) (h : spec_DrawCountStands.f l0 = some (r1)) :
  Calls Tryd.prog 31 #[.slice A0 l0.length c0] w fun e w' => e = .returned (.int .i64 r1) ∧ Below w.heap.size w w' := by
 have hu75 := Tryd.underlying75
 have HB := A0_ (Below.refl w.heap.size w)
 have H : ((spec_l1Cur_among.f l0 0 0 (([3, 4, 2, 5, 1, 8, 10, 11, 0, (-1)] : List Int))).bind fun bt1 => (some (bt1.1))) = some (r1) := h
 clear h
 obtain ⟨y1, hy1⟩ : ∃ y_ : List Int, y_ = (([3, 4, 2, 5, 1, 8, 10, 11, 0, (-1)] : List Int)) := ⟨_, rfl⟩
 replace H : ((spec_l1Cur_among.f l0 0 0 y1).bind fun bt1 => (some (bt1.1))) = some (r1) := bgiq_
 have Ny1 := A0_ hy1
 clear hy1
 obtain ⟨⟨t1, t2, t3⟩, A2, H⟩ := o1_ H
 replace H : (some (t1)) = some (r1) := H
 obtain rfl := si_ H
 go_enter Tryd.func31, Tryd.ntmps31
 go_wp2_with (first | ((with_reducible refine gd_ (N := 6) rfl ?_); refine be_ ?hg (N := 6) ?hd (cs := #[.slice A0 l0.length c0, .int .i64 0, .int .u64 0]) (t := 75) ?hr ?_; (case hd => rfl); (case hg => rfl); (case hr => go_simp; first | done | rfl); intro g hg wB hbox hb; have HI0 := A0_ (show IsS75 w wB g l0 0 0 from ⟨A0, c0, hbox, bwen_, hr0⟩); have HK := A0_ (KeepBut.refl wB g none); replace HB := hb_ hb brt4_; clear hb hbox hg) | ((with_reducible refine gd_ (N := 8) rfl ?_); refine Kd.R_lit (Kd.int .i64) _ 3 ?hg (N := 8) ?hd (xs := ([3, 4, 2, 5, 1, 8, 10, 11, 0, (-1)] : List Int)) (inner := [.int .i64 3, .int .i64 4, .int .i64 2, .int .i64 5, .int .i64 1, .int .i64 8, .int .i64 10, .int .i64 11, .int .i64 0, .int .i64 (-1)]) (ok := fun _ => True) (okp := fun _ => True) ?hr ?hp (fun _ hk => hk) trivial (Below.refl _ _) (Nat.le_refl _) bxka_ ?_; (case hd => rfl); (case hg => rfl); (case hr => go_simp; first | done | rfl); (case hp => exact (Reps.one (show Kd.M (Kd.int .i64) _ _ _ 3 [.int .i64 3] from rfl) (Reps.one (show Kd.M (Kd.int .i64) _ _ _ 4 [.int .i64 4] from rfl) (Reps.one (show Kd.M (Kd.int .i64) _ _ _ 2 [.int .i64 2] from rfl) (Reps.one (show Kd.M (Kd.int .i64) _ _ _ 5 [.int .i64 5] from rfl) (Reps.one (show Kd.M (Kd.int .i64) _ _ _ 1 [.int .i64 1] from rfl) (Reps.one (show Kd.M (Kd.int .i64) _ _ _ 8 [.int .i64 8] from rfl) (Reps.one (show Kd.M (Kd.int .i64) _ _ _ 10 [.int .i64 10] from rfl) (Reps.one (show Kd.M (Kd.int .i64) _ _ _ 11 [.int .i64 11] from rfl) (Reps.one (show Kd.M (Kd.int .i64) _ _ _ 0 [.int .i64 0] from rfl) (Reps.one (show Kd.M (Kd.int .i64) _ _ _ (-1) [.int .i64 (-1)] from rfl) (Reps.none _ _)))))))))))); intro v1 w1 ho4 hb hg_ hnew_; clear hg_ hnew_; (first | rw [← Ny1.out] at ho4 | (simp only [Int.reduceToNat] at ho4; rw [← Ny1.out] at ho4)); have HO1 := A0_ (Kd.R_lower ho4 (keep_size (w := wB) (g := g) (row := none) bjmx_)); replace HK := A0_ (KeepBut.trans bjmx_ (KeepBut.of_below hb g none) (.inl rfl)); replace HB := hb_ hb bkjh_; replace HI0 := A0_ (IsS75.below b5hs_ hb); clear hb ho4; obtain ⟨Ao1, co1, eo1⟩ := Kd.R_slice HO1.out; subst eo1) | ((with_reducible refine gc_ (f := 59) rfl ?_); refine gl_ 9 Tryd.func59 #[.pointer (some ⟨g, 0, none⟩), .slice Ao1 y1.length co1] ?_; (with_reducible refine (spec_l1Cur_among.calls g l0 0 0 _ _ y1 t1 t2 t3 w _ ?side1 ?side2 ?side3 ?side4 ?side5 A2.out).mono ?_); (case side1 => exact b5hs_); (case side2 => exact bkjh_); (case side3 => exact bayy_); (case side4 => exact (rr_ HO1.out).2.1); (case side5 => exact far_slice (IsS75.own_ne HI0.out HO1.out bi3y_)); rintro e w2 ⟨rfl, hi, hb, hk⟩; refine ⟨_, rfl, ?_⟩; replace HO1 := A0_ (Kd.R_mono (Kd.R_keep (IsS75.apart (show IsS75 w _ g l0 0 0 from b5hs_) bsm5_ bi3y_) hk (fun _ h => h.2)) (fun _ h => h.1)); replace HK := A0_ (KeepBut.trans bjmx_ hk (.inl rfl)); replace HB := A0_ (hb); replace HI0 := A0_ (hi); (try clear hb); (try clear hk); (try clear hi)))
 go_ret
 exact ⟨bnwh_, bkjh_⟩


def impl_isPeople.f (a0 : Int) : Option (Bool) := (impl_within.f a0 1 10).bind fun t613 => (some t613)
theorem impl_isPeople.calls (a0 : Int) (r : Bool) (w : World) (h : impl_isPeople.f a0 = some r) :
  Calls Tryd.prog 64 #[.int .i64 a0] w fun e w' => e = .returned (.bool r) ∧ Drawn0 w w' := by
 have H : ((impl_within.f a0 1 10).bind fun t1 => (some t1)) = some r := h
 clear h
 obtain ⟨t1, A2, H⟩ := o1_ H
 replace H : (some t1) = some r := H
 obtain rfl := si_ H
 go_enter Tryd.func64, Tryd.ntmps64
 go_wp2_with (first | ((with_reducible refine gc_ (f := 84) rfl ?_); refine gl_ 4 Tryd.func84 #[.int .i64 a0, .int .i64 1, .int .i64 10] ?_; (with_reducible refine (impl_within.calls a0 1 10 t1 _ A2.out).mono ?_); rintro e w' ⟨rfl, ⟨nd, rfl⟩⟩; refine ⟨_, rfl, ?_⟩))
 go_ret
 exact ⟨b04z_, boaj_⟩

mutual
def impl_CountStands.l0 : Nat → Int → List Int → Int → Option (List Int × Bool)
 | 0, _, _, _ => none
 | k + 1, x0, x4, x5 => if x5 ≤ x0 then (if 0 ≤ (wrap64 ((wrap64 ((x4.length : Int) + x5)) - 1)) then (if (wrap64 ((wrap64 ((x4.length : Int) + x5)) - 1) : Int).toNat ≤ 35184372088832 then (impl_CountStands.l1 k x0 x5 (List.replicate (wrap64 ((wrap64 ((x4.length : Int) + x5)) - 1) : Int).toNat 0) x4 (x4.length : Int) 0) else (none)) else (none)) else (some (x4, true))
def impl_CountStands.l1 : Nat → Int → Int → List Int → List Int → Int → Int → Option (List Int × Bool)
 | 0, _, _, _, _, _, _ => none
 | k + 1, x0, x5, x6, x25, x26, x27 => if x27 < x26 then (if 0 ≤ x27 then (if x27 < (x25.length : Int) then (impl_CountStands.l2 k x0 x5 x6 x27 (rd x25 x27) x25 x26 x27 x5 0) else (none)) else (none)) else (impl_CountStands.l0 k x0 x6 (wrap64 (x5 + 1)))
def impl_CountStands.l2 : Nat → Int → Int → List Int → Int → Int → List Int → Int → Int → Int → Int → Option (List Int × Bool)
 | 0, _, _, _, _, _, _, _, _, _, _ => none
 | k + 1, x0, x5, x6, x7, x8, x25, x26, x27, x32, x33 => if x33 < x32 then (if 0 ≤ (wrap64 (x7 + x33)) then (if (wrap64 (x7 + x33)) < (x6.length : Int) then (impl_CountStands.l2 k x0 x5 (x6.set ((wrap64 (x7 + x33)) : Int).toNat (wrap64 ((rd x6 (wrap64 (x7 + x33))) + x8))) x7 x8 x25 x26 x27 x32 (wrap64 (x33 + 1))) else (none)) else (none)) else (impl_CountStands.l1 k x0 x5 x6 x25 x26 (wrap64 (x27 + 1)))
end
def impl_CountStands.f (k : Nat) (a0 : Int) : Option (List Int × Bool) := (impl_isPeople.f a0).bind fun t614 => (if t614 = true then (impl_CountStands.l0 k a0 (([1] : List Int)) 2) else (some (([] : List Int), false)))
theorem impl_CountStands.mono_l : ∀ k, (∀ y0 y1 y2, LeO (impl_CountStands.l0 k y0 y1 y2) (impl_CountStands.l0 (k + 1) y0 y1 y2)) ∧ (∀ y0 y1 y2 y3 y4 y5, LeO (impl_CountStands.l1 k y0 y1 y2 y3 y4 y5) (impl_CountStands.l1 (k + 1) y0 y1 y2 y3 y4 y5)) ∧ (∀ y0 y1 y2 y3 y4 y5 y6 y7 y8 y9, LeO (impl_CountStands.l2 k y0 y1 y2 y3 y4 y5 y6 y7 y8 y9) (impl_CountStands.l2 (k + 1) y0 y1 y2 y3 y4 y5 y6 y7 y8 y9))
 | 0 => ⟨fun _ _ _ r h => by simp [impl_CountStands.l0] at h, fun _ _ _ _ _ _ r h => by simp [impl_CountStands.l1] at h, fun _ _ _ _ _ _ _ _ _ _ r h => by simp [impl_CountStands.l2] at h⟩
 | k + 1 => by
  obtain ⟨ih0, ih1, ih2⟩ := impl_CountStands.mono_l k
  refine ⟨?_, ?_, ?_⟩
  ·intro y0 y1 y2
   unfold impl_CountStands.l0
   repeat' with_reducible first | exact ih0 .. | exact ih1 .. | exact ih2 .. | exact LeO.refl .. | exact LeO.none .. | refine LeO.ite ?_ ?_ | refine LeO.bind ?_ (fun _ => ?_)
  ·intro y0 y1 y2 y3 y4 y5
   unfold impl_CountStands.l1
   repeat' with_reducible first | exact ih0 .. | exact ih1 .. | exact ih2 .. | exact LeO.refl .. | exact LeO.none .. | refine LeO.ite ?_ ?_ | refine LeO.bind ?_ (fun _ => ?_)
  ·intro y0 y1 y2 y3 y4 y5 y6 y7 y8 y9
   unfold impl_CountStands.l2
   repeat' with_reducible first | exact ih0 .. | exact ih1 .. | exact ih2 .. | exact LeO.refl .. | exact LeO.none .. | refine LeO.ite ?_ ?_ | refine LeO.bind ?_ (fun _ => ?_)
theorem impl_CountStands.mono : ∀ a0 k, LeO (impl_CountStands.f k a0) (impl_CountStands.f (k + 1) a0) := by
 intro a0 k
 obtain ⟨ih0, ih1, ih2⟩ := impl_CountStands.mono_l k
 unfold impl_CountStands.f
 repeat' with_reducible first | exact ih0 .. | exact ih1 .. | exact ih2 .. | exact LeO.refl .. | exact LeO.none .. | refine LeO.ite ?_ ?_ | refine LeO.bind ?_ (fun _ => ?_)
theorem impl_CountStands.calls (k : Nat) (a0 : Int) (r1 : List Int) (r2 : Bool) (w : World) (h : impl_CountStands.f k a0 = some (r1, r2)) :
  Calls Tryd.prog 32 #[.int .i64 a0] w fun e w' => ∃ v0_ : Value, e = .returned (.tuple #[v0_, .bool r2]) ∧ Kd.R (Kd.int .i64) 3 w' w.heap.size (fun _ => True) v0_ r1 ∧ Below w.heap.size w w' := by
 have HB := A0_ (Below.refl w.heap.size w)
 have H : ((impl_isPeople.f a0).bind fun t1 => (if t1 = true then (impl_CountStands.l0 k a0 (([1] : List Int)) 2) else (some (([] : List Int), false)))) = some (r1, r2) := h
 clear h
 obtain ⟨t1, A2, H⟩ := o1_ H
 by_cases c1 : t1 = true
 case neg =>
  obtain rfl := bf_.mpr c1
  rw [if_neg ft_] at H
  simp only [sj_, pj_] at H
  obtain ⟨rfl, rfl⟩ := H
  go_enter Tryd.func32, Tryd.ntmps32
  go_wp2_with (first | ((with_reducible refine gc_ (f := 64) rfl ?_); refine gl_ 11 Tryd.func64 #[.int .i64 a0] ?_; (with_reducible refine (impl_isPeople.calls a0 false _ A2.out).mono ?_); rintro e w' ⟨rfl, ⟨nd, rfl⟩⟩; refine ⟨_, rfl, ?_⟩))
  go_ret2
  exact ⟨_, bnwh_, bwfe_, brt4_⟩
 subst c1
 rw [if_pos rfl] at H
 obtain ⟨y1, hy1⟩ : ∃ y_ : List Int, y_ = (([1] : List Int)) := ⟨_, rfl⟩
 replace H : (impl_CountStands.l0 k a0 y1 2) = some (r1, r2) := bgiq_
 have Ny1 := A0_ hy1
 clear hy1
 have H' := A0_ H
 clear H
 go_enter Tryd.func32, Tryd.ntmps32
 go_wp2_with (first | ((with_reducible refine gc_ (f := 64) rfl ?_); refine gl_ 11 Tryd.func64 #[.int .i64 a0] ?_; (with_reducible refine (impl_isPeople.calls a0 true _ A2.out).mono ?_); rintro e w' ⟨rfl, ⟨nd, rfl⟩⟩; refine ⟨_, rfl, ?_⟩) | ((with_reducible refine gd_ (N := 13) rfl ?_); refine Kd.R_lit (Kd.int .i64) _ 3 ?hg (N := 13) ?hd (xs := ([1] : List Int)) (inner := [.int .i64 1]) (ok := fun _ => True) (okp := fun _ => True) ?hr ?hp (fun _ hk => hk) trivial (Below.refl _ _) (Nat.le_refl _) bxka_ ?_; (case hd => rfl); (case hg => rfl); (case hr => go_simp; first | done | rfl); (case hp => exact (Reps.one (show Kd.M (Kd.int .i64) _ _ _ 1 [.int .i64 1] from rfl) (Reps.none _ _))); intro v1 w1 ho5 hb hg_ hnew_; clear hg_ hnew_; (first | rw [← Ny1.out] at ho5 | (simp only [Int.reduceToNat] at ho5; rw [← Ny1.out] at ho5)); have HO1 := A0_ (Kd.R_lower ho5 (bz_ brt4_)); replace HB := hb_ hb brt4_; clear hb ho5))
 go_loopg [4, 5] k (fun kq v2 v3 w' => ∃ (x4_1 : List Int) (x5_1 : Int), v3 = .int .i64 x5_1 ∧ Aside0 (impl_CountStands.l0 kq a0 x4_1 x5_1 = some (r1, r2)) ∧ Aside0 (kq ≤ k) ∧ Aside0 (Kd.R (Kd.int .i64) 3 w' w.heap.size (fun _ => True) v2 x4_1) ∧ Aside0 (Below w.heap.size w w'))
 case atStart => exact ⟨(y1), (2), b2ew_, H', ⟨Nat.le_refl _⟩, ⟨bsm5_⟩, ⟨brt4_⟩⟩
 clear H'
 try clear c1
 obtain ⟨x4_1, x5_1, rfl, HA, HK1, HO_1, HB⟩ := hrel
 cases gk with | zero => exact absurd HA.out (by simp [impl_CountStands.l0]) | succ k1 => ?_
 have H := HA.out
 clear HA
 simp only [impl_CountStands.l0] at H
 by_cases c2 : x5_1 ≤ a0
 case neg =>
  rw [if_neg c2] at H
  have c2b0 : decide (x5_1 ≤ a0) = false := decide_eq_false c2
  clear c2
  simp only [sj_, pj_] at H
  obtain ⟨rfl, rfl⟩ := H
  go_wp2
  go_ret2
  exact ⟨_, bnwh_, bwik_, brt4_⟩
 rw [if_pos c2] at H
 have c2b0 : decide (x5_1 ≤ a0) = true := dt_ c2
 clear c2
 obtain ⟨ji1, hji1⟩ : ∃ j_ : Int, (wrap64 ((wrap64 ((x4_1.length : Int) + x5_1)) - 1)) = j_ := ⟨_, rfl⟩
 replace H : (if 0 ≤ (ji1) then (if (ji1 : Int).toNat ≤ 35184372088832 then (impl_CountStands.l1 k1 a0 x5_1 (List.replicate (ji1 : Int).toNat 0) x4_1 (x4_1.length : Int) 0) else (none)) else (none)) = some (r1, r2) := bmns_
 have hji7w : (IntKind.i64.wrap ((wrap64 ((x4_1.length : Int) + x5_1)) - 1)) = ji1 := (i64_w _).trans hji1
 by_cases c3 : 0 ≤ (ji1)
 case neg =>
  rw [if_neg c3] at H
  exact absurd H bxka_
 rw [if_pos c3] at H
 have c3b0 := eq_true c3
 have c3b1 : decide (0 ≤ (ji1)) = true := dt_ c3
 clear c3
 by_cases c4 : (ji1 : Int).toNat ≤ 35184372088832
 case neg =>
  rw [if_neg c4] at H
  exact absurd H bxka_
 rw [if_pos c4] at H
 have c4b0 := eq_true c4
 have c4b1 : decide ((ji1 : Int).toNat ≤ 35184372088832) = true := dt_ c4
 clear c4
 obtain ⟨y2, hy2⟩ : ∃ y_ : List Int, y_ = (List.replicate (ji1 : Int).toNat 0) := ⟨_, rfl⟩
 replace H : (impl_CountStands.l1 k1 a0 x5_1 y2 x4_1 (x4_1.length : Int) 0) = some (r1, r2) := bscs_
 have Ny2 := A0_ hy2
 clear hy2
 have H' := A0_ H
 clear H
 obtain ⟨Ao1, co1, eo1⟩ := Kd.R_slice HO_1.out
 subst eo1
 go_wp2_with (first | ((with_reducible refine gd_ (N := 24) rfl ?_); refine Kd.R_make (Kd.int .i64) _ 3 rfl (N := 24) rfl 22 _ _ rfl ji1 rfl rfl Tryd.underlying22 (.int .i64 0) 8 info3 rfl bi3y_ bh19_ 0 (ok := fun _ => True) (okp := fun _ => True) rfl (fun _ hk => hk) trivial (od_ bpil_) (Nat.le_trans (Nat.mul_le_mul_right _ (od_ bpil_ : ji1.toNat ≤ 35184372088832)) bh19_) (Below.refl _ _) (Nat.le_refl _) ?_; intro v4 w2 ho12 hb hg_ hnew_; clear hg_ hnew_; (first | rw [← Ny2.out] at ho12 | (simp only [Int.reduceToNat] at ho12; rw [← Ny2.out] at ho12)); have HO2 := A0_ (Kd.R_lower (Kd.R_new' ho12 (Kd.R_lt bwik_)) (bz_ brt4_)); replace HO_1 := A0_ (Kd.R_elder' bwik_ (Kd.R_base ho12) hb); replace HB := hb_ hb brt4_; clear hb ho12))
 go_loopg [27] k1 (fun kq v5 w' => ∃ (x6_2 : List Int) (x27_2 : Int), v5 = .int .i64 x27_2 ∧ Aside0 (impl_CountStands.l1 kq a0 x5_1 x6_2 x4_1 (x4_1.length : Int) x27_2 = some (r1, r2)) ∧ Aside0 (kq ≤ k1) ∧ Aside0 (Kd.R (Kd.int .i64) 3 w' w.heap.size (fun k_ => no_ (.slice Ao1 x4_1.length co1) k_) v4 x6_2) ∧ Aside0 (Kd.R (Kd.int .i64) 3 w' w.heap.size (fun k_ => no_ v4 k_) (.slice Ao1 x4_1.length co1) x4_1) ∧ Aside0 (Below w.heap.size w w'))
 case atStart => exact ⟨(y2), (0), b2ew_, H', ⟨Nat.le_refl _⟩, ⟨b61e_⟩, ⟨bepl_⟩, ⟨brt4_⟩⟩
 clear H'
 try clear c1
 try clear c2
 try clear c2b0
 try clear c3
 try clear c3b0
 try clear c3b1
 try clear c4
 try clear c4b0
 try clear c4b1
 obtain ⟨x6_2, x27_2, rfl, HA, HK2, HO_2, HO_3, HB⟩ := hrel
 cases gk with | zero => exact absurd HA.out (by simp [impl_CountStands.l1]) | succ k2 => ?_
 have H := HA.out
 clear HA
 simp only [impl_CountStands.l1] at H
 by_cases c5 : x27_2 < (x4_1.length : Int)
 case neg =>
  rw [if_neg c5] at H
  have c5b0 : decide (x27_2 < (x4_1.length : Int)) = false := decide_eq_false c5
  clear c5
  have H' := A0_ H
  clear H
  go_wp2
  go_roundg k2
  case measure => have := HK1.out; have := HK2.out; omega
  exact ⟨(x6_2), (wrap64 (x5_1 + 1)), b2ew_, H', ⟨b0r5_⟩, ⟨bixu_⟩, ⟨brt4_⟩⟩
 rw [if_pos c5] at H
 have c5b0 : decide (x27_2 < (x4_1.length : Int)) = true := dt_ c5
 clear c5
 by_cases c6 : 0 ≤ x27_2
 case neg =>
  rw [if_neg c6] at H
  exact absurd H bxka_
 rw [if_pos c6] at H
 have c6b0 : decide (0 ≤ x27_2) = true := dt_ c6
 clear c6
 by_cases c7 : x27_2 < (x4_1.length : Int)
 case neg =>
  rw [if_neg c7] at H
  exact absurd H bxka_
 rw [if_pos c7] at H
 have c7b0 : decide (x27_2 < (x4_1.length : Int)) = true := dt_ c7
 clear c7
 have H' := A0_ H
 clear H
 have p1 : 0 ≤ (x27_2 : Int) := od_ bpil_
 have q1 : x27_2 < (x4_1.length : Int) := od_ bpil_
 obtain ⟨ad1, e1, hx1_0⟩ := Kd.at_int (rr_ HO_3.out).2.2 x27_2 p1 q1
 cases e1
 replace p1 := eq_true p1
 replace q1 := eq_true q1
 go_wp2
 go_loopg [33] k2 (fun kq v6 w' => ∃ (x6_3 : List Int) (x33_3 : Int), v6 = .int .i64 x33_3 ∧ Aside0 (impl_CountStands.l2 kq a0 x5_1 x6_3 x27_2 (rd x4_1 x27_2) x4_1 (x4_1.length : Int) x27_2 x5_1 x33_3 = some (r1, r2)) ∧ Aside0 (kq ≤ k2) ∧ Aside0 (Kd.R (Kd.int .i64) 3 w' w.heap.size (fun k_ => no_ (.slice (some ad1) x4_1.length co1) k_) v4 x6_3) ∧ Aside0 (Kd.R (Kd.int .i64) 3 w' w.heap.size (fun k_ => no_ v4 k_) (.slice (some ad1) x4_1.length co1) x4_1) ∧ Aside0 (Below w.heap.size w w'))
 case atStart => exact ⟨(x6_2), (0), b2ew_, H', ⟨Nat.le_refl _⟩, ⟨b7sq_⟩, ⟨bzfm_⟩, ⟨brt4_⟩⟩
 clear H'
 try clear c1
 try clear c2
 try clear c2b0
 try clear c3
 try clear c3b0
 try clear c3b1
 try clear c4
 try clear c4b0
 try clear c4b1
 try clear c5
 try clear c5b0
 try clear c6
 try clear c6b0
 try clear c7
 try clear c7b0
 try clear hx1_0
 try clear p1
 try clear q1
 obtain ⟨x6_3, x33_3, rfl, HA, HK3, HO_2, HO_3, HB⟩ := hrel
 cases gk with | zero => exact absurd HA.out (by simp [impl_CountStands.l2]) | succ k3 => ?_
 have H := HA.out
 clear HA
 simp only [impl_CountStands.l2] at H
 by_cases c8 : x33_3 < x5_1
 case neg =>
  rw [if_neg c8] at H
  have c8b0 : decide (x33_3 < x5_1) = false := decide_eq_false c8
  clear c8
  have H' := A0_ H
  clear H
  go_wp2
  go_roundg k3
  case measure => have := HK1.out; have := HK2.out; have := HK3.out; omega
  exact ⟨(x6_3), (wrap64 (x27_2 + 1)), b2ew_, H', ⟨b9ad_⟩, ⟨b7sq_⟩, ⟨bzfm_⟩, ⟨brt4_⟩⟩
 rw [if_pos c8] at H
 have c8b0 : decide (x33_3 < x5_1) = true := dt_ c8
 clear c8
 obtain ⟨ji2, hji2⟩ : ∃ j_ : Int, (wrap64 (x27_2 + x33_3)) = j_ := ⟨_, rfl⟩
 replace H : (if 0 ≤ (ji2) then (if (ji2) < (x6_3.length : Int) then (impl_CountStands.l2 k3 a0 x5_1 (x6_3.set ((ji2) : Int).toNat (wrap64 ((rd x6_3 (ji2)) + (rd x4_1 x27_2)))) x27_2 (rd x4_1 x27_2) x4_1 (x4_1.length : Int) x27_2 x5_1 (wrap64 (x33_3 + 1))) else (none)) else (none)) = some (r1, r2) := b9dm_
 have hji17w : (IntKind.i64.wrap (x27_2 + x33_3)) = ji2 := (i64_w _).trans hji2
 by_cases c9 : 0 ≤ (ji2)
 case neg =>
  rw [if_neg c9] at H
  exact absurd H bxka_
 rw [if_pos c9] at H
 have c9b0 : decide (0 ≤ (ji2)) = true := dt_ c9
 clear c9
 by_cases c10 : (ji2) < (x6_3.length : Int)
 case neg =>
  rw [if_neg c10] at H
  exact absurd H bxka_
 rw [if_pos c10] at H
 have c10b0 : decide ((ji2) < (x6_3.length : Int)) = true := dt_ c10
 clear c10
 obtain ⟨y3, hy3⟩ : ∃ y_ : List Int, y_ = (x6_3.set ((ji2) : Int).toNat (wrap64 ((rd x6_3 (ji2)) + (rd x4_1 x27_2)))) := ⟨_, rfl⟩
 replace H : (impl_CountStands.l2 k3 a0 x5_1 y3 x27_2 (rd x4_1 x27_2) x4_1 (x4_1.length : Int) x27_2 x5_1 (wrap64 (x33_3 + 1))) = some (r1, r2) := b2x6_
 have Ny3 := A0_ hy3
 clear hy3
 have H' := A0_ H
 clear H
 obtain ⟨Ao2, co2, eo2⟩ := Kd.R_slice HO_2.out
 subst eo2
 have p2 : 0 ≤ ((ji2) : Int) := od_ bpil_
 have q2 : (ji2) < (x6_3.length : Int) := od_ bpil_
 obtain ⟨ad2, e2, hx2_0⟩ := Kd.at_int (rr_ HO_2.out).2.2 (ji2) p2 q2
 cases e2
 replace p2 := eq_true p2
 replace q2 := eq_true q2
 have p3 : 0 ≤ ((ji2) : Int) := od_ bpil_
 have q3 : ((ji2) : Int) < ((x6_3.length : Int) : Int) := od_ bpil_
 obtain ⟨go20, co3, eo3, gb1, gl20, cl20, HG20⟩ := Kd.R_form HO_2.out bh19_
 (first | cases eo3 | (injection eo3 with ea_ en_ ec_; (first | subst ea_ | (injection ea_ with ea_; subst ea_)); subst ec_; clear en_))
 have GB20 := A0_ gb1
 have GG20 := A0_ HG20
 clear gb1 gl20 HG20
 (first | simp only [add_plain] at hx2_0 | skip)
 obtain ⟨hx3_0, hf1_0⟩ := Kd.R_celln 0 HO_2.out ((ji2) : Int) p3 q3
 replace p3 := eq_true p3
 replace q3 := eq_true q3
 have HP1 := Kd.R_putg HO_2.out ((ji2) : Int) (wrap64 ((rd x6_3 (ji2)) + (rd x4_1 x27_2)))
 go_wp2_with (first | ((with_reducible refine gate_store (t := 3) (p := 44) rfl ?_); refine store_event (t := 3) (p := 44) (v := ?vo_w23) (w1 := (wr.setCell ⟨go20, ((ji2) : Int).toNat, none⟩ (.int .i64 (wrap64 ((rd x6_3 (ji2)) + (rd x4_1 x27_2)))))) ?hg ?ho ?hn ?hr ?_; (case ho => rfl); (case hg => rfl); (case hn => rfl); (case hr => go_simp; first | done | rfl); intro w3 hw; have hg : wr.grownBy w3 (some go20) := (by rw [hw]; exact HP1.2); have hp_ : Kd.R (Kd.int .i64) 3 w3 w.heap.size (fun k_ => no_ (.slice (some ad1) x4_1.length co1) k_) (.slice (some ⟨go20, 0, none⟩) x6_3.length co2) y3 := (by rw [hw, Ny3.out]; exact HP1.1); clear HP1; replace HO_2 := A0_ (hp_); replace HO_3 := A0_ (Kd.R_after (v := (.slice (some ⟨go20, 0, none⟩) x6_3.length co2)) (v1 := (.slice (some ⟨go20, 0, none⟩) x6_3.length co2)) (ok := (fun _ => True)) (by (with_reducible repeat (first | apply ra_ | apply rn_ | apply rd_)); exact Kd.R_mono HO_3.out (fun _ hk => ⟨trivial, hk⟩)) hg (.inl rfl)); replace HB := A0_ ((by rw [hw]; exact bs_ (HB.out) GB20.out : Below w.heap.size w w3)); clear hg hw hp_))
 go_roundg k3
 case measure => have := HK1.out; have := HK2.out; have := HK3.out; omega
 exact ⟨(y3), (wrap64 (x33_3 + 1)), b2ew_, H', ⟨b9ad_⟩, ⟨b7sq_⟩, ⟨by (with_reducible repeat (first | apply ra_ | apply rn_ | apply rd_)); exact Kd.R_mono HO_3.out (fun _ hk => hk.2)⟩, ⟨brt4_⟩⟩

end Go.Proofs.YtohmonfaabofaaaDoor.QFnTheatre
-- packed
-- squeezed
