-- Written by px.py, a program of this session, over the kit's printer: some functions have a definition and a proof of this session's own.
import Derived.Test.YtbohmfnjgjijdaaQFnExactNewConsolex0
import Derived.Test.YtbohmfnjgjijdaaQFnExactNewConsolex1
import Derived.Test.YtbohmfnjgjijdaaQFnExactNewConsolex3
import Derived.Test.YtbohmfnjgjijdaaQFnExactNewConsolex6
import Derived.Test.YtbohmfnjgjijdaaQFnExactNewConsolex7
namespace Go.Proofs.Ytbohmfnjgjijdaa.QFnExactNewConsole
open Go.RowKit Go.Proofs.YtbohmfnjgjijdaaW.PrintWords Go.Proofs.YtbohmfnjgjijdaaW.PrintLast Go.Proofs.YtbohmfnjgjijdaaW.PrintMore
attribute [local go_sem] max2_int min2_int max_two min_two max_three min_three max_four min_four   -- for this text's walks alone
set_option linter.unusedVariables false
set_option linter.unusedSimpArgs false
set_option maxHeartbeats 8000000
set_option maxRecDepth 100000

theorem laws_FnExactNewConsole.calls (k : Nat) (a0_0 : Int) (a0_1 : Bool) (A0_2 : Option Addr) (c0_2 : Nat) (l0_2 : List Int) (A0_3 : Option Addr) (c0_3 : Nat) (l0_3 : List Int) (a0_4 : Int) (r : Bool) (w : World) (hr0_2 : Kd.C (Kd.int .i64) w A0_2 l0_2.length l0_2) (hc0_2 : l0_2.length ≤ c0_2) (hr0_3 : Kd.C (Kd.int .i64) w A0_3 l0_3.length l0_3) (hc0_3 : l0_3.length ≤ c0_3) (h : laws_FnExactNewConsole.f k a0_0 a0_1 l0_2 l0_3 a0_4 = some r) :
  Calls Try.prog 5 #[.agg #[.int .i64 a0_0, .bool a0_1, .slice A0_2 l0_2.length c0_2, .slice A0_3 l0_3.length c0_3, .int .i64 a0_4]] w fun e w' => e = .returned (.bool r) ∧ Below w.heap.size w w' := by
 have hu26 := Try.underlying26
 have hu43 := Try.underlying43
 have hu31 := Try.underlying31
 have HR0_2 := A0_ hr0_2
 have HC0_2 := A0_ hc0_2
 clear hr0_2 hc0_2
 have HR0_3 := A0_ hr0_3
 have HC0_3 := A0_ hc0_3
 clear hr0_3 hc0_3
 have HB := A0_ (Below.refl w.heap.size w)
 have H : ((laws_szHouse.f a0_0 a0_1 l0_2 l0_3 a0_4 1048576).bind fun t267 => (if t267 < 0 then (some true) else ((laws_toHouse.f k a0_0 a0_1 l0_2 l0_3 a0_4).bind fun bt268 => ((spec_NewConsole.f k bt268.1 bt268.2.1 bt268.2.2.1 bt268.2.2.2.1 bt268.2.2.2.2).bind fun bt277 => ((laws_toHouse.f k a0_0 a0_1 l0_2 l0_3 a0_4).bind fun bt291 => ((impl_NewConsole.f k bt291.1 bt291.2.1 bt291.2.2.1 bt291.2.2.2.1 bt291.2.2.2.2).bind fun bt301 => ((laws_eqConsole.f k bt301.1 bt301.2.1 bt301.2.2.1 bt301.2.2.2.1 bt301.2.2.2.2.1 bt301.2.2.2.2.2.1 bt301.2.2.2.2.2.2.1 bt301.2.2.2.2.2.2.2.1 bt277.1 bt277.2.1 bt277.2.2.1 bt277.2.2.2.1 bt277.2.2.2.2.1 bt277.2.2.2.2.2.1 bt277.2.2.2.2.2.2.1 bt277.2.2.2.2.2.2.2.1).bind fun t315 => (if t315 = true then (j0 k bt277.2.2.2.2.2.2.2.2 bt301.2.2.2.2.2.2.2.2 (bt301.2.2.2.2.2.2.2.2 != bt277.2.2.2.2.2.2.2.2) a0_0 a0_1 l0_2 l0_3 a0_4 bt277.1 bt277.2.1 bt277.2.2.1 bt277.2.2.2.1 bt277.2.2.2.2.1 bt277.2.2.2.2.2.1 bt277.2.2.2.2.2.2.1 bt277.2.2.2.2.2.2.2.1 bt291.1 bt291.2.1 bt291.2.2.1 bt291.2.2.2.1 bt291.2.2.2.2 bt301.1 bt301.2.1 bt301.2.2.1 bt301.2.2.2.1 bt301.2.2.2.2.1 bt301.2.2.2.2.2.1 bt301.2.2.2.2.2.2.1 bt301.2.2.2.2.2.2.2.1) else (j0 k bt277.2.2.2.2.2.2.2.2 bt301.2.2.2.2.2.2.2.2 true a0_0 a0_1 l0_2 l0_3 a0_4 bt277.1 bt277.2.1 bt277.2.2.1 bt277.2.2.2.1 bt277.2.2.2.2.1 bt277.2.2.2.2.2.1 bt277.2.2.2.2.2.2.1 bt277.2.2.2.2.2.2.2.1 bt291.1 bt291.2.1 bt291.2.2.1 bt291.2.2.2.1 bt291.2.2.2.2 bt301.1 bt301.2.1 bt301.2.2.1 bt301.2.2.2.1 bt301.2.2.2.2.1 bt301.2.2.2.2.2.1 bt301.2.2.2.2.2.2.1 bt301.2.2.2.2.2.2.2.1))))))))) = some r := h
 clear h
 replace H := ob_.mp H
 obtain ⟨t267, A20, H⟩ := H
 have A2 := A0_ A20
 clear A20
 by_cases c3 : t267 < 0
 ·rw [if_pos c3] at H
  have c3b0 : decide (t267 < 0) = true := dt_ c3
  clear c3
  obtain rfl := si_ H
  go_enter Try.func5, Try.ntmps5
  go_wp2_with (first|((with_reducible refine gd_ (N := 1) rfl ?_); refine be_ ?hg (N := 1) ?hd (cs := #[.int .i64 a0_0, .bool a0_1, .slice A0_2 l0_2.length c0_2, .slice A0_3 l0_3.length c0_3, .int .i64 a0_4]) (t := 26) ?hr ?_; (case hd => rfl); (case hg => rfl); (case hr => go_simp; first|done|rfl); intro gb266 hg w4 hbox hb; have m0 := A0_ (bt_ (by repeat (with_reducible first|exact HB.out|apply ba_|apply bn_|apply bd_)) hb); have m1 := A0_ (hbox); have m2 := A0_ ((by rw [hg]; exact (bz_ (by repeat (with_reducible first|exact HB.out|apply ba_|apply bn_|apply bd_))) : w.heap.size ≤ gb266)); have m3 := A0_ ((by rw [hg]; exact (bz_ (by repeat (with_reducible first|exact HB.out|apply ba_|apply bn_|apply bd_))) : w.heap.size ≤ gb266)); clear HB; have HB := m0; have BK266 := m1; have GW266 := m2; have GE266 := m3; clear m0 m1 m2 m3 hb hbox hg; have hcz5_0 : w4.cell? ⟨gb266, 0, none⟩ = some (.int .i64 a0_0) := (kc_ BK266.out 0).trans rfl; have hcz5_1 : w4.cell? ⟨gb266, 1, none⟩ = some (.bool a0_1) := (kc_ BK266.out 1).trans rfl; have hcz5_2 : w4.cell? ⟨gb266, 2, none⟩ = some (.slice A0_2 l0_2.length c0_2) := (kc_ BK266.out 2).trans rfl; have hcz5_3 : w4.cell? ⟨gb266, 3, none⟩ = some (.slice A0_3 l0_3.length c0_3) := (kc_ BK266.out 3).trans rfl; have hcz5_4 : w4.cell? ⟨gb266, 4, none⟩ = some (.int .i64 a0_4) := (kc_ BK266.out 4).trans rfl)|((with_reducible refine gc_ (f := 6) rfl ?_); refine goesL_ (some 16) rfl rfl Try.func6 (by kernel_rfl) rfl #[.agg #[.int .i64 a0_0, .bool a0_1, .slice A0_2 l0_2.length c0_2, .slice A0_3 l0_3.length c0_3, .int .i64 a0_4], .int .i64 1048576] rfl (by (try simp only [ma_, mc_, mn_]); first|done|rfl) ?_; (with_reducible refine (laws_szHouse.calls a0_0 a0_1 _ _ l0_2 _ _ l0_3 a0_4 1048576 t267 _ ?side1 ?side2 ?side3 ?side4 A2.out).mono ?_); (case side1 => repeat (first|exact (cb_ HR0_2.out HB.out)|(with_reducible refine ca_ ?_ _)|(with_reducible refine cn_ ?_ _)|(with_reducible refine cd_ ?_))); (case side2 => exact HC0_2.out); (case side3 => repeat (first|exact (cb_ HR0_3.out HB.out)|(with_reducible refine ca_ ?_ _)|(with_reducible refine cn_ ?_ _)|(with_reducible refine cd_ ?_))); (case side4 => exact HC0_3.out); rintro e w6 ⟨rfl, hb⟩; refine ⟨_, rfl, ?_⟩; have m0 := A0_ (kb_ (g := gb266) (o := .cells #[.int .i64 a0_0, .bool a0_1, .slice A0_2 l0_2.length c0_2, .slice A0_3 l0_3.length c0_3, .int .i64 a0_4] 26 (0, 0)) (by (with_reducible repeat (first|apply kn_|apply kd_|apply ka_)); exact BK266.out) hb); have m1 := A0_ (bt_ (by repeat (with_reducible first|exact HB.out|apply ba_|apply bn_|apply bd_)) hb); clear BK266 HB; have BK266 := m0; have HB := m1; clear m0 m1; (try clear hb)))
  go_ret
  exact ⟨by first|rfl|(simp [*, errW_none, errW_some] <;> rfl), by repeat (with_reducible first|exact HB.out|apply ba_|apply bn_|apply bd_)⟩
 ·rw [if_neg c3] at H
  have c3b0 : decide (t267 < 0) = false := decide_eq_false c3
  clear c3
  replace H := ob_.mp H
  obtain ⟨⟨t268, t269, t270, t273, t276⟩, A70, H⟩ := H
  have A7 := A0_ A70
  clear A70
  replace H := ob_.mp H
  obtain ⟨⟨t277, t278, t279, t282, t285, t286, t287, t288, t289⟩, A80, H⟩ := H
  have A8 := A0_ A80
  clear A80
  replace H := ob_.mp H
  obtain ⟨⟨t291, t292, t293, t296, t299⟩, A90, H⟩ := H
  have A9 := A0_ A90
  clear A90
  replace H := ob_.mp H
  obtain ⟨⟨t301, t302, t303, t306, t309, t310, t311, t312, t313⟩, A100, H⟩ := H
  have A10 := A0_ A100
  clear A100
  have HC11 := A0_ H
  clear H
  go_enter Try.func5, Try.ntmps5
  go_upto_region 8 with (first|((with_reducible refine gd_ (N := 1) rfl ?_); refine be_ ?hg (N := 1) ?hd (cs := #[.int .i64 a0_0, .bool a0_1, .slice A0_2 l0_2.length c0_2, .slice A0_3 l0_3.length c0_3, .int .i64 a0_4]) (t := 26) ?hr ?_; (case hd => rfl); (case hg => rfl); (case hr => go_simp; first|done|rfl); intro gb266 hg w12 hbox hb; have m0 := A0_ (bt_ (by repeat (with_reducible first|exact HB.out|apply ba_|apply bn_|apply bd_)) hb); have m1 := A0_ (hbox); have m2 := A0_ ((by rw [hg]; exact (bz_ (by repeat (with_reducible first|exact HB.out|apply ba_|apply bn_|apply bd_))) : w.heap.size ≤ gb266)); have m3 := A0_ ((by rw [hg]; exact (bz_ (by repeat (with_reducible first|exact HB.out|apply ba_|apply bn_|apply bd_))) : w.heap.size ≤ gb266)); clear HB; have HB := m0; have BK266 := m1; have GW266 := m2; have GE266 := m3; clear m0 m1 m2 m3 hb hbox hg; have hcz13_0 : w12.cell? ⟨gb266, 0, none⟩ = some (.int .i64 a0_0) := (kc_ BK266.out 0).trans rfl; have hcz13_1 : w12.cell? ⟨gb266, 1, none⟩ = some (.bool a0_1) := (kc_ BK266.out 1).trans rfl; have hcz13_2 : w12.cell? ⟨gb266, 2, none⟩ = some (.slice A0_2 l0_2.length c0_2) := (kc_ BK266.out 2).trans rfl; have hcz13_3 : w12.cell? ⟨gb266, 3, none⟩ = some (.slice A0_3 l0_3.length c0_3) := (kc_ BK266.out 3).trans rfl; have hcz13_4 : w12.cell? ⟨gb266, 4, none⟩ = some (.int .i64 a0_4) := (kc_ BK266.out 4).trans rfl)|((with_reducible refine gc_ (f := 6) rfl ?_); refine goesL_ (some 16) rfl rfl Try.func6 (by kernel_rfl) rfl #[.agg #[.int .i64 a0_0, .bool a0_1, .slice A0_2 l0_2.length c0_2, .slice A0_3 l0_3.length c0_3, .int .i64 a0_4], .int .i64 1048576] rfl (by (try simp only [ma_, mc_, mn_]); first|done|rfl) ?_; (with_reducible refine (laws_szHouse.calls a0_0 a0_1 _ _ l0_2 _ _ l0_3 a0_4 1048576 t267 _ ?side1 ?side2 ?side3 ?side4 A2.out).mono ?_); (case side1 => repeat (first|exact (cb_ HR0_2.out HB.out)|(with_reducible refine ca_ ?_ _)|(with_reducible refine cn_ ?_ _)|(with_reducible refine cd_ ?_))); (case side2 => exact HC0_2.out); (case side3 => repeat (first|exact (cb_ HR0_3.out HB.out)|(with_reducible refine ca_ ?_ _)|(with_reducible refine cn_ ?_ _)|(with_reducible refine cd_ ?_))); (case side4 => exact HC0_3.out); rintro e w14 ⟨rfl, hb⟩; refine ⟨_, rfl, ?_⟩; have m0 := A0_ (kb_ (g := gb266) (o := .cells #[.int .i64 a0_0, .bool a0_1, .slice A0_2 l0_2.length c0_2, .slice A0_3 l0_3.length c0_3, .int .i64 a0_4] 26 (0, 0)) (by (with_reducible repeat (first|apply kn_|apply kd_|apply ka_)); exact BK266.out) hb); have m1 := A0_ (bt_ (by repeat (with_reducible first|exact HB.out|apply ba_|apply bn_|apply bd_)) hb); clear BK266 HB; have BK266 := m0; have HB := m1; clear m0 m1; (try clear hb); have hcz15_0 : w14.cell? ⟨gb266, 0, none⟩ = some (.int .i64 a0_0) := (kc_ BK266.out 0).trans rfl; have hcz15_1 : w14.cell? ⟨gb266, 1, none⟩ = some (.bool a0_1) := (kc_ BK266.out 1).trans rfl; have hcz15_2 : w14.cell? ⟨gb266, 2, none⟩ = some (.slice A0_2 l0_2.length c0_2) := (kc_ BK266.out 2).trans rfl; have hcz15_3 : w14.cell? ⟨gb266, 3, none⟩ = some (.slice A0_3 l0_3.length c0_3) := (kc_ BK266.out 3).trans rfl; have hcz15_4 : w14.cell? ⟨gb266, 4, none⟩ = some (.int .i64 a0_4) := (kc_ BK266.out 4).trans rfl)|((with_reducible refine gc_ (f := 8) rfl ?_); refine goesL_ (some 21) rfl rfl Try.func8 (by kernel_rfl) rfl #[.agg #[.int .i64 a0_0, .bool a0_1, .slice A0_2 l0_2.length c0_2, .slice A0_3 l0_3.length c0_3, .int .i64 a0_4]] rfl (by (try simp only [ma_, mc_, mn_]); first|done|rfl) ?_; (with_reducible refine (laws_toHouse.calls k a0_0 a0_1 _ _ l0_2 _ _ l0_3 a0_4 t268 t269 t270 t273 t276 _ ?side1 ?side2 ?side3 ?side4 A7.out).mono ?_); (case side1 => repeat (first|exact (cb_ HR0_2.out HB.out)|(with_reducible refine ca_ ?_ _)|(with_reducible refine cn_ ?_ _)|(with_reducible refine cd_ ?_))); (case side2 => exact HC0_2.out); (case side3 => repeat (first|exact (cb_ HR0_3.out HB.out)|(with_reducible refine ca_ ?_ _)|(with_reducible refine cn_ ?_ _)|(with_reducible refine cd_ ?_))); (case side4 => exact HC0_3.out); rintro e w16 ⟨v271, v274, rfl, ho0, ho1, hb⟩; refine ⟨_, rfl, ?_⟩; have m0 := A0_ (Kd.R_lower ho0 (bz_ (by repeat (with_reducible first|exact HB.out|apply ba_|apply bn_|apply bd_)))); have m1 := A0_ (Kd.R_lower ho1 (bz_ (by repeat (with_reducible first|exact HB.out|apply ba_|apply bn_|apply bd_)))); have m2 := A0_ (kb_ (g := gb266) (o := .cells #[.int .i64 a0_0, .bool a0_1, .slice A0_2 l0_2.length c0_2, .slice A0_3 l0_3.length c0_3, .int .i64 a0_4] 26 (0, 0)) (by (with_reducible repeat (first|apply kn_|apply kd_|apply ka_)); exact BK266.out) hb); have m3 := A0_ (bt_ (by repeat (with_reducible first|exact HB.out|apply ba_|apply bn_|apply bd_)) hb); clear BK266 HB; have HO272 := m0; have HO275 := m1; have BK266 := m2; have HB := m3; clear m0 m1 m2 m3; (try clear hb); (try clear ho0); (try clear ho1); obtain ⟨Ao17, co17, eo17⟩ := Kd.R_slice HO272.out; subst eo17; obtain ⟨Ao18, co18, eo18⟩ := Kd.R_slice HO275.out; subst eo18)|((with_reducible refine gc_ (f := 17) rfl ?_); refine goesL_ (some 22) rfl rfl Try.func17 (by kernel_rfl) rfl #[.agg #[.int .i64 t268, .bool t269, .slice Ao17 t270.length co17, .slice Ao18 t273.length co18, .int .i64 t276]] rfl (by (try simp only [ma_, mc_, mn_]); first|done|rfl) ?_; (with_reducible refine (spec_NewConsole.calls k t268 t269 _ _ t270 _ _ t273 t276 t277 t278 t279 t282 t285 t286 t287 t288 t289 _ ?side1 ?side2 ?side3 ?side4 A8.out).mono ?_); (case side1 => repeat (first|exact (rr_ HO272.out).2.2|(with_reducible refine ca_ ?_ _)|(with_reducible refine cn_ ?_ _)|(with_reducible refine cd_ ?_))); (case side2 => exact (rr_ HO272.out).2.1); (case side3 => repeat (first|exact (rr_ HO275.out).2.2|(with_reducible refine ca_ ?_ _)|(with_reducible refine cn_ ?_ _)|(with_reducible refine cd_ ?_))); (case side4 => exact (rr_ HO275.out).2.1); rintro e w19 ⟨v280, v283, rfl, ho0, ho1, hb⟩; refine ⟨_, rfl, ?_⟩; have m0 := A0_ (Kd.R_mono (Kd.R_told (Kd.R_told (Kd.R_old (by (with_reducible repeat (first|apply ra_|apply rn_|apply rd_)); exact HO272.out) hb) (Kd.R_base ho0)) (Kd.R_base ho1)) (fun _ h_ => h_.1)); have m1 := A0_ (Kd.R_mono (Kd.R_told (Kd.R_told (Kd.R_old (by (with_reducible repeat (first|apply ra_|apply rn_|apply rd_)); exact HO275.out) hb) (Kd.R_base ho0)) (Kd.R_base ho1)) (fun _ h_ => h_.1)); have m2 := A0_ (Kd.R_lower (Kd.R_new' (Kd.R_new' ho0 (Kd.R_lt (by (with_reducible repeat (first|apply ra_|apply rn_|apply rd_)); exact HO272.out))) (Kd.R_lt (by (with_reducible repeat (first|apply ra_|apply rn_|apply rd_)); exact HO275.out))) (bz_ (by repeat (with_reducible first|exact HB.out|apply ba_|apply bn_|apply bd_)))); have m3 := A0_ (Kd.R_lower (Kd.R_new' (Kd.R_new' ho1 (Kd.R_lt (by (with_reducible repeat (first|apply ra_|apply rn_|apply rd_)); exact HO272.out))) (Kd.R_lt (by (with_reducible repeat (first|apply ra_|apply rn_|apply rd_)); exact HO275.out))) (bz_ (by repeat (with_reducible first|exact HB.out|apply ba_|apply bn_|apply bd_)))); have m4 := A0_ (kb_ (g := gb266) (o := .cells #[.int .i64 a0_0, .bool a0_1, .slice A0_2 l0_2.length c0_2, .slice A0_3 l0_3.length c0_3, .int .i64 a0_4] 26 (0, 0)) (by (with_reducible repeat (first|apply kn_|apply kd_|apply ka_)); exact BK266.out) hb); have m5 := A0_ (bt_ (by repeat (with_reducible first|exact HB.out|apply ba_|apply bn_|apply bd_)) hb); clear HO272 HO275 BK266 HB; have HO272 := m0; have HO275 := m1; have HO281 := m2; have HO284 := m3; have BK266 := m4; have HB := m5; clear m0 m1 m2 m3 m4 m5; (try clear hb); (try clear ho0); (try clear ho1))|((with_reducible refine gd_ (N := 4) rfl ?_); refine be_ ?hg (N := 4) ?hd (cs := #[.int .i64 0, .bool false, .slice none 0 0, .slice none 0 0, .int .i64 0, .string (⟨#[]⟩ : ByteArray), .string (⟨#[]⟩ : ByteArray), .int .i64 0]) (t := 43) ?hr ?_; (case hd => rfl); (case hg => rfl); (case hr => go_simp; first|done|rfl); intro gb290 hg w20 hbox hb; have m0 := A0_ (Kd.R_below (by (with_reducible repeat (first|apply ra_|apply rn_|apply rd_)); exact HO272.out) hb); have m1 := A0_ (Kd.R_below (by (with_reducible repeat (first|apply ra_|apply rn_|apply rd_)); exact HO275.out) hb); have m2 := A0_ (Kd.R_below (by (with_reducible repeat (first|apply ra_|apply rn_|apply rd_)); exact HO281.out) hb); have m3 := A0_ (Kd.R_below (by (with_reducible repeat (first|apply ra_|apply rn_|apply rd_)); exact HO284.out) hb); have m4 := A0_ (kb_ (g := gb266) (o := .cells #[.int .i64 a0_0, .bool a0_1, .slice A0_2 l0_2.length c0_2, .slice A0_3 l0_3.length c0_3, .int .i64 a0_4] 26 (0, 0)) (by (with_reducible repeat (first|apply kn_|apply kd_|apply ka_)); exact BK266.out) hb); have m5 := A0_ (bt_ (by repeat (with_reducible first|exact HB.out|apply ba_|apply bn_|apply bd_)) hb); have m6 := A0_ (hbox); have m7 := A0_ ((by rw [hg]; exact (bz_ (by repeat (with_reducible first|exact HB.out|apply ba_|apply bn_|apply bd_))) : w.heap.size ≤ gb290)); have m8 := A0_ ((by rw [hg]; exact (bz_ (by repeat (with_reducible first|exact HB.out|apply ba_|apply bn_|apply bd_))) : w.heap.size ≤ gb290)); have m9 := A0_ ((by rw [hg]; exact Nat.ne_of_lt (blk_lt (g := gb266) (o := .cells #[.int .i64 a0_0, .bool a0_1, .slice A0_2 l0_2.length c0_2, .slice A0_3 l0_3.length c0_3, .int .i64 a0_4] 26 (0, 0)) (by (with_reducible repeat (first|apply kn_|apply kd_|apply ka_)); exact BK266.out)) : gb266 ≠ gb290)); have m10 := A0_ ((by rw [hg]; exact Nat.ne_of_gt (blk_lt (g := gb266) (o := .cells #[.int .i64 a0_0, .bool a0_1, .slice A0_2 l0_2.length c0_2, .slice A0_3 l0_3.length c0_3, .int .i64 a0_4] 26 (0, 0)) (by (with_reducible repeat (first|apply kn_|apply kd_|apply ka_)); exact BK266.out)) : gb290 ≠ gb266)); clear HO272 HO275 HO281 HO284 BK266 HB; have HO272 := m0; have HO275 := m1; have HO281 := m2; have HO284 := m3; have BK266 := m4; have HB := m5; have BK290 := m6; have GW290 := m7; have GE290 := m8; have NB266_290 := m9; have NB290_266 := m10; clear m0 m1 m2 m3 m4 m5 m6 m7 m8 m9 m10 hb hbox hg; have hnb21 := NB290_266.out; have hnc21 := NB266_290.out; have hcz22_0 : w20.cell? ⟨gb290, 0, none⟩ = some (.int .i64 0) := (kc_ BK290.out 0).trans rfl; have hcz22_1 : w20.cell? ⟨gb290, 1, none⟩ = some (.bool false) := (kc_ BK290.out 1).trans rfl; have hcz22_2 : w20.cell? ⟨gb290, 2, none⟩ = some (.slice none 0 0) := (kc_ BK290.out 2).trans rfl; have hcz22_3 : w20.cell? ⟨gb290, 3, none⟩ = some (.slice none 0 0) := (kc_ BK290.out 3).trans rfl; have hcz22_4 : w20.cell? ⟨gb290, 4, none⟩ = some (.int .i64 0) := (kc_ BK290.out 4).trans rfl; have hcz22_5 : w20.cell? ⟨gb290, 5, none⟩ = some (.string (⟨#[]⟩ : ByteArray)) := (kc_ BK290.out 5).trans rfl; have hcz22_6 : w20.cell? ⟨gb290, 6, none⟩ = some (.string (⟨#[]⟩ : ByteArray)) := (kc_ BK290.out 6).trans rfl; have hcz22_7 : w20.cell? ⟨gb290, 7, none⟩ = some (.int .i64 0) := (kc_ BK290.out 7).trans rfl; have hfz22_0 := kf_ BK290.out 0; have hfz22_1 := kf_ BK290.out 1; have hfz22_2 := kf_ BK290.out 2; have hfz22_3 := kf_ BK290.out 3; have hfz22_4 := kf_ BK290.out 4; have hfz22_5 := kf_ BK290.out 5; have hfz22_6 := kf_ BK290.out 6; have hfz22_7 := kf_ BK290.out 7; obtain ⟨Ao23, co23, eo23⟩ := Kd.R_slice HO281.out; subst eo23; obtain ⟨Ao24, co24, eo24⟩ := Kd.R_slice HO284.out; subst eo24; have hcz25_0 : w20.cell? ⟨gb266, 0, none⟩ = some (.int .i64 a0_0) := (kc_ BK266.out 0).trans rfl; have hcz25_1 : w20.cell? ⟨gb266, 1, none⟩ = some (.bool a0_1) := (kc_ BK266.out 1).trans rfl; have hcz25_2 : w20.cell? ⟨gb266, 2, none⟩ = some (.slice A0_2 l0_2.length c0_2) := (kc_ BK266.out 2).trans rfl; have hcz25_3 : w20.cell? ⟨gb266, 3, none⟩ = some (.slice A0_3 l0_3.length c0_3) := (kc_ BK266.out 3).trans rfl; have hcz25_4 : w20.cell? ⟨gb266, 4, none⟩ = some (.int .i64 a0_4) := (kc_ BK266.out 4).trans rfl)|((with_reducible refine gc_ (f := 8) rfl ?_); refine goesL_ (some 26) rfl rfl Try.func8 (by kernel_rfl) rfl #[.agg #[.int .i64 a0_0, .bool a0_1, .slice A0_2 l0_2.length c0_2, .slice A0_3 l0_3.length c0_3, .int .i64 a0_4]] rfl (by (try simp only [ma_, mc_, mn_]); first|done|rfl) ?_; (with_reducible refine (laws_toHouse.calls k a0_0 a0_1 _ _ l0_2 _ _ l0_3 a0_4 t291 t292 t293 t296 t299 _ ?side1 ?side2 ?side3 ?side4 A9.out).mono ?_); (case side1 => exact cb_ HR0_2.out (by repeat (with_reducible first|exact HB.out|apply ba_|apply bn_|apply bd_|refine bs_ ?_ GE290.out))); (case side2 => exact HC0_2.out); (case side3 => exact cb_ HR0_3.out (by repeat (with_reducible first|exact HB.out|apply ba_|apply bn_|apply bd_|refine bs_ ?_ GE290.out))); (case side4 => exact HC0_3.out); rintro e w26 ⟨v294, v297, rfl, ho0, ho1, hb⟩; refine ⟨_, rfl, ?_⟩; have m0 := A0_ (Kd.R_mono (Kd.R_told (Kd.R_told (Kd.R_old (by (with_reducible repeat (first|apply ra_|apply rn_|apply rd_)); exact (Kd.R_mono (rf_ (rf_ (rf_ (rf_ (rf_ (rf_ (rf_ (rf_ (Kd.R_types HO272.out BK290.out (by decide)) k2_ _) k2_ _) k2_ _) k2_ _) k2_ _) k2_ _) k2_ _) k2_ _) (fun _ h_ => h_.1))) hb) (Kd.R_base ho0)) (Kd.R_base ho1)) (fun _ h_ => h_.1)); have m1 := A0_ (Kd.R_mono (Kd.R_told (Kd.R_told (Kd.R_old (by (with_reducible repeat (first|apply ra_|apply rn_|apply rd_)); exact (Kd.R_mono (rf_ (rf_ (rf_ (rf_ (rf_ (rf_ (rf_ (rf_ (Kd.R_types HO275.out BK290.out (by decide)) k2_ _) k2_ _) k2_ _) k2_ _) k2_ _) k2_ _) k2_ _) k2_ _) (fun _ h_ => h_.1))) hb) (Kd.R_base ho0)) (Kd.R_base ho1)) (fun _ h_ => h_.1)); have m2 := A0_ (Kd.R_mono (Kd.R_told (Kd.R_told (Kd.R_old (by (with_reducible repeat (first|apply ra_|apply rn_|apply rd_)); exact (Kd.R_mono (rf_ (rf_ (rf_ (rf_ (rf_ (rf_ (rf_ (rf_ (Kd.R_types HO281.out BK290.out (by decide)) k2_ _) k2_ _) k2_ _) k2_ _) k2_ _) k2_ _) k2_ _) k2_ _) (fun _ h_ => h_.1))) hb) (Kd.R_base ho0)) (Kd.R_base ho1)) (fun _ h_ => h_.1)); have m3 := A0_ (Kd.R_mono (Kd.R_told (Kd.R_told (Kd.R_old (by (with_reducible repeat (first|apply ra_|apply rn_|apply rd_)); exact (Kd.R_mono (rf_ (rf_ (rf_ (rf_ (rf_ (rf_ (rf_ (rf_ (Kd.R_types HO284.out BK290.out (by decide)) k2_ _) k2_ _) k2_ _) k2_ _) k2_ _) k2_ _) k2_ _) k2_ _) (fun _ h_ => h_.1))) hb) (Kd.R_base ho0)) (Kd.R_base ho1)) (fun _ h_ => h_.1)); have m4 := A0_ (Kd.R_lower (Kd.R_new' (Kd.R_new' (Kd.R_new' (Kd.R_new' ho0 (Kd.R_lt (by (with_reducible repeat (first|apply ra_|apply rn_|apply rd_)); exact (Kd.R_mono (rf_ (rf_ (rf_ (rf_ (rf_ (rf_ (rf_ (rf_ (Kd.R_types HO272.out BK290.out (by decide)) k2_ _) k2_ _) k2_ _) k2_ _) k2_ _) k2_ _) k2_ _) k2_ _) (fun _ h_ => h_.1))))) (Kd.R_lt (by (with_reducible repeat (first|apply ra_|apply rn_|apply rd_)); exact (Kd.R_mono (rf_ (rf_ (rf_ (rf_ (rf_ (rf_ (rf_ (rf_ (Kd.R_types HO275.out BK290.out (by decide)) k2_ _) k2_ _) k2_ _) k2_ _) k2_ _) k2_ _) k2_ _) k2_ _) (fun _ h_ => h_.1))))) (Kd.R_lt (by (with_reducible repeat (first|apply ra_|apply rn_|apply rd_)); exact (Kd.R_mono (rf_ (rf_ (rf_ (rf_ (rf_ (rf_ (rf_ (rf_ (Kd.R_types HO281.out BK290.out (by decide)) k2_ _) k2_ _) k2_ _) k2_ _) k2_ _) k2_ _) k2_ _) k2_ _) (fun _ h_ => h_.1))))) (Kd.R_lt (by (with_reducible repeat (first|apply ra_|apply rn_|apply rd_)); exact (Kd.R_mono (rf_ (rf_ (rf_ (rf_ (rf_ (rf_ (rf_ (rf_ (Kd.R_types HO284.out BK290.out (by decide)) k2_ _) k2_ _) k2_ _) k2_ _) k2_ _) k2_ _) k2_ _) k2_ _) (fun _ h_ => h_.1))))) (bz_ (by repeat (with_reducible first|exact HB.out|apply ba_|apply bn_|apply bd_|refine bs_ ?_ GE290.out)))); have m5 := A0_ (Kd.R_lower (Kd.R_new' (Kd.R_new' (Kd.R_new' (Kd.R_new' ho1 (Kd.R_lt (by (with_reducible repeat (first|apply ra_|apply rn_|apply rd_)); exact (Kd.R_mono (rf_ (rf_ (rf_ (rf_ (rf_ (rf_ (rf_ (rf_ (Kd.R_types HO272.out BK290.out (by decide)) k2_ _) k2_ _) k2_ _) k2_ _) k2_ _) k2_ _) k2_ _) k2_ _) (fun _ h_ => h_.1))))) (Kd.R_lt (by (with_reducible repeat (first|apply ra_|apply rn_|apply rd_)); exact (Kd.R_mono (rf_ (rf_ (rf_ (rf_ (rf_ (rf_ (rf_ (rf_ (Kd.R_types HO275.out BK290.out (by decide)) k2_ _) k2_ _) k2_ _) k2_ _) k2_ _) k2_ _) k2_ _) k2_ _) (fun _ h_ => h_.1))))) (Kd.R_lt (by (with_reducible repeat (first|apply ra_|apply rn_|apply rd_)); exact (Kd.R_mono (rf_ (rf_ (rf_ (rf_ (rf_ (rf_ (rf_ (rf_ (Kd.R_types HO281.out BK290.out (by decide)) k2_ _) k2_ _) k2_ _) k2_ _) k2_ _) k2_ _) k2_ _) k2_ _) (fun _ h_ => h_.1))))) (Kd.R_lt (by (with_reducible repeat (first|apply ra_|apply rn_|apply rd_)); exact (Kd.R_mono (rf_ (rf_ (rf_ (rf_ (rf_ (rf_ (rf_ (rf_ (Kd.R_types HO284.out BK290.out (by decide)) k2_ _) k2_ _) k2_ _) k2_ _) k2_ _) k2_ _) k2_ _) k2_ _) (fun _ h_ => h_.1))))) (bz_ (by repeat (with_reducible first|exact HB.out|apply ba_|apply bn_|apply bd_|refine bs_ ?_ GE290.out)))); have m6 := A0_ (kb_ (g := gb266) (o := .cells #[.int .i64 a0_0, .bool a0_1, .slice A0_2 l0_2.length c0_2, .slice A0_3 l0_3.length c0_3, .int .i64 a0_4] 26 (0, 0)) (by (with_reducible repeat (first|apply kn_|apply kd_|apply ka_)); refine blk_far ?_ NB266_290.out _; (with_reducible repeat (first|apply kn_|apply kd_|apply ka_)); refine blk_far ?_ NB266_290.out _; (with_reducible repeat (first|apply kn_|apply kd_|apply ka_)); refine blk_far ?_ NB266_290.out _; (with_reducible repeat (first|apply kn_|apply kd_|apply ka_)); refine blk_far ?_ NB266_290.out _; (with_reducible repeat (first|apply kn_|apply kd_|apply ka_)); refine blk_far ?_ NB266_290.out _; (with_reducible repeat (first|apply kn_|apply kd_|apply ka_)); refine blk_far ?_ NB266_290.out _; (with_reducible repeat (first|apply kn_|apply kd_|apply ka_)); refine blk_far ?_ NB266_290.out _; (with_reducible repeat (first|apply kn_|apply kd_|apply ka_)); refine blk_far ?_ NB266_290.out _; (with_reducible repeat (first|apply kn_|apply kd_|apply ka_)); exact BK266.out) hb); have m7 := A0_ (kb_ (g := gb290) (o := .cells #[.int .i64 t277, .bool t278, .slice Ao23 t279.length co23, .slice Ao24 t282.length co24, .int .i64 t285, .string t286, .string t287, .int .i64 t288] 43 (0, 0)) (by (with_reducible repeat (first|apply kn_|apply kd_|apply ka_)); refine blk_put (cs := #[.int .i64 t277, .bool t278, .slice Ao23 t279.length co23, .slice Ao24 t282.length co24, .int .i64 t285, .string t286, .string t287, .int .i64 0]) ?_ 7 _ rfl; (with_reducible repeat (first|apply kn_|apply kd_|apply ka_)); refine blk_put (cs := #[.int .i64 t277, .bool t278, .slice Ao23 t279.length co23, .slice Ao24 t282.length co24, .int .i64 t285, .string t286, .string (⟨#[]⟩ : ByteArray), .int .i64 0]) ?_ 6 _ rfl; (with_reducible repeat (first|apply kn_|apply kd_|apply ka_)); refine blk_put (cs := #[.int .i64 t277, .bool t278, .slice Ao23 t279.length co23, .slice Ao24 t282.length co24, .int .i64 t285, .string (⟨#[]⟩ : ByteArray), .string (⟨#[]⟩ : ByteArray), .int .i64 0]) ?_ 5 _ rfl; (with_reducible repeat (first|apply kn_|apply kd_|apply ka_)); refine blk_put (cs := #[.int .i64 t277, .bool t278, .slice Ao23 t279.length co23, .slice Ao24 t282.length co24, .int .i64 0, .string (⟨#[]⟩ : ByteArray), .string (⟨#[]⟩ : ByteArray), .int .i64 0]) ?_ 4 _ rfl; (with_reducible repeat (first|apply kn_|apply kd_|apply ka_)); refine blk_put (cs := #[.int .i64 t277, .bool t278, .slice Ao23 t279.length co23, .slice none 0 0, .int .i64 0, .string (⟨#[]⟩ : ByteArray), .string (⟨#[]⟩ : ByteArray), .int .i64 0]) ?_ 3 _ rfl; (with_reducible repeat (first|apply kn_|apply kd_|apply ka_)); refine blk_put (cs := #[.int .i64 t277, .bool t278, .slice none 0 0, .slice none 0 0, .int .i64 0, .string (⟨#[]⟩ : ByteArray), .string (⟨#[]⟩ : ByteArray), .int .i64 0]) ?_ 2 _ rfl; (with_reducible repeat (first|apply kn_|apply kd_|apply ka_)); refine blk_put (cs := #[.int .i64 t277, .bool false, .slice none 0 0, .slice none 0 0, .int .i64 0, .string (⟨#[]⟩ : ByteArray), .string (⟨#[]⟩ : ByteArray), .int .i64 0]) ?_ 1 _ rfl; (with_reducible repeat (first|apply kn_|apply kd_|apply ka_)); refine blk_put (cs := #[.int .i64 0, .bool false, .slice none 0 0, .slice none 0 0, .int .i64 0, .string (⟨#[]⟩ : ByteArray), .string (⟨#[]⟩ : ByteArray), .int .i64 0]) ?_ 0 _ rfl; (with_reducible repeat (first|apply kn_|apply kd_|apply ka_)); exact BK290.out) hb); have m8 := A0_ (bt_ (by repeat (with_reducible first|exact HB.out|apply ba_|apply bn_|apply bd_|refine bs_ ?_ GE290.out)) hb); clear HO272 HO275 HO281 HO284 BK266 BK290 HB; have HO272 := m0; have HO275 := m1; have HO281 := m2; have HO284 := m3; have HO295 := m4; have HO298 := m5; have BK266 := m6; have BK290 := m7; have HB := m8; clear m0 m1 m2 m3 m4 m5 m6 m7 m8; (try clear hb); (try clear ho0); (try clear ho1))|((with_reducible refine gd_ (N := 6) rfl ?_); refine be_ ?hg (N := 6) ?hd (cs := #[.int .i64 0, .bool false, .slice none 0 0, .slice none 0 0, .int .i64 0]) (t := 31) ?hr ?_; (case hd => rfl); (case hg => rfl); (case hr => go_simp; first|done|rfl); intro gb300 hg w27 hbox hb; have m0 := A0_ (Kd.R_below (by (with_reducible repeat (first|apply ra_|apply rn_|apply rd_)); exact HO272.out) hb); have m1 := A0_ (Kd.R_below (by (with_reducible repeat (first|apply ra_|apply rn_|apply rd_)); exact HO275.out) hb); have m2 := A0_ (Kd.R_below (by (with_reducible repeat (first|apply ra_|apply rn_|apply rd_)); exact HO281.out) hb); have m3 := A0_ (Kd.R_below (by (with_reducible repeat (first|apply ra_|apply rn_|apply rd_)); exact HO284.out) hb); have m4 := A0_ (Kd.R_below (by (with_reducible repeat (first|apply ra_|apply rn_|apply rd_)); exact HO295.out) hb); have m5 := A0_ (Kd.R_below (by (with_reducible repeat (first|apply ra_|apply rn_|apply rd_)); exact HO298.out) hb); have m6 := A0_ (kb_ (g := gb266) (o := .cells #[.int .i64 a0_0, .bool a0_1, .slice A0_2 l0_2.length c0_2, .slice A0_3 l0_3.length c0_3, .int .i64 a0_4] 26 (0, 0)) (by (with_reducible repeat (first|apply kn_|apply kd_|apply ka_)); exact BK266.out) hb); have m7 := A0_ (kb_ (g := gb290) (o := .cells #[.int .i64 t277, .bool t278, .slice Ao23 t279.length co23, .slice Ao24 t282.length co24, .int .i64 t285, .string t286, .string t287, .int .i64 t288] 43 (0, 0)) (by (with_reducible repeat (first|apply kn_|apply kd_|apply ka_)); exact BK290.out) hb); have m8 := A0_ (bt_ (by repeat (with_reducible first|exact HB.out|apply ba_|apply bn_|apply bd_|refine bs_ ?_ GE290.out)) hb); have m9 := A0_ (hbox); have m10 := A0_ ((by rw [hg]; exact (bz_ (by repeat (with_reducible first|exact HB.out|apply ba_|apply bn_|apply bd_|refine bs_ ?_ GE290.out))) : w.heap.size ≤ gb300)); have m11 := A0_ ((by rw [hg]; exact (bz_ (by repeat (with_reducible first|exact HB.out|apply ba_|apply bn_|apply bd_|refine bs_ ?_ GE290.out))) : w.heap.size ≤ gb300)); have m12 := A0_ ((by rw [hg]; exact Nat.ne_of_lt (blk_lt (g := gb266) (o := .cells #[.int .i64 a0_0, .bool a0_1, .slice A0_2 l0_2.length c0_2, .slice A0_3 l0_3.length c0_3, .int .i64 a0_4] 26 (0, 0)) (by (with_reducible repeat (first|apply kn_|apply kd_|apply ka_)); exact BK266.out)) : gb266 ≠ gb300)); have m13 := A0_ ((by rw [hg]; exact Nat.ne_of_gt (blk_lt (g := gb266) (o := .cells #[.int .i64 a0_0, .bool a0_1, .slice A0_2 l0_2.length c0_2, .slice A0_3 l0_3.length c0_3, .int .i64 a0_4] 26 (0, 0)) (by (with_reducible repeat (first|apply kn_|apply kd_|apply ka_)); exact BK266.out)) : gb300 ≠ gb266)); have m14 := A0_ ((by rw [hg]; exact Nat.ne_of_lt (blk_lt (g := gb290) (o := .cells #[.int .i64 t277, .bool t278, .slice Ao23 t279.length co23, .slice Ao24 t282.length co24, .int .i64 t285, .string t286, .string t287, .int .i64 t288] 43 (0, 0)) (by (with_reducible repeat (first|apply kn_|apply kd_|apply ka_)); exact BK290.out)) : gb290 ≠ gb300)); have m15 := A0_ ((by rw [hg]; exact Nat.ne_of_gt (blk_lt (g := gb290) (o := .cells #[.int .i64 t277, .bool t278, .slice Ao23 t279.length co23, .slice Ao24 t282.length co24, .int .i64 t285, .string t286, .string t287, .int .i64 t288] 43 (0, 0)) (by (with_reducible repeat (first|apply kn_|apply kd_|apply ka_)); exact BK290.out)) : gb300 ≠ gb290)); clear HO272 HO275 HO281 HO284 HO295 HO298 BK266 BK290 HB; have HO272 := m0; have HO275 := m1; have HO281 := m2; have HO284 := m3; have HO295 := m4; have HO298 := m5; have BK266 := m6; have BK290 := m7; have HB := m8; have BK300 := m9; have GW300 := m10; have GE300 := m11; have NB266_300 := m12; have NB300_266 := m13; have NB290_300 := m14; have NB300_290 := m15; clear m0 m1 m2 m3 m4 m5 m6 m7 m8 m9 m10 m11 m12 m13 m14 m15 hb hbox hg; have hnb28 := NB300_266.out; have hnc28 := NB266_300.out; have hnb29 := NB300_290.out; have hnc29 := NB290_300.out; have hcz30_0 : w27.cell? ⟨gb300, 0, none⟩ = some (.int .i64 0) := (kc_ BK300.out 0).trans rfl; have hcz30_1 : w27.cell? ⟨gb300, 1, none⟩ = some (.bool false) := (kc_ BK300.out 1).trans rfl; have hcz30_2 : w27.cell? ⟨gb300, 2, none⟩ = some (.slice none 0 0) := (kc_ BK300.out 2).trans rfl; have hcz30_3 : w27.cell? ⟨gb300, 3, none⟩ = some (.slice none 0 0) := (kc_ BK300.out 3).trans rfl; have hcz30_4 : w27.cell? ⟨gb300, 4, none⟩ = some (.int .i64 0) := (kc_ BK300.out 4).trans rfl; have hfz30_0 := kf_ BK300.out 0; have hfz30_1 := kf_ BK300.out 1; have hfz30_2 := kf_ BK300.out 2; have hfz30_3 := kf_ BK300.out 3; have hfz30_4 := kf_ BK300.out 4; obtain ⟨Ao31, co31, eo31⟩ := Kd.R_slice HO295.out; subst eo31; obtain ⟨Ao32, co32, eo32⟩ := Kd.R_slice HO298.out; subst eo32)|((with_reducible refine gc_ (f := 18) rfl ?_); refine goesL_ (some 29) rfl rfl Try.func18 (by kernel_rfl) rfl #[.agg #[.int .i64 t291, .bool t292, .slice Ao31 t293.length co31, .slice Ao32 t296.length co32, .int .i64 t299]] rfl (by (try simp only [ma_, mc_, mn_]); first|done|rfl) ?_; (with_reducible refine (impl_NewConsole.calls k t291 t292 _ _ t293 _ _ t296 t299 t301 t302 t303 t306 t309 t310 t311 t312 t313 _ ?side1 ?side2 ?side3 ?side4 A10.out).mono ?_); (case side1 => refine (rr_ (e := 3) (base := w.heap.size) (ok := fun k_ => ((((nb_ (.slice Ao32 t296.length co32) k_ ∧ nb_ (.slice Ao17 t270.length co17) k_) ∧ nb_ (.slice Ao18 t273.length co18) k_) ∧ nb_ (.slice Ao23 t279.length co23) k_) ∧ nb_ (.slice Ao24 t282.length co24) k_)) (n := t293.length) (c := co31) ?_).2.2; exact (by (with_reducible repeat (first|apply ra_|apply rn_|apply rd_)); exact (Kd.R_mono (rf_ (rf_ (rf_ (rf_ (rf_ (Kd.R_types HO295.out BK300.out (by decide)) k2_ _) k2_ _) k2_ _) k2_ _) k2_ _) (fun _ h_ => h_.1)))); (case side2 => exact (rr_ HO295.out).2.1); (case side3 => refine (rr_ (e := 3) (base := w.heap.size) (ok := fun k_ => ((((nb_ (.slice Ao31 t293.length co31) k_ ∧ nb_ (.slice Ao17 t270.length co17) k_) ∧ nb_ (.slice Ao18 t273.length co18) k_) ∧ nb_ (.slice Ao23 t279.length co23) k_) ∧ nb_ (.slice Ao24 t282.length co24) k_)) (n := t296.length) (c := co32) ?_).2.2; exact (by (with_reducible repeat (first|apply ra_|apply rn_|apply rd_)); exact (Kd.R_mono (rf_ (rf_ (rf_ (rf_ (rf_ (Kd.R_types HO298.out BK300.out (by decide)) k2_ _) k2_ _) k2_ _) k2_ _) k2_ _) (fun _ h_ => h_.1)))); (case side4 => exact (rr_ HO298.out).2.1); rintro e w33 ⟨v304, v307, rfl, ho0, ho1, hb⟩; refine ⟨_, rfl, ?_⟩; have m0 := A0_ (Kd.R_mono (Kd.R_told (Kd.R_told (Kd.R_old (by (with_reducible repeat (first|apply ra_|apply rn_|apply rd_)); exact (Kd.R_mono (rf_ (rf_ (rf_ (rf_ (rf_ (Kd.R_types HO272.out BK300.out (by decide)) k2_ _) k2_ _) k2_ _) k2_ _) k2_ _) (fun _ h_ => h_.1))) hb) (Kd.R_base ho0)) (Kd.R_base ho1)) (fun _ h_ => h_.1)); have m1 := A0_ (Kd.R_mono (Kd.R_told (Kd.R_told (Kd.R_old (by (with_reducible repeat (first|apply ra_|apply rn_|apply rd_)); exact (Kd.R_mono (rf_ (rf_ (rf_ (rf_ (rf_ (Kd.R_types HO275.out BK300.out (by decide)) k2_ _) k2_ _) k2_ _) k2_ _) k2_ _) (fun _ h_ => h_.1))) hb) (Kd.R_base ho0)) (Kd.R_base ho1)) (fun _ h_ => h_.1)); have m2 := A0_ (Kd.R_mono (Kd.R_told (Kd.R_told (Kd.R_old (by (with_reducible repeat (first|apply ra_|apply rn_|apply rd_)); exact (Kd.R_mono (rf_ (rf_ (rf_ (rf_ (rf_ (Kd.R_types HO281.out BK300.out (by decide)) k2_ _) k2_ _) k2_ _) k2_ _) k2_ _) (fun _ h_ => h_.1))) hb) (Kd.R_base ho0)) (Kd.R_base ho1)) (fun _ h_ => h_.1)); have m3 := A0_ (Kd.R_mono (Kd.R_told (Kd.R_told (Kd.R_old (by (with_reducible repeat (first|apply ra_|apply rn_|apply rd_)); exact (Kd.R_mono (rf_ (rf_ (rf_ (rf_ (rf_ (Kd.R_types HO284.out BK300.out (by decide)) k2_ _) k2_ _) k2_ _) k2_ _) k2_ _) (fun _ h_ => h_.1))) hb) (Kd.R_base ho0)) (Kd.R_base ho1)) (fun _ h_ => h_.1)); have m4 := A0_ (Kd.R_mono (Kd.R_told (Kd.R_told (Kd.R_old (by (with_reducible repeat (first|apply ra_|apply rn_|apply rd_)); exact (Kd.R_mono (rf_ (rf_ (rf_ (rf_ (rf_ (Kd.R_types HO295.out BK300.out (by decide)) k2_ _) k2_ _) k2_ _) k2_ _) k2_ _) (fun _ h_ => h_.1))) hb) (Kd.R_base ho0)) (Kd.R_base ho1)) (fun _ h_ => h_.1)); have m5 := A0_ (Kd.R_mono (Kd.R_told (Kd.R_told (Kd.R_old (by (with_reducible repeat (first|apply ra_|apply rn_|apply rd_)); exact (Kd.R_mono (rf_ (rf_ (rf_ (rf_ (rf_ (Kd.R_types HO298.out BK300.out (by decide)) k2_ _) k2_ _) k2_ _) k2_ _) k2_ _) (fun _ h_ => h_.1))) hb) (Kd.R_base ho0)) (Kd.R_base ho1)) (fun _ h_ => h_.1)); have m6 := A0_ (Kd.R_lower (Kd.R_new' (Kd.R_new' (Kd.R_new' (Kd.R_new' (Kd.R_new' (Kd.R_new' ho0 (Kd.R_lt (by (with_reducible repeat (first|apply ra_|apply rn_|apply rd_)); exact (Kd.R_mono (rf_ (rf_ (rf_ (rf_ (rf_ (Kd.R_types HO272.out BK300.out (by decide)) k2_ _) k2_ _) k2_ _) k2_ _) k2_ _) (fun _ h_ => h_.1))))) (Kd.R_lt (by (with_reducible repeat (first|apply ra_|apply rn_|apply rd_)); exact (Kd.R_mono (rf_ (rf_ (rf_ (rf_ (rf_ (Kd.R_types HO275.out BK300.out (by decide)) k2_ _) k2_ _) k2_ _) k2_ _) k2_ _) (fun _ h_ => h_.1))))) (Kd.R_lt (by (with_reducible repeat (first|apply ra_|apply rn_|apply rd_)); exact (Kd.R_mono (rf_ (rf_ (rf_ (rf_ (rf_ (Kd.R_types HO281.out BK300.out (by decide)) k2_ _) k2_ _) k2_ _) k2_ _) k2_ _) (fun _ h_ => h_.1))))) (Kd.R_lt (by (with_reducible repeat (first|apply ra_|apply rn_|apply rd_)); exact (Kd.R_mono (rf_ (rf_ (rf_ (rf_ (rf_ (Kd.R_types HO284.out BK300.out (by decide)) k2_ _) k2_ _) k2_ _) k2_ _) k2_ _) (fun _ h_ => h_.1))))) (Kd.R_lt (by (with_reducible repeat (first|apply ra_|apply rn_|apply rd_)); exact (Kd.R_mono (rf_ (rf_ (rf_ (rf_ (rf_ (Kd.R_types HO295.out BK300.out (by decide)) k2_ _) k2_ _) k2_ _) k2_ _) k2_ _) (fun _ h_ => h_.1))))) (Kd.R_lt (by (with_reducible repeat (first|apply ra_|apply rn_|apply rd_)); exact (Kd.R_mono (rf_ (rf_ (rf_ (rf_ (rf_ (Kd.R_types HO298.out BK300.out (by decide)) k2_ _) k2_ _) k2_ _) k2_ _) k2_ _) (fun _ h_ => h_.1))))) (bz_ (by repeat (with_reducible first|exact HB.out|apply ba_|apply bn_|apply bd_|refine bs_ ?_ GE290.out|refine bs_ ?_ GE300.out)))); have m7 := A0_ (Kd.R_lower (Kd.R_new' (Kd.R_new' (Kd.R_new' (Kd.R_new' (Kd.R_new' (Kd.R_new' ho1 (Kd.R_lt (by (with_reducible repeat (first|apply ra_|apply rn_|apply rd_)); exact (Kd.R_mono (rf_ (rf_ (rf_ (rf_ (rf_ (Kd.R_types HO272.out BK300.out (by decide)) k2_ _) k2_ _) k2_ _) k2_ _) k2_ _) (fun _ h_ => h_.1))))) (Kd.R_lt (by (with_reducible repeat (first|apply ra_|apply rn_|apply rd_)); exact (Kd.R_mono (rf_ (rf_ (rf_ (rf_ (rf_ (Kd.R_types HO275.out BK300.out (by decide)) k2_ _) k2_ _) k2_ _) k2_ _) k2_ _) (fun _ h_ => h_.1))))) (Kd.R_lt (by (with_reducible repeat (first|apply ra_|apply rn_|apply rd_)); exact (Kd.R_mono (rf_ (rf_ (rf_ (rf_ (rf_ (Kd.R_types HO281.out BK300.out (by decide)) k2_ _) k2_ _) k2_ _) k2_ _) k2_ _) (fun _ h_ => h_.1))))) (Kd.R_lt (by (with_reducible repeat (first|apply ra_|apply rn_|apply rd_)); exact (Kd.R_mono (rf_ (rf_ (rf_ (rf_ (rf_ (Kd.R_types HO284.out BK300.out (by decide)) k2_ _) k2_ _) k2_ _) k2_ _) k2_ _) (fun _ h_ => h_.1))))) (Kd.R_lt (by (with_reducible repeat (first|apply ra_|apply rn_|apply rd_)); exact (Kd.R_mono (rf_ (rf_ (rf_ (rf_ (rf_ (Kd.R_types HO295.out BK300.out (by decide)) k2_ _) k2_ _) k2_ _) k2_ _) k2_ _) (fun _ h_ => h_.1))))) (Kd.R_lt (by (with_reducible repeat (first|apply ra_|apply rn_|apply rd_)); exact (Kd.R_mono (rf_ (rf_ (rf_ (rf_ (rf_ (Kd.R_types HO298.out BK300.out (by decide)) k2_ _) k2_ _) k2_ _) k2_ _) k2_ _) (fun _ h_ => h_.1))))) (bz_ (by repeat (with_reducible first|exact HB.out|apply ba_|apply bn_|apply bd_|refine bs_ ?_ GE290.out|refine bs_ ?_ GE300.out)))); have m8 := A0_ (kb_ (g := gb266) (o := .cells #[.int .i64 a0_0, .bool a0_1, .slice A0_2 l0_2.length c0_2, .slice A0_3 l0_3.length c0_3, .int .i64 a0_4] 26 (0, 0)) (by (with_reducible repeat (first|apply kn_|apply kd_|apply ka_)); refine blk_far ?_ NB266_300.out _; (with_reducible repeat (first|apply kn_|apply kd_|apply ka_)); refine blk_far ?_ NB266_300.out _; (with_reducible repeat (first|apply kn_|apply kd_|apply ka_)); refine blk_far ?_ NB266_300.out _; (with_reducible repeat (first|apply kn_|apply kd_|apply ka_)); refine blk_far ?_ NB266_300.out _; (with_reducible repeat (first|apply kn_|apply kd_|apply ka_)); refine blk_far ?_ NB266_300.out _; (with_reducible repeat (first|apply kn_|apply kd_|apply ka_)); exact BK266.out) hb); have m9 := A0_ (kb_ (g := gb290) (o := .cells #[.int .i64 t277, .bool t278, .slice Ao23 t279.length co23, .slice Ao24 t282.length co24, .int .i64 t285, .string t286, .string t287, .int .i64 t288] 43 (0, 0)) (by (with_reducible repeat (first|apply kn_|apply kd_|apply ka_)); refine blk_far ?_ NB290_300.out _; (with_reducible repeat (first|apply kn_|apply kd_|apply ka_)); refine blk_far ?_ NB290_300.out _; (with_reducible repeat (first|apply kn_|apply kd_|apply ka_)); refine blk_far ?_ NB290_300.out _; (with_reducible repeat (first|apply kn_|apply kd_|apply ka_)); refine blk_far ?_ NB290_300.out _; (with_reducible repeat (first|apply kn_|apply kd_|apply ka_)); refine blk_far ?_ NB290_300.out _; (with_reducible repeat (first|apply kn_|apply kd_|apply ka_)); exact BK290.out) hb); have m10 := A0_ (kb_ (g := gb300) (o := .cells #[.int .i64 t291, .bool t292, .slice Ao31 t293.length co31, .slice Ao32 t296.length co32, .int .i64 t299] 31 (0, 0)) (by (with_reducible repeat (first|apply kn_|apply kd_|apply ka_)); refine blk_put (cs := #[.int .i64 t291, .bool t292, .slice Ao31 t293.length co31, .slice Ao32 t296.length co32, .int .i64 0]) ?_ 4 _ rfl; (with_reducible repeat (first|apply kn_|apply kd_|apply ka_)); refine blk_put (cs := #[.int .i64 t291, .bool t292, .slice Ao31 t293.length co31, .slice none 0 0, .int .i64 0]) ?_ 3 _ rfl; (with_reducible repeat (first|apply kn_|apply kd_|apply ka_)); refine blk_put (cs := #[.int .i64 t291, .bool t292, .slice none 0 0, .slice none 0 0, .int .i64 0]) ?_ 2 _ rfl; (with_reducible repeat (first|apply kn_|apply kd_|apply ka_)); refine blk_put (cs := #[.int .i64 t291, .bool false, .slice none 0 0, .slice none 0 0, .int .i64 0]) ?_ 1 _ rfl; (with_reducible repeat (first|apply kn_|apply kd_|apply ka_)); refine blk_put (cs := #[.int .i64 0, .bool false, .slice none 0 0, .slice none 0 0, .int .i64 0]) ?_ 0 _ rfl; (with_reducible repeat (first|apply kn_|apply kd_|apply ka_)); exact BK300.out) hb); have m11 := A0_ (bt_ (by repeat (with_reducible first|exact HB.out|apply ba_|apply bn_|apply bd_|refine bs_ ?_ GE290.out|refine bs_ ?_ GE300.out)) hb); clear HO272 HO275 HO281 HO284 HO295 HO298 BK266 BK290 BK300 HB; have HO272 := m0; have HO275 := m1; have HO281 := m2; have HO284 := m3; have HO295 := m4; have HO298 := m5; have HO305 := m6; have HO308 := m7; have BK266 := m8; have BK290 := m9; have BK300 := m10; have HB := m11; clear m0 m1 m2 m3 m4 m5 m6 m7 m8 m9 m10 m11; (try clear hb); (try clear ho0); (try clear ho1))|((with_reducible refine gd_ (N := 7) rfl ?_); refine be_ ?hg (N := 7) ?hd (cs := #[.int .i64 0, .bool false, .slice none 0 0, .slice none 0 0, .int .i64 0, .string (⟨#[]⟩ : ByteArray), .string (⟨#[]⟩ : ByteArray), .int .i64 0]) (t := 43) ?hr ?_; (case hd => rfl); (case hg => rfl); (case hr => go_simp; first|done|rfl); intro gb314 hg w34 hbox hb; have m0 := A0_ (Kd.R_below (by (with_reducible repeat (first|apply ra_|apply rn_|apply rd_)); exact HO272.out) hb); have m1 := A0_ (Kd.R_below (by (with_reducible repeat (first|apply ra_|apply rn_|apply rd_)); exact HO275.out) hb); have m2 := A0_ (Kd.R_below (by (with_reducible repeat (first|apply ra_|apply rn_|apply rd_)); exact HO281.out) hb); have m3 := A0_ (Kd.R_below (by (with_reducible repeat (first|apply ra_|apply rn_|apply rd_)); exact HO284.out) hb); have m4 := A0_ (Kd.R_below (by (with_reducible repeat (first|apply ra_|apply rn_|apply rd_)); exact HO295.out) hb); have m5 := A0_ (Kd.R_below (by (with_reducible repeat (first|apply ra_|apply rn_|apply rd_)); exact HO298.out) hb); have m6 := A0_ (Kd.R_below (by (with_reducible repeat (first|apply ra_|apply rn_|apply rd_)); exact HO305.out) hb); have m7 := A0_ (Kd.R_below (by (with_reducible repeat (first|apply ra_|apply rn_|apply rd_)); exact HO308.out) hb); have m8 := A0_ (kb_ (g := gb266) (o := .cells #[.int .i64 a0_0, .bool a0_1, .slice A0_2 l0_2.length c0_2, .slice A0_3 l0_3.length c0_3, .int .i64 a0_4] 26 (0, 0)) (by (with_reducible repeat (first|apply kn_|apply kd_|apply ka_)); exact BK266.out) hb); have m9 := A0_ (kb_ (g := gb290) (o := .cells #[.int .i64 t277, .bool t278, .slice Ao23 t279.length co23, .slice Ao24 t282.length co24, .int .i64 t285, .string t286, .string t287, .int .i64 t288] 43 (0, 0)) (by (with_reducible repeat (first|apply kn_|apply kd_|apply ka_)); exact BK290.out) hb); have m10 := A0_ (kb_ (g := gb300) (o := .cells #[.int .i64 t291, .bool t292, .slice Ao31 t293.length co31, .slice Ao32 t296.length co32, .int .i64 t299] 31 (0, 0)) (by (with_reducible repeat (first|apply kn_|apply kd_|apply ka_)); exact BK300.out) hb); have m11 := A0_ (bt_ (by repeat (with_reducible first|exact HB.out|apply ba_|apply bn_|apply bd_|refine bs_ ?_ GE290.out|refine bs_ ?_ GE300.out)) hb); have m12 := A0_ (hbox); have m13 := A0_ ((by rw [hg]; exact (bz_ (by repeat (with_reducible first|exact HB.out|apply ba_|apply bn_|apply bd_|refine bs_ ?_ GE290.out|refine bs_ ?_ GE300.out))) : w.heap.size ≤ gb314)); have m14 := A0_ ((by rw [hg]; exact (bz_ (by repeat (with_reducible first|exact HB.out|apply ba_|apply bn_|apply bd_|refine bs_ ?_ GE290.out|refine bs_ ?_ GE300.out))) : w.heap.size ≤ gb314)); have m15 := A0_ ((by rw [hg]; exact Nat.ne_of_lt (blk_lt (g := gb266) (o := .cells #[.int .i64 a0_0, .bool a0_1, .slice A0_2 l0_2.length c0_2, .slice A0_3 l0_3.length c0_3, .int .i64 a0_4] 26 (0, 0)) (by (with_reducible repeat (first|apply kn_|apply kd_|apply ka_)); exact BK266.out)) : gb266 ≠ gb314)); have m16 := A0_ ((by rw [hg]; exact Nat.ne_of_gt (blk_lt (g := gb266) (o := .cells #[.int .i64 a0_0, .bool a0_1, .slice A0_2 l0_2.length c0_2, .slice A0_3 l0_3.length c0_3, .int .i64 a0_4] 26 (0, 0)) (by (with_reducible repeat (first|apply kn_|apply kd_|apply ka_)); exact BK266.out)) : gb314 ≠ gb266)); have m17 := A0_ ((by rw [hg]; exact Nat.ne_of_lt (blk_lt (g := gb290) (o := .cells #[.int .i64 t277, .bool t278, .slice Ao23 t279.length co23, .slice Ao24 t282.length co24, .int .i64 t285, .string t286, .string t287, .int .i64 t288] 43 (0, 0)) (by (with_reducible repeat (first|apply kn_|apply kd_|apply ka_)); exact BK290.out)) : gb290 ≠ gb314)); have m18 := A0_ ((by rw [hg]; exact Nat.ne_of_gt (blk_lt (g := gb290) (o := .cells #[.int .i64 t277, .bool t278, .slice Ao23 t279.length co23, .slice Ao24 t282.length co24, .int .i64 t285, .string t286, .string t287, .int .i64 t288] 43 (0, 0)) (by (with_reducible repeat (first|apply kn_|apply kd_|apply ka_)); exact BK290.out)) : gb314 ≠ gb290)); have m19 := A0_ ((by rw [hg]; exact Nat.ne_of_lt (blk_lt (g := gb300) (o := .cells #[.int .i64 t291, .bool t292, .slice Ao31 t293.length co31, .slice Ao32 t296.length co32, .int .i64 t299] 31 (0, 0)) (by (with_reducible repeat (first|apply kn_|apply kd_|apply ka_)); exact BK300.out)) : gb300 ≠ gb314)); have m20 := A0_ ((by rw [hg]; exact Nat.ne_of_gt (blk_lt (g := gb300) (o := .cells #[.int .i64 t291, .bool t292, .slice Ao31 t293.length co31, .slice Ao32 t296.length co32, .int .i64 t299] 31 (0, 0)) (by (with_reducible repeat (first|apply kn_|apply kd_|apply ka_)); exact BK300.out)) : gb314 ≠ gb300)); clear HO272 HO275 HO281 HO284 HO295 HO298 HO305 HO308 BK266 BK290 BK300 HB; have HO272 := m0; have HO275 := m1; have HO281 := m2; have HO284 := m3; have HO295 := m4; have HO298 := m5; have HO305 := m6; have HO308 := m7; have BK266 := m8; have BK290 := m9; have BK300 := m10; have HB := m11; have BK314 := m12; have GW314 := m13; have GE314 := m14; have NB266_314 := m15; have NB314_266 := m16; have NB290_314 := m17; have NB314_290 := m18; have NB300_314 := m19; have NB314_300 := m20; clear m0 m1 m2 m3 m4 m5 m6 m7 m8 m9 m10 m11 m12 m13 m14 m15 m16 m17 m18 m19 m20 hb hbox hg; have hnb35 := NB314_266.out; have hnc35 := NB266_314.out; have hnb36 := NB314_290.out; have hnc36 := NB290_314.out; have hnb37 := NB314_300.out; have hnc37 := NB300_314.out; have hcz38_0 : w34.cell? ⟨gb314, 0, none⟩ = some (.int .i64 0) := (kc_ BK314.out 0).trans rfl; have hcz38_1 : w34.cell? ⟨gb314, 1, none⟩ = some (.bool false) := (kc_ BK314.out 1).trans rfl; have hcz38_2 : w34.cell? ⟨gb314, 2, none⟩ = some (.slice none 0 0) := (kc_ BK314.out 2).trans rfl; have hcz38_3 : w34.cell? ⟨gb314, 3, none⟩ = some (.slice none 0 0) := (kc_ BK314.out 3).trans rfl; have hcz38_4 : w34.cell? ⟨gb314, 4, none⟩ = some (.int .i64 0) := (kc_ BK314.out 4).trans rfl; have hcz38_5 : w34.cell? ⟨gb314, 5, none⟩ = some (.string (⟨#[]⟩ : ByteArray)) := (kc_ BK314.out 5).trans rfl; have hcz38_6 : w34.cell? ⟨gb314, 6, none⟩ = some (.string (⟨#[]⟩ : ByteArray)) := (kc_ BK314.out 6).trans rfl; have hcz38_7 : w34.cell? ⟨gb314, 7, none⟩ = some (.int .i64 0) := (kc_ BK314.out 7).trans rfl; have hfz38_0 := kf_ BK314.out 0; have hfz38_1 := kf_ BK314.out 1; have hfz38_2 := kf_ BK314.out 2; have hfz38_3 := kf_ BK314.out 3; have hfz38_4 := kf_ BK314.out 4; have hfz38_5 := kf_ BK314.out 5; have hfz38_6 := kf_ BK314.out 6; have hfz38_7 := kf_ BK314.out 7; obtain ⟨Ao39, co39, eo39⟩ := Kd.R_slice HO305.out; subst eo39; obtain ⟨Ao40, co40, eo40⟩ := Kd.R_slice HO308.out; subst eo40))
  (try simp only [Act.put, sa_, sz_, ss_])
  go_cut [40] (fun v40 wc => ∃ (kq : Nat) (x40_10 : Bool), v40 = .bool x40_10 ∧ Aside0 (j0 kq t289 t313 x40_10 a0_0 a0_1 l0_2 l0_3 a0_4 t277 t278 t279 t282 t285 t286 t287 t288 t291 t292 t293 t296 t299 t301 t302 t303 t306 t309 t310 t311 t312 = some r) ∧ Aside0 (kq ≤ k) ∧ Aside0 (Kd.R (Kd.int .i64) 3 wc w.heap.size (fun k_ => some k_ ≠ ((.slice Ao24 t282.length co24) : Value).ownBlock ∧ some k_ ≠ ((.slice Ao31 t293.length co31) : Value).ownBlock ∧ some k_ ≠ ((.slice Ao32 t296.length co32) : Value).ownBlock ∧ some k_ ≠ ((.slice Ao39 t303.length co39) : Value).ownBlock ∧ some k_ ≠ ((.slice Ao40 t306.length co40) : Value).ownBlock) (.slice Ao23 t279.length co23) t279) ∧ Aside0 (Kd.R (Kd.int .i64) 3 wc w.heap.size (fun k_ => some k_ ≠ ((.slice Ao23 t279.length co23) : Value).ownBlock ∧ some k_ ≠ ((.slice Ao31 t293.length co31) : Value).ownBlock ∧ some k_ ≠ ((.slice Ao32 t296.length co32) : Value).ownBlock ∧ some k_ ≠ ((.slice Ao39 t303.length co39) : Value).ownBlock ∧ some k_ ≠ ((.slice Ao40 t306.length co40) : Value).ownBlock) (.slice Ao24 t282.length co24) t282) ∧ Aside0 (Kd.R (Kd.int .i64) 3 wc w.heap.size (fun k_ => some k_ ≠ ((.slice Ao23 t279.length co23) : Value).ownBlock ∧ some k_ ≠ ((.slice Ao24 t282.length co24) : Value).ownBlock ∧ some k_ ≠ ((.slice Ao32 t296.length co32) : Value).ownBlock ∧ some k_ ≠ ((.slice Ao39 t303.length co39) : Value).ownBlock ∧ some k_ ≠ ((.slice Ao40 t306.length co40) : Value).ownBlock) (.slice Ao31 t293.length co31) t293) ∧ Aside0 (Kd.R (Kd.int .i64) 3 wc w.heap.size (fun k_ => some k_ ≠ ((.slice Ao23 t279.length co23) : Value).ownBlock ∧ some k_ ≠ ((.slice Ao24 t282.length co24) : Value).ownBlock ∧ some k_ ≠ ((.slice Ao31 t293.length co31) : Value).ownBlock ∧ some k_ ≠ ((.slice Ao39 t303.length co39) : Value).ownBlock ∧ some k_ ≠ ((.slice Ao40 t306.length co40) : Value).ownBlock) (.slice Ao32 t296.length co32) t296) ∧ Aside0 (Kd.R (Kd.int .i64) 3 wc w.heap.size (fun k_ => some k_ ≠ ((.slice Ao23 t279.length co23) : Value).ownBlock ∧ some k_ ≠ ((.slice Ao24 t282.length co24) : Value).ownBlock ∧ some k_ ≠ ((.slice Ao31 t293.length co31) : Value).ownBlock ∧ some k_ ≠ ((.slice Ao32 t296.length co32) : Value).ownBlock ∧ some k_ ≠ ((.slice Ao40 t306.length co40) : Value).ownBlock) (.slice Ao39 t303.length co39) t303) ∧ Aside0 (Kd.R (Kd.int .i64) 3 wc w.heap.size (fun k_ => some k_ ≠ ((.slice Ao23 t279.length co23) : Value).ownBlock ∧ some k_ ≠ ((.slice Ao24 t282.length co24) : Value).ownBlock ∧ some k_ ≠ ((.slice Ao31 t293.length co31) : Value).ownBlock ∧ some k_ ≠ ((.slice Ao32 t296.length co32) : Value).ownBlock ∧ some k_ ≠ ((.slice Ao39 t303.length co39) : Value).ownBlock) (.slice Ao40 t306.length co40) t306) ∧ Aside0 (wc.heap[gb266]? = some (.cells #[.int .i64 a0_0, .bool a0_1, (.slice A0_2 l0_2.length c0_2), (.slice A0_3 l0_3.length c0_3), .int .i64 a0_4] 26 (0, 0))) ∧ Aside0 (wc.heap[gb290]? = some (.cells #[.int .i64 t277, .bool t278, (.slice Ao23 t279.length co23), (.slice Ao24 t282.length co24), .int .i64 t285, .string t286, .string t287, .int .i64 t288] 43 (0, 0))) ∧ Aside0 (wc.heap[gb300]? = some (.cells #[.int .i64 t291, .bool t292, (.slice Ao31 t293.length co31), (.slice Ao32 t296.length co32), .int .i64 t299] 31 (0, 0))) ∧ Aside0 (wc.heap[gb314]? = some (.cells #[.int .i64 t301, .bool t302, (.slice Ao39 t303.length co39), (.slice Ao40 t306.length co40), .int .i64 t309, .string t310, .string t311, .int .i64 t312] 43 (0, 0))) ∧ Aside0 (Below w.heap.size w wc))
  case first =>
   have H := HC11.out
   clear HC11
   replace H := ob_.mp H
   obtain ⟨t315, A410, H⟩ := H
   have A41 := A0_ A410
   clear A410
   by_cases c42 : t315 = true
   ·subst c42
    rw [if_pos rfl] at H
    have H' := A0_ H
    clear H
    have hnb43 := NB314_266.out
    have hnc43 := NB266_314.out
    have hnb44 := NB314_290.out
    have hnc44 := NB290_314.out
    have hnb45 := NB314_300.out
    have hnc45 := NB300_314.out
    have hcz46_0 : w34.cell? ⟨gb314, 0, none⟩ = some (.int .i64 0) := (kc_ BK314.out 0).trans rfl
    have hcz46_1 : w34.cell? ⟨gb314, 1, none⟩ = some (.bool false) := (kc_ BK314.out 1).trans rfl
    have hcz46_2 : w34.cell? ⟨gb314, 2, none⟩ = some (.slice none 0 0) := (kc_ BK314.out 2).trans rfl
    have hcz46_3 : w34.cell? ⟨gb314, 3, none⟩ = some (.slice none 0 0) := (kc_ BK314.out 3).trans rfl
    have hcz46_4 : w34.cell? ⟨gb314, 4, none⟩ = some (.int .i64 0) := (kc_ BK314.out 4).trans rfl
    have hcz46_5 : w34.cell? ⟨gb314, 5, none⟩ = some (.string (⟨#[]⟩ : ByteArray)) := (kc_ BK314.out 5).trans rfl
    have hcz46_6 : w34.cell? ⟨gb314, 6, none⟩ = some (.string (⟨#[]⟩ : ByteArray)) := (kc_ BK314.out 6).trans rfl
    have hcz46_7 : w34.cell? ⟨gb314, 7, none⟩ = some (.int .i64 0) := (kc_ BK314.out 7).trans rfl
    have hfz46_0 := kf_ BK314.out 0
    have hfz46_1 := kf_ BK314.out 1
    have hfz46_2 := kf_ BK314.out 2
    have hfz46_3 := kf_ BK314.out 3
    have hfz46_4 := kf_ BK314.out 4
    have hfz46_5 := kf_ BK314.out 5
    have hfz46_6 := kf_ BK314.out 6
    have hfz46_7 := kf_ BK314.out 7
    have hnb47 := NB290_266.out
    have hnc47 := NB266_290.out
    have hnb48 := NB290_300.out
    have hnc48 := NB300_290.out
    have hcz49_0 : w34.cell? ⟨gb290, 0, none⟩ = some (.int .i64 t277) := (kc_ BK290.out 0).trans rfl
    have hcz49_1 : w34.cell? ⟨gb290, 1, none⟩ = some (.bool t278) := (kc_ BK290.out 1).trans rfl
    have hcz49_2 : w34.cell? ⟨gb290, 2, none⟩ = some (.slice Ao23 t279.length co23) := (kc_ BK290.out 2).trans rfl
    have hcz49_3 : w34.cell? ⟨gb290, 3, none⟩ = some (.slice Ao24 t282.length co24) := (kc_ BK290.out 3).trans rfl
    have hcz49_4 : w34.cell? ⟨gb290, 4, none⟩ = some (.int .i64 t285) := (kc_ BK290.out 4).trans rfl
    have hcz49_5 : w34.cell? ⟨gb290, 5, none⟩ = some (.string t286) := (kc_ BK290.out 5).trans rfl
    have hcz49_6 : w34.cell? ⟨gb290, 6, none⟩ = some (.string t287) := (kc_ BK290.out 6).trans rfl
    have hcz49_7 : w34.cell? ⟨gb290, 7, none⟩ = some (.int .i64 t288) := (kc_ BK290.out 7).trans rfl
    have hfz49_0 := kf_ BK290.out 0
    have hfz49_1 := kf_ BK290.out 1
    have hfz49_2 := kf_ BK290.out 2
    have hfz49_3 := kf_ BK290.out 3
    have hfz49_4 := kf_ BK290.out 4
    have hfz49_5 := kf_ BK290.out 5
    have hfz49_6 := kf_ BK290.out 6
    have hfz49_7 := kf_ BK290.out 7
    go_wp2_with (first|((with_reducible refine gc_ (f := 19) rfl ?_); refine goesL_ (some 34) rfl rfl Try.func19 (by kernel_rfl) rfl #[.agg #[.int .i64 t301, .bool t302, .slice Ao39 t303.length co39, .slice Ao40 t306.length co40, .int .i64 t309, .string t310, .string t311, .int .i64 t312], .agg #[.int .i64 t277, .bool t278, .slice Ao23 t279.length co23, .slice Ao24 t282.length co24, .int .i64 t285, .string t286, .string t287, .int .i64 t288]] rfl (by (try simp only [ma_, mc_, mn_]); first|done|rfl) ?_; (with_reducible refine (laws_eqConsole.calls k t301 t302 _ _ t303 _ _ t306 t309 t310 t311 t312 t277 t278 _ _ t279 _ _ t282 t285 t286 t287 t288 true _ ?side1 ?side2 ?side3 ?side4 ?side5 ?side6 ?side7 ?side8 A41.out).mono ?_); (case side1 => refine (rr_ (e := 3) (base := w.heap.size) (ok := fun k_ => ((((((nb_ (.slice Ao40 t306.length co40) k_ ∧ nb_ (.slice Ao17 t270.length co17) k_) ∧ nb_ (.slice Ao18 t273.length co18) k_) ∧ nb_ (.slice Ao23 t279.length co23) k_) ∧ nb_ (.slice Ao24 t282.length co24) k_) ∧ nb_ (.slice Ao31 t293.length co31) k_) ∧ nb_ (.slice Ao32 t296.length co32) k_)) (n := t303.length) (c := co39) ?_).2.2; exact (by (with_reducible repeat (first|apply ra_|apply rn_|apply rd_)); exact (Kd.R_mono (rf_ (rf_ (rf_ (rf_ (rf_ (rf_ (rf_ (rf_ (Kd.R_types HO305.out BK314.out (by decide)) k2_ _) k2_ _) k2_ _) k2_ _) k2_ _) k2_ _) k2_ _) k2_ _) (fun _ h_ => h_.1)))); (case side2 => exact (rr_ HO305.out).2.1); (case side3 => refine (rr_ (e := 3) (base := w.heap.size) (ok := fun k_ => ((((((nb_ (.slice Ao39 t303.length co39) k_ ∧ nb_ (.slice Ao17 t270.length co17) k_) ∧ nb_ (.slice Ao18 t273.length co18) k_) ∧ nb_ (.slice Ao23 t279.length co23) k_) ∧ nb_ (.slice Ao24 t282.length co24) k_) ∧ nb_ (.slice Ao31 t293.length co31) k_) ∧ nb_ (.slice Ao32 t296.length co32) k_)) (n := t306.length) (c := co40) ?_).2.2; exact (by (with_reducible repeat (first|apply ra_|apply rn_|apply rd_)); exact (Kd.R_mono (rf_ (rf_ (rf_ (rf_ (rf_ (rf_ (rf_ (rf_ (Kd.R_types HO308.out BK314.out (by decide)) k2_ _) k2_ _) k2_ _) k2_ _) k2_ _) k2_ _) k2_ _) k2_ _) (fun _ h_ => h_.1)))); (case side4 => exact (rr_ HO308.out).2.1); (case side5 => refine (rr_ (e := 3) (base := w.heap.size) (ok := fun k_ => ((((((nb_ (.slice Ao24 t282.length co24) k_ ∧ nb_ (.slice Ao17 t270.length co17) k_) ∧ nb_ (.slice Ao18 t273.length co18) k_) ∧ nb_ (.slice Ao31 t293.length co31) k_) ∧ nb_ (.slice Ao32 t296.length co32) k_) ∧ nb_ (.slice Ao39 t303.length co39) k_) ∧ nb_ (.slice Ao40 t306.length co40) k_)) (n := t279.length) (c := co23) ?_).2.2; exact (by (with_reducible repeat (first|apply ra_|apply rn_|apply rd_)); exact (Kd.R_mono (rf_ (rf_ (rf_ (rf_ (rf_ (rf_ (rf_ (rf_ (Kd.R_types HO281.out BK314.out (by decide)) k2_ _) k2_ _) k2_ _) k2_ _) k2_ _) k2_ _) k2_ _) k2_ _) (fun _ h_ => h_.1)))); (case side6 => exact (rr_ HO281.out).2.1); (case side7 => refine (rr_ (e := 3) (base := w.heap.size) (ok := fun k_ => ((((((nb_ (.slice Ao23 t279.length co23) k_ ∧ nb_ (.slice Ao17 t270.length co17) k_) ∧ nb_ (.slice Ao18 t273.length co18) k_) ∧ nb_ (.slice Ao31 t293.length co31) k_) ∧ nb_ (.slice Ao32 t296.length co32) k_) ∧ nb_ (.slice Ao39 t303.length co39) k_) ∧ nb_ (.slice Ao40 t306.length co40) k_)) (n := t282.length) (c := co24) ?_).2.2; exact (by (with_reducible repeat (first|apply ra_|apply rn_|apply rd_)); exact (Kd.R_mono (rf_ (rf_ (rf_ (rf_ (rf_ (rf_ (rf_ (rf_ (Kd.R_types HO284.out BK314.out (by decide)) k2_ _) k2_ _) k2_ _) k2_ _) k2_ _) k2_ _) k2_ _) k2_ _) (fun _ h_ => h_.1)))); (case side8 => exact (rr_ HO284.out).2.1); rintro e w50 ⟨rfl, hb⟩; refine ⟨_, rfl, ?_⟩; have m0 := A0_ (Kd.R_below (by (with_reducible repeat (first|apply ra_|apply rn_|apply rd_)); exact (Kd.R_mono (rf_ (rf_ (rf_ (rf_ (rf_ (rf_ (rf_ (rf_ (Kd.R_types HO272.out BK314.out (by decide)) k2_ _) k2_ _) k2_ _) k2_ _) k2_ _) k2_ _) k2_ _) k2_ _) (fun _ h_ => h_.1))) hb); have m1 := A0_ (Kd.R_below (by (with_reducible repeat (first|apply ra_|apply rn_|apply rd_)); exact (Kd.R_mono (rf_ (rf_ (rf_ (rf_ (rf_ (rf_ (rf_ (rf_ (Kd.R_types HO275.out BK314.out (by decide)) k2_ _) k2_ _) k2_ _) k2_ _) k2_ _) k2_ _) k2_ _) k2_ _) (fun _ h_ => h_.1))) hb); have m2 := A0_ (Kd.R_below (by (with_reducible repeat (first|apply ra_|apply rn_|apply rd_)); exact (Kd.R_mono (rf_ (rf_ (rf_ (rf_ (rf_ (rf_ (rf_ (rf_ (Kd.R_types HO281.out BK314.out (by decide)) k2_ _) k2_ _) k2_ _) k2_ _) k2_ _) k2_ _) k2_ _) k2_ _) (fun _ h_ => h_.1))) hb); have m3 := A0_ (Kd.R_below (by (with_reducible repeat (first|apply ra_|apply rn_|apply rd_)); exact (Kd.R_mono (rf_ (rf_ (rf_ (rf_ (rf_ (rf_ (rf_ (rf_ (Kd.R_types HO284.out BK314.out (by decide)) k2_ _) k2_ _) k2_ _) k2_ _) k2_ _) k2_ _) k2_ _) k2_ _) (fun _ h_ => h_.1))) hb); have m4 := A0_ (Kd.R_below (by (with_reducible repeat (first|apply ra_|apply rn_|apply rd_)); exact (Kd.R_mono (rf_ (rf_ (rf_ (rf_ (rf_ (rf_ (rf_ (rf_ (Kd.R_types HO295.out BK314.out (by decide)) k2_ _) k2_ _) k2_ _) k2_ _) k2_ _) k2_ _) k2_ _) k2_ _) (fun _ h_ => h_.1))) hb); have m5 := A0_ (Kd.R_below (by (with_reducible repeat (first|apply ra_|apply rn_|apply rd_)); exact (Kd.R_mono (rf_ (rf_ (rf_ (rf_ (rf_ (rf_ (rf_ (rf_ (Kd.R_types HO298.out BK314.out (by decide)) k2_ _) k2_ _) k2_ _) k2_ _) k2_ _) k2_ _) k2_ _) k2_ _) (fun _ h_ => h_.1))) hb); have m6 := A0_ (Kd.R_below (by (with_reducible repeat (first|apply ra_|apply rn_|apply rd_)); exact (Kd.R_mono (rf_ (rf_ (rf_ (rf_ (rf_ (rf_ (rf_ (rf_ (Kd.R_types HO305.out BK314.out (by decide)) k2_ _) k2_ _) k2_ _) k2_ _) k2_ _) k2_ _) k2_ _) k2_ _) (fun _ h_ => h_.1))) hb); have m7 := A0_ (Kd.R_below (by (with_reducible repeat (first|apply ra_|apply rn_|apply rd_)); exact (Kd.R_mono (rf_ (rf_ (rf_ (rf_ (rf_ (rf_ (rf_ (rf_ (Kd.R_types HO308.out BK314.out (by decide)) k2_ _) k2_ _) k2_ _) k2_ _) k2_ _) k2_ _) k2_ _) k2_ _) (fun _ h_ => h_.1))) hb); have m8 := A0_ (kb_ (g := gb266) (o := .cells #[.int .i64 a0_0, .bool a0_1, .slice A0_2 l0_2.length c0_2, .slice A0_3 l0_3.length c0_3, .int .i64 a0_4] 26 (0, 0)) (by (with_reducible repeat (first|apply kn_|apply kd_|apply ka_)); refine blk_far ?_ NB266_314.out _; (with_reducible repeat (first|apply kn_|apply kd_|apply ka_)); refine blk_far ?_ NB266_314.out _; (with_reducible repeat (first|apply kn_|apply kd_|apply ka_)); refine blk_far ?_ NB266_314.out _; (with_reducible repeat (first|apply kn_|apply kd_|apply ka_)); refine blk_far ?_ NB266_314.out _; (with_reducible repeat (first|apply kn_|apply kd_|apply ka_)); refine blk_far ?_ NB266_314.out _; (with_reducible repeat (first|apply kn_|apply kd_|apply ka_)); refine blk_far ?_ NB266_314.out _; (with_reducible repeat (first|apply kn_|apply kd_|apply ka_)); refine blk_far ?_ NB266_314.out _; (with_reducible repeat (first|apply kn_|apply kd_|apply ka_)); refine blk_far ?_ NB266_314.out _; (with_reducible repeat (first|apply kn_|apply kd_|apply ka_)); exact BK266.out) hb); have m9 := A0_ (kb_ (g := gb290) (o := .cells #[.int .i64 t277, .bool t278, .slice Ao23 t279.length co23, .slice Ao24 t282.length co24, .int .i64 t285, .string t286, .string t287, .int .i64 t288] 43 (0, 0)) (by (with_reducible repeat (first|apply kn_|apply kd_|apply ka_)); refine blk_far ?_ NB290_314.out _; (with_reducible repeat (first|apply kn_|apply kd_|apply ka_)); refine blk_far ?_ NB290_314.out _; (with_reducible repeat (first|apply kn_|apply kd_|apply ka_)); refine blk_far ?_ NB290_314.out _; (with_reducible repeat (first|apply kn_|apply kd_|apply ka_)); refine blk_far ?_ NB290_314.out _; (with_reducible repeat (first|apply kn_|apply kd_|apply ka_)); refine blk_far ?_ NB290_314.out _; (with_reducible repeat (first|apply kn_|apply kd_|apply ka_)); refine blk_far ?_ NB290_314.out _; (with_reducible repeat (first|apply kn_|apply kd_|apply ka_)); refine blk_far ?_ NB290_314.out _; (with_reducible repeat (first|apply kn_|apply kd_|apply ka_)); refine blk_far ?_ NB290_314.out _; (with_reducible repeat (first|apply kn_|apply kd_|apply ka_)); exact BK290.out) hb); have m10 := A0_ (kb_ (g := gb300) (o := .cells #[.int .i64 t291, .bool t292, .slice Ao31 t293.length co31, .slice Ao32 t296.length co32, .int .i64 t299] 31 (0, 0)) (by (with_reducible repeat (first|apply kn_|apply kd_|apply ka_)); refine blk_far ?_ NB300_314.out _; (with_reducible repeat (first|apply kn_|apply kd_|apply ka_)); refine blk_far ?_ NB300_314.out _; (with_reducible repeat (first|apply kn_|apply kd_|apply ka_)); refine blk_far ?_ NB300_314.out _; (with_reducible repeat (first|apply kn_|apply kd_|apply ka_)); refine blk_far ?_ NB300_314.out _; (with_reducible repeat (first|apply kn_|apply kd_|apply ka_)); refine blk_far ?_ NB300_314.out _; (with_reducible repeat (first|apply kn_|apply kd_|apply ka_)); refine blk_far ?_ NB300_314.out _; (with_reducible repeat (first|apply kn_|apply kd_|apply ka_)); refine blk_far ?_ NB300_314.out _; (with_reducible repeat (first|apply kn_|apply kd_|apply ka_)); refine blk_far ?_ NB300_314.out _; (with_reducible repeat (first|apply kn_|apply kd_|apply ka_)); exact BK300.out) hb); have m11 := A0_ (kb_ (g := gb314) (o := .cells #[.int .i64 t301, .bool t302, .slice Ao39 t303.length co39, .slice Ao40 t306.length co40, .int .i64 t309, .string t310, .string t311, .int .i64 t312] 43 (0, 0)) (by (with_reducible repeat (first|apply kn_|apply kd_|apply ka_)); refine blk_put (cs := #[.int .i64 t301, .bool t302, .slice Ao39 t303.length co39, .slice Ao40 t306.length co40, .int .i64 t309, .string t310, .string t311, .int .i64 0]) ?_ 7 _ rfl; (with_reducible repeat (first|apply kn_|apply kd_|apply ka_)); refine blk_put (cs := #[.int .i64 t301, .bool t302, .slice Ao39 t303.length co39, .slice Ao40 t306.length co40, .int .i64 t309, .string t310, .string (⟨#[]⟩ : ByteArray), .int .i64 0]) ?_ 6 _ rfl; (with_reducible repeat (first|apply kn_|apply kd_|apply ka_)); refine blk_put (cs := #[.int .i64 t301, .bool t302, .slice Ao39 t303.length co39, .slice Ao40 t306.length co40, .int .i64 t309, .string (⟨#[]⟩ : ByteArray), .string (⟨#[]⟩ : ByteArray), .int .i64 0]) ?_ 5 _ rfl; (with_reducible repeat (first|apply kn_|apply kd_|apply ka_)); refine blk_put (cs := #[.int .i64 t301, .bool t302, .slice Ao39 t303.length co39, .slice Ao40 t306.length co40, .int .i64 0, .string (⟨#[]⟩ : ByteArray), .string (⟨#[]⟩ : ByteArray), .int .i64 0]) ?_ 4 _ rfl; (with_reducible repeat (first|apply kn_|apply kd_|apply ka_)); refine blk_put (cs := #[.int .i64 t301, .bool t302, .slice Ao39 t303.length co39, .slice none 0 0, .int .i64 0, .string (⟨#[]⟩ : ByteArray), .string (⟨#[]⟩ : ByteArray), .int .i64 0]) ?_ 3 _ rfl; (with_reducible repeat (first|apply kn_|apply kd_|apply ka_)); refine blk_put (cs := #[.int .i64 t301, .bool t302, .slice none 0 0, .slice none 0 0, .int .i64 0, .string (⟨#[]⟩ : ByteArray), .string (⟨#[]⟩ : ByteArray), .int .i64 0]) ?_ 2 _ rfl; (with_reducible repeat (first|apply kn_|apply kd_|apply ka_)); refine blk_put (cs := #[.int .i64 t301, .bool false, .slice none 0 0, .slice none 0 0, .int .i64 0, .string (⟨#[]⟩ : ByteArray), .string (⟨#[]⟩ : ByteArray), .int .i64 0]) ?_ 1 _ rfl; (with_reducible repeat (first|apply kn_|apply kd_|apply ka_)); refine blk_put (cs := #[.int .i64 0, .bool false, .slice none 0 0, .slice none 0 0, .int .i64 0, .string (⟨#[]⟩ : ByteArray), .string (⟨#[]⟩ : ByteArray), .int .i64 0]) ?_ 0 _ rfl; (with_reducible repeat (first|apply kn_|apply kd_|apply ka_)); exact BK314.out) hb); have m12 := A0_ (bt_ (by repeat (with_reducible first|exact HB.out|apply ba_|apply bn_|apply bd_|refine bs_ ?_ GE290.out|refine bs_ ?_ GE300.out|refine bs_ ?_ GE314.out)) hb); clear HO272 HO275 HO281 HO284 HO295 HO298 HO305 HO308 BK266 BK290 BK300 BK314 HB; have HO272 := m0; have HO275 := m1; have HO281 := m2; have HO284 := m3; have HO295 := m4; have HO298 := m5; have HO305 := m6; have HO308 := m7; have BK266 := m8; have BK290 := m9; have BK300 := m10; have BK314 := m11; have HB := m12; clear m0 m1 m2 m3 m4 m5 m6 m7 m8 m9 m10 m11 m12; (try clear hb)))
    go_meet
    case rel => exact ⟨_, ((t313 != t289)), (by first|rfl|(simp [*]; done)), H', ⟨by first|omega|exact Nat.le_refl _⟩, ⟨by (with_reducible repeat (first|apply ra_|apply rn_|apply rd_)); exact Kd.R_mono HO281.out (fun _ hk => ⟨hk.1.1.1.1.1.1, ⟨hk.1.1.1.2, ⟨hk.1.1.2, ⟨hk.1.2, hk.2⟩⟩⟩⟩)⟩, ⟨by (with_reducible repeat (first|apply ra_|apply rn_|apply rd_)); exact Kd.R_mono HO284.out (fun _ hk => ⟨hk.1.1.1.1.1.1, ⟨hk.1.1.1.2, ⟨hk.1.1.2, ⟨hk.1.2, hk.2⟩⟩⟩⟩)⟩, ⟨by (with_reducible repeat (first|apply ra_|apply rn_|apply rd_)); exact Kd.R_mono HO295.out (fun _ hk => ⟨hk.1.1.1.2, ⟨hk.1.1.2, ⟨hk.1.1.1.1.1.1, ⟨hk.1.2, hk.2⟩⟩⟩⟩)⟩, ⟨by (with_reducible repeat (first|apply ra_|apply rn_|apply rd_)); exact Kd.R_mono HO298.out (fun _ hk => ⟨hk.1.1.1.2, ⟨hk.1.1.2, ⟨hk.1.1.1.1.1.1, ⟨hk.1.2, hk.2⟩⟩⟩⟩)⟩, ⟨by (with_reducible repeat (first|apply ra_|apply rn_|apply rd_)); exact Kd.R_mono HO305.out (fun _ hk => ⟨hk.1.1.1.2, ⟨hk.1.1.2, ⟨hk.1.2, ⟨hk.2, hk.1.1.1.1.1.1⟩⟩⟩⟩)⟩, ⟨by (with_reducible repeat (first|apply ra_|apply rn_|apply rd_)); exact Kd.R_mono HO308.out (fun _ hk => ⟨hk.1.1.1.2, ⟨hk.1.1.2, ⟨hk.1.2, ⟨hk.2, hk.1.1.1.1.1.1⟩⟩⟩⟩)⟩, ⟨by (with_reducible repeat (first|apply kn_|apply kd_|apply ka_)); exact BK266.out⟩, ⟨by (with_reducible repeat (first|apply kn_|apply kd_|apply ka_)); exact BK290.out⟩, ⟨by (with_reducible repeat (first|apply kn_|apply kd_|apply ka_)); exact BK300.out⟩, ⟨by (with_reducible repeat (first|apply kn_|apply kd_|apply ka_)); exact BK314.out⟩, ⟨by repeat (with_reducible first|exact HB.out|apply ba_|apply bn_|apply bd_|refine bs_ ?_ GE290.out|refine bs_ ?_ GE300.out|refine bs_ ?_ GE314.out)⟩⟩
   ·replace c42 := bf_.mpr c42
    subst c42
    rw [if_neg (show ¬ (false = true) by decide)] at H
    have H' := A0_ H
    clear H
    have hnb51 := NB314_266.out
    have hnc51 := NB266_314.out
    have hnb52 := NB314_290.out
    have hnc52 := NB290_314.out
    have hnb53 := NB314_300.out
    have hnc53 := NB300_314.out
    have hcz54_0 : w34.cell? ⟨gb314, 0, none⟩ = some (.int .i64 0) := (kc_ BK314.out 0).trans rfl
    have hcz54_1 : w34.cell? ⟨gb314, 1, none⟩ = some (.bool false) := (kc_ BK314.out 1).trans rfl
    have hcz54_2 : w34.cell? ⟨gb314, 2, none⟩ = some (.slice none 0 0) := (kc_ BK314.out 2).trans rfl
    have hcz54_3 : w34.cell? ⟨gb314, 3, none⟩ = some (.slice none 0 0) := (kc_ BK314.out 3).trans rfl
    have hcz54_4 : w34.cell? ⟨gb314, 4, none⟩ = some (.int .i64 0) := (kc_ BK314.out 4).trans rfl
    have hcz54_5 : w34.cell? ⟨gb314, 5, none⟩ = some (.string (⟨#[]⟩ : ByteArray)) := (kc_ BK314.out 5).trans rfl
    have hcz54_6 : w34.cell? ⟨gb314, 6, none⟩ = some (.string (⟨#[]⟩ : ByteArray)) := (kc_ BK314.out 6).trans rfl
    have hcz54_7 : w34.cell? ⟨gb314, 7, none⟩ = some (.int .i64 0) := (kc_ BK314.out 7).trans rfl
    have hfz54_0 := kf_ BK314.out 0
    have hfz54_1 := kf_ BK314.out 1
    have hfz54_2 := kf_ BK314.out 2
    have hfz54_3 := kf_ BK314.out 3
    have hfz54_4 := kf_ BK314.out 4
    have hfz54_5 := kf_ BK314.out 5
    have hfz54_6 := kf_ BK314.out 6
    have hfz54_7 := kf_ BK314.out 7
    have hnb55 := NB290_266.out
    have hnc55 := NB266_290.out
    have hnb56 := NB290_300.out
    have hnc56 := NB300_290.out
    have hcz57_0 : w34.cell? ⟨gb290, 0, none⟩ = some (.int .i64 t277) := (kc_ BK290.out 0).trans rfl
    have hcz57_1 : w34.cell? ⟨gb290, 1, none⟩ = some (.bool t278) := (kc_ BK290.out 1).trans rfl
    have hcz57_2 : w34.cell? ⟨gb290, 2, none⟩ = some (.slice Ao23 t279.length co23) := (kc_ BK290.out 2).trans rfl
    have hcz57_3 : w34.cell? ⟨gb290, 3, none⟩ = some (.slice Ao24 t282.length co24) := (kc_ BK290.out 3).trans rfl
    have hcz57_4 : w34.cell? ⟨gb290, 4, none⟩ = some (.int .i64 t285) := (kc_ BK290.out 4).trans rfl
    have hcz57_5 : w34.cell? ⟨gb290, 5, none⟩ = some (.string t286) := (kc_ BK290.out 5).trans rfl
    have hcz57_6 : w34.cell? ⟨gb290, 6, none⟩ = some (.string t287) := (kc_ BK290.out 6).trans rfl
    have hcz57_7 : w34.cell? ⟨gb290, 7, none⟩ = some (.int .i64 t288) := (kc_ BK290.out 7).trans rfl
    have hfz57_0 := kf_ BK290.out 0
    have hfz57_1 := kf_ BK290.out 1
    have hfz57_2 := kf_ BK290.out 2
    have hfz57_3 := kf_ BK290.out 3
    have hfz57_4 := kf_ BK290.out 4
    have hfz57_5 := kf_ BK290.out 5
    have hfz57_6 := kf_ BK290.out 6
    have hfz57_7 := kf_ BK290.out 7
    go_wp2_with (first|((with_reducible refine gc_ (f := 19) rfl ?_); refine goesL_ (some 34) rfl rfl Try.func19 (by kernel_rfl) rfl #[.agg #[.int .i64 t301, .bool t302, .slice Ao39 t303.length co39, .slice Ao40 t306.length co40, .int .i64 t309, .string t310, .string t311, .int .i64 t312], .agg #[.int .i64 t277, .bool t278, .slice Ao23 t279.length co23, .slice Ao24 t282.length co24, .int .i64 t285, .string t286, .string t287, .int .i64 t288]] rfl (by (try simp only [ma_, mc_, mn_]); first|done|rfl) ?_; (with_reducible refine (laws_eqConsole.calls k t301 t302 _ _ t303 _ _ t306 t309 t310 t311 t312 t277 t278 _ _ t279 _ _ t282 t285 t286 t287 t288 false _ ?side1 ?side2 ?side3 ?side4 ?side5 ?side6 ?side7 ?side8 A41.out).mono ?_); (case side1 => refine (rr_ (e := 3) (base := w.heap.size) (ok := fun k_ => ((((((nb_ (.slice Ao40 t306.length co40) k_ ∧ nb_ (.slice Ao17 t270.length co17) k_) ∧ nb_ (.slice Ao18 t273.length co18) k_) ∧ nb_ (.slice Ao23 t279.length co23) k_) ∧ nb_ (.slice Ao24 t282.length co24) k_) ∧ nb_ (.slice Ao31 t293.length co31) k_) ∧ nb_ (.slice Ao32 t296.length co32) k_)) (n := t303.length) (c := co39) ?_).2.2; exact (by (with_reducible repeat (first|apply ra_|apply rn_|apply rd_)); exact (Kd.R_mono (rf_ (rf_ (rf_ (rf_ (rf_ (rf_ (rf_ (rf_ (Kd.R_types HO305.out BK314.out (by decide)) k2_ _) k2_ _) k2_ _) k2_ _) k2_ _) k2_ _) k2_ _) k2_ _) (fun _ h_ => h_.1)))); (case side2 => exact (rr_ HO305.out).2.1); (case side3 => refine (rr_ (e := 3) (base := w.heap.size) (ok := fun k_ => ((((((nb_ (.slice Ao39 t303.length co39) k_ ∧ nb_ (.slice Ao17 t270.length co17) k_) ∧ nb_ (.slice Ao18 t273.length co18) k_) ∧ nb_ (.slice Ao23 t279.length co23) k_) ∧ nb_ (.slice Ao24 t282.length co24) k_) ∧ nb_ (.slice Ao31 t293.length co31) k_) ∧ nb_ (.slice Ao32 t296.length co32) k_)) (n := t306.length) (c := co40) ?_).2.2; exact (by (with_reducible repeat (first|apply ra_|apply rn_|apply rd_)); exact (Kd.R_mono (rf_ (rf_ (rf_ (rf_ (rf_ (rf_ (rf_ (rf_ (Kd.R_types HO308.out BK314.out (by decide)) k2_ _) k2_ _) k2_ _) k2_ _) k2_ _) k2_ _) k2_ _) k2_ _) (fun _ h_ => h_.1)))); (case side4 => exact (rr_ HO308.out).2.1); (case side5 => refine (rr_ (e := 3) (base := w.heap.size) (ok := fun k_ => ((((((nb_ (.slice Ao24 t282.length co24) k_ ∧ nb_ (.slice Ao17 t270.length co17) k_) ∧ nb_ (.slice Ao18 t273.length co18) k_) ∧ nb_ (.slice Ao31 t293.length co31) k_) ∧ nb_ (.slice Ao32 t296.length co32) k_) ∧ nb_ (.slice Ao39 t303.length co39) k_) ∧ nb_ (.slice Ao40 t306.length co40) k_)) (n := t279.length) (c := co23) ?_).2.2; exact (by (with_reducible repeat (first|apply ra_|apply rn_|apply rd_)); exact (Kd.R_mono (rf_ (rf_ (rf_ (rf_ (rf_ (rf_ (rf_ (rf_ (Kd.R_types HO281.out BK314.out (by decide)) k2_ _) k2_ _) k2_ _) k2_ _) k2_ _) k2_ _) k2_ _) k2_ _) (fun _ h_ => h_.1)))); (case side6 => exact (rr_ HO281.out).2.1); (case side7 => refine (rr_ (e := 3) (base := w.heap.size) (ok := fun k_ => ((((((nb_ (.slice Ao23 t279.length co23) k_ ∧ nb_ (.slice Ao17 t270.length co17) k_) ∧ nb_ (.slice Ao18 t273.length co18) k_) ∧ nb_ (.slice Ao31 t293.length co31) k_) ∧ nb_ (.slice Ao32 t296.length co32) k_) ∧ nb_ (.slice Ao39 t303.length co39) k_) ∧ nb_ (.slice Ao40 t306.length co40) k_)) (n := t282.length) (c := co24) ?_).2.2; exact (by (with_reducible repeat (first|apply ra_|apply rn_|apply rd_)); exact (Kd.R_mono (rf_ (rf_ (rf_ (rf_ (rf_ (rf_ (rf_ (rf_ (Kd.R_types HO284.out BK314.out (by decide)) k2_ _) k2_ _) k2_ _) k2_ _) k2_ _) k2_ _) k2_ _) k2_ _) (fun _ h_ => h_.1)))); (case side8 => exact (rr_ HO284.out).2.1); rintro e w58 ⟨rfl, hb⟩; refine ⟨_, rfl, ?_⟩; have m0 := A0_ (Kd.R_below (by (with_reducible repeat (first|apply ra_|apply rn_|apply rd_)); exact (Kd.R_mono (rf_ (rf_ (rf_ (rf_ (rf_ (rf_ (rf_ (rf_ (Kd.R_types HO272.out BK314.out (by decide)) k2_ _) k2_ _) k2_ _) k2_ _) k2_ _) k2_ _) k2_ _) k2_ _) (fun _ h_ => h_.1))) hb); have m1 := A0_ (Kd.R_below (by (with_reducible repeat (first|apply ra_|apply rn_|apply rd_)); exact (Kd.R_mono (rf_ (rf_ (rf_ (rf_ (rf_ (rf_ (rf_ (rf_ (Kd.R_types HO275.out BK314.out (by decide)) k2_ _) k2_ _) k2_ _) k2_ _) k2_ _) k2_ _) k2_ _) k2_ _) (fun _ h_ => h_.1))) hb); have m2 := A0_ (Kd.R_below (by (with_reducible repeat (first|apply ra_|apply rn_|apply rd_)); exact (Kd.R_mono (rf_ (rf_ (rf_ (rf_ (rf_ (rf_ (rf_ (rf_ (Kd.R_types HO281.out BK314.out (by decide)) k2_ _) k2_ _) k2_ _) k2_ _) k2_ _) k2_ _) k2_ _) k2_ _) (fun _ h_ => h_.1))) hb); have m3 := A0_ (Kd.R_below (by (with_reducible repeat (first|apply ra_|apply rn_|apply rd_)); exact (Kd.R_mono (rf_ (rf_ (rf_ (rf_ (rf_ (rf_ (rf_ (rf_ (Kd.R_types HO284.out BK314.out (by decide)) k2_ _) k2_ _) k2_ _) k2_ _) k2_ _) k2_ _) k2_ _) k2_ _) (fun _ h_ => h_.1))) hb); have m4 := A0_ (Kd.R_below (by (with_reducible repeat (first|apply ra_|apply rn_|apply rd_)); exact (Kd.R_mono (rf_ (rf_ (rf_ (rf_ (rf_ (rf_ (rf_ (rf_ (Kd.R_types HO295.out BK314.out (by decide)) k2_ _) k2_ _) k2_ _) k2_ _) k2_ _) k2_ _) k2_ _) k2_ _) (fun _ h_ => h_.1))) hb); have m5 := A0_ (Kd.R_below (by (with_reducible repeat (first|apply ra_|apply rn_|apply rd_)); exact (Kd.R_mono (rf_ (rf_ (rf_ (rf_ (rf_ (rf_ (rf_ (rf_ (Kd.R_types HO298.out BK314.out (by decide)) k2_ _) k2_ _) k2_ _) k2_ _) k2_ _) k2_ _) k2_ _) k2_ _) (fun _ h_ => h_.1))) hb); have m6 := A0_ (Kd.R_below (by (with_reducible repeat (first|apply ra_|apply rn_|apply rd_)); exact (Kd.R_mono (rf_ (rf_ (rf_ (rf_ (rf_ (rf_ (rf_ (rf_ (Kd.R_types HO305.out BK314.out (by decide)) k2_ _) k2_ _) k2_ _) k2_ _) k2_ _) k2_ _) k2_ _) k2_ _) (fun _ h_ => h_.1))) hb); have m7 := A0_ (Kd.R_below (by (with_reducible repeat (first|apply ra_|apply rn_|apply rd_)); exact (Kd.R_mono (rf_ (rf_ (rf_ (rf_ (rf_ (rf_ (rf_ (rf_ (Kd.R_types HO308.out BK314.out (by decide)) k2_ _) k2_ _) k2_ _) k2_ _) k2_ _) k2_ _) k2_ _) k2_ _) (fun _ h_ => h_.1))) hb); have m8 := A0_ (kb_ (g := gb266) (o := .cells #[.int .i64 a0_0, .bool a0_1, .slice A0_2 l0_2.length c0_2, .slice A0_3 l0_3.length c0_3, .int .i64 a0_4] 26 (0, 0)) (by (with_reducible repeat (first|apply kn_|apply kd_|apply ka_)); refine blk_far ?_ NB266_314.out _; (with_reducible repeat (first|apply kn_|apply kd_|apply ka_)); refine blk_far ?_ NB266_314.out _; (with_reducible repeat (first|apply kn_|apply kd_|apply ka_)); refine blk_far ?_ NB266_314.out _; (with_reducible repeat (first|apply kn_|apply kd_|apply ka_)); refine blk_far ?_ NB266_314.out _; (with_reducible repeat (first|apply kn_|apply kd_|apply ka_)); refine blk_far ?_ NB266_314.out _; (with_reducible repeat (first|apply kn_|apply kd_|apply ka_)); refine blk_far ?_ NB266_314.out _; (with_reducible repeat (first|apply kn_|apply kd_|apply ka_)); refine blk_far ?_ NB266_314.out _; (with_reducible repeat (first|apply kn_|apply kd_|apply ka_)); refine blk_far ?_ NB266_314.out _; (with_reducible repeat (first|apply kn_|apply kd_|apply ka_)); exact BK266.out) hb); have m9 := A0_ (kb_ (g := gb290) (o := .cells #[.int .i64 t277, .bool t278, .slice Ao23 t279.length co23, .slice Ao24 t282.length co24, .int .i64 t285, .string t286, .string t287, .int .i64 t288] 43 (0, 0)) (by (with_reducible repeat (first|apply kn_|apply kd_|apply ka_)); refine blk_far ?_ NB290_314.out _; (with_reducible repeat (first|apply kn_|apply kd_|apply ka_)); refine blk_far ?_ NB290_314.out _; (with_reducible repeat (first|apply kn_|apply kd_|apply ka_)); refine blk_far ?_ NB290_314.out _; (with_reducible repeat (first|apply kn_|apply kd_|apply ka_)); refine blk_far ?_ NB290_314.out _; (with_reducible repeat (first|apply kn_|apply kd_|apply ka_)); refine blk_far ?_ NB290_314.out _; (with_reducible repeat (first|apply kn_|apply kd_|apply ka_)); refine blk_far ?_ NB290_314.out _; (with_reducible repeat (first|apply kn_|apply kd_|apply ka_)); refine blk_far ?_ NB290_314.out _; (with_reducible repeat (first|apply kn_|apply kd_|apply ka_)); refine blk_far ?_ NB290_314.out _; (with_reducible repeat (first|apply kn_|apply kd_|apply ka_)); exact BK290.out) hb); have m10 := A0_ (kb_ (g := gb300) (o := .cells #[.int .i64 t291, .bool t292, .slice Ao31 t293.length co31, .slice Ao32 t296.length co32, .int .i64 t299] 31 (0, 0)) (by (with_reducible repeat (first|apply kn_|apply kd_|apply ka_)); refine blk_far ?_ NB300_314.out _; (with_reducible repeat (first|apply kn_|apply kd_|apply ka_)); refine blk_far ?_ NB300_314.out _; (with_reducible repeat (first|apply kn_|apply kd_|apply ka_)); refine blk_far ?_ NB300_314.out _; (with_reducible repeat (first|apply kn_|apply kd_|apply ka_)); refine blk_far ?_ NB300_314.out _; (with_reducible repeat (first|apply kn_|apply kd_|apply ka_)); refine blk_far ?_ NB300_314.out _; (with_reducible repeat (first|apply kn_|apply kd_|apply ka_)); refine blk_far ?_ NB300_314.out _; (with_reducible repeat (first|apply kn_|apply kd_|apply ka_)); refine blk_far ?_ NB300_314.out _; (with_reducible repeat (first|apply kn_|apply kd_|apply ka_)); refine blk_far ?_ NB300_314.out _; (with_reducible repeat (first|apply kn_|apply kd_|apply ka_)); exact BK300.out) hb); have m11 := A0_ (kb_ (g := gb314) (o := .cells #[.int .i64 t301, .bool t302, .slice Ao39 t303.length co39, .slice Ao40 t306.length co40, .int .i64 t309, .string t310, .string t311, .int .i64 t312] 43 (0, 0)) (by (with_reducible repeat (first|apply kn_|apply kd_|apply ka_)); refine blk_put (cs := #[.int .i64 t301, .bool t302, .slice Ao39 t303.length co39, .slice Ao40 t306.length co40, .int .i64 t309, .string t310, .string t311, .int .i64 0]) ?_ 7 _ rfl; (with_reducible repeat (first|apply kn_|apply kd_|apply ka_)); refine blk_put (cs := #[.int .i64 t301, .bool t302, .slice Ao39 t303.length co39, .slice Ao40 t306.length co40, .int .i64 t309, .string t310, .string (⟨#[]⟩ : ByteArray), .int .i64 0]) ?_ 6 _ rfl; (with_reducible repeat (first|apply kn_|apply kd_|apply ka_)); refine blk_put (cs := #[.int .i64 t301, .bool t302, .slice Ao39 t303.length co39, .slice Ao40 t306.length co40, .int .i64 t309, .string (⟨#[]⟩ : ByteArray), .string (⟨#[]⟩ : ByteArray), .int .i64 0]) ?_ 5 _ rfl; (with_reducible repeat (first|apply kn_|apply kd_|apply ka_)); refine blk_put (cs := #[.int .i64 t301, .bool t302, .slice Ao39 t303.length co39, .slice Ao40 t306.length co40, .int .i64 0, .string (⟨#[]⟩ : ByteArray), .string (⟨#[]⟩ : ByteArray), .int .i64 0]) ?_ 4 _ rfl; (with_reducible repeat (first|apply kn_|apply kd_|apply ka_)); refine blk_put (cs := #[.int .i64 t301, .bool t302, .slice Ao39 t303.length co39, .slice none 0 0, .int .i64 0, .string (⟨#[]⟩ : ByteArray), .string (⟨#[]⟩ : ByteArray), .int .i64 0]) ?_ 3 _ rfl; (with_reducible repeat (first|apply kn_|apply kd_|apply ka_)); refine blk_put (cs := #[.int .i64 t301, .bool t302, .slice none 0 0, .slice none 0 0, .int .i64 0, .string (⟨#[]⟩ : ByteArray), .string (⟨#[]⟩ : ByteArray), .int .i64 0]) ?_ 2 _ rfl; (with_reducible repeat (first|apply kn_|apply kd_|apply ka_)); refine blk_put (cs := #[.int .i64 t301, .bool false, .slice none 0 0, .slice none 0 0, .int .i64 0, .string (⟨#[]⟩ : ByteArray), .string (⟨#[]⟩ : ByteArray), .int .i64 0]) ?_ 1 _ rfl; (with_reducible repeat (first|apply kn_|apply kd_|apply ka_)); refine blk_put (cs := #[.int .i64 0, .bool false, .slice none 0 0, .slice none 0 0, .int .i64 0, .string (⟨#[]⟩ : ByteArray), .string (⟨#[]⟩ : ByteArray), .int .i64 0]) ?_ 0 _ rfl; (with_reducible repeat (first|apply kn_|apply kd_|apply ka_)); exact BK314.out) hb); have m12 := A0_ (bt_ (by repeat (with_reducible first|exact HB.out|apply ba_|apply bn_|apply bd_|refine bs_ ?_ GE290.out|refine bs_ ?_ GE300.out|refine bs_ ?_ GE314.out)) hb); clear HO272 HO275 HO281 HO284 HO295 HO298 HO305 HO308 BK266 BK290 BK300 BK314 HB; have HO272 := m0; have HO275 := m1; have HO281 := m2; have HO284 := m3; have HO295 := m4; have HO298 := m5; have HO305 := m6; have HO308 := m7; have BK266 := m8; have BK290 := m9; have BK300 := m10; have BK314 := m11; have HB := m12; clear m0 m1 m2 m3 m4 m5 m6 m7 m8 m9 m10 m11 m12; (try clear hb)))
    go_meet
    case rel => exact ⟨_, (true), (by first|rfl|(simp [*]; done)), H', ⟨by first|omega|exact Nat.le_refl _⟩, ⟨by (with_reducible repeat (first|apply ra_|apply rn_|apply rd_)); exact Kd.R_mono HO281.out (fun _ hk => ⟨hk.1.1.1.1.1.1, ⟨hk.1.1.1.2, ⟨hk.1.1.2, ⟨hk.1.2, hk.2⟩⟩⟩⟩)⟩, ⟨by (with_reducible repeat (first|apply ra_|apply rn_|apply rd_)); exact Kd.R_mono HO284.out (fun _ hk => ⟨hk.1.1.1.1.1.1, ⟨hk.1.1.1.2, ⟨hk.1.1.2, ⟨hk.1.2, hk.2⟩⟩⟩⟩)⟩, ⟨by (with_reducible repeat (first|apply ra_|apply rn_|apply rd_)); exact Kd.R_mono HO295.out (fun _ hk => ⟨hk.1.1.1.2, ⟨hk.1.1.2, ⟨hk.1.1.1.1.1.1, ⟨hk.1.2, hk.2⟩⟩⟩⟩)⟩, ⟨by (with_reducible repeat (first|apply ra_|apply rn_|apply rd_)); exact Kd.R_mono HO298.out (fun _ hk => ⟨hk.1.1.1.2, ⟨hk.1.1.2, ⟨hk.1.1.1.1.1.1, ⟨hk.1.2, hk.2⟩⟩⟩⟩)⟩, ⟨by (with_reducible repeat (first|apply ra_|apply rn_|apply rd_)); exact Kd.R_mono HO305.out (fun _ hk => ⟨hk.1.1.1.2, ⟨hk.1.1.2, ⟨hk.1.2, ⟨hk.2, hk.1.1.1.1.1.1⟩⟩⟩⟩)⟩, ⟨by (with_reducible repeat (first|apply ra_|apply rn_|apply rd_)); exact Kd.R_mono HO308.out (fun _ hk => ⟨hk.1.1.1.2, ⟨hk.1.1.2, ⟨hk.1.2, ⟨hk.2, hk.1.1.1.1.1.1⟩⟩⟩⟩)⟩, ⟨by (with_reducible repeat (first|apply kn_|apply kd_|apply ka_)); exact BK266.out⟩, ⟨by (with_reducible repeat (first|apply kn_|apply kd_|apply ka_)); exact BK290.out⟩, ⟨by (with_reducible repeat (first|apply kn_|apply kd_|apply ka_)); exact BK300.out⟩, ⟨by (with_reducible repeat (first|apply kn_|apply kd_|apply ka_)); exact BK314.out⟩, ⟨by repeat (with_reducible first|exact HB.out|apply ba_|apply bn_|apply bd_|refine bs_ ?_ GE290.out|refine bs_ ?_ GE300.out|refine bs_ ?_ GE314.out)⟩⟩
  case rest =>
   clear HC11
   try clear c1
   try clear c2
   try clear p2
   try clear c3
   try clear c3b0
   try clear c4
   try clear c5
   try clear c6
   try clear c8
   try clear c17
   try clear c18
   try clear c19
   try clear c21
   try clear c28
   try clear c29
   try clear c35
   try clear c36
   try clear c37
   try clear c42
   try clear c43
   try clear c44
   try clear c45
   try clear c47
   try clear c48
   try clear c51
   try clear c52
   try clear c53
   try clear c55
   try clear c56
   try clear hcz13_0
   try clear hcz13_1
   try clear hcz13_2
   try clear hcz13_3
   try clear hcz13_4
   try clear hcz15_0
   try clear hcz15_1
   try clear hcz15_2
   try clear hcz15_3
   try clear hcz15_4
   try clear hcz22_0
   try clear hcz22_1
   try clear hcz22_2
   try clear hcz22_3
   try clear hcz22_4
   try clear hcz22_5
   try clear hcz22_6
   try clear hcz22_7
   try clear hcz25_0
   try clear hcz25_1
   try clear hcz25_2
   try clear hcz25_3
   try clear hcz25_4
   try clear hcz30_0
   try clear hcz30_1
   try clear hcz30_2
   try clear hcz30_3
   try clear hcz30_4
   try clear hcz38_0
   try clear hcz38_1
   try clear hcz38_2
   try clear hcz38_3
   try clear hcz38_4
   try clear hcz38_5
   try clear hcz38_6
   try clear hcz38_7
   try clear hcz46_0
   try clear hcz46_1
   try clear hcz46_2
   try clear hcz46_3
   try clear hcz46_4
   try clear hcz46_5
   try clear hcz46_6
   try clear hcz46_7
   try clear hcz49_0
   try clear hcz49_1
   try clear hcz49_2
   try clear hcz49_3
   try clear hcz49_4
   try clear hcz49_5
   try clear hcz49_6
   try clear hcz49_7
   try clear hcz54_0
   try clear hcz54_1
   try clear hcz54_2
   try clear hcz54_3
   try clear hcz54_4
   try clear hcz54_5
   try clear hcz54_6
   try clear hcz54_7
   try clear hcz57_0
   try clear hcz57_1
   try clear hcz57_2
   try clear hcz57_3
   try clear hcz57_4
   try clear hcz57_5
   try clear hcz57_6
   try clear hcz57_7
   try clear hcz5_0
   try clear hcz5_1
   try clear hcz5_2
   try clear hcz5_3
   try clear hcz5_4
   try clear hfz22_0
   try clear hfz22_1
   try clear hfz22_2
   try clear hfz22_3
   try clear hfz22_4
   try clear hfz22_5
   try clear hfz22_6
   try clear hfz22_7
   try clear hfz30_0
   try clear hfz30_1
   try clear hfz30_2
   try clear hfz30_3
   try clear hfz30_4
   try clear hfz38_0
   try clear hfz38_1
   try clear hfz38_2
   try clear hfz38_3
   try clear hfz38_4
   try clear hfz38_5
   try clear hfz38_6
   try clear hfz38_7
   try clear hfz46_0
   try clear hfz46_1
   try clear hfz46_2
   try clear hfz46_3
   try clear hfz46_4
   try clear hfz46_5
   try clear hfz46_6
   try clear hfz46_7
   try clear hfz49_0
   try clear hfz49_1
   try clear hfz49_2
   try clear hfz49_3
   try clear hfz49_4
   try clear hfz49_5
   try clear hfz49_6
   try clear hfz49_7
   try clear hfz54_0
   try clear hfz54_1
   try clear hfz54_2
   try clear hfz54_3
   try clear hfz54_4
   try clear hfz54_5
   try clear hfz54_6
   try clear hfz54_7
   try clear hfz57_0
   try clear hfz57_1
   try clear hfz57_2
   try clear hfz57_3
   try clear hfz57_4
   try clear hfz57_5
   try clear hfz57_6
   try clear hfz57_7
   obtain ⟨kq, x40_10, rfl, HA, HJ10, HO_291002, HO_291003, HO_301002, HO_301003, HO_315002, HO_315003, BK266, BK290, BK300, BK314, HB⟩ := hcut
   cases kq with
  |zero => exact absurd HA.out (by simp [j0])
  |succ kj10 =>
    have H := HA.out
    clear HA
    simp only [j0] at H
    by_cases c59 : x40_10 = true
    ·subst c59
     rw [if_pos rfl] at H
     obtain rfl := si_ H
     go_wp2
     go_ret
     exact ⟨by first|rfl|(simp [*, errW_none, errW_some] <;> rfl), by repeat (with_reducible first|exact HB.out|apply ba_|apply bn_|apply bd_|refine bs_ ?_ GE290.out|refine bs_ ?_ GE300.out|refine bs_ ?_ GE314.out)⟩
    ·replace c59 := bf_.mpr c59
     subst c59
     rw [if_neg (show ¬ (false = true) by decide)] at H
     replace H := ob_.mp H
     obtain ⟨⟨t316, t317, t318, t321, t324⟩, A600, H⟩ := H
     have A60 := A0_ A600
     clear A600
     replace H := ob_.mp H
     obtain ⟨t325, A610, H⟩ := H
     have A61 := A0_ A610
     clear A610
     by_cases c62 : t325 = true
     ·subst c62
      rw [if_pos rfl] at H
      replace H := ob_.mp H
      obtain ⟨⟨t326, t327, t328⟩, A630, H⟩ := H
      have A63 := A0_ A630
      clear A630
      have HC64 := A0_ H
      clear H
      try go_wp2
      have m0 := A0_ (rd_ HO_291002.out)
      have m1 := A0_ (rd_ HO_291003.out)
      have m2 := A0_ (rd_ HO_301002.out)
      have m3 := A0_ (rd_ HO_301003.out)
      have m4 := A0_ (rd_ HO_315002.out)
      have m5 := A0_ (rd_ HO_315003.out)
      have m6 := A0_ (kd_ BK266.out)
      have m7 := A0_ (kd_ BK290.out)
      have m8 := A0_ (kd_ BK300.out)
      have m9 := A0_ (kd_ BK314.out)
      have m10 := A0_ (bd_ HB.out)
      clear HO_291002
      clear HO_291003
      clear HO_301002
      clear HO_301003
      clear HO_315002
      clear HO_315003
      clear BK266
      clear BK290
      clear BK300
      clear BK314
      clear HB
      have HO_291002 := m0
      have HO_291003 := m1
      have HO_301002 := m2
      have HO_301003 := m3
      have HO_315002 := m4
      have HO_315003 := m5
      have BK266 := m6
      have BK290 := m7
      have BK300 := m8
      have BK314 := m9
      have HB := m10
      clear m0 m1 m2 m3 m4 m5 m6 m7 m8 m9 m10
      refine start_ (n := 5) (S := fun w' => w'.cell? ⟨gb300, 0, none⟩ = some (.int .i64 t291) ∧ w'.cell? ⟨gb300, 1, none⟩ = some (.bool t292) ∧ w'.cell? ⟨gb300, 2, none⟩ = some (.slice Ao31 t293.length co31) ∧ w'.cell? ⟨gb300, 3, none⟩ = some (.slice Ao32 t296.length co32) ∧ w'.cell? ⟨gb300, 4, none⟩ = some (.int .i64 t299) ∧ w'.cell? ⟨gb266, 0, none⟩ = some (.int .i64 a0_0) ∧ w'.cell? ⟨gb266, 1, none⟩ = some (.bool a0_1) ∧ w'.cell? ⟨gb266, 2, none⟩ = some (.slice A0_2 l0_2.length c0_2) ∧ w'.cell? ⟨gb266, 3, none⟩ = some (.slice A0_3 l0_3.length c0_3) ∧ w'.cell? ⟨gb266, 4, none⟩ = some (.int .i64 a0_4)) (ds := []) #[false, false, false, false, false] (by kernel_rfl) rfl rfl ⟨(kc_ BK300.out 0).trans rfl, (kc_ BK300.out 1).trans rfl, (kc_ BK300.out 2).trans rfl, (kc_ BK300.out 3).trans rfl, (kc_ BK300.out 4).trans rfl, (kc_ BK266.out 0).trans rfl, (kc_ BK266.out 1).trans rfl, (kc_ BK266.out 2).trans rfl, (kc_ BK266.out 3).trans rfl, (kc_ BK266.out 4).trans rfl⟩ (fun hHeld => ?_)
      generalize wc.drew = w65 at HO_291002 HO_291003 HO_301002 HO_301003 HO_315002 HO_315003 BK266 BK290 BK300 BK314 HB hHeld ⊢
      refine take_ (i := 0) (N := some 41) (v := ?_) (a' := ?_) #[true, false, false, false, false] rfl rfl (by kernel_rfl) (fun _ _ _ h => h) (Or.inl ⟨by rfl, ?_⟩) hHeld ?_ ?_
      rotate_left
      ·rintro w' ⟨s0, s1, s2, s3, s4, s5, s6, s7, s8, s9⟩
       go_simp
       with_reducible rfl
      rotate_left
      ·simp only [Act.put, sa_, sz_, ss_, i64_w, i32_w]
       rfl
      refine take_ (i := 1) (N := some 42) (v := ?_) (a' := ?_) #[true, true, false, false, false] rfl rfl (by kernel_rfl) (fun _ _ _ h => h) (Or.inl ⟨by rfl, ?_⟩) hHeld ?_ ?_
      rotate_left
      ·rintro w' ⟨s0, s1, s2, s3, s4, s5, s6, s7, s8, s9⟩
       go_simp
       with_reducible rfl
      rotate_left
      ·simp only [Act.put, sa_, sz_, ss_, i64_w, i32_w]
       rfl
      refine one_ (i := 2) (N := some 43) #[true, true, true, false, false] rfl rfl (by kernel_rfl) (by decide) (fun K hK => ?_)
      refine goes_ Try.func8 (by kernel_rfl) rfl #[.agg #[.int .i64 a0_0, .bool a0_1, .slice A0_2 l0_2.length c0_2, .slice A0_3 l0_3.length c0_3, .int .i64 a0_4]] (by rfl) rfl rfl (by (try simp only [ma_, mc_, mn_]); first|done|rfl) ?_
      with_reducible refine (laws_toHouse.calls kj10 a0_0 a0_1 _ _ l0_2 _ _ l0_3 a0_4 t316 t317 t318 t321 t324 _ ?side1 ?side2 ?side3 ?side4 A60.out).mono ?_
      (case side1 => repeat (first|exact (cb_ HR0_2.out HB.out)|(with_reducible refine ca_ ?_ _)|(with_reducible refine cn_ ?_ _)|(with_reducible refine cd_ ?_)))
      (case side2 => exact HC0_2.out)
      (case side3 => repeat (first|exact (cb_ HR0_3.out HB.out)|(with_reducible refine ca_ ?_ _)|(with_reducible refine cn_ ?_ _)|(with_reducible refine cd_ ?_)))
      (case side4 => exact HC0_3.out)
      rintro e w66 ⟨v319, v322, rfl, ho0, ho1, hb⟩
      refine ⟨_, rfl, ?_⟩
      have m0 := A0_ (Kd.R_mono (Kd.R_told (Kd.R_told (Kd.R_old (by (with_reducible repeat (first|apply ra_|apply rn_|apply rd_)); exact HO_291002.out) hb) (Kd.R_base ho0)) (Kd.R_base ho1)) (fun _ h_ => h_.1))
      have m1 := A0_ (Kd.R_mono (Kd.R_told (Kd.R_told (Kd.R_old (by (with_reducible repeat (first|apply ra_|apply rn_|apply rd_)); exact HO_291003.out) hb) (Kd.R_base ho0)) (Kd.R_base ho1)) (fun _ h_ => h_.1))
      have m2 := A0_ (Kd.R_mono (Kd.R_told (Kd.R_told (Kd.R_old (by (with_reducible repeat (first|apply ra_|apply rn_|apply rd_)); exact HO_301002.out) hb) (Kd.R_base ho0)) (Kd.R_base ho1)) (fun _ h_ => h_.1))
      have m3 := A0_ (Kd.R_mono (Kd.R_told (Kd.R_told (Kd.R_old (by (with_reducible repeat (first|apply ra_|apply rn_|apply rd_)); exact HO_301003.out) hb) (Kd.R_base ho0)) (Kd.R_base ho1)) (fun _ h_ => h_.1))
      have m4 := A0_ (Kd.R_mono (Kd.R_told (Kd.R_told (Kd.R_old (by (with_reducible repeat (first|apply ra_|apply rn_|apply rd_)); exact HO_315002.out) hb) (Kd.R_base ho0)) (Kd.R_base ho1)) (fun _ h_ => h_.1))
      have m5 := A0_ (Kd.R_mono (Kd.R_told (Kd.R_told (Kd.R_old (by (with_reducible repeat (first|apply ra_|apply rn_|apply rd_)); exact HO_315003.out) hb) (Kd.R_base ho0)) (Kd.R_base ho1)) (fun _ h_ => h_.1))
      have m6 := A0_ (Kd.R_lower (Kd.R_new' (Kd.R_new' (Kd.R_new' (Kd.R_new' (Kd.R_new' (Kd.R_new' ho0 (Kd.R_lt (by (with_reducible repeat (first|apply ra_|apply rn_|apply rd_)); exact HO_291002.out))) (Kd.R_lt (by (with_reducible repeat (first|apply ra_|apply rn_|apply rd_)); exact HO_291003.out))) (Kd.R_lt (by (with_reducible repeat (first|apply ra_|apply rn_|apply rd_)); exact HO_301002.out))) (Kd.R_lt (by (with_reducible repeat (first|apply ra_|apply rn_|apply rd_)); exact HO_301003.out))) (Kd.R_lt (by (with_reducible repeat (first|apply ra_|apply rn_|apply rd_)); exact HO_315002.out))) (Kd.R_lt (by (with_reducible repeat (first|apply ra_|apply rn_|apply rd_)); exact HO_315003.out))) (bz_ (by repeat (with_reducible first|exact HB.out|apply ba_|apply bn_|apply bd_|refine bs_ ?_ GE290.out|refine bs_ ?_ GE300.out|refine bs_ ?_ GE314.out))))
      have m7 := A0_ (Kd.R_lower (Kd.R_new' (Kd.R_new' (Kd.R_new' (Kd.R_new' (Kd.R_new' (Kd.R_new' ho1 (Kd.R_lt (by (with_reducible repeat (first|apply ra_|apply rn_|apply rd_)); exact HO_291002.out))) (Kd.R_lt (by (with_reducible repeat (first|apply ra_|apply rn_|apply rd_)); exact HO_291003.out))) (Kd.R_lt (by (with_reducible repeat (first|apply ra_|apply rn_|apply rd_)); exact HO_301002.out))) (Kd.R_lt (by (with_reducible repeat (first|apply ra_|apply rn_|apply rd_)); exact HO_301003.out))) (Kd.R_lt (by (with_reducible repeat (first|apply ra_|apply rn_|apply rd_)); exact HO_315002.out))) (Kd.R_lt (by (with_reducible repeat (first|apply ra_|apply rn_|apply rd_)); exact HO_315003.out))) (bz_ (by repeat (with_reducible first|exact HB.out|apply ba_|apply bn_|apply bd_|refine bs_ ?_ GE290.out|refine bs_ ?_ GE300.out|refine bs_ ?_ GE314.out))))
      have m8 := A0_ (kb_ (g := gb266) (o := .cells #[.int .i64 a0_0, .bool a0_1, .slice A0_2 l0_2.length c0_2, .slice A0_3 l0_3.length c0_3, .int .i64 a0_4] 26 (0, 0)) (by (with_reducible repeat (first|apply kn_|apply kd_|apply ka_)); exact BK266.out) hb)
      have m9 := A0_ (kb_ (g := gb290) (o := .cells #[.int .i64 t277, .bool t278, .slice Ao23 t279.length co23, .slice Ao24 t282.length co24, .int .i64 t285, .string t286, .string t287, .int .i64 t288] 43 (0, 0)) (by (with_reducible repeat (first|apply kn_|apply kd_|apply ka_)); exact BK290.out) hb)
      have m10 := A0_ (kb_ (g := gb300) (o := .cells #[.int .i64 t291, .bool t292, .slice Ao31 t293.length co31, .slice Ao32 t296.length co32, .int .i64 t299] 31 (0, 0)) (by (with_reducible repeat (first|apply kn_|apply kd_|apply ka_)); exact BK300.out) hb)
      have m11 := A0_ (kb_ (g := gb314) (o := .cells #[.int .i64 t301, .bool t302, .slice Ao39 t303.length co39, .slice Ao40 t306.length co40, .int .i64 t309, .string t310, .string t311, .int .i64 t312] 43 (0, 0)) (by (with_reducible repeat (first|apply kn_|apply kd_|apply ka_)); exact BK314.out) hb)
      have m12 := A0_ (bt_ (by repeat (with_reducible first|exact HB.out|apply ba_|apply bn_|apply bd_|refine bs_ ?_ GE290.out|refine bs_ ?_ GE300.out|refine bs_ ?_ GE314.out)) hb)
      clear HO_291002
      clear HO_291003
      clear HO_301002
      clear HO_301003
      clear HO_315002
      clear HO_315003
      clear BK266
      clear BK290
      clear BK300
      clear BK314
      clear HB
      have HO_291002 := m0
      have HO_291003 := m1
      have HO_301002 := m2
      have HO_301003 := m3
      have HO_315002 := m4
      have HO_315003 := m5
      have HO320 := m6
      have HO323 := m7
      have BK266 := m8
      have BK290 := m9
      have BK300 := m10
      have BK314 := m11
      have HB := m12
      clear m0 m1 m2 m3 m4 m5 m6 m7 m8 m9 m10 m11 m12
      (try clear hb)
      (try clear hb2)
      (try clear hk)
      (try clear hi)
      (try clear ho0)
      (try clear ho1)
      obtain ⟨Ao67, co67, eo67⟩ := Kd.R_slice HO320.out
      (first|subst eo67|(injection eo67 with f1_ f2_ f3_; have f4_ := f1_.symm; have f5_ := f3_.symm; clear f1_ f2_ f3_; subst f4_; subst f5_))
      obtain ⟨Ao68, co68, eo68⟩ := Kd.R_slice HO323.out
      (first|subst eo68|(injection eo68 with f1_ f2_ f3_; have f4_ := f1_.symm; have f5_ := f3_.symm; clear f1_ f2_ f3_; subst f4_; subst f5_))
      refine hK.out _ _ ⟨(kc_ BK300.out 0).trans rfl, (kc_ BK300.out 1).trans rfl, (kc_ BK300.out 2).trans rfl, (kc_ BK300.out 3).trans rfl, (kc_ BK300.out 4).trans rfl, (kc_ BK266.out 0).trans rfl, (kc_ BK266.out 1).trans rfl, (kc_ BK266.out 2).trans rfl, (kc_ BK266.out 3).trans rfl, (kc_ BK266.out 4).trans rfl⟩ (fun hHeld => ?_)
      clear hK K
      refine norm_ (a' := ?_) ?_ ?_
      rotate_left
      ·show Act.put _ (some 43) _ = _
       simp only [Act.put, sa_, sz_, ss_, i64_w, i32_w]
       rfl
      refine one_ (i := 3) (N := some 44) #[true, true, true, true, false] rfl rfl (by kernel_rfl) (by decide) (fun K hK => ?_)
      refine goes_ Try.func10 (by kernel_rfl) rfl #[.agg #[.int .i64 t291, .bool t292, .slice Ao31 t293.length co31, .slice Ao32 t296.length co32, .int .i64 t299], .agg #[.int .i64 t316, .bool t317, .slice Ao67 t318.length co67, .slice Ao68 t321.length co68, .int .i64 t324]] (by rfl) rfl rfl (by (try simp only [ma_, mc_, mn_]); first|done|rfl) ?_
      with_reducible refine (laws_eqHouse.calls kj10 t291 t292 _ _ t293 _ _ t296 t299 t316 t317 _ _ t318 _ _ t321 t324 true _ ?side1 ?side2 ?side3 ?side4 ?side5 ?side6 ?side7 ?side8 A61.out).mono ?_
      (case side1 => repeat (first|exact (rr_ HO_301002.out).2.2|(with_reducible refine ca_ ?_ _)|(with_reducible refine cn_ ?_ _)|(with_reducible refine cd_ ?_)))
      (case side2 => exact (rr_ HO_301002.out).2.1)
      (case side3 => repeat (first|exact (rr_ HO_301003.out).2.2|(with_reducible refine ca_ ?_ _)|(with_reducible refine cn_ ?_ _)|(with_reducible refine cd_ ?_)))
      (case side4 => exact (rr_ HO_301003.out).2.1)
      (case side5 => repeat (first|exact (rr_ HO320.out).2.2|(with_reducible refine ca_ ?_ _)|(with_reducible refine cn_ ?_ _)|(with_reducible refine cd_ ?_)))
      (case side6 => exact (rr_ HO320.out).2.1)
      (case side7 => repeat (first|exact (rr_ HO323.out).2.2|(with_reducible refine ca_ ?_ _)|(with_reducible refine cn_ ?_ _)|(with_reducible refine cd_ ?_)))
      (case side8 => exact (rr_ HO323.out).2.1)
      rintro e w69 ⟨rfl, hb⟩
      refine ⟨_, rfl, ?_⟩
      have m0 := A0_ (Kd.R_below (by (with_reducible repeat (first|apply ra_|apply rn_|apply rd_)); exact HO_291002.out) hb)
      have m1 := A0_ (Kd.R_below (by (with_reducible repeat (first|apply ra_|apply rn_|apply rd_)); exact HO_291003.out) hb)
      have m2 := A0_ (Kd.R_below (by (with_reducible repeat (first|apply ra_|apply rn_|apply rd_)); exact HO_301002.out) hb)
      have m3 := A0_ (Kd.R_below (by (with_reducible repeat (first|apply ra_|apply rn_|apply rd_)); exact HO_301003.out) hb)
      have m4 := A0_ (Kd.R_below (by (with_reducible repeat (first|apply ra_|apply rn_|apply rd_)); exact HO_315002.out) hb)
      have m5 := A0_ (Kd.R_below (by (with_reducible repeat (first|apply ra_|apply rn_|apply rd_)); exact HO_315003.out) hb)
      have m6 := A0_ (Kd.R_below (by (with_reducible repeat (first|apply ra_|apply rn_|apply rd_)); exact HO320.out) hb)
      have m7 := A0_ (Kd.R_below (by (with_reducible repeat (first|apply ra_|apply rn_|apply rd_)); exact HO323.out) hb)
      have m8 := A0_ (kb_ (g := gb266) (o := .cells #[.int .i64 a0_0, .bool a0_1, .slice A0_2 l0_2.length c0_2, .slice A0_3 l0_3.length c0_3, .int .i64 a0_4] 26 (0, 0)) (by (with_reducible repeat (first|apply kn_|apply kd_|apply ka_)); exact BK266.out) hb)
      have m9 := A0_ (kb_ (g := gb290) (o := .cells #[.int .i64 t277, .bool t278, .slice Ao23 t279.length co23, .slice Ao24 t282.length co24, .int .i64 t285, .string t286, .string t287, .int .i64 t288] 43 (0, 0)) (by (with_reducible repeat (first|apply kn_|apply kd_|apply ka_)); exact BK290.out) hb)
      have m10 := A0_ (kb_ (g := gb300) (o := .cells #[.int .i64 t291, .bool t292, .slice Ao31 t293.length co31, .slice Ao32 t296.length co32, .int .i64 t299] 31 (0, 0)) (by (with_reducible repeat (first|apply kn_|apply kd_|apply ka_)); exact BK300.out) hb)
      have m11 := A0_ (kb_ (g := gb314) (o := .cells #[.int .i64 t301, .bool t302, .slice Ao39 t303.length co39, .slice Ao40 t306.length co40, .int .i64 t309, .string t310, .string t311, .int .i64 t312] 43 (0, 0)) (by (with_reducible repeat (first|apply kn_|apply kd_|apply ka_)); exact BK314.out) hb)
      have m12 := A0_ (bt_ (by repeat (with_reducible first|exact HB.out|apply ba_|apply bn_|apply bd_|refine bs_ ?_ GE290.out|refine bs_ ?_ GE300.out|refine bs_ ?_ GE314.out)) hb)
      clear HO_291002
      clear HO_291003
      clear HO_301002
      clear HO_301003
      clear HO_315002
      clear HO_315003
      clear HO320
      clear HO323
      clear BK266
      clear BK290
      clear BK300
      clear BK314
      clear HB
      have HO_291002 := m0
      have HO_291003 := m1
      have HO_301002 := m2
      have HO_301003 := m3
      have HO_315002 := m4
      have HO_315003 := m5
      have HO320 := m6
      have HO323 := m7
      have BK266 := m8
      have BK290 := m9
      have BK300 := m10
      have BK314 := m11
      have HB := m12
      clear m0 m1 m2 m3 m4 m5 m6 m7 m8 m9 m10 m11 m12
      (try clear hb)
      (try clear hb2)
      (try clear hk)
      (try clear hi)
      refine hK.out _ _ ⟨(kc_ BK300.out 0).trans rfl, (kc_ BK300.out 1).trans rfl, (kc_ BK300.out 2).trans rfl, (kc_ BK300.out 3).trans rfl, (kc_ BK300.out 4).trans rfl, (kc_ BK266.out 0).trans rfl, (kc_ BK266.out 1).trans rfl, (kc_ BK266.out 2).trans rfl, (kc_ BK266.out 3).trans rfl, (kc_ BK266.out 4).trans rfl⟩ (fun hHeld => ?_)
      clear hK K
      refine norm_ (a' := ?_) ?_ ?_
      rotate_left
      ·show Act.put _ (some 44) _ = _
       simp only [Act.put, sa_, sz_, ss_, i64_w, i32_w]
       rfl
      refine pure_ (i := 4) (N := some 45) (v := ?_) (a' := ?_) #[true, true, true, true, true] rfl rfl (by kernel_rfl) (fun _ _ _ h => h) (Or.inl ⟨by rfl, ?_⟩) ?_ ?_
      rotate_left
      ·intro w'
       go_simp
       with_reducible rfl
      rotate_left
      ·simp only [Act.put, sa_, sz_, ss_, i64_w, i32_w]
       rfl
      refine done_ (by kernel_rfl) ?_
      have hnb70 := NB300_266.out
      have hnc70 := NB266_300.out
      have hnb71 := NB300_290.out
      have hnc71 := NB290_300.out
      have hnb72 := NB300_314.out
      have hnc72 := NB314_300.out
      have hcz73_0 : w69.cell? ⟨gb300, 0, none⟩ = some (.int .i64 t291) := (kc_ BK300.out 0).trans rfl
      have hcz73_1 : w69.cell? ⟨gb300, 1, none⟩ = some (.bool t292) := (kc_ BK300.out 1).trans rfl
      have hcz73_2 : w69.cell? ⟨gb300, 2, none⟩ = some (.slice Ao31 t293.length co31) := (kc_ BK300.out 2).trans rfl
      have hcz73_3 : w69.cell? ⟨gb300, 3, none⟩ = some (.slice Ao32 t296.length co32) := (kc_ BK300.out 3).trans rfl
      have hcz73_4 : w69.cell? ⟨gb300, 4, none⟩ = some (.int .i64 t299) := (kc_ BK300.out 4).trans rfl
      have hfz73_0 := kf_ BK300.out 0
      have hfz73_1 := kf_ BK300.out 1
      have hfz73_2 := kf_ BK300.out 2
      have hfz73_3 := kf_ BK300.out 3
      have hfz73_4 := kf_ BK300.out 4
      go_upto_region 14 with (first|((with_reducible refine gc_ (f := 14) rfl ?_); refine goesL_ (some 48) rfl rfl Try.func14 (by kernel_rfl) rfl #[.agg #[.int .i64 t291, .bool t292, .slice Ao31 t293.length co31, .slice Ao32 t296.length co32, .int .i64 t299], .int .i64 1] rfl (by (try simp only [ma_, mc_, mn_]); first|done|rfl) ?_; (with_reducible refine (laws_markHouse.calls kj10 t291 t292 (fun k_ => some k_ = (.slice Ao31 t293.length co31 : Value).ownBlock) (.slice Ao31 t293.length co31) t293 (fun k_ => some k_ = (.slice Ao32 t296.length co32 : Value).ownBlock) (.slice Ao32 t296.length co32) t296 t299 1 t326 t327 t328 w _ ?side1 ?side2 ?side3 ?side4 ?side5 A63.out).mono ?_); (case side1 => repeat (with_reducible first|exact HB.out|apply ba_|apply bn_|apply bd_|refine bs_ ?_ GE290.out|refine bs_ ?_ GE300.out|refine bs_ ?_ GE314.out)); (case side2 => exact Kd.R_tight rfl HO_301002.out); (case side3 => exact fun k_ e_ => (HO_301002.out.1 k_ e_.symm).1.1.2.2.1); (case side4 => exact Kd.R_tight rfl HO_301003.out); (case side5 => exact fun k_ e_ => (HO_301003.out.1 k_ e_.symm).1.1.2.2.1); rintro e w74 ⟨rfl, hy0, hy1, hb, hkp⟩; refine ⟨_, rfl, ?_⟩; have m0 := A0_ (Kd.R_mono (ok' := fun k_ => nb_ (.slice Ao24 t282.length co24) k_ ∧ nb_ (.slice Ao31 t293.length co31) k_ ∧ nb_ (.slice Ao32 t296.length co32) k_ ∧ nb_ (.slice Ao39 t303.length co39) k_ ∧ nb_ (.slice Ao40 t306.length co40) k_ ∧ nb_ (.slice Ao67 t318.length co67) k_ ∧ nb_ (.slice Ao68 t321.length co68) k_) (Kd.R_keptB (HO_291002.out) hkp (fun k_ hk_ hs_ => Or.elim hs_ (fun e_ => (hk_.1.1.2.1) e_) (fun e_ => (hk_.1.1.2.2.1) e_))) (fun k_ hk_ => ⟨hk_.1.1.1.1, hk_.1.1.1.2.1, hk_.1.1.1.2.2.1, hk_.1.1.1.2.2.2.1, hk_.1.1.1.2.2.2.2, hk_.1.1.2, hk_.1.2⟩)); have m1 := A0_ (Kd.R_mono (ok' := fun k_ => nb_ (.slice Ao23 t279.length co23) k_ ∧ nb_ (.slice Ao31 t293.length co31) k_ ∧ nb_ (.slice Ao32 t296.length co32) k_ ∧ nb_ (.slice Ao39 t303.length co39) k_ ∧ nb_ (.slice Ao40 t306.length co40) k_ ∧ nb_ (.slice Ao67 t318.length co67) k_ ∧ nb_ (.slice Ao68 t321.length co68) k_) (Kd.R_keptB (HO_291003.out) hkp (fun k_ hk_ hs_ => Or.elim hs_ (fun e_ => (hk_.1.1.2.1) e_) (fun e_ => (hk_.1.1.2.2.1) e_))) (fun k_ hk_ => ⟨hk_.1.1.1.1, hk_.1.1.1.2.1, hk_.1.1.1.2.2.1, hk_.1.1.1.2.2.2.1, hk_.1.1.1.2.2.2.2, hk_.1.1.2, hk_.1.2⟩)); have m2 := A0_ (Kd.R_reok rfl hy0 (fun k_ e_ => HO_301002.out.1 k_ e_)); have m3 := A0_ (Kd.R_reok rfl hy1 (fun k_ e_ => HO_301003.out.1 k_ e_)); have m4 := A0_ (Kd.R_mono (ok' := fun k_ => nb_ (.slice Ao23 t279.length co23) k_ ∧ nb_ (.slice Ao24 t282.length co24) k_ ∧ nb_ (.slice Ao31 t293.length co31) k_ ∧ nb_ (.slice Ao32 t296.length co32) k_ ∧ nb_ (.slice Ao40 t306.length co40) k_ ∧ nb_ (.slice Ao67 t318.length co67) k_ ∧ nb_ (.slice Ao68 t321.length co68) k_) (Kd.R_keptB (HO_315002.out) hkp (fun k_ hk_ hs_ => Or.elim hs_ (fun e_ => (hk_.1.1.2.2.1) e_) (fun e_ => (hk_.1.1.2.2.2.1) e_))) (fun k_ hk_ => ⟨hk_.1.1.1.1, hk_.1.1.1.2.1, hk_.1.1.1.2.2.1, hk_.1.1.1.2.2.2.1, hk_.1.1.1.2.2.2.2, hk_.1.1.2, hk_.1.2⟩)); have m5 := A0_ (Kd.R_mono (ok' := fun k_ => nb_ (.slice Ao23 t279.length co23) k_ ∧ nb_ (.slice Ao24 t282.length co24) k_ ∧ nb_ (.slice Ao31 t293.length co31) k_ ∧ nb_ (.slice Ao32 t296.length co32) k_ ∧ nb_ (.slice Ao39 t303.length co39) k_ ∧ nb_ (.slice Ao67 t318.length co67) k_ ∧ nb_ (.slice Ao68 t321.length co68) k_) (Kd.R_keptB (HO_315003.out) hkp (fun k_ hk_ hs_ => Or.elim hs_ (fun e_ => (hk_.1.1.2.2.1) e_) (fun e_ => (hk_.1.1.2.2.2.1) e_))) (fun k_ hk_ => ⟨hk_.1.1.1.1, hk_.1.1.1.2.1, hk_.1.1.1.2.2.1, hk_.1.1.1.2.2.2.1, hk_.1.1.1.2.2.2.2, hk_.1.1.2, hk_.1.2⟩)); have m6 := A0_ (blk_kept (by (with_reducible repeat (first|apply kn_|apply kd_|apply ka_)); exact BK266.out) hkp (fun hs_ => Or.elim hs_ (fun e_ => (fun e_ => (Kd.R_ne HO_301002.out BK266.out (by decide)) e_) e_) (fun e_ => (fun e_ => (Kd.R_ne HO_301003.out BK266.out (by decide)) e_) e_))); have m7 := A0_ (blk_kept (by (with_reducible repeat (first|apply kn_|apply kd_|apply ka_)); exact BK290.out) hkp (fun hs_ => Or.elim hs_ (fun e_ => (fun e_ => (Kd.R_ne HO_301002.out BK290.out (by decide)) e_) e_) (fun e_ => (fun e_ => (Kd.R_ne HO_301003.out BK290.out (by decide)) e_) e_))); have m8 := A0_ (blk_kept (by (with_reducible repeat (first|apply kn_|apply kd_|apply ka_)); exact BK300.out) hkp (fun hs_ => Or.elim hs_ (fun e_ => (fun e_ => (Kd.R_ne HO_301002.out BK300.out (by decide)) e_) e_) (fun e_ => (fun e_ => (Kd.R_ne HO_301003.out BK300.out (by decide)) e_) e_))); have m9 := A0_ (blk_kept (by (with_reducible repeat (first|apply kn_|apply kd_|apply ka_)); exact BK314.out) hkp (fun hs_ => Or.elim hs_ (fun e_ => (fun e_ => (Kd.R_ne HO_301002.out BK314.out (by decide)) e_) e_) (fun e_ => (fun e_ => (Kd.R_ne HO_301003.out BK314.out (by decide)) e_) e_))); have m10 := A0_ (Kd.R_mono (ok' := fun k_ => nb_ (.slice Ao23 t279.length co23) k_ ∧ nb_ (.slice Ao24 t282.length co24) k_ ∧ nb_ (.slice Ao31 t293.length co31) k_ ∧ nb_ (.slice Ao32 t296.length co32) k_ ∧ nb_ (.slice Ao39 t303.length co39) k_ ∧ nb_ (.slice Ao40 t306.length co40) k_ ∧ nb_ (.slice Ao68 t321.length co68) k_) (Kd.R_keptB (HO320.out) hkp (fun k_ hk_ hs_ => Or.elim hs_ (fun e_ => (hk_.1.1.1.2) e_) (fun e_ => (hk_.1.1.2) e_))) (fun k_ hk_ => ⟨hk_.1.1.1.1.1.1.2, hk_.1.1.1.1.1.2, hk_.1.1.1.1.2, hk_.1.1.1.2, hk_.1.1.2, hk_.1.2, hk_.1.1.1.1.1.1.1⟩)); have m11 := A0_ (Kd.R_mono (ok' := fun k_ => nb_ (.slice Ao23 t279.length co23) k_ ∧ nb_ (.slice Ao24 t282.length co24) k_ ∧ nb_ (.slice Ao31 t293.length co31) k_ ∧ nb_ (.slice Ao32 t296.length co32) k_ ∧ nb_ (.slice Ao39 t303.length co39) k_ ∧ nb_ (.slice Ao40 t306.length co40) k_ ∧ nb_ (.slice Ao67 t318.length co67) k_) (Kd.R_keptB (HO323.out) hkp (fun k_ hk_ hs_ => Or.elim hs_ (fun e_ => (hk_.1.1.1.2) e_) (fun e_ => (hk_.1.1.2) e_))) (fun k_ hk_ => ⟨hk_.1.1.1.1.1.1.2, hk_.1.1.1.1.1.2, hk_.1.1.1.1.2, hk_.1.1.1.2, hk_.1.1.2, hk_.1.2, hk_.1.1.1.1.1.1.1⟩)); have m12 := A0_ (hb); clear HO_291002 HO_291003 HO_301002 HO_301003 HO_315002 HO_315003 BK266 BK290 BK300 BK314 HO320 HO323 HB; have HO_291002 := m0; have HO_291003 := m1; have HO_301002 := m2; have HO_301003 := m3; have HO_315002 := m4; have HO_315003 := m5; have BK266 := m6; have BK290 := m7; have BK300 := m8; have BK314 := m9; have HO320 := m10; have HO323 := m11; have HB := m12; clear m0 m1 m2 m3 m4 m5 m6 m7 m8 m9 m10 m11 m12; (try clear hb); (try clear hkp); (try clear hy0); (try clear hy1)))
      (try simp only [Act.put, sa_, sz_, ss_])
      go_cut [61] (fun v61 wc => ∃ (kq : Nat) (x61_63 : Bool), v61 = .bool x61_63 ∧ Aside0 (j1 kq t289 x61_63 a0_0 a0_1 l0_2 l0_3 a0_4 t277 t278 t279 t282 t285 t286 t287 t288 t301 t302 t303 t306 t309 t310 t311 t312 = some r) ∧ Aside0 (kq ≤ kj10) ∧ Aside0 (Kd.R (Kd.int .i64) 3 wc w.heap.size (fun k_ => some k_ ≠ ((.slice Ao24 t282.length co24) : Value).ownBlock ∧ some k_ ≠ ((.slice Ao31 t293.length co31) : Value).ownBlock ∧ some k_ ≠ ((.slice Ao32 t296.length co32) : Value).ownBlock ∧ some k_ ≠ ((.slice Ao39 t303.length co39) : Value).ownBlock ∧ some k_ ≠ ((.slice Ao40 t306.length co40) : Value).ownBlock) (.slice Ao23 t279.length co23) t279) ∧ Aside0 (Kd.R (Kd.int .i64) 3 wc w.heap.size (fun k_ => some k_ ≠ ((.slice Ao23 t279.length co23) : Value).ownBlock ∧ some k_ ≠ ((.slice Ao31 t293.length co31) : Value).ownBlock ∧ some k_ ≠ ((.slice Ao32 t296.length co32) : Value).ownBlock ∧ some k_ ≠ ((.slice Ao39 t303.length co39) : Value).ownBlock ∧ some k_ ≠ ((.slice Ao40 t306.length co40) : Value).ownBlock) (.slice Ao24 t282.length co24) t282) ∧ Aside0 (Kd.R (Kd.int .i64) 3 wc w.heap.size (fun k_ => some k_ ≠ ((.slice Ao23 t279.length co23) : Value).ownBlock ∧ some k_ ≠ ((.slice Ao24 t282.length co24) : Value).ownBlock ∧ some k_ ≠ ((.slice Ao32 t296.length co32) : Value).ownBlock ∧ some k_ ≠ ((.slice Ao39 t303.length co39) : Value).ownBlock ∧ some k_ ≠ ((.slice Ao40 t306.length co40) : Value).ownBlock) (.slice Ao31 t293.length co31) t327) ∧ Aside0 (Kd.R (Kd.int .i64) 3 wc w.heap.size (fun k_ => some k_ ≠ ((.slice Ao23 t279.length co23) : Value).ownBlock ∧ some k_ ≠ ((.slice Ao24 t282.length co24) : Value).ownBlock ∧ some k_ ≠ ((.slice Ao31 t293.length co31) : Value).ownBlock ∧ some k_ ≠ ((.slice Ao39 t303.length co39) : Value).ownBlock ∧ some k_ ≠ ((.slice Ao40 t306.length co40) : Value).ownBlock) (.slice Ao32 t296.length co32) t328) ∧ Aside0 (Kd.R (Kd.int .i64) 3 wc w.heap.size (fun k_ => some k_ ≠ ((.slice Ao23 t279.length co23) : Value).ownBlock ∧ some k_ ≠ ((.slice Ao24 t282.length co24) : Value).ownBlock ∧ some k_ ≠ ((.slice Ao31 t293.length co31) : Value).ownBlock ∧ some k_ ≠ ((.slice Ao32 t296.length co32) : Value).ownBlock ∧ some k_ ≠ ((.slice Ao40 t306.length co40) : Value).ownBlock) (.slice Ao39 t303.length co39) t303) ∧ Aside0 (Kd.R (Kd.int .i64) 3 wc w.heap.size (fun k_ => some k_ ≠ ((.slice Ao23 t279.length co23) : Value).ownBlock ∧ some k_ ≠ ((.slice Ao24 t282.length co24) : Value).ownBlock ∧ some k_ ≠ ((.slice Ao31 t293.length co31) : Value).ownBlock ∧ some k_ ≠ ((.slice Ao32 t296.length co32) : Value).ownBlock ∧ some k_ ≠ ((.slice Ao39 t303.length co39) : Value).ownBlock) (.slice Ao40 t306.length co40) t306) ∧ Aside0 (wc.heap[gb266]? = some (.cells #[.int .i64 a0_0, .bool a0_1, (.slice A0_2 l0_2.length c0_2), (.slice A0_3 l0_3.length c0_3), .int .i64 a0_4] 26 (0, 0))) ∧ Aside0 (wc.heap[gb290]? = some (.cells #[.int .i64 t277, .bool t278, (.slice Ao23 t279.length co23), (.slice Ao24 t282.length co24), .int .i64 t285, .string t286, .string t287, .int .i64 t288] 43 (0, 0))) ∧ Aside0 (wc.heap[gb300]? = some (.cells #[.int .i64 t291, .bool t292, (.slice Ao31 t293.length co31), (.slice Ao32 t296.length co32), .int .i64 t299] 31 (0, 0))) ∧ Aside0 (wc.heap[gb314]? = some (.cells #[.int .i64 t301, .bool t302, (.slice Ao39 t303.length co39), (.slice Ao40 t306.length co40), .int .i64 t309, .string t310, .string t311, .int .i64 t312] 43 (0, 0))) ∧ Aside0 (Below w.heap.size w wc))
      case first =>
       have H := HC64.out
       clear HC64
       by_cases c75 : t326 < 0
       ·rw [if_pos c75] at H
        have c75b0 : decide (t326 < 0) = true := dt_ c75
        clear c75
        (first|rw [c75b0]|(simp only [i64_w, i32_w]; rw [c75b0])|skip)
        have H' := A0_ H
        clear H
        go_wp2
        go_meet
        case rel => exact ⟨_, (true), (by first|rfl|(simp [*]; done)), H', ⟨by have := HJ10.out; first|omega|exact Nat.le_refl _⟩, ⟨by (with_reducible repeat (first|apply ra_|apply rn_|apply rd_)); exact Kd.R_mono HO_291002.out (fun _ hk => ⟨hk.1, ⟨hk.2.1, ⟨hk.2.2.1, ⟨hk.2.2.2.1, hk.2.2.2.2.1⟩⟩⟩⟩)⟩, ⟨by (with_reducible repeat (first|apply ra_|apply rn_|apply rd_)); exact Kd.R_mono HO_291003.out (fun _ hk => ⟨hk.1, ⟨hk.2.1, ⟨hk.2.2.1, ⟨hk.2.2.2.1, hk.2.2.2.2.1⟩⟩⟩⟩)⟩, ⟨by (with_reducible repeat (first|apply ra_|apply rn_|apply rd_)); exact Kd.R_mono HO_301002.out (fun _ hk => ⟨hk.1.1.1, ⟨hk.1.1.2.1, ⟨hk.1.1.2.2.1, ⟨hk.1.1.2.2.2.1, hk.1.1.2.2.2.2⟩⟩⟩⟩)⟩, ⟨by (with_reducible repeat (first|apply ra_|apply rn_|apply rd_)); exact Kd.R_mono HO_301003.out (fun _ hk => ⟨hk.1.1.1, ⟨hk.1.1.2.1, ⟨hk.1.1.2.2.1, ⟨hk.1.1.2.2.2.1, hk.1.1.2.2.2.2⟩⟩⟩⟩)⟩, ⟨by (with_reducible repeat (first|apply ra_|apply rn_|apply rd_)); exact Kd.R_mono HO_315002.out (fun _ hk => ⟨hk.1, ⟨hk.2.1, ⟨hk.2.2.1, ⟨hk.2.2.2.1, hk.2.2.2.2.1⟩⟩⟩⟩)⟩, ⟨by (with_reducible repeat (first|apply ra_|apply rn_|apply rd_)); exact Kd.R_mono HO_315003.out (fun _ hk => ⟨hk.1, ⟨hk.2.1, ⟨hk.2.2.1, ⟨hk.2.2.2.1, hk.2.2.2.2.1⟩⟩⟩⟩)⟩, ⟨by (with_reducible repeat (first|apply kn_|apply kd_|apply ka_)); exact BK266.out⟩, ⟨by (with_reducible repeat (first|apply kn_|apply kd_|apply ka_)); exact BK290.out⟩, ⟨by (with_reducible repeat (first|apply kn_|apply kd_|apply ka_)); exact BK300.out⟩, ⟨by (with_reducible repeat (first|apply kn_|apply kd_|apply ka_)); exact BK314.out⟩, ⟨by repeat (with_reducible first|exact HB.out|apply ba_|apply bn_|apply bd_|refine bs_ ?_ GE290.out|refine bs_ ?_ GE300.out|refine bs_ ?_ GE314.out)⟩⟩
       ·rw [if_neg c75] at H
        have c75b0 : decide (t326 < 0) = false := decide_eq_false c75
        clear c75
        (first|rw [c75b0]|(simp only [i64_w, i32_w]; rw [c75b0])|skip)
        replace H := ob_.mp H
        obtain ⟨t329, A760, H⟩ := H
        have A76 := A0_ A760
        clear A760
        by_cases c77 : t329 = true
        ·subst c77
         rw [if_pos rfl] at H
         have H' := A0_ H
         clear H
         have hnb78 := NB314_266.out
         have hnc78 := NB266_314.out
         have hnb79 := NB314_290.out
         have hnc79 := NB290_314.out
         have hnb80 := NB314_300.out
         have hnc80 := NB300_314.out
         have hcz81_0 : w74.cell? ⟨gb314, 0, none⟩ = some (.int .i64 t301) := (kc_ BK314.out 0).trans rfl
         have hcz81_1 : w74.cell? ⟨gb314, 1, none⟩ = some (.bool t302) := (kc_ BK314.out 1).trans rfl
         have hcz81_2 : w74.cell? ⟨gb314, 2, none⟩ = some (.slice Ao39 t303.length co39) := (kc_ BK314.out 2).trans rfl
         have hcz81_3 : w74.cell? ⟨gb314, 3, none⟩ = some (.slice Ao40 t306.length co40) := (kc_ BK314.out 3).trans rfl
         have hcz81_4 : w74.cell? ⟨gb314, 4, none⟩ = some (.int .i64 t309) := (kc_ BK314.out 4).trans rfl
         have hcz81_5 : w74.cell? ⟨gb314, 5, none⟩ = some (.string t310) := (kc_ BK314.out 5).trans rfl
         have hcz81_6 : w74.cell? ⟨gb314, 6, none⟩ = some (.string t311) := (kc_ BK314.out 6).trans rfl
         have hcz81_7 : w74.cell? ⟨gb314, 7, none⟩ = some (.int .i64 t312) := (kc_ BK314.out 7).trans rfl
         have hfz81_0 := kf_ BK314.out 0
         have hfz81_1 := kf_ BK314.out 1
         have hfz81_2 := kf_ BK314.out 2
         have hfz81_3 := kf_ BK314.out 3
         have hfz81_4 := kf_ BK314.out 4
         have hfz81_5 := kf_ BK314.out 5
         have hfz81_6 := kf_ BK314.out 6
         have hfz81_7 := kf_ BK314.out 7
         have hnb82 := NB290_266.out
         have hnc82 := NB266_290.out
         have hnb83 := NB290_300.out
         have hnc83 := NB300_290.out
         have hcz84_0 : w74.cell? ⟨gb290, 0, none⟩ = some (.int .i64 t277) := (kc_ BK290.out 0).trans rfl
         have hcz84_1 : w74.cell? ⟨gb290, 1, none⟩ = some (.bool t278) := (kc_ BK290.out 1).trans rfl
         have hcz84_2 : w74.cell? ⟨gb290, 2, none⟩ = some (.slice Ao23 t279.length co23) := (kc_ BK290.out 2).trans rfl
         have hcz84_3 : w74.cell? ⟨gb290, 3, none⟩ = some (.slice Ao24 t282.length co24) := (kc_ BK290.out 3).trans rfl
         have hcz84_4 : w74.cell? ⟨gb290, 4, none⟩ = some (.int .i64 t285) := (kc_ BK290.out 4).trans rfl
         have hcz84_5 : w74.cell? ⟨gb290, 5, none⟩ = some (.string t286) := (kc_ BK290.out 5).trans rfl
         have hcz84_6 : w74.cell? ⟨gb290, 6, none⟩ = some (.string t287) := (kc_ BK290.out 6).trans rfl
         have hcz84_7 : w74.cell? ⟨gb290, 7, none⟩ = some (.int .i64 t288) := (kc_ BK290.out 7).trans rfl
         have hfz84_0 := kf_ BK290.out 0
         have hfz84_1 := kf_ BK290.out 1
         have hfz84_2 := kf_ BK290.out 2
         have hfz84_3 := kf_ BK290.out 3
         have hfz84_4 := kf_ BK290.out 4
         have hfz84_5 := kf_ BK290.out 5
         have hfz84_6 := kf_ BK290.out 6
         have hfz84_7 := kf_ BK290.out 7
         go_wp2_with (first|(go_at_call 19; (with_reducible refine (laws_eqConsole.calls kj10 t301 t302 _ _ t303 _ _ t306 t309 t310 t311 t312 t277 t278 _ _ t279 _ _ t282 t285 t286 t287 t288 true _ ?side1 ?side2 ?side3 ?side4 ?side5 ?side6 ?side7 ?side8 A76.out).mono ?_); (case side1 => repeat (first|exact (rr_ HO_315002.out).2.2|(with_reducible refine ca_ ?_ _)|(with_reducible refine cn_ ?_ _)|(with_reducible refine cd_ ?_))); (case side2 => exact (rr_ HO_315002.out).2.1); (case side3 => repeat (first|exact (rr_ HO_315003.out).2.2|(with_reducible refine ca_ ?_ _)|(with_reducible refine cn_ ?_ _)|(with_reducible refine cd_ ?_))); (case side4 => exact (rr_ HO_315003.out).2.1); (case side5 => repeat (first|exact (rr_ HO_291002.out).2.2|(with_reducible refine ca_ ?_ _)|(with_reducible refine cn_ ?_ _)|(with_reducible refine cd_ ?_))); (case side6 => exact (rr_ HO_291002.out).2.1); (case side7 => repeat (first|exact (rr_ HO_291003.out).2.2|(with_reducible refine ca_ ?_ _)|(with_reducible refine cn_ ?_ _)|(with_reducible refine cd_ ?_))); (case side8 => exact (rr_ HO_291003.out).2.1); rintro e w85 ⟨rfl, hb⟩; have m0 := A0_ (Kd.R_below (by (with_reducible repeat (first|apply ra_|apply rn_|apply rd_)); exact HO_291002.out) hb); have m1 := A0_ (Kd.R_below (by (with_reducible repeat (first|apply ra_|apply rn_|apply rd_)); exact HO_291003.out) hb); have m2 := A0_ (Kd.R_below (by (with_reducible repeat (first|apply ra_|apply rn_|apply rd_)); exact HO_301002.out) hb); have m3 := A0_ (Kd.R_below (by (with_reducible repeat (first|apply ra_|apply rn_|apply rd_)); exact HO_301003.out) hb); have m4 := A0_ (Kd.R_below (by (with_reducible repeat (first|apply ra_|apply rn_|apply rd_)); exact HO_315002.out) hb); have m5 := A0_ (Kd.R_below (by (with_reducible repeat (first|apply ra_|apply rn_|apply rd_)); exact HO_315003.out) hb); have m6 := A0_ (Kd.R_below (by (with_reducible repeat (first|apply ra_|apply rn_|apply rd_)); exact HO320.out) hb); have m7 := A0_ (Kd.R_below (by (with_reducible repeat (first|apply ra_|apply rn_|apply rd_)); exact HO323.out) hb); have m8 := A0_ (kb_ (g := gb266) (o := .cells #[.int .i64 a0_0, .bool a0_1, .slice A0_2 l0_2.length c0_2, .slice A0_3 l0_3.length c0_3, .int .i64 a0_4] 26 (0, 0)) (by (with_reducible repeat (first|apply kn_|apply kd_|apply ka_)); exact BK266.out) hb); have m9 := A0_ (kb_ (g := gb290) (o := .cells #[.int .i64 t277, .bool t278, .slice Ao23 t279.length co23, .slice Ao24 t282.length co24, .int .i64 t285, .string t286, .string t287, .int .i64 t288] 43 (0, 0)) (by (with_reducible repeat (first|apply kn_|apply kd_|apply ka_)); exact BK290.out) hb); have m10 := A0_ (kb_ (g := gb300) (o := .cells #[.int .i64 t291, .bool t292, .slice Ao31 t293.length co31, .slice Ao32 t296.length co32, .int .i64 t299] 31 (0, 0)) (by (with_reducible repeat (first|apply kn_|apply kd_|apply ka_)); exact BK300.out) hb); have m11 := A0_ (kb_ (g := gb314) (o := .cells #[.int .i64 t301, .bool t302, .slice Ao39 t303.length co39, .slice Ao40 t306.length co40, .int .i64 t309, .string t310, .string t311, .int .i64 t312] 43 (0, 0)) (by (with_reducible repeat (first|apply kn_|apply kd_|apply ka_)); exact BK314.out) hb); have m12 := A0_ (bt_ (by repeat (with_reducible first|exact HB.out|apply ba_|apply bn_|apply bd_|refine bs_ ?_ GE290.out|refine bs_ ?_ GE300.out|refine bs_ ?_ GE314.out)) hb); clear HO_291002 HO_291003 HO_301002 HO_301003 HO_315002 HO_315003 HO320 HO323 BK266 BK290 BK300 BK314 HB; have HO_291002 := m0; have HO_291003 := m1; have HO_301002 := m2; have HO_301003 := m3; have HO_315002 := m4; have HO_315003 := m5; have HO320 := m6; have HO323 := m7; have BK266 := m8; have BK290 := m9; have BK300 := m10; have BK314 := m11; have HB := m12; clear m0 m1 m2 m3 m4 m5 m6 m7 m8 m9 m10 m11 m12; (try clear hb)))
         go_meet
         case rel => exact ⟨_, ((t313 != t289)), (by first|rfl|(simp [*]; done)), H', ⟨by have := HJ10.out; first|omega|exact Nat.le_refl _⟩, ⟨by (with_reducible repeat (first|apply ra_|apply rn_|apply rd_)); exact Kd.R_mono HO_291002.out (fun _ hk => ⟨hk.1, ⟨hk.2.1, ⟨hk.2.2.1, ⟨hk.2.2.2.1, hk.2.2.2.2.1⟩⟩⟩⟩)⟩, ⟨by (with_reducible repeat (first|apply ra_|apply rn_|apply rd_)); exact Kd.R_mono HO_291003.out (fun _ hk => ⟨hk.1, ⟨hk.2.1, ⟨hk.2.2.1, ⟨hk.2.2.2.1, hk.2.2.2.2.1⟩⟩⟩⟩)⟩, ⟨by (with_reducible repeat (first|apply ra_|apply rn_|apply rd_)); exact Kd.R_mono HO_301002.out (fun _ hk => ⟨hk.1.1.1, ⟨hk.1.1.2.1, ⟨hk.1.1.2.2.1, ⟨hk.1.1.2.2.2.1, hk.1.1.2.2.2.2⟩⟩⟩⟩)⟩, ⟨by (with_reducible repeat (first|apply ra_|apply rn_|apply rd_)); exact Kd.R_mono HO_301003.out (fun _ hk => ⟨hk.1.1.1, ⟨hk.1.1.2.1, ⟨hk.1.1.2.2.1, ⟨hk.1.1.2.2.2.1, hk.1.1.2.2.2.2⟩⟩⟩⟩)⟩, ⟨by (with_reducible repeat (first|apply ra_|apply rn_|apply rd_)); exact Kd.R_mono HO_315002.out (fun _ hk => ⟨hk.1, ⟨hk.2.1, ⟨hk.2.2.1, ⟨hk.2.2.2.1, hk.2.2.2.2.1⟩⟩⟩⟩)⟩, ⟨by (with_reducible repeat (first|apply ra_|apply rn_|apply rd_)); exact Kd.R_mono HO_315003.out (fun _ hk => ⟨hk.1, ⟨hk.2.1, ⟨hk.2.2.1, ⟨hk.2.2.2.1, hk.2.2.2.2.1⟩⟩⟩⟩)⟩, ⟨by (with_reducible repeat (first|apply kn_|apply kd_|apply ka_)); exact BK266.out⟩, ⟨by (with_reducible repeat (first|apply kn_|apply kd_|apply ka_)); exact BK290.out⟩, ⟨by (with_reducible repeat (first|apply kn_|apply kd_|apply ka_)); exact BK300.out⟩, ⟨by (with_reducible repeat (first|apply kn_|apply kd_|apply ka_)); exact BK314.out⟩, ⟨by repeat (with_reducible first|exact HB.out|apply ba_|apply bn_|apply bd_|refine bs_ ?_ GE290.out|refine bs_ ?_ GE300.out|refine bs_ ?_ GE314.out)⟩⟩
        ·replace c77 := bf_.mpr c77
         subst c77
         rw [if_neg (show ¬ (false = true) by decide)] at H
         have H' := A0_ H
         clear H
         have hnb86 := NB314_266.out
         have hnc86 := NB266_314.out
         have hnb87 := NB314_290.out
         have hnc87 := NB290_314.out
         have hnb88 := NB314_300.out
         have hnc88 := NB300_314.out
         have hcz89_0 : w74.cell? ⟨gb314, 0, none⟩ = some (.int .i64 t301) := (kc_ BK314.out 0).trans rfl
         have hcz89_1 : w74.cell? ⟨gb314, 1, none⟩ = some (.bool t302) := (kc_ BK314.out 1).trans rfl
         have hcz89_2 : w74.cell? ⟨gb314, 2, none⟩ = some (.slice Ao39 t303.length co39) := (kc_ BK314.out 2).trans rfl
         have hcz89_3 : w74.cell? ⟨gb314, 3, none⟩ = some (.slice Ao40 t306.length co40) := (kc_ BK314.out 3).trans rfl
         have hcz89_4 : w74.cell? ⟨gb314, 4, none⟩ = some (.int .i64 t309) := (kc_ BK314.out 4).trans rfl
         have hcz89_5 : w74.cell? ⟨gb314, 5, none⟩ = some (.string t310) := (kc_ BK314.out 5).trans rfl
         have hcz89_6 : w74.cell? ⟨gb314, 6, none⟩ = some (.string t311) := (kc_ BK314.out 6).trans rfl
         have hcz89_7 : w74.cell? ⟨gb314, 7, none⟩ = some (.int .i64 t312) := (kc_ BK314.out 7).trans rfl
         have hfz89_0 := kf_ BK314.out 0
         have hfz89_1 := kf_ BK314.out 1
         have hfz89_2 := kf_ BK314.out 2
         have hfz89_3 := kf_ BK314.out 3
         have hfz89_4 := kf_ BK314.out 4
         have hfz89_5 := kf_ BK314.out 5
         have hfz89_6 := kf_ BK314.out 6
         have hfz89_7 := kf_ BK314.out 7
         have hnb90 := NB290_266.out
         have hnc90 := NB266_290.out
         have hnb91 := NB290_300.out
         have hnc91 := NB300_290.out
         have hcz92_0 : w74.cell? ⟨gb290, 0, none⟩ = some (.int .i64 t277) := (kc_ BK290.out 0).trans rfl
         have hcz92_1 : w74.cell? ⟨gb290, 1, none⟩ = some (.bool t278) := (kc_ BK290.out 1).trans rfl
         have hcz92_2 : w74.cell? ⟨gb290, 2, none⟩ = some (.slice Ao23 t279.length co23) := (kc_ BK290.out 2).trans rfl
         have hcz92_3 : w74.cell? ⟨gb290, 3, none⟩ = some (.slice Ao24 t282.length co24) := (kc_ BK290.out 3).trans rfl
         have hcz92_4 : w74.cell? ⟨gb290, 4, none⟩ = some (.int .i64 t285) := (kc_ BK290.out 4).trans rfl
         have hcz92_5 : w74.cell? ⟨gb290, 5, none⟩ = some (.string t286) := (kc_ BK290.out 5).trans rfl
         have hcz92_6 : w74.cell? ⟨gb290, 6, none⟩ = some (.string t287) := (kc_ BK290.out 6).trans rfl
         have hcz92_7 : w74.cell? ⟨gb290, 7, none⟩ = some (.int .i64 t288) := (kc_ BK290.out 7).trans rfl
         have hfz92_0 := kf_ BK290.out 0
         have hfz92_1 := kf_ BK290.out 1
         have hfz92_2 := kf_ BK290.out 2
         have hfz92_3 := kf_ BK290.out 3
         have hfz92_4 := kf_ BK290.out 4
         have hfz92_5 := kf_ BK290.out 5
         have hfz92_6 := kf_ BK290.out 6
         have hfz92_7 := kf_ BK290.out 7
         go_wp2_with (first|(go_at_call 19; (with_reducible refine (laws_eqConsole.calls kj10 t301 t302 _ _ t303 _ _ t306 t309 t310 t311 t312 t277 t278 _ _ t279 _ _ t282 t285 t286 t287 t288 false _ ?side1 ?side2 ?side3 ?side4 ?side5 ?side6 ?side7 ?side8 A76.out).mono ?_); (case side1 => repeat (first|exact (rr_ HO_315002.out).2.2|(with_reducible refine ca_ ?_ _)|(with_reducible refine cn_ ?_ _)|(with_reducible refine cd_ ?_))); (case side2 => exact (rr_ HO_315002.out).2.1); (case side3 => repeat (first|exact (rr_ HO_315003.out).2.2|(with_reducible refine ca_ ?_ _)|(with_reducible refine cn_ ?_ _)|(with_reducible refine cd_ ?_))); (case side4 => exact (rr_ HO_315003.out).2.1); (case side5 => repeat (first|exact (rr_ HO_291002.out).2.2|(with_reducible refine ca_ ?_ _)|(with_reducible refine cn_ ?_ _)|(with_reducible refine cd_ ?_))); (case side6 => exact (rr_ HO_291002.out).2.1); (case side7 => repeat (first|exact (rr_ HO_291003.out).2.2|(with_reducible refine ca_ ?_ _)|(with_reducible refine cn_ ?_ _)|(with_reducible refine cd_ ?_))); (case side8 => exact (rr_ HO_291003.out).2.1); rintro e w93 ⟨rfl, hb⟩; have m0 := A0_ (Kd.R_below (by (with_reducible repeat (first|apply ra_|apply rn_|apply rd_)); exact HO_291002.out) hb); have m1 := A0_ (Kd.R_below (by (with_reducible repeat (first|apply ra_|apply rn_|apply rd_)); exact HO_291003.out) hb); have m2 := A0_ (Kd.R_below (by (with_reducible repeat (first|apply ra_|apply rn_|apply rd_)); exact HO_301002.out) hb); have m3 := A0_ (Kd.R_below (by (with_reducible repeat (first|apply ra_|apply rn_|apply rd_)); exact HO_301003.out) hb); have m4 := A0_ (Kd.R_below (by (with_reducible repeat (first|apply ra_|apply rn_|apply rd_)); exact HO_315002.out) hb); have m5 := A0_ (Kd.R_below (by (with_reducible repeat (first|apply ra_|apply rn_|apply rd_)); exact HO_315003.out) hb); have m6 := A0_ (Kd.R_below (by (with_reducible repeat (first|apply ra_|apply rn_|apply rd_)); exact HO320.out) hb); have m7 := A0_ (Kd.R_below (by (with_reducible repeat (first|apply ra_|apply rn_|apply rd_)); exact HO323.out) hb); have m8 := A0_ (kb_ (g := gb266) (o := .cells #[.int .i64 a0_0, .bool a0_1, .slice A0_2 l0_2.length c0_2, .slice A0_3 l0_3.length c0_3, .int .i64 a0_4] 26 (0, 0)) (by (with_reducible repeat (first|apply kn_|apply kd_|apply ka_)); exact BK266.out) hb); have m9 := A0_ (kb_ (g := gb290) (o := .cells #[.int .i64 t277, .bool t278, .slice Ao23 t279.length co23, .slice Ao24 t282.length co24, .int .i64 t285, .string t286, .string t287, .int .i64 t288] 43 (0, 0)) (by (with_reducible repeat (first|apply kn_|apply kd_|apply ka_)); exact BK290.out) hb); have m10 := A0_ (kb_ (g := gb300) (o := .cells #[.int .i64 t291, .bool t292, .slice Ao31 t293.length co31, .slice Ao32 t296.length co32, .int .i64 t299] 31 (0, 0)) (by (with_reducible repeat (first|apply kn_|apply kd_|apply ka_)); exact BK300.out) hb); have m11 := A0_ (kb_ (g := gb314) (o := .cells #[.int .i64 t301, .bool t302, .slice Ao39 t303.length co39, .slice Ao40 t306.length co40, .int .i64 t309, .string t310, .string t311, .int .i64 t312] 43 (0, 0)) (by (with_reducible repeat (first|apply kn_|apply kd_|apply ka_)); exact BK314.out) hb); have m12 := A0_ (bt_ (by repeat (with_reducible first|exact HB.out|apply ba_|apply bn_|apply bd_|refine bs_ ?_ GE290.out|refine bs_ ?_ GE300.out|refine bs_ ?_ GE314.out)) hb); clear HO_291002 HO_291003 HO_301002 HO_301003 HO_315002 HO_315003 HO320 HO323 BK266 BK290 BK300 BK314 HB; have HO_291002 := m0; have HO_291003 := m1; have HO_301002 := m2; have HO_301003 := m3; have HO_315002 := m4; have HO_315003 := m5; have HO320 := m6; have HO323 := m7; have BK266 := m8; have BK290 := m9; have BK300 := m10; have BK314 := m11; have HB := m12; clear m0 m1 m2 m3 m4 m5 m6 m7 m8 m9 m10 m11 m12; (try clear hb)))
         go_meet
         case rel => exact ⟨_, (true), (by first|rfl|(simp [*]; done)), H', ⟨by have := HJ10.out; first|omega|exact Nat.le_refl _⟩, ⟨by (with_reducible repeat (first|apply ra_|apply rn_|apply rd_)); exact Kd.R_mono HO_291002.out (fun _ hk => ⟨hk.1, ⟨hk.2.1, ⟨hk.2.2.1, ⟨hk.2.2.2.1, hk.2.2.2.2.1⟩⟩⟩⟩)⟩, ⟨by (with_reducible repeat (first|apply ra_|apply rn_|apply rd_)); exact Kd.R_mono HO_291003.out (fun _ hk => ⟨hk.1, ⟨hk.2.1, ⟨hk.2.2.1, ⟨hk.2.2.2.1, hk.2.2.2.2.1⟩⟩⟩⟩)⟩, ⟨by (with_reducible repeat (first|apply ra_|apply rn_|apply rd_)); exact Kd.R_mono HO_301002.out (fun _ hk => ⟨hk.1.1.1, ⟨hk.1.1.2.1, ⟨hk.1.1.2.2.1, ⟨hk.1.1.2.2.2.1, hk.1.1.2.2.2.2⟩⟩⟩⟩)⟩, ⟨by (with_reducible repeat (first|apply ra_|apply rn_|apply rd_)); exact Kd.R_mono HO_301003.out (fun _ hk => ⟨hk.1.1.1, ⟨hk.1.1.2.1, ⟨hk.1.1.2.2.1, ⟨hk.1.1.2.2.2.1, hk.1.1.2.2.2.2⟩⟩⟩⟩)⟩, ⟨by (with_reducible repeat (first|apply ra_|apply rn_|apply rd_)); exact Kd.R_mono HO_315002.out (fun _ hk => ⟨hk.1, ⟨hk.2.1, ⟨hk.2.2.1, ⟨hk.2.2.2.1, hk.2.2.2.2.1⟩⟩⟩⟩)⟩, ⟨by (with_reducible repeat (first|apply ra_|apply rn_|apply rd_)); exact Kd.R_mono HO_315003.out (fun _ hk => ⟨hk.1, ⟨hk.2.1, ⟨hk.2.2.1, ⟨hk.2.2.2.1, hk.2.2.2.2.1⟩⟩⟩⟩)⟩, ⟨by (with_reducible repeat (first|apply kn_|apply kd_|apply ka_)); exact BK266.out⟩, ⟨by (with_reducible repeat (first|apply kn_|apply kd_|apply ka_)); exact BK290.out⟩, ⟨by (with_reducible repeat (first|apply kn_|apply kd_|apply ka_)); exact BK300.out⟩, ⟨by (with_reducible repeat (first|apply kn_|apply kd_|apply ka_)); exact BK314.out⟩, ⟨by repeat (with_reducible first|exact HB.out|apply ba_|apply bn_|apply bd_|refine bs_ ?_ GE290.out|refine bs_ ?_ GE300.out|refine bs_ ?_ GE314.out)⟩⟩
      case rest =>
       clear HC64
       try clear c1
       try clear c2
       try clear p2
       try clear c3
       try clear c3b0
       try clear c4
       try clear c5
       try clear c6
       try clear c7
       try clear c8
       try clear c9
       try clear c10
       try clear c14
       try clear c17
       try clear c18
       try clear c19
       try clear c21
       try clear c28
       try clear c29
       try clear c35
       try clear c36
       try clear c37
       try clear c42
       try clear c43
       try clear c44
       try clear c45
       try clear c47
       try clear c48
       try clear c51
       try clear c52
       try clear c53
       try clear c55
       try clear c56
       try clear c59
       try clear c62
       try clear c70
       try clear c71
       try clear c72
       try clear c75
       try clear c75b0
       try clear c77
       try clear c78
       try clear c79
       try clear c80
       try clear c82
       try clear c83
       try clear c86
       try clear c87
       try clear c88
       try clear c90
       try clear c91
       try clear hcz13_0
       try clear hcz13_1
       try clear hcz13_2
       try clear hcz13_3
       try clear hcz13_4
       try clear hcz15_0
       try clear hcz15_1
       try clear hcz15_2
       try clear hcz15_3
       try clear hcz15_4
       try clear hcz22_0
       try clear hcz22_1
       try clear hcz22_2
       try clear hcz22_3
       try clear hcz22_4
       try clear hcz22_5
       try clear hcz22_6
       try clear hcz22_7
       try clear hcz25_0
       try clear hcz25_1
       try clear hcz25_2
       try clear hcz25_3
       try clear hcz25_4
       try clear hcz30_0
       try clear hcz30_1
       try clear hcz30_2
       try clear hcz30_3
       try clear hcz30_4
       try clear hcz38_0
       try clear hcz38_1
       try clear hcz38_2
       try clear hcz38_3
       try clear hcz38_4
       try clear hcz38_5
       try clear hcz38_6
       try clear hcz38_7
       try clear hcz46_0
       try clear hcz46_1
       try clear hcz46_2
       try clear hcz46_3
       try clear hcz46_4
       try clear hcz46_5
       try clear hcz46_6
       try clear hcz46_7
       try clear hcz49_0
       try clear hcz49_1
       try clear hcz49_2
       try clear hcz49_3
       try clear hcz49_4
       try clear hcz49_5
       try clear hcz49_6
       try clear hcz49_7
       try clear hcz54_0
       try clear hcz54_1
       try clear hcz54_2
       try clear hcz54_3
       try clear hcz54_4
       try clear hcz54_5
       try clear hcz54_6
       try clear hcz54_7
       try clear hcz57_0
       try clear hcz57_1
       try clear hcz57_2
       try clear hcz57_3
       try clear hcz57_4
       try clear hcz57_5
       try clear hcz57_6
       try clear hcz57_7
       try clear hcz5_0
       try clear hcz5_1
       try clear hcz5_2
       try clear hcz5_3
       try clear hcz5_4
       try clear hcz73_0
       try clear hcz73_1
       try clear hcz73_2
       try clear hcz73_3
       try clear hcz73_4
       try clear hcz81_0
       try clear hcz81_1
       try clear hcz81_2
       try clear hcz81_3
       try clear hcz81_4
       try clear hcz81_5
       try clear hcz81_6
       try clear hcz81_7
       try clear hcz84_0
       try clear hcz84_1
       try clear hcz84_2
       try clear hcz84_3
       try clear hcz84_4
       try clear hcz84_5
       try clear hcz84_6
       try clear hcz84_7
       try clear hcz89_0
       try clear hcz89_1
       try clear hcz89_2
       try clear hcz89_3
       try clear hcz89_4
       try clear hcz89_5
       try clear hcz89_6
       try clear hcz89_7
       try clear hcz92_0
       try clear hcz92_1
       try clear hcz92_2
       try clear hcz92_3
       try clear hcz92_4
       try clear hcz92_5
       try clear hcz92_6
       try clear hcz92_7
       try clear hfz22_0
       try clear hfz22_1
       try clear hfz22_2
       try clear hfz22_3
       try clear hfz22_4
       try clear hfz22_5
       try clear hfz22_6
       try clear hfz22_7
       try clear hfz30_0
       try clear hfz30_1
       try clear hfz30_2
       try clear hfz30_3
       try clear hfz30_4
       try clear hfz38_0
       try clear hfz38_1
       try clear hfz38_2
       try clear hfz38_3
       try clear hfz38_4
       try clear hfz38_5
       try clear hfz38_6
       try clear hfz38_7
       try clear hfz46_0
       try clear hfz46_1
       try clear hfz46_2
       try clear hfz46_3
       try clear hfz46_4
       try clear hfz46_5
       try clear hfz46_6
       try clear hfz46_7
       try clear hfz49_0
       try clear hfz49_1
       try clear hfz49_2
       try clear hfz49_3
       try clear hfz49_4
       try clear hfz49_5
       try clear hfz49_6
       try clear hfz49_7
       try clear hfz54_0
       try clear hfz54_1
       try clear hfz54_2
       try clear hfz54_3
       try clear hfz54_4
       try clear hfz54_5
       try clear hfz54_6
       try clear hfz54_7
       try clear hfz57_0
       try clear hfz57_1
       try clear hfz57_2
       try clear hfz57_3
       try clear hfz57_4
       try clear hfz57_5
       try clear hfz57_6
       try clear hfz57_7
       try clear hfz73_0
       try clear hfz73_1
       try clear hfz73_2
       try clear hfz73_3
       try clear hfz73_4
       try clear hfz81_0
       try clear hfz81_1
       try clear hfz81_2
       try clear hfz81_3
       try clear hfz81_4
       try clear hfz81_5
       try clear hfz81_6
       try clear hfz81_7
       try clear hfz84_0
       try clear hfz84_1
       try clear hfz84_2
       try clear hfz84_3
       try clear hfz84_4
       try clear hfz84_5
       try clear hfz84_6
       try clear hfz84_7
       try clear hfz89_0
       try clear hfz89_1
       try clear hfz89_2
       try clear hfz89_3
       try clear hfz89_4
       try clear hfz89_5
       try clear hfz89_6
       try clear hfz89_7
       try clear hfz92_0
       try clear hfz92_1
       try clear hfz92_2
       try clear hfz92_3
       try clear hfz92_4
       try clear hfz92_5
       try clear hfz92_6
       try clear hfz92_7
       try clear p2
       obtain ⟨kq, x61_63, rfl, HA, HJ63, HO_291002, HO_291003, HO_301002, HO_301003, HO_315002, HO_315003, BK266, BK290, BK300, BK314, HB⟩ := hcut
       have hl301002_63 := (rr_ HO_301002.out).1
       rw [hl301002_63] at HO_301002
       (try simp only [hl301002_63])
       (try simp only [hl301002_63] at BK266)
       (try simp only [hl301002_63] at BK290)
       (try simp only [hl301002_63] at BK300)
       (try simp only [hl301002_63] at BK314)
       (try simp only [hl301002_63] at HO_291002)
       (try simp only [hl301002_63] at HO_291003)
       (try simp only [hl301002_63] at HO_301003)
       (try simp only [hl301002_63] at HO_315002)
       (try simp only [hl301002_63] at HO_315003)
       have hl301003_63 := (rr_ HO_301003.out).1
       rw [hl301003_63] at HO_301003
       (try simp only [hl301003_63])
       (try simp only [hl301003_63] at BK266)
       (try simp only [hl301003_63] at BK290)
       (try simp only [hl301003_63] at BK300)
       (try simp only [hl301003_63] at BK314)
       (try simp only [hl301003_63] at HO_291002)
       (try simp only [hl301003_63] at HO_291003)
       (try simp only [hl301003_63] at HO_301002)
       (try simp only [hl301003_63] at HO_315002)
       (try simp only [hl301003_63] at HO_315003)
       cases kq with
      |zero => exact absurd HA.out (by simp [j1])
      |succ kj63 =>
        have H := HA.out
        clear HA
        simp only [j1] at H
        by_cases c94 : x61_63 = true
        ·subst c94
         rw [if_pos rfl] at H
         obtain rfl := si_ H
         go_wp2
         go_ret
         exact ⟨by first|rfl|(simp [*, errW_none, errW_some] <;> rfl), by repeat (with_reducible first|exact HB.out|apply ba_|apply bn_|apply bd_|refine bs_ ?_ GE290.out|refine bs_ ?_ GE300.out|refine bs_ ?_ GE314.out)⟩
        ·replace c94 := bf_.mpr c94
         subst c94
         rw [if_neg (show ¬ (false = true) by decide)] at H
         replace H := ob_.mp H
         obtain ⟨⟨t330, t331, t332⟩, A950, H⟩ := H
         have A95 := A0_ A950
         clear A950
         replace H := ob_.mp H
         obtain ⟨t333, A960, H⟩ := H
         have A96 := A0_ A960
         clear A960
         by_cases c97 : t333 < 0
         ·rw [if_pos c97] at H
          have c97b0 : decide (t333 < 0) = true := dt_ c97
          clear c97
          obtain rfl := si_ H
          have hnb98 := NB314_266.out
          have hnc98 := NB266_314.out
          have hnb99 := NB314_290.out
          have hnc99 := NB290_314.out
          have hnb100 := NB314_300.out
          have hnc100 := NB300_314.out
          have hcz101_0 : wc.cell? ⟨gb314, 0, none⟩ = some (.int .i64 t301) := (kc_ BK314.out 0).trans rfl
          have hcz101_1 : wc.cell? ⟨gb314, 1, none⟩ = some (.bool t302) := (kc_ BK314.out 1).trans rfl
          have hcz101_2 : wc.cell? ⟨gb314, 2, none⟩ = some (.slice Ao39 t303.length co39) := (kc_ BK314.out 2).trans rfl
          have hcz101_3 : wc.cell? ⟨gb314, 3, none⟩ = some (.slice Ao40 t306.length co40) := (kc_ BK314.out 3).trans rfl
          have hcz101_4 : wc.cell? ⟨gb314, 4, none⟩ = some (.int .i64 t309) := (kc_ BK314.out 4).trans rfl
          have hcz101_5 : wc.cell? ⟨gb314, 5, none⟩ = some (.string t310) := (kc_ BK314.out 5).trans rfl
          have hcz101_6 : wc.cell? ⟨gb314, 6, none⟩ = some (.string t311) := (kc_ BK314.out 6).trans rfl
          have hcz101_7 : wc.cell? ⟨gb314, 7, none⟩ = some (.int .i64 t312) := (kc_ BK314.out 7).trans rfl
          have hfz101_0 := kf_ BK314.out 0
          have hfz101_1 := kf_ BK314.out 1
          have hfz101_2 := kf_ BK314.out 2
          have hfz101_3 := kf_ BK314.out 3
          have hfz101_4 := kf_ BK314.out 4
          have hfz101_5 := kf_ BK314.out 5
          have hfz101_6 := kf_ BK314.out 6
          have hfz101_7 := kf_ BK314.out 7
          go_wp2_with (first|((with_reducible refine gc_ (f := 20) rfl ?_); refine goesL_ (some 64) rfl rfl Try.func20 (by kernel_rfl) rfl #[.agg #[.int .i64 t301, .bool t302, .slice Ao39 t303.length co39, .slice Ao40 t306.length co40, .int .i64 t309, .string t310, .string t311, .int .i64 t312], .int .i64 1] rfl (by (try simp only [ma_, mc_, mn_]); first|done|rfl) ?_; (with_reducible refine (laws_markConsole.calls kj63 t301 t302 (fun k_ => some k_ = (.slice Ao39 t303.length co39 : Value).ownBlock) (.slice Ao39 t303.length co39) t303 (fun k_ => some k_ = (.slice Ao40 t306.length co40 : Value).ownBlock) (.slice Ao40 t306.length co40) t306 t309 t310 t311 t312 1 t330 t331 t332 w _ ?side1 ?side2 ?side3 ?side4 ?side5 A95.out).mono ?_); (case side1 => repeat (with_reducible first|exact HB.out|apply ba_|apply bn_|apply bd_|refine bs_ ?_ GE290.out|refine bs_ ?_ GE300.out|refine bs_ ?_ GE314.out)); (case side2 => exact Kd.R_tight rfl HO_315002.out); (case side3 => exact fun k_ e_ => (HO_315002.out.1 k_ e_.symm).2.2.2.2); (case side4 => exact Kd.R_tight rfl HO_315003.out); (case side5 => exact fun k_ e_ => (HO_315003.out.1 k_ e_.symm).2.2.2.2); rintro e w102 ⟨rfl, hy0, hy1, hb, hkp⟩; refine ⟨_, rfl, ?_⟩; have m0 := A0_ (Kd.R_mono (ok' := fun k_ => nb_ (.slice Ao24 t282.length co24) k_ ∧ nb_ (.slice Ao31 t327.length co31) k_ ∧ nb_ (.slice Ao32 t328.length co32) k_ ∧ nb_ (.slice Ao39 t303.length co39) k_ ∧ nb_ (.slice Ao40 t306.length co40) k_) (Kd.R_keptB (HO_291002.out) hkp (fun k_ hk_ hs_ => Or.elim hs_ (fun e_ => (hk_.2.2.2.1) e_) (fun e_ => (hk_.2.2.2.2) e_))) (fun k_ hk_ => ⟨hk_.1.1, hk_.1.2.1, hk_.1.2.2.1, hk_.1.2.2.2.1, hk_.1.2.2.2.2⟩)); have m1 := A0_ (Kd.R_mono (ok' := fun k_ => nb_ (.slice Ao23 t279.length co23) k_ ∧ nb_ (.slice Ao31 t327.length co31) k_ ∧ nb_ (.slice Ao32 t328.length co32) k_ ∧ nb_ (.slice Ao39 t303.length co39) k_ ∧ nb_ (.slice Ao40 t306.length co40) k_) (Kd.R_keptB (HO_291003.out) hkp (fun k_ hk_ hs_ => Or.elim hs_ (fun e_ => (hk_.2.2.2.1) e_) (fun e_ => (hk_.2.2.2.2) e_))) (fun k_ hk_ => ⟨hk_.1.1, hk_.1.2.1, hk_.1.2.2.1, hk_.1.2.2.2.1, hk_.1.2.2.2.2⟩)); have m2 := A0_ (Kd.R_mono (ok' := fun k_ => nb_ (.slice Ao23 t279.length co23) k_ ∧ nb_ (.slice Ao24 t282.length co24) k_ ∧ nb_ (.slice Ao32 t328.length co32) k_ ∧ nb_ (.slice Ao39 t303.length co39) k_ ∧ nb_ (.slice Ao40 t306.length co40) k_) (Kd.R_keptB (HO_301002.out) hkp (fun k_ hk_ hs_ => Or.elim hs_ (fun e_ => (hk_.2.2.2.1) e_) (fun e_ => (hk_.2.2.2.2) e_))) (fun k_ hk_ => ⟨hk_.1.1, hk_.1.2.1, hk_.1.2.2.1, hk_.1.2.2.2.1, hk_.1.2.2.2.2⟩)); have m3 := A0_ (Kd.R_mono (ok' := fun k_ => nb_ (.slice Ao23 t279.length co23) k_ ∧ nb_ (.slice Ao24 t282.length co24) k_ ∧ nb_ (.slice Ao31 t327.length co31) k_ ∧ nb_ (.slice Ao39 t303.length co39) k_ ∧ nb_ (.slice Ao40 t306.length co40) k_) (Kd.R_keptB (HO_301003.out) hkp (fun k_ hk_ hs_ => Or.elim hs_ (fun e_ => (hk_.2.2.2.1) e_) (fun e_ => (hk_.2.2.2.2) e_))) (fun k_ hk_ => ⟨hk_.1.1, hk_.1.2.1, hk_.1.2.2.1, hk_.1.2.2.2.1, hk_.1.2.2.2.2⟩)); have m4 := A0_ (Kd.R_reok rfl hy0 (fun k_ e_ => HO_315002.out.1 k_ e_)); have m5 := A0_ (Kd.R_reok rfl hy1 (fun k_ e_ => HO_315003.out.1 k_ e_)); have m6 := A0_ (blk_kept (by (with_reducible repeat (first|apply kn_|apply kd_|apply ka_)); exact BK266.out) hkp (fun hs_ => Or.elim hs_ (fun e_ => (fun e_ => (Kd.R_ne HO_315002.out BK266.out (by decide)) e_) e_) (fun e_ => (fun e_ => (Kd.R_ne HO_315003.out BK266.out (by decide)) e_) e_))); have m7 := A0_ (blk_kept (by (with_reducible repeat (first|apply kn_|apply kd_|apply ka_)); exact BK290.out) hkp (fun hs_ => Or.elim hs_ (fun e_ => (fun e_ => (Kd.R_ne HO_315002.out BK290.out (by decide)) e_) e_) (fun e_ => (fun e_ => (Kd.R_ne HO_315003.out BK290.out (by decide)) e_) e_))); have m8 := A0_ (blk_kept (by (with_reducible repeat (first|apply kn_|apply kd_|apply ka_)); exact BK300.out) hkp (fun hs_ => Or.elim hs_ (fun e_ => (fun e_ => (Kd.R_ne HO_315002.out BK300.out (by decide)) e_) e_) (fun e_ => (fun e_ => (Kd.R_ne HO_315003.out BK300.out (by decide)) e_) e_))); have m9 := A0_ (blk_kept (by (with_reducible repeat (first|apply kn_|apply kd_|apply ka_)); exact BK314.out) hkp (fun hs_ => Or.elim hs_ (fun e_ => (fun e_ => (Kd.R_ne HO_315002.out BK314.out (by decide)) e_) e_) (fun e_ => (fun e_ => (Kd.R_ne HO_315003.out BK314.out (by decide)) e_) e_))); have m10 := A0_ (hb); clear HO_291002 HO_291003 HO_301002 HO_301003 HO_315002 HO_315003 BK266 BK290 BK300 BK314 HB; have HO_291002 := m0; have HO_291003 := m1; have HO_301002 := m2; have HO_301003 := m3; have HO_315002 := m4; have HO_315003 := m5; have BK266 := m6; have BK290 := m7; have BK300 := m8; have BK314 := m9; have HB := m10; clear m0 m1 m2 m3 m4 m5 m6 m7 m8 m9 m10; (try clear hb); (try clear hkp); (try clear hy0); (try clear hy1); have hcz103_0 : w102.cell? ⟨gb314, 0, none⟩ = some (.int .i64 t301) := (kc_ BK314.out 0).trans rfl; have hcz103_1 : w102.cell? ⟨gb314, 1, none⟩ = some (.bool t302) := (kc_ BK314.out 1).trans rfl; have hcz103_2 : w102.cell? ⟨gb314, 2, none⟩ = some (.slice Ao39 t303.length co39) := (kc_ BK314.out 2).trans rfl; have hcz103_3 : w102.cell? ⟨gb314, 3, none⟩ = some (.slice Ao40 t306.length co40) := (kc_ BK314.out 3).trans rfl; have hcz103_4 : w102.cell? ⟨gb314, 4, none⟩ = some (.int .i64 t309) := (kc_ BK314.out 4).trans rfl; have hcz103_5 : w102.cell? ⟨gb314, 5, none⟩ = some (.string t310) := (kc_ BK314.out 5).trans rfl; have hcz103_6 : w102.cell? ⟨gb314, 6, none⟩ = some (.string t311) := (kc_ BK314.out 6).trans rfl; have hcz103_7 : w102.cell? ⟨gb314, 7, none⟩ = some (.int .i64 t312) := (kc_ BK314.out 7).trans rfl; have hfz103_0 := kf_ BK314.out 0; have hfz103_1 := kf_ BK314.out 1; have hfz103_2 := kf_ BK314.out 2; have hfz103_3 := kf_ BK314.out 3; have hfz103_4 := kf_ BK314.out 4; have hfz103_5 := kf_ BK314.out 5; have hfz103_6 := kf_ BK314.out 6; have hfz103_7 := kf_ BK314.out 7)|((with_reducible refine gc_ (f := 21) rfl ?_); refine goesL_ (some 67) rfl rfl Try.func21 (by kernel_rfl) rfl #[.agg #[.int .i64 t301, .bool t302, .slice Ao39 t331.length co39, .slice Ao40 t332.length co40, .int .i64 t309, .string t310, .string t311, .int .i64 t312], .int .i64 1] rfl (by (try simp only [ma_, mc_, mn_]); first|done|(rw [show t331.length = t303.length from (rr_ HO_315002.out).1.symm, show t332.length = t306.length from (rr_ HO_315003.out).1.symm] <;> rfl)|rfl) ?_; (with_reducible refine (laws_heldConsole.calls kj63 t301 t302 _ _ t331 _ _ t332 t309 t310 t311 t312 1 t333 _ ?side1 ?side2 ?side3 ?side4 A96.out).mono ?_); (case side1 => repeat (first|exact (rr_ HO_315002.out).2.2|(with_reducible refine ca_ ?_ _)|(with_reducible refine cn_ ?_ _)|(with_reducible refine cd_ ?_))); (case side2 => rw [show t331.length = t303.length from (rr_ HO_315002.out).1.symm]; exact (rr_ HO_315002.out).2.1); (case side3 => repeat (first|exact (rr_ HO_315003.out).2.2|(with_reducible refine ca_ ?_ _)|(with_reducible refine cn_ ?_ _)|(with_reducible refine cd_ ?_))); (case side4 => rw [show t332.length = t306.length from (rr_ HO_315003.out).1.symm]; exact (rr_ HO_315003.out).2.1); rintro e w104 ⟨rfl, hb⟩; refine ⟨_, rfl, ?_⟩; have m0 := A0_ (Kd.R_below (by (with_reducible repeat (first|apply ra_|apply rn_|apply rd_)); exact HO_291002.out) hb); have m1 := A0_ (Kd.R_below (by (with_reducible repeat (first|apply ra_|apply rn_|apply rd_)); exact HO_291003.out) hb); have m2 := A0_ (Kd.R_below (by (with_reducible repeat (first|apply ra_|apply rn_|apply rd_)); exact HO_301002.out) hb); have m3 := A0_ (Kd.R_below (by (with_reducible repeat (first|apply ra_|apply rn_|apply rd_)); exact HO_301003.out) hb); have m4 := A0_ (Kd.R_below (by (with_reducible repeat (first|apply ra_|apply rn_|apply rd_)); exact HO_315002.out) hb); have m5 := A0_ (Kd.R_below (by (with_reducible repeat (first|apply ra_|apply rn_|apply rd_)); exact HO_315003.out) hb); have m6 := A0_ (kb_ (g := gb266) (o := .cells #[.int .i64 a0_0, .bool a0_1, .slice A0_2 l0_2.length c0_2, .slice A0_3 l0_3.length c0_3, .int .i64 a0_4] 26 (0, 0)) (by (with_reducible repeat (first|apply kn_|apply kd_|apply ka_)); exact BK266.out) hb); have m7 := A0_ (kb_ (g := gb290) (o := .cells #[.int .i64 t277, .bool t278, .slice Ao23 t279.length co23, .slice Ao24 t282.length co24, .int .i64 t285, .string t286, .string t287, .int .i64 t288] 43 (0, 0)) (by (with_reducible repeat (first|apply kn_|apply kd_|apply ka_)); exact BK290.out) hb); have m8 := A0_ (kb_ (g := gb300) (o := .cells #[.int .i64 t291, .bool t292, .slice Ao31 t327.length co31, .slice Ao32 t328.length co32, .int .i64 t299] 31 (0, 0)) (by (with_reducible repeat (first|apply kn_|apply kd_|apply ka_)); exact BK300.out) hb); have m9 := A0_ (kb_ (g := gb314) (o := .cells #[.int .i64 t301, .bool t302, .slice Ao39 t303.length co39, .slice Ao40 t306.length co40, .int .i64 t309, .string t310, .string t311, .int .i64 t312] 43 (0, 0)) (by (with_reducible repeat (first|apply kn_|apply kd_|apply ka_)); exact BK314.out) hb); have m10 := A0_ (bt_ (by repeat (with_reducible first|exact HB.out|apply ba_|apply bn_|apply bd_|refine bs_ ?_ GE290.out|refine bs_ ?_ GE300.out|refine bs_ ?_ GE314.out)) hb); clear HO_291002 HO_291003 HO_301002 HO_301003 HO_315002 HO_315003 BK266 BK290 BK300 BK314 HB; have HO_291002 := m0; have HO_291003 := m1; have HO_301002 := m2; have HO_301003 := m3; have HO_315002 := m4; have HO_315003 := m5; have BK266 := m6; have BK290 := m7; have BK300 := m8; have BK314 := m9; have HB := m10; clear m0 m1 m2 m3 m4 m5 m6 m7 m8 m9 m10; (try clear hb)))
          go_ret
          exact ⟨by first|rfl|(simp [*, errW_none, errW_some] <;> rfl), by repeat (with_reducible first|exact HB.out|apply ba_|apply bn_|apply bd_|refine bs_ ?_ GE290.out|refine bs_ ?_ GE300.out|refine bs_ ?_ GE314.out)⟩
         ·rw [if_neg c97] at H
          have c97b0 : decide (t333 < 0) = false := decide_eq_false c97
          clear c97
          by_cases c105 : t333 = t330
          ·rw [if_pos c105] at H
           have c105b0 : (t333 == t330) = true := beq_iff_eq.mpr c105
           have c105b1 : (t333 != t330) = false := bne_eq_false_iff_eq.mpr c105
           clear c105
           replace H := ob_.mp H
           obtain ⟨⟨t334, t335, t336, t339, t342⟩, A1060, H⟩ := H
           have A106 := A0_ A1060
           clear A1060
           replace H := ob_.mp H
           obtain ⟨⟨t343, t344, t345, t348, t351, t352, t353, t354, t355⟩, A1070, H⟩ := H
           have A107 := A0_ A1070
           clear A1070
           have HC108 := A0_ H
           clear H
           have hnb109 := NB314_266.out
           have hnc109 := NB266_314.out
           have hnb110 := NB314_290.out
           have hnc110 := NB290_314.out
           have hnb111 := NB314_300.out
           have hnc111 := NB300_314.out
           have hcz112_0 : wc.cell? ⟨gb314, 0, none⟩ = some (.int .i64 t301) := (kc_ BK314.out 0).trans rfl
           have hcz112_1 : wc.cell? ⟨gb314, 1, none⟩ = some (.bool t302) := (kc_ BK314.out 1).trans rfl
           have hcz112_2 : wc.cell? ⟨gb314, 2, none⟩ = some (.slice Ao39 t303.length co39) := (kc_ BK314.out 2).trans rfl
           have hcz112_3 : wc.cell? ⟨gb314, 3, none⟩ = some (.slice Ao40 t306.length co40) := (kc_ BK314.out 3).trans rfl
           have hcz112_4 : wc.cell? ⟨gb314, 4, none⟩ = some (.int .i64 t309) := (kc_ BK314.out 4).trans rfl
           have hcz112_5 : wc.cell? ⟨gb314, 5, none⟩ = some (.string t310) := (kc_ BK314.out 5).trans rfl
           have hcz112_6 : wc.cell? ⟨gb314, 6, none⟩ = some (.string t311) := (kc_ BK314.out 6).trans rfl
           have hcz112_7 : wc.cell? ⟨gb314, 7, none⟩ = some (.int .i64 t312) := (kc_ BK314.out 7).trans rfl
           have hfz112_0 := kf_ BK314.out 0
           have hfz112_1 := kf_ BK314.out 1
           have hfz112_2 := kf_ BK314.out 2
           have hfz112_3 := kf_ BK314.out 3
           have hfz112_4 := kf_ BK314.out 4
           have hfz112_5 := kf_ BK314.out 5
           have hfz112_6 := kf_ BK314.out 6
           have hfz112_7 := kf_ BK314.out 7
           go_upto_region 25 with (first|((with_reducible refine gc_ (f := 20) rfl ?_); refine goesL_ (some 64) rfl rfl Try.func20 (by kernel_rfl) rfl #[.agg #[.int .i64 t301, .bool t302, .slice Ao39 t303.length co39, .slice Ao40 t306.length co40, .int .i64 t309, .string t310, .string t311, .int .i64 t312], .int .i64 1] rfl (by (try simp only [ma_, mc_, mn_]); first|done|rfl) ?_; (with_reducible refine (laws_markConsole.calls kj63 t301 t302 (fun k_ => some k_ = (.slice Ao39 t303.length co39 : Value).ownBlock) (.slice Ao39 t303.length co39) t303 (fun k_ => some k_ = (.slice Ao40 t306.length co40 : Value).ownBlock) (.slice Ao40 t306.length co40) t306 t309 t310 t311 t312 1 t330 t331 t332 w _ ?side1 ?side2 ?side3 ?side4 ?side5 A95.out).mono ?_); (case side1 => repeat (with_reducible first|exact HB.out|apply ba_|apply bn_|apply bd_|refine bs_ ?_ GE290.out|refine bs_ ?_ GE300.out|refine bs_ ?_ GE314.out)); (case side2 => exact Kd.R_tight rfl HO_315002.out); (case side3 => exact fun k_ e_ => (HO_315002.out.1 k_ e_.symm).2.2.2.2); (case side4 => exact Kd.R_tight rfl HO_315003.out); (case side5 => exact fun k_ e_ => (HO_315003.out.1 k_ e_.symm).2.2.2.2); rintro e w113 ⟨rfl, hy0, hy1, hb, hkp⟩; refine ⟨_, rfl, ?_⟩; have m0 := A0_ (Kd.R_mono (ok' := fun k_ => nb_ (.slice Ao24 t282.length co24) k_ ∧ nb_ (.slice Ao31 t327.length co31) k_ ∧ nb_ (.slice Ao32 t328.length co32) k_ ∧ nb_ (.slice Ao39 t303.length co39) k_ ∧ nb_ (.slice Ao40 t306.length co40) k_) (Kd.R_keptB (HO_291002.out) hkp (fun k_ hk_ hs_ => Or.elim hs_ (fun e_ => (hk_.2.2.2.1) e_) (fun e_ => (hk_.2.2.2.2) e_))) (fun k_ hk_ => ⟨hk_.1.1, hk_.1.2.1, hk_.1.2.2.1, hk_.1.2.2.2.1, hk_.1.2.2.2.2⟩)); have m1 := A0_ (Kd.R_mono (ok' := fun k_ => nb_ (.slice Ao23 t279.length co23) k_ ∧ nb_ (.slice Ao31 t327.length co31) k_ ∧ nb_ (.slice Ao32 t328.length co32) k_ ∧ nb_ (.slice Ao39 t303.length co39) k_ ∧ nb_ (.slice Ao40 t306.length co40) k_) (Kd.R_keptB (HO_291003.out) hkp (fun k_ hk_ hs_ => Or.elim hs_ (fun e_ => (hk_.2.2.2.1) e_) (fun e_ => (hk_.2.2.2.2) e_))) (fun k_ hk_ => ⟨hk_.1.1, hk_.1.2.1, hk_.1.2.2.1, hk_.1.2.2.2.1, hk_.1.2.2.2.2⟩)); have m2 := A0_ (Kd.R_mono (ok' := fun k_ => nb_ (.slice Ao23 t279.length co23) k_ ∧ nb_ (.slice Ao24 t282.length co24) k_ ∧ nb_ (.slice Ao32 t328.length co32) k_ ∧ nb_ (.slice Ao39 t303.length co39) k_ ∧ nb_ (.slice Ao40 t306.length co40) k_) (Kd.R_keptB (HO_301002.out) hkp (fun k_ hk_ hs_ => Or.elim hs_ (fun e_ => (hk_.2.2.2.1) e_) (fun e_ => (hk_.2.2.2.2) e_))) (fun k_ hk_ => ⟨hk_.1.1, hk_.1.2.1, hk_.1.2.2.1, hk_.1.2.2.2.1, hk_.1.2.2.2.2⟩)); have m3 := A0_ (Kd.R_mono (ok' := fun k_ => nb_ (.slice Ao23 t279.length co23) k_ ∧ nb_ (.slice Ao24 t282.length co24) k_ ∧ nb_ (.slice Ao31 t327.length co31) k_ ∧ nb_ (.slice Ao39 t303.length co39) k_ ∧ nb_ (.slice Ao40 t306.length co40) k_) (Kd.R_keptB (HO_301003.out) hkp (fun k_ hk_ hs_ => Or.elim hs_ (fun e_ => (hk_.2.2.2.1) e_) (fun e_ => (hk_.2.2.2.2) e_))) (fun k_ hk_ => ⟨hk_.1.1, hk_.1.2.1, hk_.1.2.2.1, hk_.1.2.2.2.1, hk_.1.2.2.2.2⟩)); have m4 := A0_ (Kd.R_reok rfl hy0 (fun k_ e_ => HO_315002.out.1 k_ e_)); have m5 := A0_ (Kd.R_reok rfl hy1 (fun k_ e_ => HO_315003.out.1 k_ e_)); have m6 := A0_ (blk_kept (by (with_reducible repeat (first|apply kn_|apply kd_|apply ka_)); exact BK266.out) hkp (fun hs_ => Or.elim hs_ (fun e_ => (fun e_ => (Kd.R_ne HO_315002.out BK266.out (by decide)) e_) e_) (fun e_ => (fun e_ => (Kd.R_ne HO_315003.out BK266.out (by decide)) e_) e_))); have m7 := A0_ (blk_kept (by (with_reducible repeat (first|apply kn_|apply kd_|apply ka_)); exact BK290.out) hkp (fun hs_ => Or.elim hs_ (fun e_ => (fun e_ => (Kd.R_ne HO_315002.out BK290.out (by decide)) e_) e_) (fun e_ => (fun e_ => (Kd.R_ne HO_315003.out BK290.out (by decide)) e_) e_))); have m8 := A0_ (blk_kept (by (with_reducible repeat (first|apply kn_|apply kd_|apply ka_)); exact BK300.out) hkp (fun hs_ => Or.elim hs_ (fun e_ => (fun e_ => (Kd.R_ne HO_315002.out BK300.out (by decide)) e_) e_) (fun e_ => (fun e_ => (Kd.R_ne HO_315003.out BK300.out (by decide)) e_) e_))); have m9 := A0_ (blk_kept (by (with_reducible repeat (first|apply kn_|apply kd_|apply ka_)); exact BK314.out) hkp (fun hs_ => Or.elim hs_ (fun e_ => (fun e_ => (Kd.R_ne HO_315002.out BK314.out (by decide)) e_) e_) (fun e_ => (fun e_ => (Kd.R_ne HO_315003.out BK314.out (by decide)) e_) e_))); have m10 := A0_ (hb); clear HO_291002 HO_291003 HO_301002 HO_301003 HO_315002 HO_315003 BK266 BK290 BK300 BK314 HB; have HO_291002 := m0; have HO_291003 := m1; have HO_301002 := m2; have HO_301003 := m3; have HO_315002 := m4; have HO_315003 := m5; have BK266 := m6; have BK290 := m7; have BK300 := m8; have BK314 := m9; have HB := m10; clear m0 m1 m2 m3 m4 m5 m6 m7 m8 m9 m10; (try clear hb); (try clear hkp); (try clear hy0); (try clear hy1); have hcz114_0 : w113.cell? ⟨gb314, 0, none⟩ = some (.int .i64 t301) := (kc_ BK314.out 0).trans rfl; have hcz114_1 : w113.cell? ⟨gb314, 1, none⟩ = some (.bool t302) := (kc_ BK314.out 1).trans rfl; have hcz114_2 : w113.cell? ⟨gb314, 2, none⟩ = some (.slice Ao39 t303.length co39) := (kc_ BK314.out 2).trans rfl; have hcz114_3 : w113.cell? ⟨gb314, 3, none⟩ = some (.slice Ao40 t306.length co40) := (kc_ BK314.out 3).trans rfl; have hcz114_4 : w113.cell? ⟨gb314, 4, none⟩ = some (.int .i64 t309) := (kc_ BK314.out 4).trans rfl; have hcz114_5 : w113.cell? ⟨gb314, 5, none⟩ = some (.string t310) := (kc_ BK314.out 5).trans rfl; have hcz114_6 : w113.cell? ⟨gb314, 6, none⟩ = some (.string t311) := (kc_ BK314.out 6).trans rfl; have hcz114_7 : w113.cell? ⟨gb314, 7, none⟩ = some (.int .i64 t312) := (kc_ BK314.out 7).trans rfl; have hfz114_0 := kf_ BK314.out 0; have hfz114_1 := kf_ BK314.out 1; have hfz114_2 := kf_ BK314.out 2; have hfz114_3 := kf_ BK314.out 3; have hfz114_4 := kf_ BK314.out 4; have hfz114_5 := kf_ BK314.out 5; have hfz114_6 := kf_ BK314.out 6; have hfz114_7 := kf_ BK314.out 7)|((with_reducible refine gc_ (f := 21) rfl ?_); refine goesL_ (some 67) rfl rfl Try.func21 (by kernel_rfl) rfl #[.agg #[.int .i64 t301, .bool t302, .slice Ao39 t331.length co39, .slice Ao40 t332.length co40, .int .i64 t309, .string t310, .string t311, .int .i64 t312], .int .i64 1] rfl (by (try simp only [ma_, mc_, mn_]); first|done|(rw [show t331.length = t303.length from (rr_ HO_315002.out).1.symm, show t332.length = t306.length from (rr_ HO_315003.out).1.symm] <;> rfl)|rfl) ?_; (with_reducible refine (laws_heldConsole.calls kj63 t301 t302 _ _ t331 _ _ t332 t309 t310 t311 t312 1 t333 _ ?side1 ?side2 ?side3 ?side4 A96.out).mono ?_); (case side1 => repeat (first|exact (rr_ HO_315002.out).2.2|(with_reducible refine ca_ ?_ _)|(with_reducible refine cn_ ?_ _)|(with_reducible refine cd_ ?_))); (case side2 => rw [show t331.length = t303.length from (rr_ HO_315002.out).1.symm]; exact (rr_ HO_315002.out).2.1); (case side3 => repeat (first|exact (rr_ HO_315003.out).2.2|(with_reducible refine ca_ ?_ _)|(with_reducible refine cn_ ?_ _)|(with_reducible refine cd_ ?_))); (case side4 => rw [show t332.length = t306.length from (rr_ HO_315003.out).1.symm]; exact (rr_ HO_315003.out).2.1); rintro e w115 ⟨rfl, hb⟩; refine ⟨_, rfl, ?_⟩; have m0 := A0_ (Kd.R_below (by (with_reducible repeat (first|apply ra_|apply rn_|apply rd_)); exact HO_291002.out) hb); have m1 := A0_ (Kd.R_below (by (with_reducible repeat (first|apply ra_|apply rn_|apply rd_)); exact HO_291003.out) hb); have m2 := A0_ (Kd.R_below (by (with_reducible repeat (first|apply ra_|apply rn_|apply rd_)); exact HO_301002.out) hb); have m3 := A0_ (Kd.R_below (by (with_reducible repeat (first|apply ra_|apply rn_|apply rd_)); exact HO_301003.out) hb); have m4 := A0_ (Kd.R_below (by (with_reducible repeat (first|apply ra_|apply rn_|apply rd_)); exact HO_315002.out) hb); have m5 := A0_ (Kd.R_below (by (with_reducible repeat (first|apply ra_|apply rn_|apply rd_)); exact HO_315003.out) hb); have m6 := A0_ (kb_ (g := gb266) (o := .cells #[.int .i64 a0_0, .bool a0_1, .slice A0_2 l0_2.length c0_2, .slice A0_3 l0_3.length c0_3, .int .i64 a0_4] 26 (0, 0)) (by (with_reducible repeat (first|apply kn_|apply kd_|apply ka_)); exact BK266.out) hb); have m7 := A0_ (kb_ (g := gb290) (o := .cells #[.int .i64 t277, .bool t278, .slice Ao23 t279.length co23, .slice Ao24 t282.length co24, .int .i64 t285, .string t286, .string t287, .int .i64 t288] 43 (0, 0)) (by (with_reducible repeat (first|apply kn_|apply kd_|apply ka_)); exact BK290.out) hb); have m8 := A0_ (kb_ (g := gb300) (o := .cells #[.int .i64 t291, .bool t292, .slice Ao31 t327.length co31, .slice Ao32 t328.length co32, .int .i64 t299] 31 (0, 0)) (by (with_reducible repeat (first|apply kn_|apply kd_|apply ka_)); exact BK300.out) hb); have m9 := A0_ (kb_ (g := gb314) (o := .cells #[.int .i64 t301, .bool t302, .slice Ao39 t303.length co39, .slice Ao40 t306.length co40, .int .i64 t309, .string t310, .string t311, .int .i64 t312] 43 (0, 0)) (by (with_reducible repeat (first|apply kn_|apply kd_|apply ka_)); exact BK314.out) hb); have m10 := A0_ (bt_ (by repeat (with_reducible first|exact HB.out|apply ba_|apply bn_|apply bd_|refine bs_ ?_ GE290.out|refine bs_ ?_ GE300.out|refine bs_ ?_ GE314.out)) hb); clear HO_291002 HO_291003 HO_301002 HO_301003 HO_315002 HO_315003 BK266 BK290 BK300 BK314 HB; have HO_291002 := m0; have HO_291003 := m1; have HO_301002 := m2; have HO_301003 := m3; have HO_315002 := m4; have HO_315003 := m5; have BK266 := m6; have BK290 := m7; have BK300 := m8; have BK314 := m9; have HB := m10; clear m0 m1 m2 m3 m4 m5 m6 m7 m8 m9 m10; (try clear hb); have hnb116 := NB266_290.out; have hnc116 := NB290_266.out; have hnb117 := NB266_300.out; have hnc117 := NB300_266.out; have hcz118_0 : w115.cell? ⟨gb266, 0, none⟩ = some (.int .i64 a0_0) := (kc_ BK266.out 0).trans rfl; have hcz118_1 : w115.cell? ⟨gb266, 1, none⟩ = some (.bool a0_1) := (kc_ BK266.out 1).trans rfl; have hcz118_2 : w115.cell? ⟨gb266, 2, none⟩ = some (.slice A0_2 l0_2.length c0_2) := (kc_ BK266.out 2).trans rfl; have hcz118_3 : w115.cell? ⟨gb266, 3, none⟩ = some (.slice A0_3 l0_3.length c0_3) := (kc_ BK266.out 3).trans rfl; have hcz118_4 : w115.cell? ⟨gb266, 4, none⟩ = some (.int .i64 a0_4) := (kc_ BK266.out 4).trans rfl)|((with_reducible refine gc_ (f := 8) rfl ?_); refine goesL_ (some 75) rfl rfl Try.func8 (by kernel_rfl) rfl #[.agg #[.int .i64 a0_0, .bool a0_1, .slice A0_2 l0_2.length c0_2, .slice A0_3 l0_3.length c0_3, .int .i64 a0_4]] rfl (by (try simp only [ma_, mc_, mn_]); first|done|rfl) ?_; (with_reducible refine (laws_toHouse.calls kj63 a0_0 a0_1 _ _ l0_2 _ _ l0_3 a0_4 t334 t335 t336 t339 t342 _ ?side1 ?side2 ?side3 ?side4 A106.out).mono ?_); (case side1 => repeat (first|exact (cb_ HR0_2.out HB.out)|(with_reducible refine ca_ ?_ _)|(with_reducible refine cn_ ?_ _)|(with_reducible refine cd_ ?_))); (case side2 => exact HC0_2.out); (case side3 => repeat (first|exact (cb_ HR0_3.out HB.out)|(with_reducible refine ca_ ?_ _)|(with_reducible refine cn_ ?_ _)|(with_reducible refine cd_ ?_))); (case side4 => exact HC0_3.out); rintro e w119 ⟨v337, v340, rfl, ho0, ho1, hb⟩; refine ⟨_, rfl, ?_⟩; have m0 := A0_ (Kd.R_mono (Kd.R_told (Kd.R_told (Kd.R_old (by (with_reducible repeat (first|apply ra_|apply rn_|apply rd_)); exact HO_291002.out) hb) (Kd.R_base ho0)) (Kd.R_base ho1)) (fun _ h_ => h_.1)); have m1 := A0_ (Kd.R_mono (Kd.R_told (Kd.R_told (Kd.R_old (by (with_reducible repeat (first|apply ra_|apply rn_|apply rd_)); exact HO_291003.out) hb) (Kd.R_base ho0)) (Kd.R_base ho1)) (fun _ h_ => h_.1)); have m2 := A0_ (Kd.R_mono (Kd.R_told (Kd.R_told (Kd.R_old (by (with_reducible repeat (first|apply ra_|apply rn_|apply rd_)); exact HO_301002.out) hb) (Kd.R_base ho0)) (Kd.R_base ho1)) (fun _ h_ => h_.1)); have m3 := A0_ (Kd.R_mono (Kd.R_told (Kd.R_told (Kd.R_old (by (with_reducible repeat (first|apply ra_|apply rn_|apply rd_)); exact HO_301003.out) hb) (Kd.R_base ho0)) (Kd.R_base ho1)) (fun _ h_ => h_.1)); have m4 := A0_ (Kd.R_mono (Kd.R_told (Kd.R_told (Kd.R_old (by (with_reducible repeat (first|apply ra_|apply rn_|apply rd_)); exact HO_315002.out) hb) (Kd.R_base ho0)) (Kd.R_base ho1)) (fun _ h_ => h_.1)); have m5 := A0_ (Kd.R_mono (Kd.R_told (Kd.R_told (Kd.R_old (by (with_reducible repeat (first|apply ra_|apply rn_|apply rd_)); exact HO_315003.out) hb) (Kd.R_base ho0)) (Kd.R_base ho1)) (fun _ h_ => h_.1)); have m6 := A0_ (Kd.R_lower (Kd.R_new' (Kd.R_new' (Kd.R_new' (Kd.R_new' (Kd.R_new' (Kd.R_new' ho0 (Kd.R_lt (by (with_reducible repeat (first|apply ra_|apply rn_|apply rd_)); exact HO_291002.out))) (Kd.R_lt (by (with_reducible repeat (first|apply ra_|apply rn_|apply rd_)); exact HO_291003.out))) (Kd.R_lt (by (with_reducible repeat (first|apply ra_|apply rn_|apply rd_)); exact HO_301002.out))) (Kd.R_lt (by (with_reducible repeat (first|apply ra_|apply rn_|apply rd_)); exact HO_301003.out))) (Kd.R_lt (by (with_reducible repeat (first|apply ra_|apply rn_|apply rd_)); exact HO_315002.out))) (Kd.R_lt (by (with_reducible repeat (first|apply ra_|apply rn_|apply rd_)); exact HO_315003.out))) (bz_ (by repeat (with_reducible first|exact HB.out|apply ba_|apply bn_|apply bd_|refine bs_ ?_ GE290.out|refine bs_ ?_ GE300.out|refine bs_ ?_ GE314.out)))); have m7 := A0_ (Kd.R_lower (Kd.R_new' (Kd.R_new' (Kd.R_new' (Kd.R_new' (Kd.R_new' (Kd.R_new' ho1 (Kd.R_lt (by (with_reducible repeat (first|apply ra_|apply rn_|apply rd_)); exact HO_291002.out))) (Kd.R_lt (by (with_reducible repeat (first|apply ra_|apply rn_|apply rd_)); exact HO_291003.out))) (Kd.R_lt (by (with_reducible repeat (first|apply ra_|apply rn_|apply rd_)); exact HO_301002.out))) (Kd.R_lt (by (with_reducible repeat (first|apply ra_|apply rn_|apply rd_)); exact HO_301003.out))) (Kd.R_lt (by (with_reducible repeat (first|apply ra_|apply rn_|apply rd_)); exact HO_315002.out))) (Kd.R_lt (by (with_reducible repeat (first|apply ra_|apply rn_|apply rd_)); exact HO_315003.out))) (bz_ (by repeat (with_reducible first|exact HB.out|apply ba_|apply bn_|apply bd_|refine bs_ ?_ GE290.out|refine bs_ ?_ GE300.out|refine bs_ ?_ GE314.out)))); have m8 := A0_ (kb_ (g := gb266) (o := .cells #[.int .i64 a0_0, .bool a0_1, .slice A0_2 l0_2.length c0_2, .slice A0_3 l0_3.length c0_3, .int .i64 a0_4] 26 (0, 0)) (by (with_reducible repeat (first|apply kn_|apply kd_|apply ka_)); exact BK266.out) hb); have m9 := A0_ (kb_ (g := gb290) (o := .cells #[.int .i64 t277, .bool t278, .slice Ao23 t279.length co23, .slice Ao24 t282.length co24, .int .i64 t285, .string t286, .string t287, .int .i64 t288] 43 (0, 0)) (by (with_reducible repeat (first|apply kn_|apply kd_|apply ka_)); exact BK290.out) hb); have m10 := A0_ (kb_ (g := gb300) (o := .cells #[.int .i64 t291, .bool t292, .slice Ao31 t327.length co31, .slice Ao32 t328.length co32, .int .i64 t299] 31 (0, 0)) (by (with_reducible repeat (first|apply kn_|apply kd_|apply ka_)); exact BK300.out) hb); have m11 := A0_ (kb_ (g := gb314) (o := .cells #[.int .i64 t301, .bool t302, .slice Ao39 t303.length co39, .slice Ao40 t306.length co40, .int .i64 t309, .string t310, .string t311, .int .i64 t312] 43 (0, 0)) (by (with_reducible repeat (first|apply kn_|apply kd_|apply ka_)); exact BK314.out) hb); have m12 := A0_ (bt_ (by repeat (with_reducible first|exact HB.out|apply ba_|apply bn_|apply bd_|refine bs_ ?_ GE290.out|refine bs_ ?_ GE300.out|refine bs_ ?_ GE314.out)) hb); clear HO_291002 HO_291003 HO_301002 HO_301003 HO_315002 HO_315003 BK266 BK290 BK300 BK314 HB; have HO_291002 := m0; have HO_291003 := m1; have HO_301002 := m2; have HO_301003 := m3; have HO_315002 := m4; have HO_315003 := m5; have HO338 := m6; have HO341 := m7; have BK266 := m8; have BK290 := m9; have BK300 := m10; have BK314 := m11; have HB := m12; clear m0 m1 m2 m3 m4 m5 m6 m7 m8 m9 m10 m11 m12; (try clear hb); (try clear ho0); (try clear ho1); obtain ⟨Ao120, co120, eo120⟩ := Kd.R_slice HO338.out; subst eo120; obtain ⟨Ao121, co121, eo121⟩ := Kd.R_slice HO341.out; subst eo121)|((with_reducible refine gc_ (f := 18) rfl ?_); refine goesL_ (some 76) rfl rfl Try.func18 (by kernel_rfl) rfl #[.agg #[.int .i64 t334, .bool t335, .slice Ao120 t336.length co120, .slice Ao121 t339.length co121, .int .i64 t342]] rfl (by (try simp only [ma_, mc_, mn_]); first|done|rfl) ?_; (with_reducible refine (impl_NewConsole.calls kj63 t334 t335 _ _ t336 _ _ t339 t342 t343 t344 t345 t348 t351 t352 t353 t354 t355 _ ?side1 ?side2 ?side3 ?side4 A107.out).mono ?_); (case side1 => repeat (first|exact (rr_ HO338.out).2.2|(with_reducible refine ca_ ?_ _)|(with_reducible refine cn_ ?_ _)|(with_reducible refine cd_ ?_))); (case side2 => exact (rr_ HO338.out).2.1); (case side3 => repeat (first|exact (rr_ HO341.out).2.2|(with_reducible refine ca_ ?_ _)|(with_reducible refine cn_ ?_ _)|(with_reducible refine cd_ ?_))); (case side4 => exact (rr_ HO341.out).2.1); rintro e w122 ⟨v346, v349, rfl, ho0, ho1, hb⟩; refine ⟨_, rfl, ?_⟩; have m0 := A0_ (Kd.R_mono (Kd.R_told (Kd.R_told (Kd.R_old (by (with_reducible repeat (first|apply ra_|apply rn_|apply rd_)); exact HO_291002.out) hb) (Kd.R_base ho0)) (Kd.R_base ho1)) (fun _ h_ => h_.1)); have m1 := A0_ (Kd.R_mono (Kd.R_told (Kd.R_told (Kd.R_old (by (with_reducible repeat (first|apply ra_|apply rn_|apply rd_)); exact HO_291003.out) hb) (Kd.R_base ho0)) (Kd.R_base ho1)) (fun _ h_ => h_.1)); have m2 := A0_ (Kd.R_mono (Kd.R_told (Kd.R_told (Kd.R_old (by (with_reducible repeat (first|apply ra_|apply rn_|apply rd_)); exact HO_301002.out) hb) (Kd.R_base ho0)) (Kd.R_base ho1)) (fun _ h_ => h_.1)); have m3 := A0_ (Kd.R_mono (Kd.R_told (Kd.R_told (Kd.R_old (by (with_reducible repeat (first|apply ra_|apply rn_|apply rd_)); exact HO_301003.out) hb) (Kd.R_base ho0)) (Kd.R_base ho1)) (fun _ h_ => h_.1)); have m4 := A0_ (Kd.R_mono (Kd.R_told (Kd.R_told (Kd.R_old (by (with_reducible repeat (first|apply ra_|apply rn_|apply rd_)); exact HO_315002.out) hb) (Kd.R_base ho0)) (Kd.R_base ho1)) (fun _ h_ => h_.1)); have m5 := A0_ (Kd.R_mono (Kd.R_told (Kd.R_told (Kd.R_old (by (with_reducible repeat (first|apply ra_|apply rn_|apply rd_)); exact HO_315003.out) hb) (Kd.R_base ho0)) (Kd.R_base ho1)) (fun _ h_ => h_.1)); have m6 := A0_ (Kd.R_mono (Kd.R_told (Kd.R_told (Kd.R_old (by (with_reducible repeat (first|apply ra_|apply rn_|apply rd_)); exact HO338.out) hb) (Kd.R_base ho0)) (Kd.R_base ho1)) (fun _ h_ => h_.1)); have m7 := A0_ (Kd.R_mono (Kd.R_told (Kd.R_told (Kd.R_old (by (with_reducible repeat (first|apply ra_|apply rn_|apply rd_)); exact HO341.out) hb) (Kd.R_base ho0)) (Kd.R_base ho1)) (fun _ h_ => h_.1)); have m8 := A0_ (Kd.R_lower (Kd.R_new' (Kd.R_new' (Kd.R_new' (Kd.R_new' (Kd.R_new' (Kd.R_new' (Kd.R_new' (Kd.R_new' ho0 (Kd.R_lt (by (with_reducible repeat (first|apply ra_|apply rn_|apply rd_)); exact HO_291002.out))) (Kd.R_lt (by (with_reducible repeat (first|apply ra_|apply rn_|apply rd_)); exact HO_291003.out))) (Kd.R_lt (by (with_reducible repeat (first|apply ra_|apply rn_|apply rd_)); exact HO_301002.out))) (Kd.R_lt (by (with_reducible repeat (first|apply ra_|apply rn_|apply rd_)); exact HO_301003.out))) (Kd.R_lt (by (with_reducible repeat (first|apply ra_|apply rn_|apply rd_)); exact HO_315002.out))) (Kd.R_lt (by (with_reducible repeat (first|apply ra_|apply rn_|apply rd_)); exact HO_315003.out))) (Kd.R_lt (by (with_reducible repeat (first|apply ra_|apply rn_|apply rd_)); exact HO338.out))) (Kd.R_lt (by (with_reducible repeat (first|apply ra_|apply rn_|apply rd_)); exact HO341.out))) (bz_ (by repeat (with_reducible first|exact HB.out|apply ba_|apply bn_|apply bd_|refine bs_ ?_ GE290.out|refine bs_ ?_ GE300.out|refine bs_ ?_ GE314.out)))); have m9 := A0_ (Kd.R_lower (Kd.R_new' (Kd.R_new' (Kd.R_new' (Kd.R_new' (Kd.R_new' (Kd.R_new' (Kd.R_new' (Kd.R_new' ho1 (Kd.R_lt (by (with_reducible repeat (first|apply ra_|apply rn_|apply rd_)); exact HO_291002.out))) (Kd.R_lt (by (with_reducible repeat (first|apply ra_|apply rn_|apply rd_)); exact HO_291003.out))) (Kd.R_lt (by (with_reducible repeat (first|apply ra_|apply rn_|apply rd_)); exact HO_301002.out))) (Kd.R_lt (by (with_reducible repeat (first|apply ra_|apply rn_|apply rd_)); exact HO_301003.out))) (Kd.R_lt (by (with_reducible repeat (first|apply ra_|apply rn_|apply rd_)); exact HO_315002.out))) (Kd.R_lt (by (with_reducible repeat (first|apply ra_|apply rn_|apply rd_)); exact HO_315003.out))) (Kd.R_lt (by (with_reducible repeat (first|apply ra_|apply rn_|apply rd_)); exact HO338.out))) (Kd.R_lt (by (with_reducible repeat (first|apply ra_|apply rn_|apply rd_)); exact HO341.out))) (bz_ (by repeat (with_reducible first|exact HB.out|apply ba_|apply bn_|apply bd_|refine bs_ ?_ GE290.out|refine bs_ ?_ GE300.out|refine bs_ ?_ GE314.out)))); have m10 := A0_ (kb_ (g := gb266) (o := .cells #[.int .i64 a0_0, .bool a0_1, .slice A0_2 l0_2.length c0_2, .slice A0_3 l0_3.length c0_3, .int .i64 a0_4] 26 (0, 0)) (by (with_reducible repeat (first|apply kn_|apply kd_|apply ka_)); exact BK266.out) hb); have m11 := A0_ (kb_ (g := gb290) (o := .cells #[.int .i64 t277, .bool t278, .slice Ao23 t279.length co23, .slice Ao24 t282.length co24, .int .i64 t285, .string t286, .string t287, .int .i64 t288] 43 (0, 0)) (by (with_reducible repeat (first|apply kn_|apply kd_|apply ka_)); exact BK290.out) hb); have m12 := A0_ (kb_ (g := gb300) (o := .cells #[.int .i64 t291, .bool t292, .slice Ao31 t327.length co31, .slice Ao32 t328.length co32, .int .i64 t299] 31 (0, 0)) (by (with_reducible repeat (first|apply kn_|apply kd_|apply ka_)); exact BK300.out) hb); have m13 := A0_ (kb_ (g := gb314) (o := .cells #[.int .i64 t301, .bool t302, .slice Ao39 t303.length co39, .slice Ao40 t306.length co40, .int .i64 t309, .string t310, .string t311, .int .i64 t312] 43 (0, 0)) (by (with_reducible repeat (first|apply kn_|apply kd_|apply ka_)); exact BK314.out) hb); have m14 := A0_ (bt_ (by repeat (with_reducible first|exact HB.out|apply ba_|apply bn_|apply bd_|refine bs_ ?_ GE290.out|refine bs_ ?_ GE300.out|refine bs_ ?_ GE314.out)) hb); clear HO_291002 HO_291003 HO_301002 HO_301003 HO_315002 HO_315003 HO338 HO341 BK266 BK290 BK300 BK314 HB; have HO_291002 := m0; have HO_291003 := m1; have HO_301002 := m2; have HO_301003 := m3; have HO_315002 := m4; have HO_315003 := m5; have HO338 := m6; have HO341 := m7; have HO347 := m8; have HO350 := m9; have BK266 := m10; have BK290 := m11; have BK300 := m12; have BK314 := m13; have HB := m14; clear m0 m1 m2 m3 m4 m5 m6 m7 m8 m9 m10 m11 m12 m13 m14; (try clear hb); (try clear ho0); (try clear ho1))|((with_reducible refine gd_ (N := 12) rfl ?_); refine be_ ?hg (N := 12) ?hd (cs := #[.int .i64 0, .bool false, .slice none 0 0, .slice none 0 0, .int .i64 0, .string (⟨#[]⟩ : ByteArray), .string (⟨#[]⟩ : ByteArray), .int .i64 0]) (t := 43) ?hr ?_; (case hd => rfl); (case hg => rfl); (case hr => go_simp; first|done|rfl); intro gb356 hg w123 hbox hb; have m0 := A0_ (Kd.R_below (by (with_reducible repeat (first|apply ra_|apply rn_|apply rd_)); exact HO_291002.out) hb); have m1 := A0_ (Kd.R_below (by (with_reducible repeat (first|apply ra_|apply rn_|apply rd_)); exact HO_291003.out) hb); have m2 := A0_ (Kd.R_below (by (with_reducible repeat (first|apply ra_|apply rn_|apply rd_)); exact HO_301002.out) hb); have m3 := A0_ (Kd.R_below (by (with_reducible repeat (first|apply ra_|apply rn_|apply rd_)); exact HO_301003.out) hb); have m4 := A0_ (Kd.R_below (by (with_reducible repeat (first|apply ra_|apply rn_|apply rd_)); exact HO_315002.out) hb); have m5 := A0_ (Kd.R_below (by (with_reducible repeat (first|apply ra_|apply rn_|apply rd_)); exact HO_315003.out) hb); have m6 := A0_ (Kd.R_below (by (with_reducible repeat (first|apply ra_|apply rn_|apply rd_)); exact HO338.out) hb); have m7 := A0_ (Kd.R_below (by (with_reducible repeat (first|apply ra_|apply rn_|apply rd_)); exact HO341.out) hb); have m8 := A0_ (Kd.R_below (by (with_reducible repeat (first|apply ra_|apply rn_|apply rd_)); exact HO347.out) hb); have m9 := A0_ (Kd.R_below (by (with_reducible repeat (first|apply ra_|apply rn_|apply rd_)); exact HO350.out) hb); have m10 := A0_ (kb_ (g := gb266) (o := .cells #[.int .i64 a0_0, .bool a0_1, .slice A0_2 l0_2.length c0_2, .slice A0_3 l0_3.length c0_3, .int .i64 a0_4] 26 (0, 0)) (by (with_reducible repeat (first|apply kn_|apply kd_|apply ka_)); exact BK266.out) hb); have m11 := A0_ (kb_ (g := gb290) (o := .cells #[.int .i64 t277, .bool t278, .slice Ao23 t279.length co23, .slice Ao24 t282.length co24, .int .i64 t285, .string t286, .string t287, .int .i64 t288] 43 (0, 0)) (by (with_reducible repeat (first|apply kn_|apply kd_|apply ka_)); exact BK290.out) hb); have m12 := A0_ (kb_ (g := gb300) (o := .cells #[.int .i64 t291, .bool t292, .slice Ao31 t327.length co31, .slice Ao32 t328.length co32, .int .i64 t299] 31 (0, 0)) (by (with_reducible repeat (first|apply kn_|apply kd_|apply ka_)); exact BK300.out) hb); have m13 := A0_ (kb_ (g := gb314) (o := .cells #[.int .i64 t301, .bool t302, .slice Ao39 t303.length co39, .slice Ao40 t306.length co40, .int .i64 t309, .string t310, .string t311, .int .i64 t312] 43 (0, 0)) (by (with_reducible repeat (first|apply kn_|apply kd_|apply ka_)); exact BK314.out) hb); have m14 := A0_ (bt_ (by repeat (with_reducible first|exact HB.out|apply ba_|apply bn_|apply bd_|refine bs_ ?_ GE290.out|refine bs_ ?_ GE300.out|refine bs_ ?_ GE314.out)) hb); have m15 := A0_ (hbox); have m16 := A0_ ((by rw [hg]; exact (bz_ (by repeat (with_reducible first|exact HB.out|apply ba_|apply bn_|apply bd_|refine bs_ ?_ GE290.out|refine bs_ ?_ GE300.out|refine bs_ ?_ GE314.out))) : w.heap.size ≤ gb356)); have m17 := A0_ ((by rw [hg]; exact (bz_ (by repeat (with_reducible first|exact HB.out|apply ba_|apply bn_|apply bd_|refine bs_ ?_ GE290.out|refine bs_ ?_ GE300.out|refine bs_ ?_ GE314.out))) : w.heap.size ≤ gb356)); have m18 := A0_ ((by rw [hg]; exact Nat.ne_of_lt (blk_lt (g := gb266) (o := .cells #[.int .i64 a0_0, .bool a0_1, .slice A0_2 l0_2.length c0_2, .slice A0_3 l0_3.length c0_3, .int .i64 a0_4] 26 (0, 0)) (by (with_reducible repeat (first|apply kn_|apply kd_|apply ka_)); exact BK266.out)) : gb266 ≠ gb356)); have m19 := A0_ ((by rw [hg]; exact Nat.ne_of_gt (blk_lt (g := gb266) (o := .cells #[.int .i64 a0_0, .bool a0_1, .slice A0_2 l0_2.length c0_2, .slice A0_3 l0_3.length c0_3, .int .i64 a0_4] 26 (0, 0)) (by (with_reducible repeat (first|apply kn_|apply kd_|apply ka_)); exact BK266.out)) : gb356 ≠ gb266)); have m20 := A0_ ((by rw [hg]; exact Nat.ne_of_lt (blk_lt (g := gb290) (o := .cells #[.int .i64 t277, .bool t278, .slice Ao23 t279.length co23, .slice Ao24 t282.length co24, .int .i64 t285, .string t286, .string t287, .int .i64 t288] 43 (0, 0)) (by (with_reducible repeat (first|apply kn_|apply kd_|apply ka_)); exact BK290.out)) : gb290 ≠ gb356)); have m21 := A0_ ((by rw [hg]; exact Nat.ne_of_gt (blk_lt (g := gb290) (o := .cells #[.int .i64 t277, .bool t278, .slice Ao23 t279.length co23, .slice Ao24 t282.length co24, .int .i64 t285, .string t286, .string t287, .int .i64 t288] 43 (0, 0)) (by (with_reducible repeat (first|apply kn_|apply kd_|apply ka_)); exact BK290.out)) : gb356 ≠ gb290)); have m22 := A0_ ((by rw [hg]; exact Nat.ne_of_lt (blk_lt (g := gb300) (o := .cells #[.int .i64 t291, .bool t292, .slice Ao31 t327.length co31, .slice Ao32 t328.length co32, .int .i64 t299] 31 (0, 0)) (by (with_reducible repeat (first|apply kn_|apply kd_|apply ka_)); exact BK300.out)) : gb300 ≠ gb356)); have m23 := A0_ ((by rw [hg]; exact Nat.ne_of_gt (blk_lt (g := gb300) (o := .cells #[.int .i64 t291, .bool t292, .slice Ao31 t327.length co31, .slice Ao32 t328.length co32, .int .i64 t299] 31 (0, 0)) (by (with_reducible repeat (first|apply kn_|apply kd_|apply ka_)); exact BK300.out)) : gb356 ≠ gb300)); have m24 := A0_ ((by rw [hg]; exact Nat.ne_of_lt (blk_lt (g := gb314) (o := .cells #[.int .i64 t301, .bool t302, .slice Ao39 t303.length co39, .slice Ao40 t306.length co40, .int .i64 t309, .string t310, .string t311, .int .i64 t312] 43 (0, 0)) (by (with_reducible repeat (first|apply kn_|apply kd_|apply ka_)); exact BK314.out)) : gb314 ≠ gb356)); have m25 := A0_ ((by rw [hg]; exact Nat.ne_of_gt (blk_lt (g := gb314) (o := .cells #[.int .i64 t301, .bool t302, .slice Ao39 t303.length co39, .slice Ao40 t306.length co40, .int .i64 t309, .string t310, .string t311, .int .i64 t312] 43 (0, 0)) (by (with_reducible repeat (first|apply kn_|apply kd_|apply ka_)); exact BK314.out)) : gb356 ≠ gb314)); clear HO_291002 HO_291003 HO_301002 HO_301003 HO_315002 HO_315003 HO338 HO341 HO347 HO350 BK266 BK290 BK300 BK314 HB; have HO_291002 := m0; have HO_291003 := m1; have HO_301002 := m2; have HO_301003 := m3; have HO_315002 := m4; have HO_315003 := m5; have HO338 := m6; have HO341 := m7; have HO347 := m8; have HO350 := m9; have BK266 := m10; have BK290 := m11; have BK300 := m12; have BK314 := m13; have HB := m14; have BK356 := m15; have GW356 := m16; have GE356 := m17; have NB266_356 := m18; have NB356_266 := m19; have NB290_356 := m20; have NB356_290 := m21; have NB300_356 := m22; have NB356_300 := m23; have NB314_356 := m24; have NB356_314 := m25; clear m0 m1 m2 m3 m4 m5 m6 m7 m8 m9 m10 m11 m12 m13 m14 m15 m16 m17 m18 m19 m20 m21 m22 m23 m24 m25 hb hbox hg; have hnb124 := NB356_266.out; have hnc124 := NB266_356.out; have hnb125 := NB356_290.out; have hnc125 := NB290_356.out; have hnb126 := NB356_300.out; have hnc126 := NB300_356.out; have hnb127 := NB356_314.out; have hnc127 := NB314_356.out; have hcz128_0 : w123.cell? ⟨gb356, 0, none⟩ = some (.int .i64 0) := (kc_ BK356.out 0).trans rfl; have hcz128_1 : w123.cell? ⟨gb356, 1, none⟩ = some (.bool false) := (kc_ BK356.out 1).trans rfl; have hcz128_2 : w123.cell? ⟨gb356, 2, none⟩ = some (.slice none 0 0) := (kc_ BK356.out 2).trans rfl; have hcz128_3 : w123.cell? ⟨gb356, 3, none⟩ = some (.slice none 0 0) := (kc_ BK356.out 3).trans rfl; have hcz128_4 : w123.cell? ⟨gb356, 4, none⟩ = some (.int .i64 0) := (kc_ BK356.out 4).trans rfl; have hcz128_5 : w123.cell? ⟨gb356, 5, none⟩ = some (.string (⟨#[]⟩ : ByteArray)) := (kc_ BK356.out 5).trans rfl; have hcz128_6 : w123.cell? ⟨gb356, 6, none⟩ = some (.string (⟨#[]⟩ : ByteArray)) := (kc_ BK356.out 6).trans rfl; have hcz128_7 : w123.cell? ⟨gb356, 7, none⟩ = some (.int .i64 0) := (kc_ BK356.out 7).trans rfl; have hfz128_0 := kf_ BK356.out 0; have hfz128_1 := kf_ BK356.out 1; have hfz128_2 := kf_ BK356.out 2; have hfz128_3 := kf_ BK356.out 3; have hfz128_4 := kf_ BK356.out 4; have hfz128_5 := kf_ BK356.out 5; have hfz128_6 := kf_ BK356.out 6; have hfz128_7 := kf_ BK356.out 7; obtain ⟨Ao129, co129, eo129⟩ := Kd.R_slice HO347.out; subst eo129; obtain ⟨Ao130, co130, eo130⟩ := Kd.R_slice HO350.out; subst eo130))
           (try simp only [Act.put, sa_, sz_, ss_])
           go_cut [87] (fun v87 wc => ∃ (kq : Nat) (x87_107 : Bool), v87 = .bool x87_107 ∧ Aside0 (j2 kq t330 x87_107 t301 t302 t331 t332 t309 t310 t311 t312 = some r) ∧ Aside0 (kq ≤ kj63) ∧ Aside0 (Kd.R (Kd.int .i64) 3 wc w.heap.size (fun k_ => some k_ ≠ ((.slice Ao24 t282.length co24) : Value).ownBlock ∧ some k_ ≠ ((.slice Ao31 t327.length co31) : Value).ownBlock ∧ some k_ ≠ ((.slice Ao32 t328.length co32) : Value).ownBlock ∧ some k_ ≠ ((.slice Ao39 t303.length co39) : Value).ownBlock ∧ some k_ ≠ ((.slice Ao40 t306.length co40) : Value).ownBlock ∧ some k_ ≠ ((.slice Ao129 t345.length co129) : Value).ownBlock ∧ some k_ ≠ ((.slice Ao130 t348.length co130) : Value).ownBlock) (.slice Ao23 t279.length co23) t279) ∧ Aside0 (Kd.R (Kd.int .i64) 3 wc w.heap.size (fun k_ => some k_ ≠ ((.slice Ao23 t279.length co23) : Value).ownBlock ∧ some k_ ≠ ((.slice Ao31 t327.length co31) : Value).ownBlock ∧ some k_ ≠ ((.slice Ao32 t328.length co32) : Value).ownBlock ∧ some k_ ≠ ((.slice Ao39 t303.length co39) : Value).ownBlock ∧ some k_ ≠ ((.slice Ao40 t306.length co40) : Value).ownBlock ∧ some k_ ≠ ((.slice Ao129 t345.length co129) : Value).ownBlock ∧ some k_ ≠ ((.slice Ao130 t348.length co130) : Value).ownBlock) (.slice Ao24 t282.length co24) t282) ∧ Aside0 (Kd.R (Kd.int .i64) 3 wc w.heap.size (fun k_ => some k_ ≠ ((.slice Ao23 t279.length co23) : Value).ownBlock ∧ some k_ ≠ ((.slice Ao24 t282.length co24) : Value).ownBlock ∧ some k_ ≠ ((.slice Ao32 t328.length co32) : Value).ownBlock ∧ some k_ ≠ ((.slice Ao39 t303.length co39) : Value).ownBlock ∧ some k_ ≠ ((.slice Ao40 t306.length co40) : Value).ownBlock ∧ some k_ ≠ ((.slice Ao129 t345.length co129) : Value).ownBlock ∧ some k_ ≠ ((.slice Ao130 t348.length co130) : Value).ownBlock) (.slice Ao31 t327.length co31) t327) ∧ Aside0 (Kd.R (Kd.int .i64) 3 wc w.heap.size (fun k_ => some k_ ≠ ((.slice Ao23 t279.length co23) : Value).ownBlock ∧ some k_ ≠ ((.slice Ao24 t282.length co24) : Value).ownBlock ∧ some k_ ≠ ((.slice Ao31 t327.length co31) : Value).ownBlock ∧ some k_ ≠ ((.slice Ao39 t303.length co39) : Value).ownBlock ∧ some k_ ≠ ((.slice Ao40 t306.length co40) : Value).ownBlock ∧ some k_ ≠ ((.slice Ao129 t345.length co129) : Value).ownBlock ∧ some k_ ≠ ((.slice Ao130 t348.length co130) : Value).ownBlock) (.slice Ao32 t328.length co32) t328) ∧ Aside0 (Kd.R (Kd.int .i64) 3 wc w.heap.size (fun k_ => some k_ ≠ ((.slice Ao23 t279.length co23) : Value).ownBlock ∧ some k_ ≠ ((.slice Ao24 t282.length co24) : Value).ownBlock ∧ some k_ ≠ ((.slice Ao31 t327.length co31) : Value).ownBlock ∧ some k_ ≠ ((.slice Ao32 t328.length co32) : Value).ownBlock ∧ some k_ ≠ ((.slice Ao40 t306.length co40) : Value).ownBlock ∧ some k_ ≠ ((.slice Ao129 t345.length co129) : Value).ownBlock ∧ some k_ ≠ ((.slice Ao130 t348.length co130) : Value).ownBlock) (.slice Ao39 t303.length co39) t331) ∧ Aside0 (Kd.R (Kd.int .i64) 3 wc w.heap.size (fun k_ => some k_ ≠ ((.slice Ao23 t279.length co23) : Value).ownBlock ∧ some k_ ≠ ((.slice Ao24 t282.length co24) : Value).ownBlock ∧ some k_ ≠ ((.slice Ao31 t327.length co31) : Value).ownBlock ∧ some k_ ≠ ((.slice Ao32 t328.length co32) : Value).ownBlock ∧ some k_ ≠ ((.slice Ao39 t303.length co39) : Value).ownBlock ∧ some k_ ≠ ((.slice Ao129 t345.length co129) : Value).ownBlock ∧ some k_ ≠ ((.slice Ao130 t348.length co130) : Value).ownBlock) (.slice Ao40 t306.length co40) t332) ∧ Aside0 (Kd.R (Kd.int .i64) 3 wc w.heap.size (fun k_ => some k_ ≠ ((.slice Ao23 t279.length co23) : Value).ownBlock ∧ some k_ ≠ ((.slice Ao24 t282.length co24) : Value).ownBlock ∧ some k_ ≠ ((.slice Ao31 t327.length co31) : Value).ownBlock ∧ some k_ ≠ ((.slice Ao32 t328.length co32) : Value).ownBlock ∧ some k_ ≠ ((.slice Ao39 t303.length co39) : Value).ownBlock ∧ some k_ ≠ ((.slice Ao40 t306.length co40) : Value).ownBlock ∧ some k_ ≠ ((.slice Ao130 t348.length co130) : Value).ownBlock) (.slice Ao129 t345.length co129) t345) ∧ Aside0 (Kd.R (Kd.int .i64) 3 wc w.heap.size (fun k_ => some k_ ≠ ((.slice Ao23 t279.length co23) : Value).ownBlock ∧ some k_ ≠ ((.slice Ao24 t282.length co24) : Value).ownBlock ∧ some k_ ≠ ((.slice Ao31 t327.length co31) : Value).ownBlock ∧ some k_ ≠ ((.slice Ao32 t328.length co32) : Value).ownBlock ∧ some k_ ≠ ((.slice Ao39 t303.length co39) : Value).ownBlock ∧ some k_ ≠ ((.slice Ao40 t306.length co40) : Value).ownBlock ∧ some k_ ≠ ((.slice Ao129 t345.length co129) : Value).ownBlock) (.slice Ao130 t348.length co130) t348) ∧ Aside0 (wc.heap[gb266]? = some (.cells #[.int .i64 a0_0, .bool a0_1, (.slice A0_2 l0_2.length c0_2), (.slice A0_3 l0_3.length c0_3), .int .i64 a0_4] 26 (0, 0))) ∧ Aside0 (wc.heap[gb290]? = some (.cells #[.int .i64 t277, .bool t278, (.slice Ao23 t279.length co23), (.slice Ao24 t282.length co24), .int .i64 t285, .string t286, .string t287, .int .i64 t288] 43 (0, 0))) ∧ Aside0 (wc.heap[gb300]? = some (.cells #[.int .i64 t291, .bool t292, (.slice Ao31 t327.length co31), (.slice Ao32 t328.length co32), .int .i64 t299] 31 (0, 0))) ∧ Aside0 (wc.heap[gb314]? = some (.cells #[.int .i64 t301, .bool t302, (.slice Ao39 t303.length co39), (.slice Ao40 t306.length co40), .int .i64 t309, .string t310, .string t311, .int .i64 t312] 43 (0, 0))) ∧ Aside0 (wc.heap[gb356]? = some (.cells #[.int .i64 t343, .bool t344, (.slice Ao129 t345.length co129), (.slice Ao130 t348.length co130), .int .i64 t351, .string t352, .string t353, .int .i64 t354] 43 (0, 0))) ∧ Aside0 (Below w.heap.size w wc))
           case first =>
            have H := HC108.out
            clear HC108
            replace H := ob_.mp H
            obtain ⟨t357, A1310, H⟩ := H
            have A131 := A0_ A1310
            clear A1310
            by_cases c132 : t357 = true
            ·subst c132
             rw [if_pos rfl] at H
             have H' := A0_ H
             clear H
             have hnb133 := NB356_266.out
             have hnc133 := NB266_356.out
             have hnb134 := NB356_290.out
             have hnc134 := NB290_356.out
             have hnb135 := NB356_300.out
             have hnc135 := NB300_356.out
             have hnb136 := NB356_314.out
             have hnc136 := NB314_356.out
             have hcz137_0 : w123.cell? ⟨gb356, 0, none⟩ = some (.int .i64 0) := (kc_ BK356.out 0).trans rfl
             have hcz137_1 : w123.cell? ⟨gb356, 1, none⟩ = some (.bool false) := (kc_ BK356.out 1).trans rfl
             have hcz137_2 : w123.cell? ⟨gb356, 2, none⟩ = some (.slice none 0 0) := (kc_ BK356.out 2).trans rfl
             have hcz137_3 : w123.cell? ⟨gb356, 3, none⟩ = some (.slice none 0 0) := (kc_ BK356.out 3).trans rfl
             have hcz137_4 : w123.cell? ⟨gb356, 4, none⟩ = some (.int .i64 0) := (kc_ BK356.out 4).trans rfl
             have hcz137_5 : w123.cell? ⟨gb356, 5, none⟩ = some (.string (⟨#[]⟩ : ByteArray)) := (kc_ BK356.out 5).trans rfl
             have hcz137_6 : w123.cell? ⟨gb356, 6, none⟩ = some (.string (⟨#[]⟩ : ByteArray)) := (kc_ BK356.out 6).trans rfl
             have hcz137_7 : w123.cell? ⟨gb356, 7, none⟩ = some (.int .i64 0) := (kc_ BK356.out 7).trans rfl
             have hfz137_0 := kf_ BK356.out 0
             have hfz137_1 := kf_ BK356.out 1
             have hfz137_2 := kf_ BK356.out 2
             have hfz137_3 := kf_ BK356.out 3
             have hfz137_4 := kf_ BK356.out 4
             have hfz137_5 := kf_ BK356.out 5
             have hfz137_6 := kf_ BK356.out 6
             have hfz137_7 := kf_ BK356.out 7
             have hnb138 := NB290_266.out
             have hnc138 := NB266_290.out
             have hnb139 := NB290_300.out
             have hnc139 := NB300_290.out
             have hnb140 := NB290_314.out
             have hnc140 := NB314_290.out
             have hcz141_0 : w123.cell? ⟨gb290, 0, none⟩ = some (.int .i64 t277) := (kc_ BK290.out 0).trans rfl
             have hcz141_1 : w123.cell? ⟨gb290, 1, none⟩ = some (.bool t278) := (kc_ BK290.out 1).trans rfl
             have hcz141_2 : w123.cell? ⟨gb290, 2, none⟩ = some (.slice Ao23 t279.length co23) := (kc_ BK290.out 2).trans rfl
             have hcz141_3 : w123.cell? ⟨gb290, 3, none⟩ = some (.slice Ao24 t282.length co24) := (kc_ BK290.out 3).trans rfl
             have hcz141_4 : w123.cell? ⟨gb290, 4, none⟩ = some (.int .i64 t285) := (kc_ BK290.out 4).trans rfl
             have hcz141_5 : w123.cell? ⟨gb290, 5, none⟩ = some (.string t286) := (kc_ BK290.out 5).trans rfl
             have hcz141_6 : w123.cell? ⟨gb290, 6, none⟩ = some (.string t287) := (kc_ BK290.out 6).trans rfl
             have hcz141_7 : w123.cell? ⟨gb290, 7, none⟩ = some (.int .i64 t288) := (kc_ BK290.out 7).trans rfl
             have hfz141_0 := kf_ BK290.out 0
             have hfz141_1 := kf_ BK290.out 1
             have hfz141_2 := kf_ BK290.out 2
             have hfz141_3 := kf_ BK290.out 3
             have hfz141_4 := kf_ BK290.out 4
             have hfz141_5 := kf_ BK290.out 5
             have hfz141_6 := kf_ BK290.out 6
             have hfz141_7 := kf_ BK290.out 7
             go_wp2_with (first|((with_reducible refine gc_ (f := 19) rfl ?_); refine goesL_ (some 81) rfl rfl Try.func19 (by kernel_rfl) rfl #[.agg #[.int .i64 t343, .bool t344, .slice Ao129 t345.length co129, .slice Ao130 t348.length co130, .int .i64 t351, .string t352, .string t353, .int .i64 t354], .agg #[.int .i64 t277, .bool t278, .slice Ao23 t279.length co23, .slice Ao24 t282.length co24, .int .i64 t285, .string t286, .string t287, .int .i64 t288]] rfl (by (try simp only [ma_, mc_, mn_]); first|done|rfl) ?_; (with_reducible refine (laws_eqConsole.calls kj63 t343 t344 _ _ t345 _ _ t348 t351 t352 t353 t354 t277 t278 _ _ t279 _ _ t282 t285 t286 t287 t288 true _ ?side1 ?side2 ?side3 ?side4 ?side5 ?side6 ?side7 ?side8 A131.out).mono ?_); (case side1 => refine (rr_ (e := 3) (base := w.heap.size) (ok := fun k_ => ((((((((nb_ (.slice Ao130 t348.length co130) k_ ∧ nb_ (.slice Ao23 t279.length co23) k_) ∧ nb_ (.slice Ao24 t282.length co24) k_) ∧ nb_ (.slice Ao31 t327.length co31) k_) ∧ nb_ (.slice Ao32 t328.length co32) k_) ∧ nb_ (.slice Ao39 t303.length co39) k_) ∧ nb_ (.slice Ao40 t306.length co40) k_) ∧ nb_ (.slice Ao120 t336.length co120) k_) ∧ nb_ (.slice Ao121 t339.length co121) k_)) (n := t345.length) (c := co129) ?_).2.2; exact (by (with_reducible repeat (first|apply ra_|apply rn_|apply rd_)); exact (Kd.R_mono (rf_ (rf_ (rf_ (rf_ (rf_ (rf_ (rf_ (rf_ (Kd.R_types HO347.out BK356.out (by decide)) k2_ _) k2_ _) k2_ _) k2_ _) k2_ _) k2_ _) k2_ _) k2_ _) (fun _ h_ => h_.1)))); (case side2 => exact (rr_ HO347.out).2.1); (case side3 => refine (rr_ (e := 3) (base := w.heap.size) (ok := fun k_ => ((((((((nb_ (.slice Ao129 t345.length co129) k_ ∧ nb_ (.slice Ao23 t279.length co23) k_) ∧ nb_ (.slice Ao24 t282.length co24) k_) ∧ nb_ (.slice Ao31 t327.length co31) k_) ∧ nb_ (.slice Ao32 t328.length co32) k_) ∧ nb_ (.slice Ao39 t303.length co39) k_) ∧ nb_ (.slice Ao40 t306.length co40) k_) ∧ nb_ (.slice Ao120 t336.length co120) k_) ∧ nb_ (.slice Ao121 t339.length co121) k_)) (n := t348.length) (c := co130) ?_).2.2; exact (by (with_reducible repeat (first|apply ra_|apply rn_|apply rd_)); exact (Kd.R_mono (rf_ (rf_ (rf_ (rf_ (rf_ (rf_ (rf_ (rf_ (Kd.R_types HO350.out BK356.out (by decide)) k2_ _) k2_ _) k2_ _) k2_ _) k2_ _) k2_ _) k2_ _) k2_ _) (fun _ h_ => h_.1)))); (case side4 => exact (rr_ HO350.out).2.1); (case side5 => refine (rr_ (e := 3) (base := w.heap.size) (ok := fun k_ => (((((nb_ (.slice Ao24 t282.length co24) k_ ∧ (nb_ (.slice Ao31 t327.length co31) k_ ∧ (nb_ (.slice Ao32 t328.length co32) k_ ∧ (nb_ (.slice Ao39 t303.length co39) k_ ∧ nb_ (.slice Ao40 t306.length co40) k_)))) ∧ nb_ (.slice Ao120 t336.length co120) k_) ∧ nb_ (.slice Ao121 t339.length co121) k_) ∧ nb_ (.slice Ao129 t345.length co129) k_) ∧ nb_ (.slice Ao130 t348.length co130) k_)) (n := t279.length) (c := co23) ?_).2.2; exact (by (with_reducible repeat (first|apply ra_|apply rn_|apply rd_)); exact (Kd.R_mono (rf_ (rf_ (rf_ (rf_ (rf_ (rf_ (rf_ (rf_ (Kd.R_types HO_291002.out BK356.out (by decide)) k2_ _) k2_ _) k2_ _) k2_ _) k2_ _) k2_ _) k2_ _) k2_ _) (fun _ h_ => h_.1)))); (case side6 => exact (rr_ HO_291002.out).2.1); (case side7 => refine (rr_ (e := 3) (base := w.heap.size) (ok := fun k_ => (((((nb_ (.slice Ao23 t279.length co23) k_ ∧ (nb_ (.slice Ao31 t327.length co31) k_ ∧ (nb_ (.slice Ao32 t328.length co32) k_ ∧ (nb_ (.slice Ao39 t303.length co39) k_ ∧ nb_ (.slice Ao40 t306.length co40) k_)))) ∧ nb_ (.slice Ao120 t336.length co120) k_) ∧ nb_ (.slice Ao121 t339.length co121) k_) ∧ nb_ (.slice Ao129 t345.length co129) k_) ∧ nb_ (.slice Ao130 t348.length co130) k_)) (n := t282.length) (c := co24) ?_).2.2; exact (by (with_reducible repeat (first|apply ra_|apply rn_|apply rd_)); exact (Kd.R_mono (rf_ (rf_ (rf_ (rf_ (rf_ (rf_ (rf_ (rf_ (Kd.R_types HO_291003.out BK356.out (by decide)) k2_ _) k2_ _) k2_ _) k2_ _) k2_ _) k2_ _) k2_ _) k2_ _) (fun _ h_ => h_.1)))); (case side8 => exact (rr_ HO_291003.out).2.1); rintro e w142 ⟨rfl, hb⟩; refine ⟨_, rfl, ?_⟩; have m0 := A0_ (Kd.R_below (by (with_reducible repeat (first|apply ra_|apply rn_|apply rd_)); exact (Kd.R_mono (rf_ (rf_ (rf_ (rf_ (rf_ (rf_ (rf_ (rf_ (Kd.R_types HO_291002.out BK356.out (by decide)) k2_ _) k2_ _) k2_ _) k2_ _) k2_ _) k2_ _) k2_ _) k2_ _) (fun _ h_ => h_.1))) hb); have m1 := A0_ (Kd.R_below (by (with_reducible repeat (first|apply ra_|apply rn_|apply rd_)); exact (Kd.R_mono (rf_ (rf_ (rf_ (rf_ (rf_ (rf_ (rf_ (rf_ (Kd.R_types HO_291003.out BK356.out (by decide)) k2_ _) k2_ _) k2_ _) k2_ _) k2_ _) k2_ _) k2_ _) k2_ _) (fun _ h_ => h_.1))) hb); have m2 := A0_ (Kd.R_below (by (with_reducible repeat (first|apply ra_|apply rn_|apply rd_)); exact (Kd.R_mono (rf_ (rf_ (rf_ (rf_ (rf_ (rf_ (rf_ (rf_ (Kd.R_types HO_301002.out BK356.out (by decide)) k2_ _) k2_ _) k2_ _) k2_ _) k2_ _) k2_ _) k2_ _) k2_ _) (fun _ h_ => h_.1))) hb); have m3 := A0_ (Kd.R_below (by (with_reducible repeat (first|apply ra_|apply rn_|apply rd_)); exact (Kd.R_mono (rf_ (rf_ (rf_ (rf_ (rf_ (rf_ (rf_ (rf_ (Kd.R_types HO_301003.out BK356.out (by decide)) k2_ _) k2_ _) k2_ _) k2_ _) k2_ _) k2_ _) k2_ _) k2_ _) (fun _ h_ => h_.1))) hb); have m4 := A0_ (Kd.R_below (by (with_reducible repeat (first|apply ra_|apply rn_|apply rd_)); exact (Kd.R_mono (rf_ (rf_ (rf_ (rf_ (rf_ (rf_ (rf_ (rf_ (Kd.R_types HO_315002.out BK356.out (by decide)) k2_ _) k2_ _) k2_ _) k2_ _) k2_ _) k2_ _) k2_ _) k2_ _) (fun _ h_ => h_.1))) hb); have m5 := A0_ (Kd.R_below (by (with_reducible repeat (first|apply ra_|apply rn_|apply rd_)); exact (Kd.R_mono (rf_ (rf_ (rf_ (rf_ (rf_ (rf_ (rf_ (rf_ (Kd.R_types HO_315003.out BK356.out (by decide)) k2_ _) k2_ _) k2_ _) k2_ _) k2_ _) k2_ _) k2_ _) k2_ _) (fun _ h_ => h_.1))) hb); have m6 := A0_ (Kd.R_below (by (with_reducible repeat (first|apply ra_|apply rn_|apply rd_)); exact (Kd.R_mono (rf_ (rf_ (rf_ (rf_ (rf_ (rf_ (rf_ (rf_ (Kd.R_types HO338.out BK356.out (by decide)) k2_ _) k2_ _) k2_ _) k2_ _) k2_ _) k2_ _) k2_ _) k2_ _) (fun _ h_ => h_.1))) hb); have m7 := A0_ (Kd.R_below (by (with_reducible repeat (first|apply ra_|apply rn_|apply rd_)); exact (Kd.R_mono (rf_ (rf_ (rf_ (rf_ (rf_ (rf_ (rf_ (rf_ (Kd.R_types HO341.out BK356.out (by decide)) k2_ _) k2_ _) k2_ _) k2_ _) k2_ _) k2_ _) k2_ _) k2_ _) (fun _ h_ => h_.1))) hb); have m8 := A0_ (Kd.R_below (by (with_reducible repeat (first|apply ra_|apply rn_|apply rd_)); exact (Kd.R_mono (rf_ (rf_ (rf_ (rf_ (rf_ (rf_ (rf_ (rf_ (Kd.R_types HO347.out BK356.out (by decide)) k2_ _) k2_ _) k2_ _) k2_ _) k2_ _) k2_ _) k2_ _) k2_ _) (fun _ h_ => h_.1))) hb); have m9 := A0_ (Kd.R_below (by (with_reducible repeat (first|apply ra_|apply rn_|apply rd_)); exact (Kd.R_mono (rf_ (rf_ (rf_ (rf_ (rf_ (rf_ (rf_ (rf_ (Kd.R_types HO350.out BK356.out (by decide)) k2_ _) k2_ _) k2_ _) k2_ _) k2_ _) k2_ _) k2_ _) k2_ _) (fun _ h_ => h_.1))) hb); have m10 := A0_ (kb_ (g := gb266) (o := .cells #[.int .i64 a0_0, .bool a0_1, .slice A0_2 l0_2.length c0_2, .slice A0_3 l0_3.length c0_3, .int .i64 a0_4] 26 (0, 0)) (by (with_reducible repeat (first|apply kn_|apply kd_|apply ka_)); refine blk_far ?_ NB266_356.out _; (with_reducible repeat (first|apply kn_|apply kd_|apply ka_)); refine blk_far ?_ NB266_356.out _; (with_reducible repeat (first|apply kn_|apply kd_|apply ka_)); refine blk_far ?_ NB266_356.out _; (with_reducible repeat (first|apply kn_|apply kd_|apply ka_)); refine blk_far ?_ NB266_356.out _; (with_reducible repeat (first|apply kn_|apply kd_|apply ka_)); refine blk_far ?_ NB266_356.out _; (with_reducible repeat (first|apply kn_|apply kd_|apply ka_)); refine blk_far ?_ NB266_356.out _; (with_reducible repeat (first|apply kn_|apply kd_|apply ka_)); refine blk_far ?_ NB266_356.out _; (with_reducible repeat (first|apply kn_|apply kd_|apply ka_)); refine blk_far ?_ NB266_356.out _; (with_reducible repeat (first|apply kn_|apply kd_|apply ka_)); exact BK266.out) hb); have m11 := A0_ (kb_ (g := gb290) (o := .cells #[.int .i64 t277, .bool t278, .slice Ao23 t279.length co23, .slice Ao24 t282.length co24, .int .i64 t285, .string t286, .string t287, .int .i64 t288] 43 (0, 0)) (by (with_reducible repeat (first|apply kn_|apply kd_|apply ka_)); refine blk_far ?_ NB290_356.out _; (with_reducible repeat (first|apply kn_|apply kd_|apply ka_)); refine blk_far ?_ NB290_356.out _; (with_reducible repeat (first|apply kn_|apply kd_|apply ka_)); refine blk_far ?_ NB290_356.out _; (with_reducible repeat (first|apply kn_|apply kd_|apply ka_)); refine blk_far ?_ NB290_356.out _; (with_reducible repeat (first|apply kn_|apply kd_|apply ka_)); refine blk_far ?_ NB290_356.out _; (with_reducible repeat (first|apply kn_|apply kd_|apply ka_)); refine blk_far ?_ NB290_356.out _; (with_reducible repeat (first|apply kn_|apply kd_|apply ka_)); refine blk_far ?_ NB290_356.out _; (with_reducible repeat (first|apply kn_|apply kd_|apply ka_)); refine blk_far ?_ NB290_356.out _; (with_reducible repeat (first|apply kn_|apply kd_|apply ka_)); exact BK290.out) hb); have m12 := A0_ (kb_ (g := gb300) (o := .cells #[.int .i64 t291, .bool t292, .slice Ao31 t327.length co31, .slice Ao32 t328.length co32, .int .i64 t299] 31 (0, 0)) (by (with_reducible repeat (first|apply kn_|apply kd_|apply ka_)); refine blk_far ?_ NB300_356.out _; (with_reducible repeat (first|apply kn_|apply kd_|apply ka_)); refine blk_far ?_ NB300_356.out _; (with_reducible repeat (first|apply kn_|apply kd_|apply ka_)); refine blk_far ?_ NB300_356.out _; (with_reducible repeat (first|apply kn_|apply kd_|apply ka_)); refine blk_far ?_ NB300_356.out _; (with_reducible repeat (first|apply kn_|apply kd_|apply ka_)); refine blk_far ?_ NB300_356.out _; (with_reducible repeat (first|apply kn_|apply kd_|apply ka_)); refine blk_far ?_ NB300_356.out _; (with_reducible repeat (first|apply kn_|apply kd_|apply ka_)); refine blk_far ?_ NB300_356.out _; (with_reducible repeat (first|apply kn_|apply kd_|apply ka_)); refine blk_far ?_ NB300_356.out _; (with_reducible repeat (first|apply kn_|apply kd_|apply ka_)); exact BK300.out) hb); have m13 := A0_ (kb_ (g := gb314) (o := .cells #[.int .i64 t301, .bool t302, .slice Ao39 t303.length co39, .slice Ao40 t306.length co40, .int .i64 t309, .string t310, .string t311, .int .i64 t312] 43 (0, 0)) (by (with_reducible repeat (first|apply kn_|apply kd_|apply ka_)); refine blk_far ?_ NB314_356.out _; (with_reducible repeat (first|apply kn_|apply kd_|apply ka_)); refine blk_far ?_ NB314_356.out _; (with_reducible repeat (first|apply kn_|apply kd_|apply ka_)); refine blk_far ?_ NB314_356.out _; (with_reducible repeat (first|apply kn_|apply kd_|apply ka_)); refine blk_far ?_ NB314_356.out _; (with_reducible repeat (first|apply kn_|apply kd_|apply ka_)); refine blk_far ?_ NB314_356.out _; (with_reducible repeat (first|apply kn_|apply kd_|apply ka_)); refine blk_far ?_ NB314_356.out _; (with_reducible repeat (first|apply kn_|apply kd_|apply ka_)); refine blk_far ?_ NB314_356.out _; (with_reducible repeat (first|apply kn_|apply kd_|apply ka_)); refine blk_far ?_ NB314_356.out _; (with_reducible repeat (first|apply kn_|apply kd_|apply ka_)); exact BK314.out) hb); have m14 := A0_ (kb_ (g := gb356) (o := .cells #[.int .i64 t343, .bool t344, .slice Ao129 t345.length co129, .slice Ao130 t348.length co130, .int .i64 t351, .string t352, .string t353, .int .i64 t354] 43 (0, 0)) (by (with_reducible repeat (first|apply kn_|apply kd_|apply ka_)); refine blk_put (cs := #[.int .i64 t343, .bool t344, .slice Ao129 t345.length co129, .slice Ao130 t348.length co130, .int .i64 t351, .string t352, .string t353, .int .i64 0]) ?_ 7 _ rfl; (with_reducible repeat (first|apply kn_|apply kd_|apply ka_)); refine blk_put (cs := #[.int .i64 t343, .bool t344, .slice Ao129 t345.length co129, .slice Ao130 t348.length co130, .int .i64 t351, .string t352, .string (⟨#[]⟩ : ByteArray), .int .i64 0]) ?_ 6 _ rfl; (with_reducible repeat (first|apply kn_|apply kd_|apply ka_)); refine blk_put (cs := #[.int .i64 t343, .bool t344, .slice Ao129 t345.length co129, .slice Ao130 t348.length co130, .int .i64 t351, .string (⟨#[]⟩ : ByteArray), .string (⟨#[]⟩ : ByteArray), .int .i64 0]) ?_ 5 _ rfl; (with_reducible repeat (first|apply kn_|apply kd_|apply ka_)); refine blk_put (cs := #[.int .i64 t343, .bool t344, .slice Ao129 t345.length co129, .slice Ao130 t348.length co130, .int .i64 0, .string (⟨#[]⟩ : ByteArray), .string (⟨#[]⟩ : ByteArray), .int .i64 0]) ?_ 4 _ rfl; (with_reducible repeat (first|apply kn_|apply kd_|apply ka_)); refine blk_put (cs := #[.int .i64 t343, .bool t344, .slice Ao129 t345.length co129, .slice none 0 0, .int .i64 0, .string (⟨#[]⟩ : ByteArray), .string (⟨#[]⟩ : ByteArray), .int .i64 0]) ?_ 3 _ rfl; (with_reducible repeat (first|apply kn_|apply kd_|apply ka_)); refine blk_put (cs := #[.int .i64 t343, .bool t344, .slice none 0 0, .slice none 0 0, .int .i64 0, .string (⟨#[]⟩ : ByteArray), .string (⟨#[]⟩ : ByteArray), .int .i64 0]) ?_ 2 _ rfl; (with_reducible repeat (first|apply kn_|apply kd_|apply ka_)); refine blk_put (cs := #[.int .i64 t343, .bool false, .slice none 0 0, .slice none 0 0, .int .i64 0, .string (⟨#[]⟩ : ByteArray), .string (⟨#[]⟩ : ByteArray), .int .i64 0]) ?_ 1 _ rfl; (with_reducible repeat (first|apply kn_|apply kd_|apply ka_)); refine blk_put (cs := #[.int .i64 0, .bool false, .slice none 0 0, .slice none 0 0, .int .i64 0, .string (⟨#[]⟩ : ByteArray), .string (⟨#[]⟩ : ByteArray), .int .i64 0]) ?_ 0 _ rfl; (with_reducible repeat (first|apply kn_|apply kd_|apply ka_)); exact BK356.out) hb); have m15 := A0_ (bt_ (by repeat (with_reducible first|exact HB.out|apply ba_|apply bn_|apply bd_|refine bs_ ?_ GE290.out|refine bs_ ?_ GE300.out|refine bs_ ?_ GE314.out|refine bs_ ?_ GE356.out)) hb); clear HO_291002 HO_291003 HO_301002 HO_301003 HO_315002 HO_315003 HO338 HO341 HO347 HO350 BK266 BK290 BK300 BK314 BK356 HB; have HO_291002 := m0; have HO_291003 := m1; have HO_301002 := m2; have HO_301003 := m3; have HO_315002 := m4; have HO_315003 := m5; have HO338 := m6; have HO341 := m7; have HO347 := m8; have HO350 := m9; have BK266 := m10; have BK290 := m11; have BK300 := m12; have BK314 := m13; have BK356 := m14; have HB := m15; clear m0 m1 m2 m3 m4 m5 m6 m7 m8 m9 m10 m11 m12 m13 m14 m15; (try clear hb)))
             go_meet
             case rel => exact ⟨_, ((t355 != t289)), (by first|rfl|(simp [*]; done)), H', ⟨by have := HJ10.out; have := HJ63.out; first|omega|exact Nat.le_refl _⟩, ⟨by (try simp only [hl301002_63]); (try simp only [hl301003_63]); (with_reducible repeat (first|apply ra_|apply rn_|apply rd_)); exact Kd.R_mono HO_291002.out (fun _ hk => ⟨hk.1.1.1.1.1, ⟨hk.1.1.1.1.2.1, ⟨hk.1.1.1.1.2.2.1, ⟨hk.1.1.1.1.2.2.2.1, ⟨hk.1.1.1.1.2.2.2.2, ⟨hk.1.2, hk.2⟩⟩⟩⟩⟩⟩)⟩, ⟨by (try simp only [hl301002_63]); (try simp only [hl301003_63]); (with_reducible repeat (first|apply ra_|apply rn_|apply rd_)); exact Kd.R_mono HO_291003.out (fun _ hk => ⟨hk.1.1.1.1.1, ⟨hk.1.1.1.1.2.1, ⟨hk.1.1.1.1.2.2.1, ⟨hk.1.1.1.1.2.2.2.1, ⟨hk.1.1.1.1.2.2.2.2, ⟨hk.1.2, hk.2⟩⟩⟩⟩⟩⟩)⟩, ⟨by (try simp only [hl301002_63]); (try simp only [hl301003_63]); (with_reducible repeat (first|apply ra_|apply rn_|apply rd_)); exact Kd.R_mono HO_301002.out (fun _ hk => ⟨hk.1.1.1.1.1, ⟨hk.1.1.1.1.2.1, ⟨hk.1.1.1.1.2.2.1, ⟨hk.1.1.1.1.2.2.2.1, ⟨hk.1.1.1.1.2.2.2.2, ⟨hk.1.2, hk.2⟩⟩⟩⟩⟩⟩)⟩, ⟨by (try simp only [hl301002_63]); (try simp only [hl301003_63]); (with_reducible repeat (first|apply ra_|apply rn_|apply rd_)); exact Kd.R_mono HO_301003.out (fun _ hk => ⟨hk.1.1.1.1.1, ⟨hk.1.1.1.1.2.1, ⟨hk.1.1.1.1.2.2.1, ⟨hk.1.1.1.1.2.2.2.1, ⟨hk.1.1.1.1.2.2.2.2, ⟨hk.1.2, hk.2⟩⟩⟩⟩⟩⟩)⟩, ⟨by (try simp only [hl301002_63]); (try simp only [hl301003_63]); (with_reducible repeat (first|apply ra_|apply rn_|apply rd_)); exact Kd.R_mono HO_315002.out (fun _ hk => ⟨hk.1.1.1.1.1, ⟨hk.1.1.1.1.2.1, ⟨hk.1.1.1.1.2.2.1, ⟨hk.1.1.1.1.2.2.2.1, ⟨hk.1.1.1.1.2.2.2.2, ⟨hk.1.2, hk.2⟩⟩⟩⟩⟩⟩)⟩, ⟨by (try simp only [hl301002_63]); (try simp only [hl301003_63]); (with_reducible repeat (first|apply ra_|apply rn_|apply rd_)); exact Kd.R_mono HO_315003.out (fun _ hk => ⟨hk.1.1.1.1.1, ⟨hk.1.1.1.1.2.1, ⟨hk.1.1.1.1.2.2.1, ⟨hk.1.1.1.1.2.2.2.1, ⟨hk.1.1.1.1.2.2.2.2, ⟨hk.1.2, hk.2⟩⟩⟩⟩⟩⟩)⟩, ⟨by (try simp only [hl301002_63]); (try simp only [hl301003_63]); (with_reducible repeat (first|apply ra_|apply rn_|apply rd_)); exact Kd.R_mono HO347.out (fun _ hk => ⟨hk.1.1.1.1.1.1.1.2, ⟨hk.1.1.1.1.1.1.2, ⟨hk.1.1.1.1.1.2, ⟨hk.1.1.1.1.2, ⟨hk.1.1.1.2, ⟨hk.1.1.2, hk.1.1.1.1.1.1.1.1⟩⟩⟩⟩⟩⟩)⟩, ⟨by (try simp only [hl301002_63]); (try simp only [hl301003_63]); (with_reducible repeat (first|apply ra_|apply rn_|apply rd_)); exact Kd.R_mono HO350.out (fun _ hk => ⟨hk.1.1.1.1.1.1.1.2, ⟨hk.1.1.1.1.1.1.2, ⟨hk.1.1.1.1.1.2, ⟨hk.1.1.1.1.2, ⟨hk.1.1.1.2, ⟨hk.1.1.2, hk.1.1.1.1.1.1.1.1⟩⟩⟩⟩⟩⟩)⟩, ⟨by (try simp only [hl301002_63]); (try simp only [hl301003_63]); (with_reducible repeat (first|apply kn_|apply kd_|apply ka_)); exact BK266.out⟩, ⟨by (try simp only [hl301002_63]); (try simp only [hl301003_63]); (with_reducible repeat (first|apply kn_|apply kd_|apply ka_)); exact BK290.out⟩, ⟨by (try simp only [hl301002_63]); (try simp only [hl301003_63]); (with_reducible repeat (first|apply kn_|apply kd_|apply ka_)); exact BK300.out⟩, ⟨by (try simp only [hl301002_63]); (try simp only [hl301003_63]); (with_reducible repeat (first|apply kn_|apply kd_|apply ka_)); exact BK314.out⟩, ⟨by (try simp only [hl301002_63]); (try simp only [hl301003_63]); (with_reducible repeat (first|apply kn_|apply kd_|apply ka_)); exact BK356.out⟩, ⟨by repeat (with_reducible first|exact HB.out|apply ba_|apply bn_|apply bd_|refine bs_ ?_ GE290.out|refine bs_ ?_ GE300.out|refine bs_ ?_ GE314.out|refine bs_ ?_ GE356.out)⟩⟩
            ·replace c132 := bf_.mpr c132
             subst c132
             rw [if_neg (show ¬ (false = true) by decide)] at H
             have H' := A0_ H
             clear H
             have hnb143 := NB356_266.out
             have hnc143 := NB266_356.out
             have hnb144 := NB356_290.out
             have hnc144 := NB290_356.out
             have hnb145 := NB356_300.out
             have hnc145 := NB300_356.out
             have hnb146 := NB356_314.out
             have hnc146 := NB314_356.out
             have hcz147_0 : w123.cell? ⟨gb356, 0, none⟩ = some (.int .i64 0) := (kc_ BK356.out 0).trans rfl
             have hcz147_1 : w123.cell? ⟨gb356, 1, none⟩ = some (.bool false) := (kc_ BK356.out 1).trans rfl
             have hcz147_2 : w123.cell? ⟨gb356, 2, none⟩ = some (.slice none 0 0) := (kc_ BK356.out 2).trans rfl
             have hcz147_3 : w123.cell? ⟨gb356, 3, none⟩ = some (.slice none 0 0) := (kc_ BK356.out 3).trans rfl
             have hcz147_4 : w123.cell? ⟨gb356, 4, none⟩ = some (.int .i64 0) := (kc_ BK356.out 4).trans rfl
             have hcz147_5 : w123.cell? ⟨gb356, 5, none⟩ = some (.string (⟨#[]⟩ : ByteArray)) := (kc_ BK356.out 5).trans rfl
             have hcz147_6 : w123.cell? ⟨gb356, 6, none⟩ = some (.string (⟨#[]⟩ : ByteArray)) := (kc_ BK356.out 6).trans rfl
             have hcz147_7 : w123.cell? ⟨gb356, 7, none⟩ = some (.int .i64 0) := (kc_ BK356.out 7).trans rfl
             have hfz147_0 := kf_ BK356.out 0
             have hfz147_1 := kf_ BK356.out 1
             have hfz147_2 := kf_ BK356.out 2
             have hfz147_3 := kf_ BK356.out 3
             have hfz147_4 := kf_ BK356.out 4
             have hfz147_5 := kf_ BK356.out 5
             have hfz147_6 := kf_ BK356.out 6
             have hfz147_7 := kf_ BK356.out 7
             have hnb148 := NB290_266.out
             have hnc148 := NB266_290.out
             have hnb149 := NB290_300.out
             have hnc149 := NB300_290.out
             have hnb150 := NB290_314.out
             have hnc150 := NB314_290.out
             have hcz151_0 : w123.cell? ⟨gb290, 0, none⟩ = some (.int .i64 t277) := (kc_ BK290.out 0).trans rfl
             have hcz151_1 : w123.cell? ⟨gb290, 1, none⟩ = some (.bool t278) := (kc_ BK290.out 1).trans rfl
             have hcz151_2 : w123.cell? ⟨gb290, 2, none⟩ = some (.slice Ao23 t279.length co23) := (kc_ BK290.out 2).trans rfl
             have hcz151_3 : w123.cell? ⟨gb290, 3, none⟩ = some (.slice Ao24 t282.length co24) := (kc_ BK290.out 3).trans rfl
             have hcz151_4 : w123.cell? ⟨gb290, 4, none⟩ = some (.int .i64 t285) := (kc_ BK290.out 4).trans rfl
             have hcz151_5 : w123.cell? ⟨gb290, 5, none⟩ = some (.string t286) := (kc_ BK290.out 5).trans rfl
             have hcz151_6 : w123.cell? ⟨gb290, 6, none⟩ = some (.string t287) := (kc_ BK290.out 6).trans rfl
             have hcz151_7 : w123.cell? ⟨gb290, 7, none⟩ = some (.int .i64 t288) := (kc_ BK290.out 7).trans rfl
             have hfz151_0 := kf_ BK290.out 0
             have hfz151_1 := kf_ BK290.out 1
             have hfz151_2 := kf_ BK290.out 2
             have hfz151_3 := kf_ BK290.out 3
             have hfz151_4 := kf_ BK290.out 4
             have hfz151_5 := kf_ BK290.out 5
             have hfz151_6 := kf_ BK290.out 6
             have hfz151_7 := kf_ BK290.out 7
             go_wp2_with (first|((with_reducible refine gc_ (f := 19) rfl ?_); refine goesL_ (some 81) rfl rfl Try.func19 (by kernel_rfl) rfl #[.agg #[.int .i64 t343, .bool t344, .slice Ao129 t345.length co129, .slice Ao130 t348.length co130, .int .i64 t351, .string t352, .string t353, .int .i64 t354], .agg #[.int .i64 t277, .bool t278, .slice Ao23 t279.length co23, .slice Ao24 t282.length co24, .int .i64 t285, .string t286, .string t287, .int .i64 t288]] rfl (by (try simp only [ma_, mc_, mn_]); first|done|rfl) ?_; (with_reducible refine (laws_eqConsole.calls kj63 t343 t344 _ _ t345 _ _ t348 t351 t352 t353 t354 t277 t278 _ _ t279 _ _ t282 t285 t286 t287 t288 false _ ?side1 ?side2 ?side3 ?side4 ?side5 ?side6 ?side7 ?side8 A131.out).mono ?_); (case side1 => refine (rr_ (e := 3) (base := w.heap.size) (ok := fun k_ => ((((((((nb_ (.slice Ao130 t348.length co130) k_ ∧ nb_ (.slice Ao23 t279.length co23) k_) ∧ nb_ (.slice Ao24 t282.length co24) k_) ∧ nb_ (.slice Ao31 t327.length co31) k_) ∧ nb_ (.slice Ao32 t328.length co32) k_) ∧ nb_ (.slice Ao39 t303.length co39) k_) ∧ nb_ (.slice Ao40 t306.length co40) k_) ∧ nb_ (.slice Ao120 t336.length co120) k_) ∧ nb_ (.slice Ao121 t339.length co121) k_)) (n := t345.length) (c := co129) ?_).2.2; exact (by (with_reducible repeat (first|apply ra_|apply rn_|apply rd_)); exact (Kd.R_mono (rf_ (rf_ (rf_ (rf_ (rf_ (rf_ (rf_ (rf_ (Kd.R_types HO347.out BK356.out (by decide)) k2_ _) k2_ _) k2_ _) k2_ _) k2_ _) k2_ _) k2_ _) k2_ _) (fun _ h_ => h_.1)))); (case side2 => exact (rr_ HO347.out).2.1); (case side3 => refine (rr_ (e := 3) (base := w.heap.size) (ok := fun k_ => ((((((((nb_ (.slice Ao129 t345.length co129) k_ ∧ nb_ (.slice Ao23 t279.length co23) k_) ∧ nb_ (.slice Ao24 t282.length co24) k_) ∧ nb_ (.slice Ao31 t327.length co31) k_) ∧ nb_ (.slice Ao32 t328.length co32) k_) ∧ nb_ (.slice Ao39 t303.length co39) k_) ∧ nb_ (.slice Ao40 t306.length co40) k_) ∧ nb_ (.slice Ao120 t336.length co120) k_) ∧ nb_ (.slice Ao121 t339.length co121) k_)) (n := t348.length) (c := co130) ?_).2.2; exact (by (with_reducible repeat (first|apply ra_|apply rn_|apply rd_)); exact (Kd.R_mono (rf_ (rf_ (rf_ (rf_ (rf_ (rf_ (rf_ (rf_ (Kd.R_types HO350.out BK356.out (by decide)) k2_ _) k2_ _) k2_ _) k2_ _) k2_ _) k2_ _) k2_ _) k2_ _) (fun _ h_ => h_.1)))); (case side4 => exact (rr_ HO350.out).2.1); (case side5 => refine (rr_ (e := 3) (base := w.heap.size) (ok := fun k_ => (((((nb_ (.slice Ao24 t282.length co24) k_ ∧ (nb_ (.slice Ao31 t327.length co31) k_ ∧ (nb_ (.slice Ao32 t328.length co32) k_ ∧ (nb_ (.slice Ao39 t303.length co39) k_ ∧ nb_ (.slice Ao40 t306.length co40) k_)))) ∧ nb_ (.slice Ao120 t336.length co120) k_) ∧ nb_ (.slice Ao121 t339.length co121) k_) ∧ nb_ (.slice Ao129 t345.length co129) k_) ∧ nb_ (.slice Ao130 t348.length co130) k_)) (n := t279.length) (c := co23) ?_).2.2; exact (by (with_reducible repeat (first|apply ra_|apply rn_|apply rd_)); exact (Kd.R_mono (rf_ (rf_ (rf_ (rf_ (rf_ (rf_ (rf_ (rf_ (Kd.R_types HO_291002.out BK356.out (by decide)) k2_ _) k2_ _) k2_ _) k2_ _) k2_ _) k2_ _) k2_ _) k2_ _) (fun _ h_ => h_.1)))); (case side6 => exact (rr_ HO_291002.out).2.1); (case side7 => refine (rr_ (e := 3) (base := w.heap.size) (ok := fun k_ => (((((nb_ (.slice Ao23 t279.length co23) k_ ∧ (nb_ (.slice Ao31 t327.length co31) k_ ∧ (nb_ (.slice Ao32 t328.length co32) k_ ∧ (nb_ (.slice Ao39 t303.length co39) k_ ∧ nb_ (.slice Ao40 t306.length co40) k_)))) ∧ nb_ (.slice Ao120 t336.length co120) k_) ∧ nb_ (.slice Ao121 t339.length co121) k_) ∧ nb_ (.slice Ao129 t345.length co129) k_) ∧ nb_ (.slice Ao130 t348.length co130) k_)) (n := t282.length) (c := co24) ?_).2.2; exact (by (with_reducible repeat (first|apply ra_|apply rn_|apply rd_)); exact (Kd.R_mono (rf_ (rf_ (rf_ (rf_ (rf_ (rf_ (rf_ (rf_ (Kd.R_types HO_291003.out BK356.out (by decide)) k2_ _) k2_ _) k2_ _) k2_ _) k2_ _) k2_ _) k2_ _) k2_ _) (fun _ h_ => h_.1)))); (case side8 => exact (rr_ HO_291003.out).2.1); rintro e w152 ⟨rfl, hb⟩; refine ⟨_, rfl, ?_⟩; have m0 := A0_ (Kd.R_below (by (with_reducible repeat (first|apply ra_|apply rn_|apply rd_)); exact (Kd.R_mono (rf_ (rf_ (rf_ (rf_ (rf_ (rf_ (rf_ (rf_ (Kd.R_types HO_291002.out BK356.out (by decide)) k2_ _) k2_ _) k2_ _) k2_ _) k2_ _) k2_ _) k2_ _) k2_ _) (fun _ h_ => h_.1))) hb); have m1 := A0_ (Kd.R_below (by (with_reducible repeat (first|apply ra_|apply rn_|apply rd_)); exact (Kd.R_mono (rf_ (rf_ (rf_ (rf_ (rf_ (rf_ (rf_ (rf_ (Kd.R_types HO_291003.out BK356.out (by decide)) k2_ _) k2_ _) k2_ _) k2_ _) k2_ _) k2_ _) k2_ _) k2_ _) (fun _ h_ => h_.1))) hb); have m2 := A0_ (Kd.R_below (by (with_reducible repeat (first|apply ra_|apply rn_|apply rd_)); exact (Kd.R_mono (rf_ (rf_ (rf_ (rf_ (rf_ (rf_ (rf_ (rf_ (Kd.R_types HO_301002.out BK356.out (by decide)) k2_ _) k2_ _) k2_ _) k2_ _) k2_ _) k2_ _) k2_ _) k2_ _) (fun _ h_ => h_.1))) hb); have m3 := A0_ (Kd.R_below (by (with_reducible repeat (first|apply ra_|apply rn_|apply rd_)); exact (Kd.R_mono (rf_ (rf_ (rf_ (rf_ (rf_ (rf_ (rf_ (rf_ (Kd.R_types HO_301003.out BK356.out (by decide)) k2_ _) k2_ _) k2_ _) k2_ _) k2_ _) k2_ _) k2_ _) k2_ _) (fun _ h_ => h_.1))) hb); have m4 := A0_ (Kd.R_below (by (with_reducible repeat (first|apply ra_|apply rn_|apply rd_)); exact (Kd.R_mono (rf_ (rf_ (rf_ (rf_ (rf_ (rf_ (rf_ (rf_ (Kd.R_types HO_315002.out BK356.out (by decide)) k2_ _) k2_ _) k2_ _) k2_ _) k2_ _) k2_ _) k2_ _) k2_ _) (fun _ h_ => h_.1))) hb); have m5 := A0_ (Kd.R_below (by (with_reducible repeat (first|apply ra_|apply rn_|apply rd_)); exact (Kd.R_mono (rf_ (rf_ (rf_ (rf_ (rf_ (rf_ (rf_ (rf_ (Kd.R_types HO_315003.out BK356.out (by decide)) k2_ _) k2_ _) k2_ _) k2_ _) k2_ _) k2_ _) k2_ _) k2_ _) (fun _ h_ => h_.1))) hb); have m6 := A0_ (Kd.R_below (by (with_reducible repeat (first|apply ra_|apply rn_|apply rd_)); exact (Kd.R_mono (rf_ (rf_ (rf_ (rf_ (rf_ (rf_ (rf_ (rf_ (Kd.R_types HO338.out BK356.out (by decide)) k2_ _) k2_ _) k2_ _) k2_ _) k2_ _) k2_ _) k2_ _) k2_ _) (fun _ h_ => h_.1))) hb); have m7 := A0_ (Kd.R_below (by (with_reducible repeat (first|apply ra_|apply rn_|apply rd_)); exact (Kd.R_mono (rf_ (rf_ (rf_ (rf_ (rf_ (rf_ (rf_ (rf_ (Kd.R_types HO341.out BK356.out (by decide)) k2_ _) k2_ _) k2_ _) k2_ _) k2_ _) k2_ _) k2_ _) k2_ _) (fun _ h_ => h_.1))) hb); have m8 := A0_ (Kd.R_below (by (with_reducible repeat (first|apply ra_|apply rn_|apply rd_)); exact (Kd.R_mono (rf_ (rf_ (rf_ (rf_ (rf_ (rf_ (rf_ (rf_ (Kd.R_types HO347.out BK356.out (by decide)) k2_ _) k2_ _) k2_ _) k2_ _) k2_ _) k2_ _) k2_ _) k2_ _) (fun _ h_ => h_.1))) hb); have m9 := A0_ (Kd.R_below (by (with_reducible repeat (first|apply ra_|apply rn_|apply rd_)); exact (Kd.R_mono (rf_ (rf_ (rf_ (rf_ (rf_ (rf_ (rf_ (rf_ (Kd.R_types HO350.out BK356.out (by decide)) k2_ _) k2_ _) k2_ _) k2_ _) k2_ _) k2_ _) k2_ _) k2_ _) (fun _ h_ => h_.1))) hb); have m10 := A0_ (kb_ (g := gb266) (o := .cells #[.int .i64 a0_0, .bool a0_1, .slice A0_2 l0_2.length c0_2, .slice A0_3 l0_3.length c0_3, .int .i64 a0_4] 26 (0, 0)) (by (with_reducible repeat (first|apply kn_|apply kd_|apply ka_)); refine blk_far ?_ NB266_356.out _; (with_reducible repeat (first|apply kn_|apply kd_|apply ka_)); refine blk_far ?_ NB266_356.out _; (with_reducible repeat (first|apply kn_|apply kd_|apply ka_)); refine blk_far ?_ NB266_356.out _; (with_reducible repeat (first|apply kn_|apply kd_|apply ka_)); refine blk_far ?_ NB266_356.out _; (with_reducible repeat (first|apply kn_|apply kd_|apply ka_)); refine blk_far ?_ NB266_356.out _; (with_reducible repeat (first|apply kn_|apply kd_|apply ka_)); refine blk_far ?_ NB266_356.out _; (with_reducible repeat (first|apply kn_|apply kd_|apply ka_)); refine blk_far ?_ NB266_356.out _; (with_reducible repeat (first|apply kn_|apply kd_|apply ka_)); refine blk_far ?_ NB266_356.out _; (with_reducible repeat (first|apply kn_|apply kd_|apply ka_)); exact BK266.out) hb); have m11 := A0_ (kb_ (g := gb290) (o := .cells #[.int .i64 t277, .bool t278, .slice Ao23 t279.length co23, .slice Ao24 t282.length co24, .int .i64 t285, .string t286, .string t287, .int .i64 t288] 43 (0, 0)) (by (with_reducible repeat (first|apply kn_|apply kd_|apply ka_)); refine blk_far ?_ NB290_356.out _; (with_reducible repeat (first|apply kn_|apply kd_|apply ka_)); refine blk_far ?_ NB290_356.out _; (with_reducible repeat (first|apply kn_|apply kd_|apply ka_)); refine blk_far ?_ NB290_356.out _; (with_reducible repeat (first|apply kn_|apply kd_|apply ka_)); refine blk_far ?_ NB290_356.out _; (with_reducible repeat (first|apply kn_|apply kd_|apply ka_)); refine blk_far ?_ NB290_356.out _; (with_reducible repeat (first|apply kn_|apply kd_|apply ka_)); refine blk_far ?_ NB290_356.out _; (with_reducible repeat (first|apply kn_|apply kd_|apply ka_)); refine blk_far ?_ NB290_356.out _; (with_reducible repeat (first|apply kn_|apply kd_|apply ka_)); refine blk_far ?_ NB290_356.out _; (with_reducible repeat (first|apply kn_|apply kd_|apply ka_)); exact BK290.out) hb); have m12 := A0_ (kb_ (g := gb300) (o := .cells #[.int .i64 t291, .bool t292, .slice Ao31 t327.length co31, .slice Ao32 t328.length co32, .int .i64 t299] 31 (0, 0)) (by (with_reducible repeat (first|apply kn_|apply kd_|apply ka_)); refine blk_far ?_ NB300_356.out _; (with_reducible repeat (first|apply kn_|apply kd_|apply ka_)); refine blk_far ?_ NB300_356.out _; (with_reducible repeat (first|apply kn_|apply kd_|apply ka_)); refine blk_far ?_ NB300_356.out _; (with_reducible repeat (first|apply kn_|apply kd_|apply ka_)); refine blk_far ?_ NB300_356.out _; (with_reducible repeat (first|apply kn_|apply kd_|apply ka_)); refine blk_far ?_ NB300_356.out _; (with_reducible repeat (first|apply kn_|apply kd_|apply ka_)); refine blk_far ?_ NB300_356.out _; (with_reducible repeat (first|apply kn_|apply kd_|apply ka_)); refine blk_far ?_ NB300_356.out _; (with_reducible repeat (first|apply kn_|apply kd_|apply ka_)); refine blk_far ?_ NB300_356.out _; (with_reducible repeat (first|apply kn_|apply kd_|apply ka_)); exact BK300.out) hb); have m13 := A0_ (kb_ (g := gb314) (o := .cells #[.int .i64 t301, .bool t302, .slice Ao39 t303.length co39, .slice Ao40 t306.length co40, .int .i64 t309, .string t310, .string t311, .int .i64 t312] 43 (0, 0)) (by (with_reducible repeat (first|apply kn_|apply kd_|apply ka_)); refine blk_far ?_ NB314_356.out _; (with_reducible repeat (first|apply kn_|apply kd_|apply ka_)); refine blk_far ?_ NB314_356.out _; (with_reducible repeat (first|apply kn_|apply kd_|apply ka_)); refine blk_far ?_ NB314_356.out _; (with_reducible repeat (first|apply kn_|apply kd_|apply ka_)); refine blk_far ?_ NB314_356.out _; (with_reducible repeat (first|apply kn_|apply kd_|apply ka_)); refine blk_far ?_ NB314_356.out _; (with_reducible repeat (first|apply kn_|apply kd_|apply ka_)); refine blk_far ?_ NB314_356.out _; (with_reducible repeat (first|apply kn_|apply kd_|apply ka_)); refine blk_far ?_ NB314_356.out _; (with_reducible repeat (first|apply kn_|apply kd_|apply ka_)); refine blk_far ?_ NB314_356.out _; (with_reducible repeat (first|apply kn_|apply kd_|apply ka_)); exact BK314.out) hb); have m14 := A0_ (kb_ (g := gb356) (o := .cells #[.int .i64 t343, .bool t344, .slice Ao129 t345.length co129, .slice Ao130 t348.length co130, .int .i64 t351, .string t352, .string t353, .int .i64 t354] 43 (0, 0)) (by (with_reducible repeat (first|apply kn_|apply kd_|apply ka_)); refine blk_put (cs := #[.int .i64 t343, .bool t344, .slice Ao129 t345.length co129, .slice Ao130 t348.length co130, .int .i64 t351, .string t352, .string t353, .int .i64 0]) ?_ 7 _ rfl; (with_reducible repeat (first|apply kn_|apply kd_|apply ka_)); refine blk_put (cs := #[.int .i64 t343, .bool t344, .slice Ao129 t345.length co129, .slice Ao130 t348.length co130, .int .i64 t351, .string t352, .string (⟨#[]⟩ : ByteArray), .int .i64 0]) ?_ 6 _ rfl; (with_reducible repeat (first|apply kn_|apply kd_|apply ka_)); refine blk_put (cs := #[.int .i64 t343, .bool t344, .slice Ao129 t345.length co129, .slice Ao130 t348.length co130, .int .i64 t351, .string (⟨#[]⟩ : ByteArray), .string (⟨#[]⟩ : ByteArray), .int .i64 0]) ?_ 5 _ rfl; (with_reducible repeat (first|apply kn_|apply kd_|apply ka_)); refine blk_put (cs := #[.int .i64 t343, .bool t344, .slice Ao129 t345.length co129, .slice Ao130 t348.length co130, .int .i64 0, .string (⟨#[]⟩ : ByteArray), .string (⟨#[]⟩ : ByteArray), .int .i64 0]) ?_ 4 _ rfl; (with_reducible repeat (first|apply kn_|apply kd_|apply ka_)); refine blk_put (cs := #[.int .i64 t343, .bool t344, .slice Ao129 t345.length co129, .slice none 0 0, .int .i64 0, .string (⟨#[]⟩ : ByteArray), .string (⟨#[]⟩ : ByteArray), .int .i64 0]) ?_ 3 _ rfl; (with_reducible repeat (first|apply kn_|apply kd_|apply ka_)); refine blk_put (cs := #[.int .i64 t343, .bool t344, .slice none 0 0, .slice none 0 0, .int .i64 0, .string (⟨#[]⟩ : ByteArray), .string (⟨#[]⟩ : ByteArray), .int .i64 0]) ?_ 2 _ rfl; (with_reducible repeat (first|apply kn_|apply kd_|apply ka_)); refine blk_put (cs := #[.int .i64 t343, .bool false, .slice none 0 0, .slice none 0 0, .int .i64 0, .string (⟨#[]⟩ : ByteArray), .string (⟨#[]⟩ : ByteArray), .int .i64 0]) ?_ 1 _ rfl; (with_reducible repeat (first|apply kn_|apply kd_|apply ka_)); refine blk_put (cs := #[.int .i64 0, .bool false, .slice none 0 0, .slice none 0 0, .int .i64 0, .string (⟨#[]⟩ : ByteArray), .string (⟨#[]⟩ : ByteArray), .int .i64 0]) ?_ 0 _ rfl; (with_reducible repeat (first|apply kn_|apply kd_|apply ka_)); exact BK356.out) hb); have m15 := A0_ (bt_ (by repeat (with_reducible first|exact HB.out|apply ba_|apply bn_|apply bd_|refine bs_ ?_ GE290.out|refine bs_ ?_ GE300.out|refine bs_ ?_ GE314.out|refine bs_ ?_ GE356.out)) hb); clear HO_291002 HO_291003 HO_301002 HO_301003 HO_315002 HO_315003 HO338 HO341 HO347 HO350 BK266 BK290 BK300 BK314 BK356 HB; have HO_291002 := m0; have HO_291003 := m1; have HO_301002 := m2; have HO_301003 := m3; have HO_315002 := m4; have HO_315003 := m5; have HO338 := m6; have HO341 := m7; have HO347 := m8; have HO350 := m9; have BK266 := m10; have BK290 := m11; have BK300 := m12; have BK314 := m13; have BK356 := m14; have HB := m15; clear m0 m1 m2 m3 m4 m5 m6 m7 m8 m9 m10 m11 m12 m13 m14 m15; (try clear hb)))
             go_meet
             case rel => exact ⟨_, (true), (by first|rfl|(simp [*]; done)), H', ⟨by have := HJ10.out; have := HJ63.out; first|omega|exact Nat.le_refl _⟩, ⟨by (try simp only [hl301002_63]); (try simp only [hl301003_63]); (with_reducible repeat (first|apply ra_|apply rn_|apply rd_)); exact Kd.R_mono HO_291002.out (fun _ hk => ⟨hk.1.1.1.1.1, ⟨hk.1.1.1.1.2.1, ⟨hk.1.1.1.1.2.2.1, ⟨hk.1.1.1.1.2.2.2.1, ⟨hk.1.1.1.1.2.2.2.2, ⟨hk.1.2, hk.2⟩⟩⟩⟩⟩⟩)⟩, ⟨by (try simp only [hl301002_63]); (try simp only [hl301003_63]); (with_reducible repeat (first|apply ra_|apply rn_|apply rd_)); exact Kd.R_mono HO_291003.out (fun _ hk => ⟨hk.1.1.1.1.1, ⟨hk.1.1.1.1.2.1, ⟨hk.1.1.1.1.2.2.1, ⟨hk.1.1.1.1.2.2.2.1, ⟨hk.1.1.1.1.2.2.2.2, ⟨hk.1.2, hk.2⟩⟩⟩⟩⟩⟩)⟩, ⟨by (try simp only [hl301002_63]); (try simp only [hl301003_63]); (with_reducible repeat (first|apply ra_|apply rn_|apply rd_)); exact Kd.R_mono HO_301002.out (fun _ hk => ⟨hk.1.1.1.1.1, ⟨hk.1.1.1.1.2.1, ⟨hk.1.1.1.1.2.2.1, ⟨hk.1.1.1.1.2.2.2.1, ⟨hk.1.1.1.1.2.2.2.2, ⟨hk.1.2, hk.2⟩⟩⟩⟩⟩⟩)⟩, ⟨by (try simp only [hl301002_63]); (try simp only [hl301003_63]); (with_reducible repeat (first|apply ra_|apply rn_|apply rd_)); exact Kd.R_mono HO_301003.out (fun _ hk => ⟨hk.1.1.1.1.1, ⟨hk.1.1.1.1.2.1, ⟨hk.1.1.1.1.2.2.1, ⟨hk.1.1.1.1.2.2.2.1, ⟨hk.1.1.1.1.2.2.2.2, ⟨hk.1.2, hk.2⟩⟩⟩⟩⟩⟩)⟩, ⟨by (try simp only [hl301002_63]); (try simp only [hl301003_63]); (with_reducible repeat (first|apply ra_|apply rn_|apply rd_)); exact Kd.R_mono HO_315002.out (fun _ hk => ⟨hk.1.1.1.1.1, ⟨hk.1.1.1.1.2.1, ⟨hk.1.1.1.1.2.2.1, ⟨hk.1.1.1.1.2.2.2.1, ⟨hk.1.1.1.1.2.2.2.2, ⟨hk.1.2, hk.2⟩⟩⟩⟩⟩⟩)⟩, ⟨by (try simp only [hl301002_63]); (try simp only [hl301003_63]); (with_reducible repeat (first|apply ra_|apply rn_|apply rd_)); exact Kd.R_mono HO_315003.out (fun _ hk => ⟨hk.1.1.1.1.1, ⟨hk.1.1.1.1.2.1, ⟨hk.1.1.1.1.2.2.1, ⟨hk.1.1.1.1.2.2.2.1, ⟨hk.1.1.1.1.2.2.2.2, ⟨hk.1.2, hk.2⟩⟩⟩⟩⟩⟩)⟩, ⟨by (try simp only [hl301002_63]); (try simp only [hl301003_63]); (with_reducible repeat (first|apply ra_|apply rn_|apply rd_)); exact Kd.R_mono HO347.out (fun _ hk => ⟨hk.1.1.1.1.1.1.1.2, ⟨hk.1.1.1.1.1.1.2, ⟨hk.1.1.1.1.1.2, ⟨hk.1.1.1.1.2, ⟨hk.1.1.1.2, ⟨hk.1.1.2, hk.1.1.1.1.1.1.1.1⟩⟩⟩⟩⟩⟩)⟩, ⟨by (try simp only [hl301002_63]); (try simp only [hl301003_63]); (with_reducible repeat (first|apply ra_|apply rn_|apply rd_)); exact Kd.R_mono HO350.out (fun _ hk => ⟨hk.1.1.1.1.1.1.1.2, ⟨hk.1.1.1.1.1.1.2, ⟨hk.1.1.1.1.1.2, ⟨hk.1.1.1.1.2, ⟨hk.1.1.1.2, ⟨hk.1.1.2, hk.1.1.1.1.1.1.1.1⟩⟩⟩⟩⟩⟩)⟩, ⟨by (try simp only [hl301002_63]); (try simp only [hl301003_63]); (with_reducible repeat (first|apply kn_|apply kd_|apply ka_)); exact BK266.out⟩, ⟨by (try simp only [hl301002_63]); (try simp only [hl301003_63]); (with_reducible repeat (first|apply kn_|apply kd_|apply ka_)); exact BK290.out⟩, ⟨by (try simp only [hl301002_63]); (try simp only [hl301003_63]); (with_reducible repeat (first|apply kn_|apply kd_|apply ka_)); exact BK300.out⟩, ⟨by (try simp only [hl301002_63]); (try simp only [hl301003_63]); (with_reducible repeat (first|apply kn_|apply kd_|apply ka_)); exact BK314.out⟩, ⟨by (try simp only [hl301002_63]); (try simp only [hl301003_63]); (with_reducible repeat (first|apply kn_|apply kd_|apply ka_)); exact BK356.out⟩, ⟨by repeat (with_reducible first|exact HB.out|apply ba_|apply bn_|apply bd_|refine bs_ ?_ GE290.out|refine bs_ ?_ GE300.out|refine bs_ ?_ GE314.out|refine bs_ ?_ GE356.out)⟩⟩
           case rest =>
            clear HC108
            try clear c1
            try clear c2
            try clear p2
            try clear c3
            try clear c3b0
            try clear c4
            try clear c5
            try clear c6
            try clear c7
            try clear c8
            try clear c9
            try clear c10
            try clear c11
            try clear c12
            try clear c13
            try clear c14
            try clear c15
            try clear c17
            try clear c18
            try clear c19
            try clear c20
            try clear c21
            try clear c28
            try clear c29
            try clear c35
            try clear c36
            try clear c37
            try clear c42
            try clear c43
            try clear c44
            try clear c45
            try clear c47
            try clear c48
            try clear c51
            try clear c52
            try clear c53
            try clear c55
            try clear c56
            try clear c59
            try clear c62
            try clear c70
            try clear c71
            try clear c72
            try clear c75
            try clear c75b0
            try clear c77
            try clear c78
            try clear c79
            try clear c80
            try clear c82
            try clear c83
            try clear c86
            try clear c87
            try clear c88
            try clear c90
            try clear c91
            try clear c94
            try clear c97
            try clear c97b0
            try clear c98
            try clear c99
            try clear c100
            try clear c105
            try clear c105b0
            try clear c105b1
            try clear c109
            try clear c110
            try clear c111
            try clear c116
            try clear c117
            try clear c124
            try clear c125
            try clear c126
            try clear c127
            try clear c132
            try clear c133
            try clear c134
            try clear c135
            try clear c136
            try clear c138
            try clear c139
            try clear c140
            try clear c143
            try clear c144
            try clear c145
            try clear c146
            try clear c148
            try clear c149
            try clear c150
            try clear hcz101_0
            try clear hcz101_1
            try clear hcz101_2
            try clear hcz101_3
            try clear hcz101_4
            try clear hcz101_5
            try clear hcz101_6
            try clear hcz101_7
            try clear hcz103_0
            try clear hcz103_1
            try clear hcz103_2
            try clear hcz103_3
            try clear hcz103_4
            try clear hcz103_5
            try clear hcz103_6
            try clear hcz103_7
            try clear hcz112_0
            try clear hcz112_1
            try clear hcz112_2
            try clear hcz112_3
            try clear hcz112_4
            try clear hcz112_5
            try clear hcz112_6
            try clear hcz112_7
            try clear hcz114_0
            try clear hcz114_1
            try clear hcz114_2
            try clear hcz114_3
            try clear hcz114_4
            try clear hcz114_5
            try clear hcz114_6
            try clear hcz114_7
            try clear hcz118_0
            try clear hcz118_1
            try clear hcz118_2
            try clear hcz118_3
            try clear hcz118_4
            try clear hcz128_0
            try clear hcz128_1
            try clear hcz128_2
            try clear hcz128_3
            try clear hcz128_4
            try clear hcz128_5
            try clear hcz128_6
            try clear hcz128_7
            try clear hcz137_0
            try clear hcz137_1
            try clear hcz137_2
            try clear hcz137_3
            try clear hcz137_4
            try clear hcz137_5
            try clear hcz137_6
            try clear hcz137_7
            try clear hcz13_0
            try clear hcz13_1
            try clear hcz13_2
            try clear hcz13_3
            try clear hcz13_4
            try clear hcz141_0
            try clear hcz141_1
            try clear hcz141_2
            try clear hcz141_3
            try clear hcz141_4
            try clear hcz141_5
            try clear hcz141_6
            try clear hcz141_7
            try clear hcz147_0
            try clear hcz147_1
            try clear hcz147_2
            try clear hcz147_3
            try clear hcz147_4
            try clear hcz147_5
            try clear hcz147_6
            try clear hcz147_7
            try clear hcz151_0
            try clear hcz151_1
            try clear hcz151_2
            try clear hcz151_3
            try clear hcz151_4
            try clear hcz151_5
            try clear hcz151_6
            try clear hcz151_7
            try clear hcz15_0
            try clear hcz15_1
            try clear hcz15_2
            try clear hcz15_3
            try clear hcz15_4
            try clear hcz22_0
            try clear hcz22_1
            try clear hcz22_2
            try clear hcz22_3
            try clear hcz22_4
            try clear hcz22_5
            try clear hcz22_6
            try clear hcz22_7
            try clear hcz25_0
            try clear hcz25_1
            try clear hcz25_2
            try clear hcz25_3
            try clear hcz25_4
            try clear hcz30_0
            try clear hcz30_1
            try clear hcz30_2
            try clear hcz30_3
            try clear hcz30_4
            try clear hcz38_0
            try clear hcz38_1
            try clear hcz38_2
            try clear hcz38_3
            try clear hcz38_4
            try clear hcz38_5
            try clear hcz38_6
            try clear hcz38_7
            try clear hcz46_0
            try clear hcz46_1
            try clear hcz46_2
            try clear hcz46_3
            try clear hcz46_4
            try clear hcz46_5
            try clear hcz46_6
            try clear hcz46_7
            try clear hcz49_0
            try clear hcz49_1
            try clear hcz49_2
            try clear hcz49_3
            try clear hcz49_4
            try clear hcz49_5
            try clear hcz49_6
            try clear hcz49_7
            try clear hcz54_0
            try clear hcz54_1
            try clear hcz54_2
            try clear hcz54_3
            try clear hcz54_4
            try clear hcz54_5
            try clear hcz54_6
            try clear hcz54_7
            try clear hcz57_0
            try clear hcz57_1
            try clear hcz57_2
            try clear hcz57_3
            try clear hcz57_4
            try clear hcz57_5
            try clear hcz57_6
            try clear hcz57_7
            try clear hcz5_0
            try clear hcz5_1
            try clear hcz5_2
            try clear hcz5_3
            try clear hcz5_4
            try clear hcz73_0
            try clear hcz73_1
            try clear hcz73_2
            try clear hcz73_3
            try clear hcz73_4
            try clear hcz81_0
            try clear hcz81_1
            try clear hcz81_2
            try clear hcz81_3
            try clear hcz81_4
            try clear hcz81_5
            try clear hcz81_6
            try clear hcz81_7
            try clear hcz84_0
            try clear hcz84_1
            try clear hcz84_2
            try clear hcz84_3
            try clear hcz84_4
            try clear hcz84_5
            try clear hcz84_6
            try clear hcz84_7
            try clear hcz89_0
            try clear hcz89_1
            try clear hcz89_2
            try clear hcz89_3
            try clear hcz89_4
            try clear hcz89_5
            try clear hcz89_6
            try clear hcz89_7
            try clear hcz92_0
            try clear hcz92_1
            try clear hcz92_2
            try clear hcz92_3
            try clear hcz92_4
            try clear hcz92_5
            try clear hcz92_6
            try clear hcz92_7
            try clear hfz101_0
            try clear hfz101_1
            try clear hfz101_2
            try clear hfz101_3
            try clear hfz101_4
            try clear hfz101_5
            try clear hfz101_6
            try clear hfz101_7
            try clear hfz103_0
            try clear hfz103_1
            try clear hfz103_2
            try clear hfz103_3
            try clear hfz103_4
            try clear hfz103_5
            try clear hfz103_6
            try clear hfz103_7
            try clear hfz112_0
            try clear hfz112_1
            try clear hfz112_2
            try clear hfz112_3
            try clear hfz112_4
            try clear hfz112_5
            try clear hfz112_6
            try clear hfz112_7
            try clear hfz114_0
            try clear hfz114_1
            try clear hfz114_2
            try clear hfz114_3
            try clear hfz114_4
            try clear hfz114_5
            try clear hfz114_6
            try clear hfz114_7
            try clear hfz128_0
            try clear hfz128_1
            try clear hfz128_2
            try clear hfz128_3
            try clear hfz128_4
            try clear hfz128_5
            try clear hfz128_6
            try clear hfz128_7
            try clear hfz137_0
            try clear hfz137_1
            try clear hfz137_2
            try clear hfz137_3
            try clear hfz137_4
            try clear hfz137_5
            try clear hfz137_6
            try clear hfz137_7
            try clear hfz141_0
            try clear hfz141_1
            try clear hfz141_2
            try clear hfz141_3
            try clear hfz141_4
            try clear hfz141_5
            try clear hfz141_6
            try clear hfz141_7
            try clear hfz147_0
            try clear hfz147_1
            try clear hfz147_2
            try clear hfz147_3
            try clear hfz147_4
            try clear hfz147_5
            try clear hfz147_6
            try clear hfz147_7
            try clear hfz151_0
            try clear hfz151_1
            try clear hfz151_2
            try clear hfz151_3
            try clear hfz151_4
            try clear hfz151_5
            try clear hfz151_6
            try clear hfz151_7
            try clear hfz22_0
            try clear hfz22_1
            try clear hfz22_2
            try clear hfz22_3
            try clear hfz22_4
            try clear hfz22_5
            try clear hfz22_6
            try clear hfz22_7
            try clear hfz30_0
            try clear hfz30_1
            try clear hfz30_2
            try clear hfz30_3
            try clear hfz30_4
            try clear hfz38_0
            try clear hfz38_1
            try clear hfz38_2
            try clear hfz38_3
            try clear hfz38_4
            try clear hfz38_5
            try clear hfz38_6
            try clear hfz38_7
            try clear hfz46_0
            try clear hfz46_1
            try clear hfz46_2
            try clear hfz46_3
            try clear hfz46_4
            try clear hfz46_5
            try clear hfz46_6
            try clear hfz46_7
            try clear hfz49_0
            try clear hfz49_1
            try clear hfz49_2
            try clear hfz49_3
            try clear hfz49_4
            try clear hfz49_5
            try clear hfz49_6
            try clear hfz49_7
            try clear hfz54_0
            try clear hfz54_1
            try clear hfz54_2
            try clear hfz54_3
            try clear hfz54_4
            try clear hfz54_5
            try clear hfz54_6
            try clear hfz54_7
            try clear hfz57_0
            try clear hfz57_1
            try clear hfz57_2
            try clear hfz57_3
            try clear hfz57_4
            try clear hfz57_5
            try clear hfz57_6
            try clear hfz57_7
            try clear hfz73_0
            try clear hfz73_1
            try clear hfz73_2
            try clear hfz73_3
            try clear hfz73_4
            try clear hfz81_0
            try clear hfz81_1
            try clear hfz81_2
            try clear hfz81_3
            try clear hfz81_4
            try clear hfz81_5
            try clear hfz81_6
            try clear hfz81_7
            try clear hfz84_0
            try clear hfz84_1
            try clear hfz84_2
            try clear hfz84_3
            try clear hfz84_4
            try clear hfz84_5
            try clear hfz84_6
            try clear hfz84_7
            try clear hfz89_0
            try clear hfz89_1
            try clear hfz89_2
            try clear hfz89_3
            try clear hfz89_4
            try clear hfz89_5
            try clear hfz89_6
            try clear hfz89_7
            try clear hfz92_0
            try clear hfz92_1
            try clear hfz92_2
            try clear hfz92_3
            try clear hfz92_4
            try clear hfz92_5
            try clear hfz92_6
            try clear hfz92_7
            try clear p2
            obtain ⟨kq, x87_107, rfl, HA, HJ107, HO_291002, HO_291003, HO_301002, HO_301003, HO_315002, HO_315003, HO_357002, HO_357003, BK266, BK290, BK300, BK314, BK356, HB⟩ := hcut
            have hl315002_107 := (rr_ HO_315002.out).1
            rw [hl315002_107] at HO_315002
            (try simp only [hl315002_107])
            (try simp only [hl315002_107] at BK266)
            (try simp only [hl315002_107] at BK290)
            (try simp only [hl315002_107] at BK300)
            (try simp only [hl315002_107] at BK314)
            (try simp only [hl315002_107] at BK356)
            (try simp only [hl315002_107] at HO_291002)
            (try simp only [hl315002_107] at HO_291003)
            (try simp only [hl315002_107] at HO_301002)
            (try simp only [hl315002_107] at HO_301003)
            (try simp only [hl315002_107] at HO_315003)
            (try simp only [hl315002_107] at HO_357002)
            (try simp only [hl315002_107] at HO_357003)
            have hl315003_107 := (rr_ HO_315003.out).1
            rw [hl315003_107] at HO_315003
            (try simp only [hl315003_107])
            (try simp only [hl315003_107] at BK266)
            (try simp only [hl315003_107] at BK290)
            (try simp only [hl315003_107] at BK300)
            (try simp only [hl315003_107] at BK314)
            (try simp only [hl315003_107] at BK356)
            (try simp only [hl315003_107] at HO_291002)
            (try simp only [hl315003_107] at HO_291003)
            (try simp only [hl315003_107] at HO_301002)
            (try simp only [hl315003_107] at HO_301003)
            (try simp only [hl315003_107] at HO_315002)
            (try simp only [hl315003_107] at HO_357002)
            (try simp only [hl315003_107] at HO_357003)
            cases kq with
           |zero => exact absurd HA.out (by simp [j2])
           |succ kj107 =>
             have H := HA.out
             clear HA
             simp only [j2] at H
             by_cases c153 : x87_107 = true
             ·subst c153
              rw [if_pos rfl] at H
              obtain rfl := si_ H
              go_wp2
              go_ret
              exact ⟨by first|rfl|(simp [*, errW_none, errW_some] <;> rfl), by repeat (with_reducible first|exact HB.out|apply ba_|apply bn_|apply bd_|refine bs_ ?_ GE290.out|refine bs_ ?_ GE300.out|refine bs_ ?_ GE314.out|refine bs_ ?_ GE356.out)⟩
             ·replace c153 := bf_.mpr c153
              subst c153
              rw [if_neg (show ¬ (false = true) by decide)] at H
              replace H := ob_.mp H
              obtain ⟨t358, A1540, H⟩ := H
              have A154 := A0_ A1540
              clear A1540
              by_cases c155 : t358 < 0
              ·rw [if_pos c155] at H
               have c155b0 : decide (t358 < 0) = true := dt_ c155
               clear c155
               obtain rfl := si_ H
               have hnb156 := NB314_266.out
               have hnc156 := NB266_314.out
               have hnb157 := NB314_290.out
               have hnc157 := NB290_314.out
               have hnb158 := NB314_300.out
               have hnc158 := NB300_314.out
               have hnb159 := NB314_356.out
               have hnc159 := NB356_314.out
               have hcz160_0 : wc.cell? ⟨gb314, 0, none⟩ = some (.int .i64 t301) := (kc_ BK314.out 0).trans rfl
               have hcz160_1 : wc.cell? ⟨gb314, 1, none⟩ = some (.bool t302) := (kc_ BK314.out 1).trans rfl
               have hcz160_2 : wc.cell? ⟨gb314, 2, none⟩ = some (.slice Ao39 t331.length co39) := (kc_ BK314.out 2).trans rfl
               have hcz160_3 : wc.cell? ⟨gb314, 3, none⟩ = some (.slice Ao40 t332.length co40) := (kc_ BK314.out 3).trans rfl
               have hcz160_4 : wc.cell? ⟨gb314, 4, none⟩ = some (.int .i64 t309) := (kc_ BK314.out 4).trans rfl
               have hcz160_5 : wc.cell? ⟨gb314, 5, none⟩ = some (.string t310) := (kc_ BK314.out 5).trans rfl
               have hcz160_6 : wc.cell? ⟨gb314, 6, none⟩ = some (.string t311) := (kc_ BK314.out 6).trans rfl
               have hcz160_7 : wc.cell? ⟨gb314, 7, none⟩ = some (.int .i64 t312) := (kc_ BK314.out 7).trans rfl
               have hfz160_0 := kf_ BK314.out 0
               have hfz160_1 := kf_ BK314.out 1
               have hfz160_2 := kf_ BK314.out 2
               have hfz160_3 := kf_ BK314.out 3
               have hfz160_4 := kf_ BK314.out 4
               have hfz160_5 := kf_ BK314.out 5
               have hfz160_6 := kf_ BK314.out 6
               have hfz160_7 := kf_ BK314.out 7
               go_wp2_with (first|((with_reducible refine gc_ (f := 21) rfl ?_); refine goesL_ (some 90) rfl rfl Try.func21 (by kernel_rfl) rfl #[.agg #[.int .i64 t301, .bool t302, .slice Ao39 t331.length co39, .slice Ao40 t332.length co40, .int .i64 t309, .string t310, .string t311, .int .i64 t312], .int .i64 1] rfl (by (try simp only [ma_, mc_, mn_]); first|done|rfl) ?_; (with_reducible refine (laws_heldConsole.calls kj107 t301 t302 _ _ t331 _ _ t332 t309 t310 t311 t312 1 t358 _ ?side1 ?side2 ?side3 ?side4 A154.out).mono ?_); (case side1 => repeat (first|exact (rr_ HO_315002.out).2.2|(with_reducible refine ca_ ?_ _)|(with_reducible refine cn_ ?_ _)|(with_reducible refine cd_ ?_))); (case side2 => exact (rr_ HO_315002.out).2.1); (case side3 => repeat (first|exact (rr_ HO_315003.out).2.2|(with_reducible refine ca_ ?_ _)|(with_reducible refine cn_ ?_ _)|(with_reducible refine cd_ ?_))); (case side4 => exact (rr_ HO_315003.out).2.1); rintro e w161 ⟨rfl, hb⟩; refine ⟨_, rfl, ?_⟩; have m0 := A0_ (Kd.R_below (by (with_reducible repeat (first|apply ra_|apply rn_|apply rd_)); exact HO_291002.out) hb); have m1 := A0_ (Kd.R_below (by (with_reducible repeat (first|apply ra_|apply rn_|apply rd_)); exact HO_291003.out) hb); have m2 := A0_ (Kd.R_below (by (with_reducible repeat (first|apply ra_|apply rn_|apply rd_)); exact HO_301002.out) hb); have m3 := A0_ (Kd.R_below (by (with_reducible repeat (first|apply ra_|apply rn_|apply rd_)); exact HO_301003.out) hb); have m4 := A0_ (Kd.R_below (by (with_reducible repeat (first|apply ra_|apply rn_|apply rd_)); exact HO_315002.out) hb); have m5 := A0_ (Kd.R_below (by (with_reducible repeat (first|apply ra_|apply rn_|apply rd_)); exact HO_315003.out) hb); have m6 := A0_ (Kd.R_below (by (with_reducible repeat (first|apply ra_|apply rn_|apply rd_)); exact HO_357002.out) hb); have m7 := A0_ (Kd.R_below (by (with_reducible repeat (first|apply ra_|apply rn_|apply rd_)); exact HO_357003.out) hb); have m8 := A0_ (kb_ (g := gb266) (o := .cells #[.int .i64 a0_0, .bool a0_1, .slice A0_2 l0_2.length c0_2, .slice A0_3 l0_3.length c0_3, .int .i64 a0_4] 26 (0, 0)) (by (with_reducible repeat (first|apply kn_|apply kd_|apply ka_)); exact BK266.out) hb); have m9 := A0_ (kb_ (g := gb290) (o := .cells #[.int .i64 t277, .bool t278, .slice Ao23 t279.length co23, .slice Ao24 t282.length co24, .int .i64 t285, .string t286, .string t287, .int .i64 t288] 43 (0, 0)) (by (with_reducible repeat (first|apply kn_|apply kd_|apply ka_)); exact BK290.out) hb); have m10 := A0_ (kb_ (g := gb300) (o := .cells #[.int .i64 t291, .bool t292, .slice Ao31 t327.length co31, .slice Ao32 t328.length co32, .int .i64 t299] 31 (0, 0)) (by (with_reducible repeat (first|apply kn_|apply kd_|apply ka_)); exact BK300.out) hb); have m11 := A0_ (kb_ (g := gb314) (o := .cells #[.int .i64 t301, .bool t302, .slice Ao39 t331.length co39, .slice Ao40 t332.length co40, .int .i64 t309, .string t310, .string t311, .int .i64 t312] 43 (0, 0)) (by (with_reducible repeat (first|apply kn_|apply kd_|apply ka_)); exact BK314.out) hb); have m12 := A0_ (kb_ (g := gb356) (o := .cells #[.int .i64 t343, .bool t344, .slice Ao129 t345.length co129, .slice Ao130 t348.length co130, .int .i64 t351, .string t352, .string t353, .int .i64 t354] 43 (0, 0)) (by (with_reducible repeat (first|apply kn_|apply kd_|apply ka_)); exact BK356.out) hb); have m13 := A0_ (bt_ (by repeat (with_reducible first|exact HB.out|apply ba_|apply bn_|apply bd_|refine bs_ ?_ GE290.out|refine bs_ ?_ GE300.out|refine bs_ ?_ GE314.out|refine bs_ ?_ GE356.out)) hb); clear HO_291002 HO_291003 HO_301002 HO_301003 HO_315002 HO_315003 HO_357002 HO_357003 BK266 BK290 BK300 BK314 BK356 HB; have HO_291002 := m0; have HO_291003 := m1; have HO_301002 := m2; have HO_301003 := m3; have HO_315002 := m4; have HO_315003 := m5; have HO_357002 := m6; have HO_357003 := m7; have BK266 := m8; have BK290 := m9; have BK300 := m10; have BK314 := m11; have BK356 := m12; have HB := m13; clear m0 m1 m2 m3 m4 m5 m6 m7 m8 m9 m10 m11 m12 m13; (try clear hb)))
               go_ret
               exact ⟨by first|rfl|(simp [*, errW_none, errW_some] <;> rfl), by repeat (with_reducible first|exact HB.out|apply ba_|apply bn_|apply bd_|refine bs_ ?_ GE290.out|refine bs_ ?_ GE300.out|refine bs_ ?_ GE314.out|refine bs_ ?_ GE356.out)⟩
              ·rw [if_neg c155] at H
               have c155b0 : decide (t358 < 0) = false := decide_eq_false c155
               clear c155
               by_cases c162 : t358 = t330
               ·rw [if_pos c162] at H
                have c162b0 : (t358 == t330) = true := beq_iff_eq.mpr c162
                have c162b1 : (t358 != t330) = false := bne_eq_false_iff_eq.mpr c162
                clear c162
                obtain rfl := si_ H
                have hnb163 := NB314_266.out
                have hnc163 := NB266_314.out
                have hnb164 := NB314_290.out
                have hnc164 := NB290_314.out
                have hnb165 := NB314_300.out
                have hnc165 := NB300_314.out
                have hnb166 := NB314_356.out
                have hnc166 := NB356_314.out
                have hcz167_0 : wc.cell? ⟨gb314, 0, none⟩ = some (.int .i64 t301) := (kc_ BK314.out 0).trans rfl
                have hcz167_1 : wc.cell? ⟨gb314, 1, none⟩ = some (.bool t302) := (kc_ BK314.out 1).trans rfl
                have hcz167_2 : wc.cell? ⟨gb314, 2, none⟩ = some (.slice Ao39 t331.length co39) := (kc_ BK314.out 2).trans rfl
                have hcz167_3 : wc.cell? ⟨gb314, 3, none⟩ = some (.slice Ao40 t332.length co40) := (kc_ BK314.out 3).trans rfl
                have hcz167_4 : wc.cell? ⟨gb314, 4, none⟩ = some (.int .i64 t309) := (kc_ BK314.out 4).trans rfl
                have hcz167_5 : wc.cell? ⟨gb314, 5, none⟩ = some (.string t310) := (kc_ BK314.out 5).trans rfl
                have hcz167_6 : wc.cell? ⟨gb314, 6, none⟩ = some (.string t311) := (kc_ BK314.out 6).trans rfl
                have hcz167_7 : wc.cell? ⟨gb314, 7, none⟩ = some (.int .i64 t312) := (kc_ BK314.out 7).trans rfl
                have hfz167_0 := kf_ BK314.out 0
                have hfz167_1 := kf_ BK314.out 1
                have hfz167_2 := kf_ BK314.out 2
                have hfz167_3 := kf_ BK314.out 3
                have hfz167_4 := kf_ BK314.out 4
                have hfz167_5 := kf_ BK314.out 5
                have hfz167_6 := kf_ BK314.out 6
                have hfz167_7 := kf_ BK314.out 7
                go_wp2_with (first|((with_reducible refine gc_ (f := 21) rfl ?_); refine goesL_ (some 90) rfl rfl Try.func21 (by kernel_rfl) rfl #[.agg #[.int .i64 t301, .bool t302, .slice Ao39 t331.length co39, .slice Ao40 t332.length co40, .int .i64 t309, .string t310, .string t311, .int .i64 t312], .int .i64 1] rfl (by (try simp only [ma_, mc_, mn_]); first|done|rfl) ?_; (with_reducible refine (laws_heldConsole.calls kj107 t301 t302 _ _ t331 _ _ t332 t309 t310 t311 t312 1 t358 _ ?side1 ?side2 ?side3 ?side4 A154.out).mono ?_); (case side1 => repeat (first|exact (rr_ HO_315002.out).2.2|(with_reducible refine ca_ ?_ _)|(with_reducible refine cn_ ?_ _)|(with_reducible refine cd_ ?_))); (case side2 => exact (rr_ HO_315002.out).2.1); (case side3 => repeat (first|exact (rr_ HO_315003.out).2.2|(with_reducible refine ca_ ?_ _)|(with_reducible refine cn_ ?_ _)|(with_reducible refine cd_ ?_))); (case side4 => exact (rr_ HO_315003.out).2.1); rintro e w168 ⟨rfl, hb⟩; refine ⟨_, rfl, ?_⟩; have m0 := A0_ (Kd.R_below (by (with_reducible repeat (first|apply ra_|apply rn_|apply rd_)); exact HO_291002.out) hb); have m1 := A0_ (Kd.R_below (by (with_reducible repeat (first|apply ra_|apply rn_|apply rd_)); exact HO_291003.out) hb); have m2 := A0_ (Kd.R_below (by (with_reducible repeat (first|apply ra_|apply rn_|apply rd_)); exact HO_301002.out) hb); have m3 := A0_ (Kd.R_below (by (with_reducible repeat (first|apply ra_|apply rn_|apply rd_)); exact HO_301003.out) hb); have m4 := A0_ (Kd.R_below (by (with_reducible repeat (first|apply ra_|apply rn_|apply rd_)); exact HO_315002.out) hb); have m5 := A0_ (Kd.R_below (by (with_reducible repeat (first|apply ra_|apply rn_|apply rd_)); exact HO_315003.out) hb); have m6 := A0_ (Kd.R_below (by (with_reducible repeat (first|apply ra_|apply rn_|apply rd_)); exact HO_357002.out) hb); have m7 := A0_ (Kd.R_below (by (with_reducible repeat (first|apply ra_|apply rn_|apply rd_)); exact HO_357003.out) hb); have m8 := A0_ (kb_ (g := gb266) (o := .cells #[.int .i64 a0_0, .bool a0_1, .slice A0_2 l0_2.length c0_2, .slice A0_3 l0_3.length c0_3, .int .i64 a0_4] 26 (0, 0)) (by (with_reducible repeat (first|apply kn_|apply kd_|apply ka_)); exact BK266.out) hb); have m9 := A0_ (kb_ (g := gb290) (o := .cells #[.int .i64 t277, .bool t278, .slice Ao23 t279.length co23, .slice Ao24 t282.length co24, .int .i64 t285, .string t286, .string t287, .int .i64 t288] 43 (0, 0)) (by (with_reducible repeat (first|apply kn_|apply kd_|apply ka_)); exact BK290.out) hb); have m10 := A0_ (kb_ (g := gb300) (o := .cells #[.int .i64 t291, .bool t292, .slice Ao31 t327.length co31, .slice Ao32 t328.length co32, .int .i64 t299] 31 (0, 0)) (by (with_reducible repeat (first|apply kn_|apply kd_|apply ka_)); exact BK300.out) hb); have m11 := A0_ (kb_ (g := gb314) (o := .cells #[.int .i64 t301, .bool t302, .slice Ao39 t331.length co39, .slice Ao40 t332.length co40, .int .i64 t309, .string t310, .string t311, .int .i64 t312] 43 (0, 0)) (by (with_reducible repeat (first|apply kn_|apply kd_|apply ka_)); exact BK314.out) hb); have m12 := A0_ (kb_ (g := gb356) (o := .cells #[.int .i64 t343, .bool t344, .slice Ao129 t345.length co129, .slice Ao130 t348.length co130, .int .i64 t351, .string t352, .string t353, .int .i64 t354] 43 (0, 0)) (by (with_reducible repeat (first|apply kn_|apply kd_|apply ka_)); exact BK356.out) hb); have m13 := A0_ (bt_ (by repeat (with_reducible first|exact HB.out|apply ba_|apply bn_|apply bd_|refine bs_ ?_ GE290.out|refine bs_ ?_ GE300.out|refine bs_ ?_ GE314.out|refine bs_ ?_ GE356.out)) hb); clear HO_291002 HO_291003 HO_301002 HO_301003 HO_315002 HO_315003 HO_357002 HO_357003 BK266 BK290 BK300 BK314 BK356 HB; have HO_291002 := m0; have HO_291003 := m1; have HO_301002 := m2; have HO_301003 := m3; have HO_315002 := m4; have HO_315003 := m5; have HO_357002 := m6; have HO_357003 := m7; have BK266 := m8; have BK290 := m9; have BK300 := m10; have BK314 := m11; have BK356 := m12; have HB := m13; clear m0 m1 m2 m3 m4 m5 m6 m7 m8 m9 m10 m11 m12 m13; (try clear hb)))
                go_ret
                exact ⟨by first|rfl|(simp [*, errW_none, errW_some] <;> rfl), by repeat (with_reducible first|exact HB.out|apply ba_|apply bn_|apply bd_|refine bs_ ?_ GE290.out|refine bs_ ?_ GE300.out|refine bs_ ?_ GE314.out|refine bs_ ?_ GE356.out)⟩
               ·rw [if_neg c162] at H
                have c162b0 : (t358 == t330) = false := beq_eq_false_iff_ne.mpr c162
                have c162b1 : (t358 != t330) = true := bne_iff_ne.mpr c162
                obtain rfl := si_ H
                have hnb169 := NB314_266.out
                have hnc169 := NB266_314.out
                have hnb170 := NB314_290.out
                have hnc170 := NB290_314.out
                have hnb171 := NB314_300.out
                have hnc171 := NB300_314.out
                have hnb172 := NB314_356.out
                have hnc172 := NB356_314.out
                have hcz173_0 : wc.cell? ⟨gb314, 0, none⟩ = some (.int .i64 t301) := (kc_ BK314.out 0).trans rfl
                have hcz173_1 : wc.cell? ⟨gb314, 1, none⟩ = some (.bool t302) := (kc_ BK314.out 1).trans rfl
                have hcz173_2 : wc.cell? ⟨gb314, 2, none⟩ = some (.slice Ao39 t331.length co39) := (kc_ BK314.out 2).trans rfl
                have hcz173_3 : wc.cell? ⟨gb314, 3, none⟩ = some (.slice Ao40 t332.length co40) := (kc_ BK314.out 3).trans rfl
                have hcz173_4 : wc.cell? ⟨gb314, 4, none⟩ = some (.int .i64 t309) := (kc_ BK314.out 4).trans rfl
                have hcz173_5 : wc.cell? ⟨gb314, 5, none⟩ = some (.string t310) := (kc_ BK314.out 5).trans rfl
                have hcz173_6 : wc.cell? ⟨gb314, 6, none⟩ = some (.string t311) := (kc_ BK314.out 6).trans rfl
                have hcz173_7 : wc.cell? ⟨gb314, 7, none⟩ = some (.int .i64 t312) := (kc_ BK314.out 7).trans rfl
                have hfz173_0 := kf_ BK314.out 0
                have hfz173_1 := kf_ BK314.out 1
                have hfz173_2 := kf_ BK314.out 2
                have hfz173_3 := kf_ BK314.out 3
                have hfz173_4 := kf_ BK314.out 4
                have hfz173_5 := kf_ BK314.out 5
                have hfz173_6 := kf_ BK314.out 6
                have hfz173_7 := kf_ BK314.out 7
                go_wp2_with (first|((with_reducible refine gc_ (f := 21) rfl ?_); refine goesL_ (some 90) rfl rfl Try.func21 (by kernel_rfl) rfl #[.agg #[.int .i64 t301, .bool t302, .slice Ao39 t331.length co39, .slice Ao40 t332.length co40, .int .i64 t309, .string t310, .string t311, .int .i64 t312], .int .i64 1] rfl (by (try simp only [ma_, mc_, mn_]); first|done|rfl) ?_; (with_reducible refine (laws_heldConsole.calls kj107 t301 t302 _ _ t331 _ _ t332 t309 t310 t311 t312 1 t358 _ ?side1 ?side2 ?side3 ?side4 A154.out).mono ?_); (case side1 => repeat (first|exact (rr_ HO_315002.out).2.2|(with_reducible refine ca_ ?_ _)|(with_reducible refine cn_ ?_ _)|(with_reducible refine cd_ ?_))); (case side2 => exact (rr_ HO_315002.out).2.1); (case side3 => repeat (first|exact (rr_ HO_315003.out).2.2|(with_reducible refine ca_ ?_ _)|(with_reducible refine cn_ ?_ _)|(with_reducible refine cd_ ?_))); (case side4 => exact (rr_ HO_315003.out).2.1); rintro e w174 ⟨rfl, hb⟩; refine ⟨_, rfl, ?_⟩; have m0 := A0_ (Kd.R_below (by (with_reducible repeat (first|apply ra_|apply rn_|apply rd_)); exact HO_291002.out) hb); have m1 := A0_ (Kd.R_below (by (with_reducible repeat (first|apply ra_|apply rn_|apply rd_)); exact HO_291003.out) hb); have m2 := A0_ (Kd.R_below (by (with_reducible repeat (first|apply ra_|apply rn_|apply rd_)); exact HO_301002.out) hb); have m3 := A0_ (Kd.R_below (by (with_reducible repeat (first|apply ra_|apply rn_|apply rd_)); exact HO_301003.out) hb); have m4 := A0_ (Kd.R_below (by (with_reducible repeat (first|apply ra_|apply rn_|apply rd_)); exact HO_315002.out) hb); have m5 := A0_ (Kd.R_below (by (with_reducible repeat (first|apply ra_|apply rn_|apply rd_)); exact HO_315003.out) hb); have m6 := A0_ (Kd.R_below (by (with_reducible repeat (first|apply ra_|apply rn_|apply rd_)); exact HO_357002.out) hb); have m7 := A0_ (Kd.R_below (by (with_reducible repeat (first|apply ra_|apply rn_|apply rd_)); exact HO_357003.out) hb); have m8 := A0_ (kb_ (g := gb266) (o := .cells #[.int .i64 a0_0, .bool a0_1, .slice A0_2 l0_2.length c0_2, .slice A0_3 l0_3.length c0_3, .int .i64 a0_4] 26 (0, 0)) (by (with_reducible repeat (first|apply kn_|apply kd_|apply ka_)); exact BK266.out) hb); have m9 := A0_ (kb_ (g := gb290) (o := .cells #[.int .i64 t277, .bool t278, .slice Ao23 t279.length co23, .slice Ao24 t282.length co24, .int .i64 t285, .string t286, .string t287, .int .i64 t288] 43 (0, 0)) (by (with_reducible repeat (first|apply kn_|apply kd_|apply ka_)); exact BK290.out) hb); have m10 := A0_ (kb_ (g := gb300) (o := .cells #[.int .i64 t291, .bool t292, .slice Ao31 t327.length co31, .slice Ao32 t328.length co32, .int .i64 t299] 31 (0, 0)) (by (with_reducible repeat (first|apply kn_|apply kd_|apply ka_)); exact BK300.out) hb); have m11 := A0_ (kb_ (g := gb314) (o := .cells #[.int .i64 t301, .bool t302, .slice Ao39 t331.length co39, .slice Ao40 t332.length co40, .int .i64 t309, .string t310, .string t311, .int .i64 t312] 43 (0, 0)) (by (with_reducible repeat (first|apply kn_|apply kd_|apply ka_)); exact BK314.out) hb); have m12 := A0_ (kb_ (g := gb356) (o := .cells #[.int .i64 t343, .bool t344, .slice Ao129 t345.length co129, .slice Ao130 t348.length co130, .int .i64 t351, .string t352, .string t353, .int .i64 t354] 43 (0, 0)) (by (with_reducible repeat (first|apply kn_|apply kd_|apply ka_)); exact BK356.out) hb); have m13 := A0_ (bt_ (by repeat (with_reducible first|exact HB.out|apply ba_|apply bn_|apply bd_|refine bs_ ?_ GE290.out|refine bs_ ?_ GE300.out|refine bs_ ?_ GE314.out|refine bs_ ?_ GE356.out)) hb); clear HO_291002 HO_291003 HO_301002 HO_301003 HO_315002 HO_315003 HO_357002 HO_357003 BK266 BK290 BK300 BK314 BK356 HB; have HO_291002 := m0; have HO_291003 := m1; have HO_301002 := m2; have HO_301003 := m3; have HO_315002 := m4; have HO_315003 := m5; have HO_357002 := m6; have HO_357003 := m7; have BK266 := m8; have BK290 := m9; have BK300 := m10; have BK314 := m11; have BK356 := m12; have HB := m13; clear m0 m1 m2 m3 m4 m5 m6 m7 m8 m9 m10 m11 m12 m13; (try clear hb)))
                go_ret
                exact ⟨by first|rfl|(simp [*, errW_none, errW_some] <;> rfl), by repeat (with_reducible first|exact HB.out|apply ba_|apply bn_|apply bd_|refine bs_ ?_ GE290.out|refine bs_ ?_ GE300.out|refine bs_ ?_ GE314.out|refine bs_ ?_ GE356.out)⟩
          ·rw [if_neg c105] at H
           have c105b0 : (t333 == t330) = false := beq_eq_false_iff_ne.mpr c105
           have c105b1 : (t333 != t330) = true := bne_iff_ne.mpr c105
           obtain rfl := si_ H
           have hnb175 := NB314_266.out
           have hnc175 := NB266_314.out
           have hnb176 := NB314_290.out
           have hnc176 := NB290_314.out
           have hnb177 := NB314_300.out
           have hnc177 := NB300_314.out
           have hcz178_0 : wc.cell? ⟨gb314, 0, none⟩ = some (.int .i64 t301) := (kc_ BK314.out 0).trans rfl
           have hcz178_1 : wc.cell? ⟨gb314, 1, none⟩ = some (.bool t302) := (kc_ BK314.out 1).trans rfl
           have hcz178_2 : wc.cell? ⟨gb314, 2, none⟩ = some (.slice Ao39 t303.length co39) := (kc_ BK314.out 2).trans rfl
           have hcz178_3 : wc.cell? ⟨gb314, 3, none⟩ = some (.slice Ao40 t306.length co40) := (kc_ BK314.out 3).trans rfl
           have hcz178_4 : wc.cell? ⟨gb314, 4, none⟩ = some (.int .i64 t309) := (kc_ BK314.out 4).trans rfl
           have hcz178_5 : wc.cell? ⟨gb314, 5, none⟩ = some (.string t310) := (kc_ BK314.out 5).trans rfl
           have hcz178_6 : wc.cell? ⟨gb314, 6, none⟩ = some (.string t311) := (kc_ BK314.out 6).trans rfl
           have hcz178_7 : wc.cell? ⟨gb314, 7, none⟩ = some (.int .i64 t312) := (kc_ BK314.out 7).trans rfl
           have hfz178_0 := kf_ BK314.out 0
           have hfz178_1 := kf_ BK314.out 1
           have hfz178_2 := kf_ BK314.out 2
           have hfz178_3 := kf_ BK314.out 3
           have hfz178_4 := kf_ BK314.out 4
           have hfz178_5 := kf_ BK314.out 5
           have hfz178_6 := kf_ BK314.out 6
           have hfz178_7 := kf_ BK314.out 7
           go_wp2_with (first|((with_reducible refine gc_ (f := 20) rfl ?_); refine goesL_ (some 64) rfl rfl Try.func20 (by kernel_rfl) rfl #[.agg #[.int .i64 t301, .bool t302, .slice Ao39 t303.length co39, .slice Ao40 t306.length co40, .int .i64 t309, .string t310, .string t311, .int .i64 t312], .int .i64 1] rfl (by (try simp only [ma_, mc_, mn_]); first|done|rfl) ?_; (with_reducible refine (laws_markConsole.calls kj63 t301 t302 (fun k_ => some k_ = (.slice Ao39 t303.length co39 : Value).ownBlock) (.slice Ao39 t303.length co39) t303 (fun k_ => some k_ = (.slice Ao40 t306.length co40 : Value).ownBlock) (.slice Ao40 t306.length co40) t306 t309 t310 t311 t312 1 t330 t331 t332 w _ ?side1 ?side2 ?side3 ?side4 ?side5 A95.out).mono ?_); (case side1 => repeat (with_reducible first|exact HB.out|apply ba_|apply bn_|apply bd_|refine bs_ ?_ GE290.out|refine bs_ ?_ GE300.out|refine bs_ ?_ GE314.out)); (case side2 => exact Kd.R_tight rfl HO_315002.out); (case side3 => exact fun k_ e_ => (HO_315002.out.1 k_ e_.symm).2.2.2.2); (case side4 => exact Kd.R_tight rfl HO_315003.out); (case side5 => exact fun k_ e_ => (HO_315003.out.1 k_ e_.symm).2.2.2.2); rintro e w179 ⟨rfl, hy0, hy1, hb, hkp⟩; refine ⟨_, rfl, ?_⟩; have m0 := A0_ (Kd.R_mono (ok' := fun k_ => nb_ (.slice Ao24 t282.length co24) k_ ∧ nb_ (.slice Ao31 t327.length co31) k_ ∧ nb_ (.slice Ao32 t328.length co32) k_ ∧ nb_ (.slice Ao39 t303.length co39) k_ ∧ nb_ (.slice Ao40 t306.length co40) k_) (Kd.R_keptB (HO_291002.out) hkp (fun k_ hk_ hs_ => Or.elim hs_ (fun e_ => (hk_.2.2.2.1) e_) (fun e_ => (hk_.2.2.2.2) e_))) (fun k_ hk_ => ⟨hk_.1.1, hk_.1.2.1, hk_.1.2.2.1, hk_.1.2.2.2.1, hk_.1.2.2.2.2⟩)); have m1 := A0_ (Kd.R_mono (ok' := fun k_ => nb_ (.slice Ao23 t279.length co23) k_ ∧ nb_ (.slice Ao31 t327.length co31) k_ ∧ nb_ (.slice Ao32 t328.length co32) k_ ∧ nb_ (.slice Ao39 t303.length co39) k_ ∧ nb_ (.slice Ao40 t306.length co40) k_) (Kd.R_keptB (HO_291003.out) hkp (fun k_ hk_ hs_ => Or.elim hs_ (fun e_ => (hk_.2.2.2.1) e_) (fun e_ => (hk_.2.2.2.2) e_))) (fun k_ hk_ => ⟨hk_.1.1, hk_.1.2.1, hk_.1.2.2.1, hk_.1.2.2.2.1, hk_.1.2.2.2.2⟩)); have m2 := A0_ (Kd.R_mono (ok' := fun k_ => nb_ (.slice Ao23 t279.length co23) k_ ∧ nb_ (.slice Ao24 t282.length co24) k_ ∧ nb_ (.slice Ao32 t328.length co32) k_ ∧ nb_ (.slice Ao39 t303.length co39) k_ ∧ nb_ (.slice Ao40 t306.length co40) k_) (Kd.R_keptB (HO_301002.out) hkp (fun k_ hk_ hs_ => Or.elim hs_ (fun e_ => (hk_.2.2.2.1) e_) (fun e_ => (hk_.2.2.2.2) e_))) (fun k_ hk_ => ⟨hk_.1.1, hk_.1.2.1, hk_.1.2.2.1, hk_.1.2.2.2.1, hk_.1.2.2.2.2⟩)); have m3 := A0_ (Kd.R_mono (ok' := fun k_ => nb_ (.slice Ao23 t279.length co23) k_ ∧ nb_ (.slice Ao24 t282.length co24) k_ ∧ nb_ (.slice Ao31 t327.length co31) k_ ∧ nb_ (.slice Ao39 t303.length co39) k_ ∧ nb_ (.slice Ao40 t306.length co40) k_) (Kd.R_keptB (HO_301003.out) hkp (fun k_ hk_ hs_ => Or.elim hs_ (fun e_ => (hk_.2.2.2.1) e_) (fun e_ => (hk_.2.2.2.2) e_))) (fun k_ hk_ => ⟨hk_.1.1, hk_.1.2.1, hk_.1.2.2.1, hk_.1.2.2.2.1, hk_.1.2.2.2.2⟩)); have m4 := A0_ (Kd.R_reok rfl hy0 (fun k_ e_ => HO_315002.out.1 k_ e_)); have m5 := A0_ (Kd.R_reok rfl hy1 (fun k_ e_ => HO_315003.out.1 k_ e_)); have m6 := A0_ (blk_kept (by (with_reducible repeat (first|apply kn_|apply kd_|apply ka_)); exact BK266.out) hkp (fun hs_ => Or.elim hs_ (fun e_ => (fun e_ => (Kd.R_ne HO_315002.out BK266.out (by decide)) e_) e_) (fun e_ => (fun e_ => (Kd.R_ne HO_315003.out BK266.out (by decide)) e_) e_))); have m7 := A0_ (blk_kept (by (with_reducible repeat (first|apply kn_|apply kd_|apply ka_)); exact BK290.out) hkp (fun hs_ => Or.elim hs_ (fun e_ => (fun e_ => (Kd.R_ne HO_315002.out BK290.out (by decide)) e_) e_) (fun e_ => (fun e_ => (Kd.R_ne HO_315003.out BK290.out (by decide)) e_) e_))); have m8 := A0_ (blk_kept (by (with_reducible repeat (first|apply kn_|apply kd_|apply ka_)); exact BK300.out) hkp (fun hs_ => Or.elim hs_ (fun e_ => (fun e_ => (Kd.R_ne HO_315002.out BK300.out (by decide)) e_) e_) (fun e_ => (fun e_ => (Kd.R_ne HO_315003.out BK300.out (by decide)) e_) e_))); have m9 := A0_ (blk_kept (by (with_reducible repeat (first|apply kn_|apply kd_|apply ka_)); exact BK314.out) hkp (fun hs_ => Or.elim hs_ (fun e_ => (fun e_ => (Kd.R_ne HO_315002.out BK314.out (by decide)) e_) e_) (fun e_ => (fun e_ => (Kd.R_ne HO_315003.out BK314.out (by decide)) e_) e_))); have m10 := A0_ (hb); clear HO_291002 HO_291003 HO_301002 HO_301003 HO_315002 HO_315003 BK266 BK290 BK300 BK314 HB; have HO_291002 := m0; have HO_291003 := m1; have HO_301002 := m2; have HO_301003 := m3; have HO_315002 := m4; have HO_315003 := m5; have BK266 := m6; have BK290 := m7; have BK300 := m8; have BK314 := m9; have HB := m10; clear m0 m1 m2 m3 m4 m5 m6 m7 m8 m9 m10; (try clear hb); (try clear hkp); (try clear hy0); (try clear hy1); have hcz180_0 : w179.cell? ⟨gb314, 0, none⟩ = some (.int .i64 t301) := (kc_ BK314.out 0).trans rfl; have hcz180_1 : w179.cell? ⟨gb314, 1, none⟩ = some (.bool t302) := (kc_ BK314.out 1).trans rfl; have hcz180_2 : w179.cell? ⟨gb314, 2, none⟩ = some (.slice Ao39 t303.length co39) := (kc_ BK314.out 2).trans rfl; have hcz180_3 : w179.cell? ⟨gb314, 3, none⟩ = some (.slice Ao40 t306.length co40) := (kc_ BK314.out 3).trans rfl; have hcz180_4 : w179.cell? ⟨gb314, 4, none⟩ = some (.int .i64 t309) := (kc_ BK314.out 4).trans rfl; have hcz180_5 : w179.cell? ⟨gb314, 5, none⟩ = some (.string t310) := (kc_ BK314.out 5).trans rfl; have hcz180_6 : w179.cell? ⟨gb314, 6, none⟩ = some (.string t311) := (kc_ BK314.out 6).trans rfl; have hcz180_7 : w179.cell? ⟨gb314, 7, none⟩ = some (.int .i64 t312) := (kc_ BK314.out 7).trans rfl; have hfz180_0 := kf_ BK314.out 0; have hfz180_1 := kf_ BK314.out 1; have hfz180_2 := kf_ BK314.out 2; have hfz180_3 := kf_ BK314.out 3; have hfz180_4 := kf_ BK314.out 4; have hfz180_5 := kf_ BK314.out 5; have hfz180_6 := kf_ BK314.out 6; have hfz180_7 := kf_ BK314.out 7)|((with_reducible refine gc_ (f := 21) rfl ?_); refine goesL_ (some 67) rfl rfl Try.func21 (by kernel_rfl) rfl #[.agg #[.int .i64 t301, .bool t302, .slice Ao39 t331.length co39, .slice Ao40 t332.length co40, .int .i64 t309, .string t310, .string t311, .int .i64 t312], .int .i64 1] rfl (by (try simp only [ma_, mc_, mn_]); first|done|(rw [show t331.length = t303.length from (rr_ HO_315002.out).1.symm, show t332.length = t306.length from (rr_ HO_315003.out).1.symm] <;> rfl)|rfl) ?_; (with_reducible refine (laws_heldConsole.calls kj63 t301 t302 _ _ t331 _ _ t332 t309 t310 t311 t312 1 t333 _ ?side1 ?side2 ?side3 ?side4 A96.out).mono ?_); (case side1 => repeat (first|exact (rr_ HO_315002.out).2.2|(with_reducible refine ca_ ?_ _)|(with_reducible refine cn_ ?_ _)|(with_reducible refine cd_ ?_))); (case side2 => rw [show t331.length = t303.length from (rr_ HO_315002.out).1.symm]; exact (rr_ HO_315002.out).2.1); (case side3 => repeat (first|exact (rr_ HO_315003.out).2.2|(with_reducible refine ca_ ?_ _)|(with_reducible refine cn_ ?_ _)|(with_reducible refine cd_ ?_))); (case side4 => rw [show t332.length = t306.length from (rr_ HO_315003.out).1.symm]; exact (rr_ HO_315003.out).2.1); rintro e w181 ⟨rfl, hb⟩; refine ⟨_, rfl, ?_⟩; have m0 := A0_ (Kd.R_below (by (with_reducible repeat (first|apply ra_|apply rn_|apply rd_)); exact HO_291002.out) hb); have m1 := A0_ (Kd.R_below (by (with_reducible repeat (first|apply ra_|apply rn_|apply rd_)); exact HO_291003.out) hb); have m2 := A0_ (Kd.R_below (by (with_reducible repeat (first|apply ra_|apply rn_|apply rd_)); exact HO_301002.out) hb); have m3 := A0_ (Kd.R_below (by (with_reducible repeat (first|apply ra_|apply rn_|apply rd_)); exact HO_301003.out) hb); have m4 := A0_ (Kd.R_below (by (with_reducible repeat (first|apply ra_|apply rn_|apply rd_)); exact HO_315002.out) hb); have m5 := A0_ (Kd.R_below (by (with_reducible repeat (first|apply ra_|apply rn_|apply rd_)); exact HO_315003.out) hb); have m6 := A0_ (kb_ (g := gb266) (o := .cells #[.int .i64 a0_0, .bool a0_1, .slice A0_2 l0_2.length c0_2, .slice A0_3 l0_3.length c0_3, .int .i64 a0_4] 26 (0, 0)) (by (with_reducible repeat (first|apply kn_|apply kd_|apply ka_)); exact BK266.out) hb); have m7 := A0_ (kb_ (g := gb290) (o := .cells #[.int .i64 t277, .bool t278, .slice Ao23 t279.length co23, .slice Ao24 t282.length co24, .int .i64 t285, .string t286, .string t287, .int .i64 t288] 43 (0, 0)) (by (with_reducible repeat (first|apply kn_|apply kd_|apply ka_)); exact BK290.out) hb); have m8 := A0_ (kb_ (g := gb300) (o := .cells #[.int .i64 t291, .bool t292, .slice Ao31 t327.length co31, .slice Ao32 t328.length co32, .int .i64 t299] 31 (0, 0)) (by (with_reducible repeat (first|apply kn_|apply kd_|apply ka_)); exact BK300.out) hb); have m9 := A0_ (kb_ (g := gb314) (o := .cells #[.int .i64 t301, .bool t302, .slice Ao39 t303.length co39, .slice Ao40 t306.length co40, .int .i64 t309, .string t310, .string t311, .int .i64 t312] 43 (0, 0)) (by (with_reducible repeat (first|apply kn_|apply kd_|apply ka_)); exact BK314.out) hb); have m10 := A0_ (bt_ (by repeat (with_reducible first|exact HB.out|apply ba_|apply bn_|apply bd_|refine bs_ ?_ GE290.out|refine bs_ ?_ GE300.out|refine bs_ ?_ GE314.out)) hb); clear HO_291002 HO_291003 HO_301002 HO_301003 HO_315002 HO_315003 BK266 BK290 BK300 BK314 HB; have HO_291002 := m0; have HO_291003 := m1; have HO_301002 := m2; have HO_301003 := m3; have HO_315002 := m4; have HO_315003 := m5; have BK266 := m6; have BK290 := m7; have BK300 := m8; have BK314 := m9; have HB := m10; clear m0 m1 m2 m3 m4 m5 m6 m7 m8 m9 m10; (try clear hb)))
           go_ret
           exact ⟨by first|rfl|(simp [*, errW_none, errW_some] <;> rfl), by repeat (with_reducible first|exact HB.out|apply ba_|apply bn_|apply bd_|refine bs_ ?_ GE290.out|refine bs_ ?_ GE300.out|refine bs_ ?_ GE314.out)⟩
     ·replace c62 := bf_.mpr c62
      subst c62
      rw [if_neg (show ¬ (false = true) by decide)] at H
      obtain rfl := si_ H
      try go_wp2
      have m0 := A0_ (rd_ HO_291002.out)
      have m1 := A0_ (rd_ HO_291003.out)
      have m2 := A0_ (rd_ HO_301002.out)
      have m3 := A0_ (rd_ HO_301003.out)
      have m4 := A0_ (rd_ HO_315002.out)
      have m5 := A0_ (rd_ HO_315003.out)
      have m6 := A0_ (kd_ BK266.out)
      have m7 := A0_ (kd_ BK290.out)
      have m8 := A0_ (kd_ BK300.out)
      have m9 := A0_ (kd_ BK314.out)
      have m10 := A0_ (bd_ HB.out)
      clear HO_291002
      clear HO_291003
      clear HO_301002
      clear HO_301003
      clear HO_315002
      clear HO_315003
      clear BK266
      clear BK290
      clear BK300
      clear BK314
      clear HB
      have HO_291002 := m0
      have HO_291003 := m1
      have HO_301002 := m2
      have HO_301003 := m3
      have HO_315002 := m4
      have HO_315003 := m5
      have BK266 := m6
      have BK290 := m7
      have BK300 := m8
      have BK314 := m9
      have HB := m10
      clear m0 m1 m2 m3 m4 m5 m6 m7 m8 m9 m10
      refine start_ (n := 5) (S := fun w' => w'.cell? ⟨gb300, 0, none⟩ = some (.int .i64 t291) ∧ w'.cell? ⟨gb300, 1, none⟩ = some (.bool t292) ∧ w'.cell? ⟨gb300, 2, none⟩ = some (.slice Ao31 t293.length co31) ∧ w'.cell? ⟨gb300, 3, none⟩ = some (.slice Ao32 t296.length co32) ∧ w'.cell? ⟨gb300, 4, none⟩ = some (.int .i64 t299) ∧ w'.cell? ⟨gb266, 0, none⟩ = some (.int .i64 a0_0) ∧ w'.cell? ⟨gb266, 1, none⟩ = some (.bool a0_1) ∧ w'.cell? ⟨gb266, 2, none⟩ = some (.slice A0_2 l0_2.length c0_2) ∧ w'.cell? ⟨gb266, 3, none⟩ = some (.slice A0_3 l0_3.length c0_3) ∧ w'.cell? ⟨gb266, 4, none⟩ = some (.int .i64 a0_4)) (ds := []) #[false, false, false, false, false] (by kernel_rfl) rfl rfl ⟨(kc_ BK300.out 0).trans rfl, (kc_ BK300.out 1).trans rfl, (kc_ BK300.out 2).trans rfl, (kc_ BK300.out 3).trans rfl, (kc_ BK300.out 4).trans rfl, (kc_ BK266.out 0).trans rfl, (kc_ BK266.out 1).trans rfl, (kc_ BK266.out 2).trans rfl, (kc_ BK266.out 3).trans rfl, (kc_ BK266.out 4).trans rfl⟩ (fun hHeld => ?_)
      generalize wc.drew = w182 at HO_291002 HO_291003 HO_301002 HO_301003 HO_315002 HO_315003 BK266 BK290 BK300 BK314 HB hHeld ⊢
      refine take_ (i := 0) (N := some 41) (v := ?_) (a' := ?_) #[true, false, false, false, false] rfl rfl (by kernel_rfl) (fun _ _ _ h => h) (Or.inl ⟨by rfl, ?_⟩) hHeld ?_ ?_
      rotate_left
      ·rintro w' ⟨s0, s1, s2, s3, s4, s5, s6, s7, s8, s9⟩
       go_simp
       with_reducible rfl
      rotate_left
      ·simp only [Act.put, sa_, sz_, ss_, i64_w, i32_w]
       rfl
      refine take_ (i := 1) (N := some 42) (v := ?_) (a' := ?_) #[true, true, false, false, false] rfl rfl (by kernel_rfl) (fun _ _ _ h => h) (Or.inl ⟨by rfl, ?_⟩) hHeld ?_ ?_
      rotate_left
      ·rintro w' ⟨s0, s1, s2, s3, s4, s5, s6, s7, s8, s9⟩
       go_simp
       with_reducible rfl
      rotate_left
      ·simp only [Act.put, sa_, sz_, ss_, i64_w, i32_w]
       rfl
      refine one_ (i := 2) (N := some 43) #[true, true, true, false, false] rfl rfl (by kernel_rfl) (by decide) (fun K hK => ?_)
      refine goes_ Try.func8 (by kernel_rfl) rfl #[.agg #[.int .i64 a0_0, .bool a0_1, .slice A0_2 l0_2.length c0_2, .slice A0_3 l0_3.length c0_3, .int .i64 a0_4]] (by rfl) rfl rfl (by (try simp only [ma_, mc_, mn_]); first|done|rfl) ?_
      with_reducible refine (laws_toHouse.calls kj10 a0_0 a0_1 _ _ l0_2 _ _ l0_3 a0_4 t316 t317 t318 t321 t324 _ ?side1 ?side2 ?side3 ?side4 A60.out).mono ?_
      (case side1 => repeat (first|exact (cb_ HR0_2.out HB.out)|(with_reducible refine ca_ ?_ _)|(with_reducible refine cn_ ?_ _)|(with_reducible refine cd_ ?_)))
      (case side2 => exact HC0_2.out)
      (case side3 => repeat (first|exact (cb_ HR0_3.out HB.out)|(with_reducible refine ca_ ?_ _)|(with_reducible refine cn_ ?_ _)|(with_reducible refine cd_ ?_)))
      (case side4 => exact HC0_3.out)
      rintro e w183 ⟨v319, v322, rfl, ho0, ho1, hb⟩
      refine ⟨_, rfl, ?_⟩
      have m0 := A0_ (Kd.R_mono (Kd.R_told (Kd.R_told (Kd.R_old (by (with_reducible repeat (first|apply ra_|apply rn_|apply rd_)); exact HO_291002.out) hb) (Kd.R_base ho0)) (Kd.R_base ho1)) (fun _ h_ => h_.1))
      have m1 := A0_ (Kd.R_mono (Kd.R_told (Kd.R_told (Kd.R_old (by (with_reducible repeat (first|apply ra_|apply rn_|apply rd_)); exact HO_291003.out) hb) (Kd.R_base ho0)) (Kd.R_base ho1)) (fun _ h_ => h_.1))
      have m2 := A0_ (Kd.R_mono (Kd.R_told (Kd.R_told (Kd.R_old (by (with_reducible repeat (first|apply ra_|apply rn_|apply rd_)); exact HO_301002.out) hb) (Kd.R_base ho0)) (Kd.R_base ho1)) (fun _ h_ => h_.1))
      have m3 := A0_ (Kd.R_mono (Kd.R_told (Kd.R_told (Kd.R_old (by (with_reducible repeat (first|apply ra_|apply rn_|apply rd_)); exact HO_301003.out) hb) (Kd.R_base ho0)) (Kd.R_base ho1)) (fun _ h_ => h_.1))
      have m4 := A0_ (Kd.R_mono (Kd.R_told (Kd.R_told (Kd.R_old (by (with_reducible repeat (first|apply ra_|apply rn_|apply rd_)); exact HO_315002.out) hb) (Kd.R_base ho0)) (Kd.R_base ho1)) (fun _ h_ => h_.1))
      have m5 := A0_ (Kd.R_mono (Kd.R_told (Kd.R_told (Kd.R_old (by (with_reducible repeat (first|apply ra_|apply rn_|apply rd_)); exact HO_315003.out) hb) (Kd.R_base ho0)) (Kd.R_base ho1)) (fun _ h_ => h_.1))
      have m6 := A0_ (Kd.R_lower (Kd.R_new' (Kd.R_new' (Kd.R_new' (Kd.R_new' (Kd.R_new' (Kd.R_new' ho0 (Kd.R_lt (by (with_reducible repeat (first|apply ra_|apply rn_|apply rd_)); exact HO_291002.out))) (Kd.R_lt (by (with_reducible repeat (first|apply ra_|apply rn_|apply rd_)); exact HO_291003.out))) (Kd.R_lt (by (with_reducible repeat (first|apply ra_|apply rn_|apply rd_)); exact HO_301002.out))) (Kd.R_lt (by (with_reducible repeat (first|apply ra_|apply rn_|apply rd_)); exact HO_301003.out))) (Kd.R_lt (by (with_reducible repeat (first|apply ra_|apply rn_|apply rd_)); exact HO_315002.out))) (Kd.R_lt (by (with_reducible repeat (first|apply ra_|apply rn_|apply rd_)); exact HO_315003.out))) (bz_ (by repeat (with_reducible first|exact HB.out|apply ba_|apply bn_|apply bd_|refine bs_ ?_ GE290.out|refine bs_ ?_ GE300.out|refine bs_ ?_ GE314.out))))
      have m7 := A0_ (Kd.R_lower (Kd.R_new' (Kd.R_new' (Kd.R_new' (Kd.R_new' (Kd.R_new' (Kd.R_new' ho1 (Kd.R_lt (by (with_reducible repeat (first|apply ra_|apply rn_|apply rd_)); exact HO_291002.out))) (Kd.R_lt (by (with_reducible repeat (first|apply ra_|apply rn_|apply rd_)); exact HO_291003.out))) (Kd.R_lt (by (with_reducible repeat (first|apply ra_|apply rn_|apply rd_)); exact HO_301002.out))) (Kd.R_lt (by (with_reducible repeat (first|apply ra_|apply rn_|apply rd_)); exact HO_301003.out))) (Kd.R_lt (by (with_reducible repeat (first|apply ra_|apply rn_|apply rd_)); exact HO_315002.out))) (Kd.R_lt (by (with_reducible repeat (first|apply ra_|apply rn_|apply rd_)); exact HO_315003.out))) (bz_ (by repeat (with_reducible first|exact HB.out|apply ba_|apply bn_|apply bd_|refine bs_ ?_ GE290.out|refine bs_ ?_ GE300.out|refine bs_ ?_ GE314.out))))
      have m8 := A0_ (kb_ (g := gb266) (o := .cells #[.int .i64 a0_0, .bool a0_1, .slice A0_2 l0_2.length c0_2, .slice A0_3 l0_3.length c0_3, .int .i64 a0_4] 26 (0, 0)) (by (with_reducible repeat (first|apply kn_|apply kd_|apply ka_)); exact BK266.out) hb)
      have m9 := A0_ (kb_ (g := gb290) (o := .cells #[.int .i64 t277, .bool t278, .slice Ao23 t279.length co23, .slice Ao24 t282.length co24, .int .i64 t285, .string t286, .string t287, .int .i64 t288] 43 (0, 0)) (by (with_reducible repeat (first|apply kn_|apply kd_|apply ka_)); exact BK290.out) hb)
      have m10 := A0_ (kb_ (g := gb300) (o := .cells #[.int .i64 t291, .bool t292, .slice Ao31 t293.length co31, .slice Ao32 t296.length co32, .int .i64 t299] 31 (0, 0)) (by (with_reducible repeat (first|apply kn_|apply kd_|apply ka_)); exact BK300.out) hb)
      have m11 := A0_ (kb_ (g := gb314) (o := .cells #[.int .i64 t301, .bool t302, .slice Ao39 t303.length co39, .slice Ao40 t306.length co40, .int .i64 t309, .string t310, .string t311, .int .i64 t312] 43 (0, 0)) (by (with_reducible repeat (first|apply kn_|apply kd_|apply ka_)); exact BK314.out) hb)
      have m12 := A0_ (bt_ (by repeat (with_reducible first|exact HB.out|apply ba_|apply bn_|apply bd_|refine bs_ ?_ GE290.out|refine bs_ ?_ GE300.out|refine bs_ ?_ GE314.out)) hb)
      clear HO_291002
      clear HO_291003
      clear HO_301002
      clear HO_301003
      clear HO_315002
      clear HO_315003
      clear BK266
      clear BK290
      clear BK300
      clear BK314
      clear HB
      have HO_291002 := m0
      have HO_291003 := m1
      have HO_301002 := m2
      have HO_301003 := m3
      have HO_315002 := m4
      have HO_315003 := m5
      have HO320 := m6
      have HO323 := m7
      have BK266 := m8
      have BK290 := m9
      have BK300 := m10
      have BK314 := m11
      have HB := m12
      clear m0 m1 m2 m3 m4 m5 m6 m7 m8 m9 m10 m11 m12
      (try clear hb)
      (try clear hb2)
      (try clear hk)
      (try clear hi)
      (try clear ho0)
      (try clear ho1)
      obtain ⟨Ao184, co184, eo184⟩ := Kd.R_slice HO320.out
      (first|subst eo184|(injection eo184 with f1_ f2_ f3_; have f4_ := f1_.symm; have f5_ := f3_.symm; clear f1_ f2_ f3_; subst f4_; subst f5_))
      obtain ⟨Ao185, co185, eo185⟩ := Kd.R_slice HO323.out
      (first|subst eo185|(injection eo185 with f1_ f2_ f3_; have f4_ := f1_.symm; have f5_ := f3_.symm; clear f1_ f2_ f3_; subst f4_; subst f5_))
      refine hK.out _ _ ⟨(kc_ BK300.out 0).trans rfl, (kc_ BK300.out 1).trans rfl, (kc_ BK300.out 2).trans rfl, (kc_ BK300.out 3).trans rfl, (kc_ BK300.out 4).trans rfl, (kc_ BK266.out 0).trans rfl, (kc_ BK266.out 1).trans rfl, (kc_ BK266.out 2).trans rfl, (kc_ BK266.out 3).trans rfl, (kc_ BK266.out 4).trans rfl⟩ (fun hHeld => ?_)
      clear hK K
      refine norm_ (a' := ?_) ?_ ?_
      rotate_left
      ·show Act.put _ (some 43) _ = _
       simp only [Act.put, sa_, sz_, ss_, i64_w, i32_w]
       rfl
      refine one_ (i := 3) (N := some 44) #[true, true, true, true, false] rfl rfl (by kernel_rfl) (by decide) (fun K hK => ?_)
      refine goes_ Try.func10 (by kernel_rfl) rfl #[.agg #[.int .i64 t291, .bool t292, .slice Ao31 t293.length co31, .slice Ao32 t296.length co32, .int .i64 t299], .agg #[.int .i64 t316, .bool t317, .slice Ao184 t318.length co184, .slice Ao185 t321.length co185, .int .i64 t324]] (by rfl) rfl rfl (by (try simp only [ma_, mc_, mn_]); first|done|rfl) ?_
      with_reducible refine (laws_eqHouse.calls kj10 t291 t292 _ _ t293 _ _ t296 t299 t316 t317 _ _ t318 _ _ t321 t324 false _ ?side1 ?side2 ?side3 ?side4 ?side5 ?side6 ?side7 ?side8 A61.out).mono ?_
      (case side1 => repeat (first|exact (rr_ HO_301002.out).2.2|(with_reducible refine ca_ ?_ _)|(with_reducible refine cn_ ?_ _)|(with_reducible refine cd_ ?_)))
      (case side2 => exact (rr_ HO_301002.out).2.1)
      (case side3 => repeat (first|exact (rr_ HO_301003.out).2.2|(with_reducible refine ca_ ?_ _)|(with_reducible refine cn_ ?_ _)|(with_reducible refine cd_ ?_)))
      (case side4 => exact (rr_ HO_301003.out).2.1)
      (case side5 => repeat (first|exact (rr_ HO320.out).2.2|(with_reducible refine ca_ ?_ _)|(with_reducible refine cn_ ?_ _)|(with_reducible refine cd_ ?_)))
      (case side6 => exact (rr_ HO320.out).2.1)
      (case side7 => repeat (first|exact (rr_ HO323.out).2.2|(with_reducible refine ca_ ?_ _)|(with_reducible refine cn_ ?_ _)|(with_reducible refine cd_ ?_)))
      (case side8 => exact (rr_ HO323.out).2.1)
      rintro e w186 ⟨rfl, hb⟩
      refine ⟨_, rfl, ?_⟩
      have m0 := A0_ (Kd.R_below (by (with_reducible repeat (first|apply ra_|apply rn_|apply rd_)); exact HO_291002.out) hb)
      have m1 := A0_ (Kd.R_below (by (with_reducible repeat (first|apply ra_|apply rn_|apply rd_)); exact HO_291003.out) hb)
      have m2 := A0_ (Kd.R_below (by (with_reducible repeat (first|apply ra_|apply rn_|apply rd_)); exact HO_301002.out) hb)
      have m3 := A0_ (Kd.R_below (by (with_reducible repeat (first|apply ra_|apply rn_|apply rd_)); exact HO_301003.out) hb)
      have m4 := A0_ (Kd.R_below (by (with_reducible repeat (first|apply ra_|apply rn_|apply rd_)); exact HO_315002.out) hb)
      have m5 := A0_ (Kd.R_below (by (with_reducible repeat (first|apply ra_|apply rn_|apply rd_)); exact HO_315003.out) hb)
      have m6 := A0_ (Kd.R_below (by (with_reducible repeat (first|apply ra_|apply rn_|apply rd_)); exact HO320.out) hb)
      have m7 := A0_ (Kd.R_below (by (with_reducible repeat (first|apply ra_|apply rn_|apply rd_)); exact HO323.out) hb)
      have m8 := A0_ (kb_ (g := gb266) (o := .cells #[.int .i64 a0_0, .bool a0_1, .slice A0_2 l0_2.length c0_2, .slice A0_3 l0_3.length c0_3, .int .i64 a0_4] 26 (0, 0)) (by (with_reducible repeat (first|apply kn_|apply kd_|apply ka_)); exact BK266.out) hb)
      have m9 := A0_ (kb_ (g := gb290) (o := .cells #[.int .i64 t277, .bool t278, .slice Ao23 t279.length co23, .slice Ao24 t282.length co24, .int .i64 t285, .string t286, .string t287, .int .i64 t288] 43 (0, 0)) (by (with_reducible repeat (first|apply kn_|apply kd_|apply ka_)); exact BK290.out) hb)
      have m10 := A0_ (kb_ (g := gb300) (o := .cells #[.int .i64 t291, .bool t292, .slice Ao31 t293.length co31, .slice Ao32 t296.length co32, .int .i64 t299] 31 (0, 0)) (by (with_reducible repeat (first|apply kn_|apply kd_|apply ka_)); exact BK300.out) hb)
      have m11 := A0_ (kb_ (g := gb314) (o := .cells #[.int .i64 t301, .bool t302, .slice Ao39 t303.length co39, .slice Ao40 t306.length co40, .int .i64 t309, .string t310, .string t311, .int .i64 t312] 43 (0, 0)) (by (with_reducible repeat (first|apply kn_|apply kd_|apply ka_)); exact BK314.out) hb)
      have m12 := A0_ (bt_ (by repeat (with_reducible first|exact HB.out|apply ba_|apply bn_|apply bd_|refine bs_ ?_ GE290.out|refine bs_ ?_ GE300.out|refine bs_ ?_ GE314.out)) hb)
      clear HO_291002
      clear HO_291003
      clear HO_301002
      clear HO_301003
      clear HO_315002
      clear HO_315003
      clear HO320
      clear HO323
      clear BK266
      clear BK290
      clear BK300
      clear BK314
      clear HB
      have HO_291002 := m0
      have HO_291003 := m1
      have HO_301002 := m2
      have HO_301003 := m3
      have HO_315002 := m4
      have HO_315003 := m5
      have HO320 := m6
      have HO323 := m7
      have BK266 := m8
      have BK290 := m9
      have BK300 := m10
      have BK314 := m11
      have HB := m12
      clear m0 m1 m2 m3 m4 m5 m6 m7 m8 m9 m10 m11 m12
      (try clear hb)
      (try clear hb2)
      (try clear hk)
      (try clear hi)
      refine hK.out _ _ ⟨(kc_ BK300.out 0).trans rfl, (kc_ BK300.out 1).trans rfl, (kc_ BK300.out 2).trans rfl, (kc_ BK300.out 3).trans rfl, (kc_ BK300.out 4).trans rfl, (kc_ BK266.out 0).trans rfl, (kc_ BK266.out 1).trans rfl, (kc_ BK266.out 2).trans rfl, (kc_ BK266.out 3).trans rfl, (kc_ BK266.out 4).trans rfl⟩ (fun hHeld => ?_)
      clear hK K
      refine norm_ (a' := ?_) ?_ ?_
      rotate_left
      ·show Act.put _ (some 44) _ = _
       simp only [Act.put, sa_, sz_, ss_, i64_w, i32_w]
       rfl
      refine pure_ (i := 4) (N := some 45) (v := ?_) (a' := ?_) #[true, true, true, true, true] rfl rfl (by kernel_rfl) (fun _ _ _ h => h) (Or.inl ⟨by rfl, ?_⟩) ?_ ?_
      rotate_left
      ·intro w'
       go_simp
       with_reducible rfl
      rotate_left
      ·simp only [Act.put, sa_, sz_, ss_, i64_w, i32_w]
       rfl
      refine done_ (by kernel_rfl) ?_
      try go_wp2
      go_ret
      exact ⟨by first|rfl|(simp [*, errW_none, errW_some] <;> rfl), by repeat (with_reducible first|exact HB.out|apply ba_|apply bn_|apply bd_|refine bs_ ?_ GE290.out|refine bs_ ?_ GE300.out|refine bs_ ?_ GE314.out)⟩

end Go.Proofs.Ytbohmfnjgjijdaa.QFnExactNewConsole
-- squeezed
