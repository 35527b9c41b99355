-- Written by px.py, a program of this session, over the kit's printer: some functions have a definition and a proof of this session's own.
import Derived.Test.YtphcagjmpaajmaaDoorQFnLogsx0
import Derived.Test.YtphcagjmpaajmaaDoorQFnLogsx1
import Derived.Test.YtphcagjmpaajmaaDoorQFnLogsx2
import Derived.Test.YtphcagjmpaajmaaDoorQFnLogsx4
import Derived.Test.YtphcagjmpaajmaaDoorQFnLogsx5
import Derived.Test.YtphcagjmpaajmaaDoorQFnLogsx7
import Derived.Test.YtphcagjmpaajmaaDoorQFnLogsx8
import Derived.Test.YtphcagjmpaajmaaDoorQFnLogsx9
import Derived.Test.YtphcagjmpaajmaaDoorQFnLogsx10
import Derived.Test.YtphcagjmpaajmaaDoorQFnLogsx11
namespace Go.Proofs.YtphcagjmpaajmaaDoor.QFnLogs
open Go.RowKit Go.Proofs.YtphcagjmpaajmaaDoorW.PrintWords Go.Proofs.YtphcagjmpaajmaaDoorW.PrintLast Go.Proofs.YtphcagjmpaajmaaDoorW.PrintMore
attribute [local go_sem] max2_int min2_int max_two min_two max_three min_three max_four min_four   -- for this text's walks alone
set_option linter.unusedVariables false
set_option linter.unusedSimpArgs false
set_option maxHeartbeats 8000000
set_option maxRecDepth 100000

attribute [local go_sem high] eqA27 eqA31
mutual
def laws_FnLogs.j0 : Nat → Int → Bool → ByteArray → ByteArray → Int → ByteArray → ByteArray → ByteArray → ByteArray → Int → Option (Bool)
 | 0, _, _, _, _, _, _, _, _, _, _ => none
 | k + 1, x14, x103, x410000, x410001, x410002, x411000, x411001, x416000, x416001, x416002 => if x103 = true then (none) else ((impl_SyncLog.f k x410000 x410001 x410002).bind fun bt425 => ((spec_SyncLog.f k x410000 x410001 x410002).bind fun bt430 => ((impl_LogRecords.f k x410000 x410001 x410002).bind fun bt435 => ((spec_LogRecords.f k x410000 x410001 x410002).bind fun bt439 => (if (!(bt425.1.toList == bt430.1.toList) || (!(bt425.2.1.toList == bt430.2.1.toList) || (!(bt425.2.2.1 == bt430.2.2.1)))) = true then (none) else (if (bt425.2.2.2 != bt430.2.2.2) = true then (none) else (if (bt435.2 != bt439.2) = true then (none) else ((laws_vRecords.f k bt435.1 bt439.1).bind fun t443 => (laws_FnLogs.j1 k x14 bt425.2.2.2 bt435.1 (!t443) x410000 x410001 x410002 x411000 x411001 x416000 x416001 x416002 bt425.1 bt425.2.1 bt425.2.2.1)))))))))
def laws_FnLogs.j1 : Nat → Int → Bool → List (S27) → Bool → ByteArray → ByteArray → Int → ByteArray → ByteArray → ByteArray → ByteArray → Int → ByteArray → ByteArray → Int → Option (Bool)
 | 0, _, _, _, _, _, _, _, _, _, _, _, _, _, _, _ => none
 | k + 1, x14, x18, x21, x142, x410000, x410001, x410002, x411000, x411001, x416000, x416001, x416002, x430000, x430001, x430002 => if x142 = true then (none) else ((impl_LogRecords.f k x430000 x430001 x430002).bind fun bt444 => (if x18 = true then ((laws_vRecords.f k bt444.1 x21).bind fun t448 => (laws_FnLogs.j2 k x14 x21 (!t448) x410000 x410001 x410002 x411000 x411001 x416000 x416001 x416002)) else (laws_FnLogs.j2 k x14 x21 false x410000 x410001 x410002 x411000 x411001 x416000 x416001 x416002)))
def laws_FnLogs.j2 : Nat → Int → List (S27) → Bool → ByteArray → ByteArray → Int → ByteArray → ByteArray → ByteArray → ByteArray → Int → Option (Bool)
 | 0, _, _, _, _, _, _, _, _, _, _, _ => none
 | k + 1, x14, x21, x154, x410000, x410001, x410002, x411000, x411001, x416000, x416001, x416002 => if x154 = true then (none) else (if x14 = 0 then ((impl_LogRecords.f k x416000 x416001 x416002).bind fun bt449 => ((impl_IsValidLog.f k x416000 x416001 x416002).bind fun t453 => (if t453 = true then (if (bt449.1.length : Int) = (wrap64 ((x21.length : Int) + 1)) then (if 0 ≤ (x21.length : Int) then (if (x21.length : Int) ≤ (bt449.1.length : Int) then ((laws_vRecords.f k (bt449.1.take ((x21.length : Int) : Int).toNat) x21).bind fun t458 => (if t458 = true then (if (x21.length : Int) < (bt449.1.length : Int) then (some ((((rd_T27 bt449.1 (x21.length : Int)).f0).toList) == x411000.toList && ((((rd_T27 bt449.1 (x21.length : Int)).f1).toList) == x411001.toList))) else (none)) else (none))) else (none)) else (none)) else (none)) else (none)))) else (some (x416000.toList == x410000.toList && (x416001.toList == x410001.toList && (x416002 == x410002)))))
end
def laws_FnLogs.f (k : Nat) (l0 : List Int) : Option (Bool) := (laws_vBig.f l0).bind fun t379 => (if t379 = true then (some true) else ((spec_DrawIsValidRecord.f l0).bind fun bt380 => ((laws_vCut.f l0 1).bind fun t383 => ((spec_DrawEncodeRecord.f t383).bind fun bt386 => ((impl_EncodeRecord.f k bt386.1 bt386.2.1 bt386.2.2).bind fun bt390 => ((spec_EncodeRecord.f k bt386.1 bt386.2.1 bt386.2.2).bind fun bt392 => ((laws_vCut.f l0 2).bind fun t394 => ((spec_DrawIsValidLog.f k t394).bind fun bt397 => ((laws_vCut.f l0 3).bind fun t401 => ((spec_DrawAppendRecord.f k t401).bind fun bt404 => ((impl_AppendRecord.f k bt404.1 bt404.2.1 bt404.2.2.1 bt404.2.2.2.1 bt404.2.2.2.2).bind fun bt411 => ((spec_AppendRecord.f k bt404.1 bt404.2.1 bt404.2.2.1 bt404.2.2.2.1 bt404.2.2.2.2).bind fun bt416 => ((impl_IsValidRecord.f k bt380.1 bt380.2).bind fun t421 => ((spec_IsValidRecord.f k bt380.1 bt380.2).bind fun t422 => (if (t421 != t422) = true then (none) else (if bt390.1.toList = bt392.1.toList then (if (bt390.2 != bt392.2) = true then (none) else ((impl_IsValidLog.f k bt397.1 bt397.2.1 bt397.2.2).bind fun t423 => ((spec_IsValidLog.f k bt397.1 bt397.2.1 bt397.2.2).bind fun t424 => (if (t423 != t424) = true then (none) else (if (!(bt411.1.toList == bt416.1.toList) || (!(bt411.2.1.toList == bt416.2.1.toList) || (!(bt411.2.2.1 == bt416.2.2.1)))) = true then (none) else (laws_FnLogs.j0 k bt411.2.2.2 (bt411.2.2.2 != bt416.2.2.2) bt404.1 bt404.2.1 bt404.2.2.1 bt404.2.2.2.1 bt404.2.2.2.2 bt411.1 bt411.2.1 bt411.2.2.1)))))) else (none)))))))))))))))))
def laws_FnLogs.T11 : Bool × List (List Nat × List Nat) := (true, [([], []), ([0], [0]), ([], []), ([2, 1], [2]), ([1, 3], [1, 3]), ([4, 3], [4]), ([5], [5]), ([5], [5]), ([6, 7, 5], [5, 6, 7]), ([5, 8], [5, 8]), ([9, 5], [9]), ([10], [10]), ([10], [10]), ([11, 12, 10], [10, 11, 12]), ([10, 13], [10, 13]), ([14, 10], [14]), ([15], [15]), ([16, 15, 15], [15, 16]), ([15], [15]), ([18, 17, 15], [15, 18]), ([17, 19, 15], [15, 17, 19]), ([15, 20], [15, 20]), ([21, 19], [21]), ([22], [22]), ([22], [22]), ([23, 24, 22], [22, 23, 24]), ([22, 25], [22, 25]), ([26, 22], [26]), ([27], [27]), ([27], [27]), ([28, 29, 27], [27, 28, 29]), ([27, 30], [27, 30])])
def laws_FnLogs.B11 : List Nat := [0, 1, 0, 7, 15, 31, 63, 63, 255, 511, 1023, 2047, 2047, 8191, 16383, 32767, 65535, 131071, 65535, 524287, 1048575, 2097151, 4194303, 8388607, 8388607, 33554431, 67108863, 134217727, 268435455, 268435455, 1073741823, 2147483647]
theorem laws_FnLogs.tab11 : rtab .any (opsOf Tryd.f10 11) = laws_FnLogs.T11 := by kernel_rfl
theorem laws_FnLogs.bits11 : waitsOk laws_FnLogs.T11.2 laws_FnLogs.B11 = true := by kernel_rfl
def laws_FnLogs.T25 : Bool × List (List Nat × List Nat) := (true, [([], []), ([0], [0]), ([1, 1], [1]), ([2], [2]), ([3, 2], [2, 3]), ([2], [2]), ([5, 2], [2, 5]), ([6, 2], [2, 6]), ([4, 7, 2], [2, 4, 7]), ([2, 8], [2, 8]), ([9, 2], [9]), ([10], [10]), ([10], [10]), ([12, 10], [10, 12]), ([11, 13, 10], [10, 11, 13]), ([10], [10]), ([14, 15, 10, 10], [10, 14, 15]), ([10, 16], [10, 16]), ([17, 16], [17]), ([18], [18]), ([18], [18]), ([20, 18], [18, 20]), ([19, 21, 18], [18, 19, 21]), ([22, 18], [18, 22]), ([18], [18]), ([23, 24, 18], [18, 23, 24]), ([18, 25], [18, 25]), ([26, 18, 0, 1, 2, 3, 4, 5, 6, 7, 8, 9, 10, 11, 12, 13, 14, 15, 16, 17, 18, 19, 20, 21, 22, 23, 24, 25, 26], [26])])
def laws_FnLogs.B25 : List Nat := [0, 1, 3, 7, 15, 7, 39, 103, 255, 511, 1023, 2047, 2047, 6143, 16383, 2047, 65535, 131071, 262143, 524287, 524287, 1572863, 4194303, 8388607, 524287, 33554431, 67108863, 134217727]
theorem laws_FnLogs.tab25 : rtab .any (opsOf Tryd.f10 25) = laws_FnLogs.T25 := by kernel_rfl
theorem laws_FnLogs.bits25 : waitsOk laws_FnLogs.T25.2 laws_FnLogs.B25 = true := by kernel_rfl
theorem laws_FnLogs.calls (k : Nat) (A0 : Option Addr) (c0 : Nat) (l0 : List Int) (r : Bool) (w : World) (hr0 : Kd.C (Kd.int .u8) w A0 l0.length l0) (hc0 : l0.length ≤ c0) (hG : TabOK w) (h : laws_FnLogs.f k l0 = some r) :
  Calls Tryd.prog 10 #[.slice A0 l0.length c0] w fun e w' => e = .returned (.bool r) ∧ Below w.heap.size w w' := by
 have HG0 := A0_ hG
 clear hG
 have hu27 := Tryd.underlying27
 have hu31 := Tryd.underlying31
 have HR0 := A0_ hr0
 have HC0 := A0_ hc0
 clear hr0 hc0
 have HB := A0_ (Below.refl w.heap.size w)
 have H : ((laws_vBig.f l0).bind fun t379 => (if t379 = true then (some true) else ((spec_DrawIsValidRecord.f l0).bind fun bt380 => ((laws_vCut.f l0 1).bind fun t383 => ((spec_DrawEncodeRecord.f t383).bind fun bt386 => ((impl_EncodeRecord.f k bt386.1 bt386.2.1 bt386.2.2).bind fun bt390 => ((spec_EncodeRecord.f k bt386.1 bt386.2.1 bt386.2.2).bind fun bt392 => ((laws_vCut.f l0 2).bind fun t394 => ((spec_DrawIsValidLog.f k t394).bind fun bt397 => ((laws_vCut.f l0 3).bind fun t401 => ((spec_DrawAppendRecord.f k t401).bind fun bt404 => ((impl_AppendRecord.f k bt404.1 bt404.2.1 bt404.2.2.1 bt404.2.2.2.1 bt404.2.2.2.2).bind fun bt411 => ((spec_AppendRecord.f k bt404.1 bt404.2.1 bt404.2.2.1 bt404.2.2.2.1 bt404.2.2.2.2).bind fun bt416 => ((impl_IsValidRecord.f k bt380.1 bt380.2).bind fun t421 => ((spec_IsValidRecord.f k bt380.1 bt380.2).bind fun t422 => (if (t421 != t422) = true then (none) else (if bt390.1.toList = bt392.1.toList then (if (bt390.2 != bt392.2) = true then (none) else ((impl_IsValidLog.f k bt397.1 bt397.2.1 bt397.2.2).bind fun t423 => ((spec_IsValidLog.f k bt397.1 bt397.2.1 bt397.2.2).bind fun t424 => (if (t423 != t424) = true then (none) else (if (!(bt411.1.toList == bt416.1.toList) || (!(bt411.2.1.toList == bt416.2.1.toList) || (!(bt411.2.2.1 == bt416.2.2.1)))) = true then (none) else (laws_FnLogs.j0 k bt411.2.2.2 (bt411.2.2.2 != bt416.2.2.2) bt404.1 bt404.2.1 bt404.2.2.1 bt404.2.2.2.1 bt404.2.2.2.2 bt411.1 bt411.2.1 bt411.2.2.1)))))) else (none)))))))))))))))))) = some r := h
 clear h
 replace H := ob_.mp H
 obtain ⟨t379, A20, H⟩ := H
 have A2 := A0_ A20
 clear A20
 by_cases c3 : t379 = true
 ·subst c3
  rw [if_pos rfl] at H
  obtain rfl := si_ H
  go_enter Tryd.func10, Tryd.ntmps10
  go_wp2_with (first | ((with_reducible refine gc_ (f := 34) rfl ?_); refine goesL_ (some 30) rfl rfl Tryd.func34 (by kernel_rfl) rfl #[.slice A0 l0.length c0] rfl (by (try simp only [ma_, mc_, mn_]); first | done | rfl | (simp only [ld_, lt_]; rfl)) ?_; (with_reducible refine (laws_vBig.calls _ _ l0 true _ ?side1 ?side2 A2.out).mono ?_); (case side1 => repeat (first | exact HR0.out | (with_reducible refine ca_ ?_ _) | (with_reducible refine cn_ ?_ _) | (with_reducible refine cd_ ?_))); (case side2 => exact HC0.out); rintro e w' ⟨rfl, ⟨nd, rfl⟩⟩; refine ⟨_, rfl, ?_⟩))
  go_ret
  exact ⟨by first | rfl | (simp [*, errW_none, errW_some] <;> rfl), by repeat (with_reducible first | exact HB.out | apply ba_ | apply bn_ | apply bd_)⟩
 ·replace c3 := bf_.mpr c3
  subst c3
  rw [if_neg (show ¬ (false = true) by decide)] at H
  replace H := ob_.mp H
  obtain ⟨⟨t380, t381⟩, A40, H⟩ := H
  have A4 := A0_ A40
  clear A40
  replace H := ob_.mp H
  obtain ⟨t383, A50, H⟩ := H
  have A5 := A0_ A50
  clear A50
  replace H := ob_.mp H
  obtain ⟨⟨t386, t387, t388⟩, A60, H⟩ := H
  have A6 := A0_ A60
  clear A60
  replace H := ob_.mp H
  obtain ⟨⟨t390, t391⟩, A70, H⟩ := H
  have A7 := A0_ A70
  clear A70
  replace H := ob_.mp H
  obtain ⟨⟨t392, t393⟩, A80, H⟩ := H
  have A8 := A0_ A80
  clear A80
  replace H := ob_.mp H
  obtain ⟨t394, A90, H⟩ := H
  have A9 := A0_ A90
  clear A90
  replace H := ob_.mp H
  obtain ⟨⟨t397, t398, t399⟩, A100, H⟩ := H
  have A10 := A0_ A100
  clear A100
  replace H := ob_.mp H
  obtain ⟨t401, A110, H⟩ := H
  have A11 := A0_ A110
  clear A110
  replace H := ob_.mp H
  obtain ⟨⟨t404, t405, t406, t407, t408⟩, A120, H⟩ := H
  have A12 := A0_ A120
  clear A120
  replace H := ob_.mp H
  obtain ⟨⟨t411, t412, t413, t414⟩, A130, H⟩ := H
  have A13 := A0_ A130
  clear A130
  replace H := ob_.mp H
  obtain ⟨⟨t416, t417, t418, t419⟩, A140, H⟩ := H
  have A14 := A0_ A140
  clear A140
  have HC15 := A0_ H
  clear H
  go_enter Tryd.func10, Tryd.ntmps10
  go_upto_region 11 with (first | ((with_reducible refine gc_ (f := 34) rfl ?_); refine goesL_ (some 30) rfl rfl Tryd.func34 (by kernel_rfl) rfl #[.slice A0 l0.length c0] rfl (by (try simp only [ma_, mc_, mn_]); first | done | rfl | (simp only [ld_, lt_]; rfl)) ?_; (with_reducible refine (laws_vBig.calls _ _ l0 false _ ?side1 ?side2 A2.out).mono ?_); (case side1 => repeat (first | exact HR0.out | (with_reducible refine ca_ ?_ _) | (with_reducible refine cn_ ?_ _) | (with_reducible refine cd_ ?_))); (case side2 => exact HC0.out); rintro e w' ⟨rfl, ⟨nd, rfl⟩⟩; refine ⟨_, rfl, ?_⟩) | ((with_reducible refine gc_ (f := 35) rfl ?_); refine goesL_ (some 32) rfl rfl Tryd.func35 (by kernel_rfl) rfl #[.slice A0 l0.length c0] rfl (by (try simp only [ma_, mc_, mn_]); first | done | rfl | (simp only [ld_, lt_]; rfl)) ?_; (with_reducible refine (spec_DrawIsValidRecord.calls _ _ l0 t380 t381 _ ?side1 ?side2 A4.out).mono ?_); (case side1 => repeat (first | exact HR0.out | (with_reducible refine ca_ ?_ _) | (with_reducible refine cn_ ?_ _) | (with_reducible refine cd_ ?_))); (case side2 => exact HC0.out); rintro e w16 ⟨rfl, hb⟩; refine ⟨_, rfl, ?_⟩; replace HB := A0_ (bt_ (by repeat (with_reducible first | exact HB.out | apply ba_ | apply bn_ | apply bd_)) hb); (try clear hb)) | ((with_reducible refine gd_ (N := 3) rfl ?_); (try (refine gate_guard (by rfl) ?_; dsimp only)); refine be_ ?hg (N := 3) ?hd (cs := #[.string (⟨#[]⟩ : ByteArray), .string (⟨#[]⟩ : ByteArray)]) (t := 27) ?hr ?_; (case hd => rfl); (case hg => rfl); (case hr => go_simp; first | done | rfl); intro gb382 hg w17 hbox hb; have BK382 := A0_ (hbox); have GW382 := A0_ ((by rw [hg]; exact (bz_ (by repeat (with_reducible first | exact HB.out | apply ba_ | apply bn_ | apply bd_))) : w.heap.size ≤ gb382)); have GE382 := A0_ ((by rw [hg]; exact (bz_ (by repeat (with_reducible first | exact HB.out | apply ba_ | apply bn_ | apply bd_))) : w.heap.size ≤ gb382)); replace HB := A0_ (bt_ (by repeat (with_reducible first | exact HB.out | apply ba_ | apply bn_ | apply bd_)) hb); clear hb hbox hg; have hcz18_0 : w17.cell? ⟨gb382, 0, none⟩ = some (.string (⟨#[]⟩ : ByteArray)) := (kc_ BK382.out 0).trans rfl; have hcz18_1 : w17.cell? ⟨gb382, 1, none⟩ = some (.string (⟨#[]⟩ : ByteArray)) := (kc_ BK382.out 1).trans rfl; have hfz18_0 := kf_ BK382.out 0; have hfz18_1 := kf_ BK382.out 1) | ((with_reducible refine gc_ (f := 37) rfl ?_); refine goesL_ (some 35) rfl rfl Tryd.func37 (by kernel_rfl) rfl #[.slice A0 l0.length c0, .int .i64 1] rfl (by (try simp only [ma_, mc_, mn_]); first | done | rfl | (simp only [ld_, lt_]; rfl)) ?_; (with_reducible refine (laws_vCut.calls _ _ l0 1 t383 _ ?side1 ?side2 A5.out).mono ?_); (case side1 => exact cb_ HR0.out (by repeat (with_reducible first | exact HB.out | apply ba_ | apply bn_ | apply bd_ | refine bs_ ?_ GE382.out))); (case side2 => exact HC0.out); rintro e w19 ⟨v384, rfl, ho0, hb⟩; refine ⟨_, rfl, ?_⟩; have HO385 := A0_ (Kd.R_lower ho0 (bz_ (by repeat (with_reducible first | exact HB.out | apply ba_ | apply bn_ | apply bd_ | refine bs_ ?_ GE382.out)))); replace BK382 := A0_ (kb_ (g := gb382) (o := .cells #[.string t380, .string t381] 27 (0, 0)) (by (with_reducible repeat (first | apply kn_ | apply kd_ | apply ka_)); refine blk_put (cs := #[.string t380, .string (⟨#[]⟩ : ByteArray)]) ?_ 1 _ rfl; (with_reducible repeat (first | apply kn_ | apply kd_ | apply ka_)); refine blk_put (cs := #[.string (⟨#[]⟩ : ByteArray), .string (⟨#[]⟩ : ByteArray)]) ?_ 0 _ rfl; (with_reducible repeat (first | apply kn_ | apply kd_ | apply ka_)); exact BK382.out) hb); replace HB := A0_ (bt_ (by repeat (with_reducible first | exact HB.out | apply ba_ | apply bn_ | apply bd_ | refine bs_ ?_ GE382.out)) hb); (try clear hb); (try clear ho0); obtain ⟨Ao20, co20, eo20⟩ := Kd.R_slice HO385.out; subst eo20) | ((with_reducible refine gc_ (f := 36) rfl ?_); refine goesL_ (some 36) rfl rfl Tryd.func36 (by kernel_rfl) rfl #[.slice Ao20 t383.length co20] rfl (by (try simp only [ma_, mc_, mn_]); first | done | rfl | (simp only [ld_, lt_]; rfl)) ?_; (with_reducible refine (spec_DrawEncodeRecord.calls _ _ t383 t386 t387 t388 _ ?side1 ?side2 A6.out).mono ?_); (case side1 => repeat (first | exact (rr_ HO385.out).2.2 | (with_reducible refine ca_ ?_ _) | (with_reducible refine cn_ ?_ _) | (with_reducible refine cd_ ?_))); (case side2 => exact (rr_ HO385.out).2.1); rintro e w21 ⟨rfl, hb⟩; refine ⟨_, rfl, ?_⟩; replace HO385 := A0_ (Kd.R_below (by (with_reducible repeat (first | apply ra_ | apply rn_ | apply rd_)); exact HO385.out) hb); replace BK382 := A0_ (kb_ (g := gb382) (o := .cells #[.string t380, .string t381] 27 (0, 0)) (by (with_reducible repeat (first | apply kn_ | apply kd_ | apply ka_)); exact BK382.out) hb); replace HB := A0_ (bt_ (by repeat (with_reducible first | exact HB.out | apply ba_ | apply bn_ | apply bd_ | refine bs_ ?_ GE382.out)) hb); (try clear hb)) | ((with_reducible refine gd_ (N := 5) rfl ?_); (try (refine gate_guard (by rfl) ?_; dsimp only)); refine be_ ?hg (N := 5) ?hd (cs := #[.string (⟨#[]⟩ : ByteArray), .string (⟨#[]⟩ : ByteArray)]) (t := 27) ?hr ?_; (case hd => rfl); (case hg => rfl); (case hr => go_simp; first | done | rfl); intro gb389 hg w22 hbox hb; replace HO385 := A0_ (Kd.R_below (by (with_reducible repeat (first | apply ra_ | apply rn_ | apply rd_)); exact HO385.out) hb); have BK389 := A0_ (hbox); have GW389 := A0_ ((by rw [hg]; exact (bz_ (by repeat (with_reducible first | exact HB.out | apply ba_ | apply bn_ | apply bd_ | refine bs_ ?_ GE382.out))) : w.heap.size ≤ gb389)); have GE389 := A0_ ((by rw [hg]; exact (bz_ (by repeat (with_reducible first | exact HB.out | apply ba_ | apply bn_ | apply bd_ | refine bs_ ?_ GE382.out))) : w.heap.size ≤ gb389)); replace HB := A0_ (bt_ (by repeat (with_reducible first | exact HB.out | apply ba_ | apply bn_ | apply bd_ | refine bs_ ?_ GE382.out)) hb); have NB382_389 := A0_ ((by rw [hg]; exact Nat.ne_of_lt (blk_lt (g := gb382) (o := .cells #[.string t380, .string t381] 27 (0, 0)) (by (with_reducible repeat (first | apply kn_ | apply kd_ | apply ka_)); exact BK382.out)) : gb382 ≠ gb389)); have NB389_382 := A0_ ((by rw [hg]; exact Nat.ne_of_gt (blk_lt (g := gb382) (o := .cells #[.string t380, .string t381] 27 (0, 0)) (by (with_reducible repeat (first | apply kn_ | apply kd_ | apply ka_)); exact BK382.out)) : gb389 ≠ gb382)); replace BK382 := A0_ (kb_ (g := gb382) (o := .cells #[.string t380, .string t381] 27 (0, 0)) (by (with_reducible repeat (first | apply kn_ | apply kd_ | apply ka_)); exact BK382.out) hb); clear hb hbox hg; have hnb23 := NB389_382.out; have hnc23 := NB382_389.out; have hcz24_0 : w22.cell? ⟨gb389, 0, none⟩ = some (.string (⟨#[]⟩ : ByteArray)) := (kc_ BK389.out 0).trans rfl; have hcz24_1 : w22.cell? ⟨gb389, 1, none⟩ = some (.string (⟨#[]⟩ : ByteArray)) := (kc_ BK389.out 1).trans rfl; have hfz24_0 := kf_ BK389.out 0; have hfz24_1 := kf_ BK389.out 1) | ((with_reducible refine gc_ (f := 15) rfl ?_); refine goesL_ (some 42) rfl rfl Tryd.func15 (by kernel_rfl) rfl #[.int .i64 t386, .agg #[.string t387, .string t388]] rfl (by (try simp only [ma_, mc_, mn_]); first | done | rfl | (simp only [ld_, lt_]; rfl)) ?_; (with_reducible refine (impl_EncodeRecord.calls k t386 t387 t388 t390 t391 _ (by first | exact TabOK.below HG0.out (by repeat (with_reducible first | exact HB.out | apply ba_ | apply bn_ | apply bd_ | refine bs_ ?_ GE382.out | refine bs_ ?_ GE389.out | refine bs_ ?_ GE400.out | refine bs_ ?_ GE409.out | refine bs_ ?_ GE410.out | refine bs_ ?_ GE415.out | refine bs_ ?_ GE420.out | refine bs_ ?_ GE429.out | refine bs_ ?_ GE434.out)) | (repeat (first | exact HG0.out | apply TabOK.drew | apply TabOK.drewN)) | exact TabOK.drawn HG0.out (by assumption)) A7.out).mono ?_); rintro e w25 ⟨rfl, hb⟩; refine ⟨_, rfl, ?_⟩; replace HO385 := A0_ (Kd.R_below (by (with_reducible repeat (first | apply ra_ | apply rn_ | apply rd_)); exact (Kd.R_mono (Kd.R_far (p := ⟨gb389, 1, none⟩) (Kd.R_far (p := ⟨gb389, 0, none⟩) (Kd.R_types HO385.out BK389.out (by decide)) (fun _ hk => hk.2) (.string t387)) (fun _ hk => hk.2) (.string t388)) (fun _ h_ => h_.1))) hb); replace BK382 := A0_ (kb_ (g := gb382) (o := .cells #[.string t380, .string t381] 27 (0, 0)) (by (with_reducible repeat (first | apply kn_ | apply kd_ | apply ka_)); refine blk_far ?_ NB382_389.out _; (with_reducible repeat (first | apply kn_ | apply kd_ | apply ka_)); refine blk_far ?_ NB382_389.out _; (with_reducible repeat (first | apply kn_ | apply kd_ | apply ka_)); exact BK382.out) hb); replace BK389 := A0_ (kb_ (g := gb389) (o := .cells #[.string t387, .string t388] 27 (0, 0)) (by (with_reducible repeat (first | apply kn_ | apply kd_ | apply ka_)); refine blk_put (cs := #[.string t387, .string (⟨#[]⟩ : ByteArray)]) ?_ 1 _ rfl; (with_reducible repeat (first | apply kn_ | apply kd_ | apply ka_)); refine blk_put (cs := #[.string (⟨#[]⟩ : ByteArray), .string (⟨#[]⟩ : ByteArray)]) ?_ 0 _ rfl; (with_reducible repeat (first | apply kn_ | apply kd_ | apply ka_)); exact BK389.out) hb); replace HB := A0_ (bt_ (by repeat (with_reducible first | exact HB.out | apply ba_ | apply bn_ | apply bd_ | refine bs_ ?_ GE382.out | refine bs_ ?_ GE389.out)) hb); (try clear hb); have hcz26_0 : w25.cell? ⟨gb389, 0, none⟩ = some (.string t387) := (kc_ BK389.out 0).trans rfl; have hcz26_1 : w25.cell? ⟨gb389, 1, none⟩ = some (.string t388) := (kc_ BK389.out 1).trans rfl; have hfz26_0 := kf_ BK389.out 0; have hfz26_1 := kf_ BK389.out 1) | ((with_reducible refine gc_ (f := 13) rfl ?_); refine goesL_ (some 48) rfl rfl Tryd.func13 (by kernel_rfl) rfl #[.int .i64 t386, .agg #[.string t387, .string t388]] rfl (by (try simp only [ma_, mc_, mn_]); first | done | rfl | (simp only [ld_, lt_]; rfl)) ?_; (with_reducible refine (spec_EncodeRecord.calls k t386 t387 t388 t392 t393 _ A8.out).mono ?_); rintro e w27 ⟨rfl, hb⟩; refine ⟨_, rfl, ?_⟩; replace HO385 := A0_ (Kd.R_below (by (with_reducible repeat (first | apply ra_ | apply rn_ | apply rd_)); exact HO385.out) hb); replace BK382 := A0_ (kb_ (g := gb382) (o := .cells #[.string t380, .string t381] 27 (0, 0)) (by (with_reducible repeat (first | apply kn_ | apply kd_ | apply ka_)); exact BK382.out) hb); replace BK389 := A0_ (kb_ (g := gb389) (o := .cells #[.string t387, .string t388] 27 (0, 0)) (by (with_reducible repeat (first | apply kn_ | apply kd_ | apply ka_)); exact BK389.out) hb); replace HB := A0_ (bt_ (by repeat (with_reducible first | exact HB.out | apply ba_ | apply bn_ | apply bd_ | refine bs_ ?_ GE382.out | refine bs_ ?_ GE389.out)) hb); (try clear hb)) | ((with_reducible refine gc_ (f := 37) rfl ?_); refine goesL_ (some 52) rfl rfl Tryd.func37 (by kernel_rfl) rfl #[.slice A0 l0.length c0, .int .i64 2] rfl (by (try simp only [ma_, mc_, mn_]); first | done | rfl | (simp only [ld_, lt_]; rfl)) ?_; (with_reducible refine (laws_vCut.calls _ _ l0 2 t394 _ ?side1 ?side2 A9.out).mono ?_); (case side1 => repeat (first | exact (cb_ HR0.out HB.out) | (with_reducible refine ca_ ?_ _) | (with_reducible refine cn_ ?_ _) | (with_reducible refine cd_ ?_))); (case side2 => exact HC0.out); rintro e w28 ⟨v395, rfl, ho0, hb⟩; refine ⟨_, rfl, ?_⟩; have HO396 := A0_ (Kd.R_lower (Kd.R_new' ho0 (Kd.R_lt (by (with_reducible repeat (first | apply ra_ | apply rn_ | apply rd_)); exact HO385.out))) (bz_ (by repeat (with_reducible first | exact HB.out | apply ba_ | apply bn_ | apply bd_ | refine bs_ ?_ GE382.out | refine bs_ ?_ GE389.out)))); replace HO385 := A0_ (Kd.R_elder' (by (with_reducible repeat (first | apply ra_ | apply rn_ | apply rd_)); exact HO385.out) (Kd.R_base ho0) hb); replace BK382 := A0_ (kb_ (g := gb382) (o := .cells #[.string t380, .string t381] 27 (0, 0)) (by (with_reducible repeat (first | apply kn_ | apply kd_ | apply ka_)); exact BK382.out) hb); replace BK389 := A0_ (kb_ (g := gb389) (o := .cells #[.string t387, .string t388] 27 (0, 0)) (by (with_reducible repeat (first | apply kn_ | apply kd_ | apply ka_)); exact BK389.out) hb); replace HB := A0_ (bt_ (by repeat (with_reducible first | exact HB.out | apply ba_ | apply bn_ | apply bd_ | refine bs_ ?_ GE382.out | refine bs_ ?_ GE389.out)) hb); (try clear hb); (try clear ho0); obtain ⟨Ao29, co29, eo29⟩ := Kd.R_slice HO396.out; subst eo29) | ((with_reducible refine gc_ (f := 38) rfl ?_); refine goesL_ (some 53) rfl rfl Tryd.func38 (by kernel_rfl) rfl #[.slice Ao29 t394.length co29] rfl (by (try simp only [ma_, mc_, mn_]); first | done | rfl | (simp only [ld_, lt_]; rfl)) ?_; (with_reducible refine (spec_DrawIsValidLog.calls k _ _ t394 t397 t398 t399 _ ?side1 ?side2 A10.out).mono ?_); (case side1 => repeat (first | exact (rr_ HO396.out).2.2 | (with_reducible refine ca_ ?_ _) | (with_reducible refine cn_ ?_ _) | (with_reducible refine cd_ ?_))); (case side2 => exact (rr_ HO396.out).2.1); rintro e w30 ⟨rfl, hb⟩; refine ⟨_, rfl, ?_⟩; replace HO385 := A0_ (Kd.R_below (by (with_reducible repeat (first | apply ra_ | apply rn_ | apply rd_)); exact HO385.out) hb); replace HO396 := A0_ (Kd.R_below (by (with_reducible repeat (first | apply ra_ | apply rn_ | apply rd_)); exact HO396.out) hb); replace BK382 := A0_ (kb_ (g := gb382) (o := .cells #[.string t380, .string t381] 27 (0, 0)) (by (with_reducible repeat (first | apply kn_ | apply kd_ | apply ka_)); exact BK382.out) hb); replace BK389 := A0_ (kb_ (g := gb389) (o := .cells #[.string t387, .string t388] 27 (0, 0)) (by (with_reducible repeat (first | apply kn_ | apply kd_ | apply ka_)); exact BK389.out) hb); replace HB := A0_ (bt_ (by repeat (with_reducible first | exact HB.out | apply ba_ | apply bn_ | apply bd_ | refine bs_ ?_ GE382.out | refine bs_ ?_ GE389.out)) hb); (try clear hb)) | ((with_reducible refine gd_ (N := 10) rfl ?_); (try (refine gate_guard (by rfl) ?_; dsimp only)); refine be_ ?hg (N := 10) ?hd (cs := #[.string (⟨#[]⟩ : ByteArray), .string (⟨#[]⟩ : ByteArray), .int .i64 0]) (t := 31) ?hr ?_; (case hd => rfl); (case hg => rfl); (case hr => go_simp; first | done | rfl); intro gb400 hg w31 hbox hb; replace HO385 := A0_ (Kd.R_below (by (with_reducible repeat (first | apply ra_ | apply rn_ | apply rd_)); exact HO385.out) hb); replace HO396 := A0_ (Kd.R_below (by (with_reducible repeat (first | apply ra_ | apply rn_ | apply rd_)); exact HO396.out) hb); have BK400 := A0_ (hbox); have GW400 := A0_ ((by rw [hg]; exact (bz_ (by repeat (with_reducible first | exact HB.out | apply ba_ | apply bn_ | apply bd_ | refine bs_ ?_ GE382.out | refine bs_ ?_ GE389.out))) : w.heap.size ≤ gb400)); have GE400 := A0_ ((by rw [hg]; exact (bz_ (by repeat (with_reducible first | exact HB.out | apply ba_ | apply bn_ | apply bd_ | refine bs_ ?_ GE382.out | refine bs_ ?_ GE389.out))) : w.heap.size ≤ gb400)); replace HB := A0_ (bt_ (by repeat (with_reducible first | exact HB.out | apply ba_ | apply bn_ | apply bd_ | refine bs_ ?_ GE382.out | refine bs_ ?_ GE389.out)) hb); have NB382_400 := A0_ ((by rw [hg]; exact Nat.ne_of_lt (blk_lt (g := gb382) (o := .cells #[.string t380, .string t381] 27 (0, 0)) (by (with_reducible repeat (first | apply kn_ | apply kd_ | apply ka_)); exact BK382.out)) : gb382 ≠ gb400)); have NB400_382 := A0_ ((by rw [hg]; exact Nat.ne_of_gt (blk_lt (g := gb382) (o := .cells #[.string t380, .string t381] 27 (0, 0)) (by (with_reducible repeat (first | apply kn_ | apply kd_ | apply ka_)); exact BK382.out)) : gb400 ≠ gb382)); replace BK382 := A0_ (kb_ (g := gb382) (o := .cells #[.string t380, .string t381] 27 (0, 0)) (by (with_reducible repeat (first | apply kn_ | apply kd_ | apply ka_)); exact BK382.out) hb); have NB389_400 := A0_ ((by rw [hg]; exact Nat.ne_of_lt (blk_lt (g := gb389) (o := .cells #[.string t387, .string t388] 27 (0, 0)) (by (with_reducible repeat (first | apply kn_ | apply kd_ | apply ka_)); exact BK389.out)) : gb389 ≠ gb400)); have NB400_389 := A0_ ((by rw [hg]; exact Nat.ne_of_gt (blk_lt (g := gb389) (o := .cells #[.string t387, .string t388] 27 (0, 0)) (by (with_reducible repeat (first | apply kn_ | apply kd_ | apply ka_)); exact BK389.out)) : gb400 ≠ gb389)); replace BK389 := A0_ (kb_ (g := gb389) (o := .cells #[.string t387, .string t388] 27 (0, 0)) (by (with_reducible repeat (first | apply kn_ | apply kd_ | apply ka_)); exact BK389.out) hb); clear hb hbox hg; have hnb32 := NB400_382.out; have hnc32 := NB382_400.out; have hnb33 := NB400_389.out; have hnc33 := NB389_400.out; have hcz34_0 : w31.cell? ⟨gb400, 0, none⟩ = some (.string (⟨#[]⟩ : ByteArray)) := (kc_ BK400.out 0).trans rfl; have hcz34_1 : w31.cell? ⟨gb400, 1, none⟩ = some (.string (⟨#[]⟩ : ByteArray)) := (kc_ BK400.out 1).trans rfl; have hcz34_2 : w31.cell? ⟨gb400, 2, none⟩ = some (.int .i64 0) := (kc_ BK400.out 2).trans rfl; have hfz34_0 := kf_ BK400.out 0; have hfz34_1 := kf_ BK400.out 1; have hfz34_2 := kf_ BK400.out 2) | ((with_reducible refine gc_ (f := 37) rfl ?_); refine goesL_ (some 56) rfl rfl Tryd.func37 (by kernel_rfl) rfl #[.slice A0 l0.length c0, .int .i64 3] rfl (by (try simp only [ma_, mc_, mn_]); first | done | rfl | (simp only [ld_, lt_]; rfl)) ?_; (with_reducible refine (laws_vCut.calls _ _ l0 3 t401 _ ?side1 ?side2 A11.out).mono ?_); (case side1 => exact cb_ HR0.out (by repeat (with_reducible first | exact HB.out | apply ba_ | apply bn_ | apply bd_ | refine bs_ ?_ GE382.out | refine bs_ ?_ GE389.out | refine bs_ ?_ GE400.out))); (case side2 => exact HC0.out); rintro e w35 ⟨v402, rfl, ho0, hb⟩; refine ⟨_, rfl, ?_⟩; have HO403 := A0_ (Kd.R_lower (Kd.R_new' (Kd.R_new' ho0 (Kd.R_lt (by (with_reducible repeat (first | apply ra_ | apply rn_ | apply rd_)); exact (Kd.R_mono (Kd.R_far (p := ⟨gb400, 2, none⟩) (Kd.R_far (p := ⟨gb400, 1, none⟩) (Kd.R_far (p := ⟨gb400, 0, none⟩) (Kd.R_types HO385.out BK400.out (by decide)) (fun _ hk => hk.2) (.string t397)) (fun _ hk => hk.2) (.string t398)) (fun _ hk => hk.2) (.int .i64 t399)) (fun _ h_ => h_.1))))) (Kd.R_lt (by (with_reducible repeat (first | apply ra_ | apply rn_ | apply rd_)); exact (Kd.R_mono (Kd.R_far (p := ⟨gb400, 2, none⟩) (Kd.R_far (p := ⟨gb400, 1, none⟩) (Kd.R_far (p := ⟨gb400, 0, none⟩) (Kd.R_types HO396.out BK400.out (by decide)) (fun _ hk => hk.2) (.string t397)) (fun _ hk => hk.2) (.string t398)) (fun _ hk => hk.2) (.int .i64 t399)) (fun _ h_ => h_.1))))) (bz_ (by repeat (with_reducible first | exact HB.out | apply ba_ | apply bn_ | apply bd_ | refine bs_ ?_ GE382.out | refine bs_ ?_ GE389.out | refine bs_ ?_ GE400.out)))); replace HO385 := A0_ (Kd.R_elder' (by (with_reducible repeat (first | apply ra_ | apply rn_ | apply rd_)); exact (Kd.R_mono (Kd.R_far (p := ⟨gb400, 2, none⟩) (Kd.R_far (p := ⟨gb400, 1, none⟩) (Kd.R_far (p := ⟨gb400, 0, none⟩) (Kd.R_types HO385.out BK400.out (by decide)) (fun _ hk => hk.2) (.string t397)) (fun _ hk => hk.2) (.string t398)) (fun _ hk => hk.2) (.int .i64 t399)) (fun _ h_ => h_.1))) (Kd.R_base ho0) hb); replace HO396 := A0_ (Kd.R_elder' (by (with_reducible repeat (first | apply ra_ | apply rn_ | apply rd_)); exact (Kd.R_mono (Kd.R_far (p := ⟨gb400, 2, none⟩) (Kd.R_far (p := ⟨gb400, 1, none⟩) (Kd.R_far (p := ⟨gb400, 0, none⟩) (Kd.R_types HO396.out BK400.out (by decide)) (fun _ hk => hk.2) (.string t397)) (fun _ hk => hk.2) (.string t398)) (fun _ hk => hk.2) (.int .i64 t399)) (fun _ h_ => h_.1))) (Kd.R_base ho0) hb); replace BK382 := A0_ (kb_ (g := gb382) (o := .cells #[.string t380, .string t381] 27 (0, 0)) (by (with_reducible repeat (first | apply kn_ | apply kd_ | apply ka_)); refine blk_far ?_ NB382_400.out _; (with_reducible repeat (first | apply kn_ | apply kd_ | apply ka_)); refine blk_far ?_ NB382_400.out _; (with_reducible repeat (first | apply kn_ | apply kd_ | apply ka_)); refine blk_far ?_ NB382_400.out _; (with_reducible repeat (first | apply kn_ | apply kd_ | apply ka_)); exact BK382.out) hb); replace BK389 := A0_ (kb_ (g := gb389) (o := .cells #[.string t387, .string t388] 27 (0, 0)) (by (with_reducible repeat (first | apply kn_ | apply kd_ | apply ka_)); refine blk_far ?_ NB389_400.out _; (with_reducible repeat (first | apply kn_ | apply kd_ | apply ka_)); refine blk_far ?_ NB389_400.out _; (with_reducible repeat (first | apply kn_ | apply kd_ | apply ka_)); refine blk_far ?_ NB389_400.out _; (with_reducible repeat (first | apply kn_ | apply kd_ | apply ka_)); exact BK389.out) hb); replace BK400 := A0_ (kb_ (g := gb400) (o := .cells #[.string t397, .string t398, .int .i64 t399] 31 (0, 0)) (by (with_reducible repeat (first | apply kn_ | apply kd_ | apply ka_)); refine blk_put (cs := #[.string t397, .string t398, .int .i64 0]) ?_ 2 _ rfl; (with_reducible repeat (first | apply kn_ | apply kd_ | apply ka_)); refine blk_put (cs := #[.string t397, .string (⟨#[]⟩ : ByteArray), .int .i64 0]) ?_ 1 _ rfl; (with_reducible repeat (first | apply kn_ | apply kd_ | apply ka_)); refine blk_put (cs := #[.string (⟨#[]⟩ : ByteArray), .string (⟨#[]⟩ : ByteArray), .int .i64 0]) ?_ 0 _ rfl; (with_reducible repeat (first | apply kn_ | apply kd_ | apply ka_)); exact BK400.out) hb); replace HB := A0_ (bt_ (by repeat (with_reducible first | exact HB.out | apply ba_ | apply bn_ | apply bd_ | refine bs_ ?_ GE382.out | refine bs_ ?_ GE389.out | refine bs_ ?_ GE400.out)) hb); (try clear hb); (try clear ho0); obtain ⟨Ao36, co36, eo36⟩ := Kd.R_slice HO403.out; subst eo36) | ((with_reducible refine gc_ (f := 39) rfl ?_); refine goesL_ (some 57) rfl rfl Tryd.func39 (by kernel_rfl) rfl #[.slice Ao36 t401.length co36] rfl (by (try simp only [ma_, mc_, mn_]); first | done | rfl | (simp only [ld_, lt_]; rfl)) ?_; (with_reducible refine (spec_DrawAppendRecord.calls k _ _ t401 t404 t405 t406 t407 t408 _ ?side1 ?side2 A12.out).mono ?_); (case side1 => repeat (first | exact (rr_ HO403.out).2.2 | (with_reducible refine ca_ ?_ _) | (with_reducible refine cn_ ?_ _) | (with_reducible refine cd_ ?_))); (case side2 => exact (rr_ HO403.out).2.1); rintro e w37 ⟨rfl, hb⟩; refine ⟨_, rfl, ?_⟩; replace HO385 := A0_ (Kd.R_below (by (with_reducible repeat (first | apply ra_ | apply rn_ | apply rd_)); exact HO385.out) hb); replace HO396 := A0_ (Kd.R_below (by (with_reducible repeat (first | apply ra_ | apply rn_ | apply rd_)); exact HO396.out) hb); replace HO403 := A0_ (Kd.R_below (by (with_reducible repeat (first | apply ra_ | apply rn_ | apply rd_)); exact HO403.out) hb); replace BK382 := A0_ (kb_ (g := gb382) (o := .cells #[.string t380, .string t381] 27 (0, 0)) (by (with_reducible repeat (first | apply kn_ | apply kd_ | apply ka_)); exact BK382.out) hb); replace BK389 := A0_ (kb_ (g := gb389) (o := .cells #[.string t387, .string t388] 27 (0, 0)) (by (with_reducible repeat (first | apply kn_ | apply kd_ | apply ka_)); exact BK389.out) hb); replace BK400 := A0_ (kb_ (g := gb400) (o := .cells #[.string t397, .string t398, .int .i64 t399] 31 (0, 0)) (by (with_reducible repeat (first | apply kn_ | apply kd_ | apply ka_)); exact BK400.out) hb); replace HB := A0_ (bt_ (by repeat (with_reducible first | exact HB.out | apply ba_ | apply bn_ | apply bd_ | refine bs_ ?_ GE382.out | refine bs_ ?_ GE389.out | refine bs_ ?_ GE400.out)) hb); (try clear hb)) | ((with_reducible refine gd_ (N := 11) rfl ?_); (try (refine gate_guard (by rfl) ?_; dsimp only)); refine be_ ?hg (N := 11) ?hd (cs := #[.string (⟨#[]⟩ : ByteArray), .string (⟨#[]⟩ : ByteArray), .int .i64 0]) (t := 31) ?hr ?_; (case hd => rfl); (case hg => rfl); (case hr => go_simp; first | done | rfl); intro gb409 hg w38 hbox hb; replace HO385 := A0_ (Kd.R_below (by (with_reducible repeat (first | apply ra_ | apply rn_ | apply rd_)); exact HO385.out) hb); replace HO396 := A0_ (Kd.R_below (by (with_reducible repeat (first | apply ra_ | apply rn_ | apply rd_)); exact HO396.out) hb); replace HO403 := A0_ (Kd.R_below (by (with_reducible repeat (first | apply ra_ | apply rn_ | apply rd_)); exact HO403.out) hb); have BK409 := A0_ (hbox); have GW409 := A0_ ((by rw [hg]; exact (bz_ (by repeat (with_reducible first | exact HB.out | apply ba_ | apply bn_ | apply bd_ | refine bs_ ?_ GE382.out | refine bs_ ?_ GE389.out | refine bs_ ?_ GE400.out))) : w.heap.size ≤ gb409)); have GE409 := A0_ ((by rw [hg]; exact (bz_ (by repeat (with_reducible first | exact HB.out | apply ba_ | apply bn_ | apply bd_ | refine bs_ ?_ GE382.out | refine bs_ ?_ GE389.out | refine bs_ ?_ GE400.out))) : w.heap.size ≤ gb409)); replace HB := A0_ (bt_ (by repeat (with_reducible first | exact HB.out | apply ba_ | apply bn_ | apply bd_ | refine bs_ ?_ GE382.out | refine bs_ ?_ GE389.out | refine bs_ ?_ GE400.out)) hb); have NB382_409 := A0_ ((by rw [hg]; exact Nat.ne_of_lt (blk_lt (g := gb382) (o := .cells #[.string t380, .string t381] 27 (0, 0)) (by (with_reducible repeat (first | apply kn_ | apply kd_ | apply ka_)); exact BK382.out)) : gb382 ≠ gb409)); have NB409_382 := A0_ ((by rw [hg]; exact Nat.ne_of_gt (blk_lt (g := gb382) (o := .cells #[.string t380, .string t381] 27 (0, 0)) (by (with_reducible repeat (first | apply kn_ | apply kd_ | apply ka_)); exact BK382.out)) : gb409 ≠ gb382)); replace BK382 := A0_ (kb_ (g := gb382) (o := .cells #[.string t380, .string t381] 27 (0, 0)) (by (with_reducible repeat (first | apply kn_ | apply kd_ | apply ka_)); exact BK382.out) hb); have NB389_409 := A0_ ((by rw [hg]; exact Nat.ne_of_lt (blk_lt (g := gb389) (o := .cells #[.string t387, .string t388] 27 (0, 0)) (by (with_reducible repeat (first | apply kn_ | apply kd_ | apply ka_)); exact BK389.out)) : gb389 ≠ gb409)); have NB409_389 := A0_ ((by rw [hg]; exact Nat.ne_of_gt (blk_lt (g := gb389) (o := .cells #[.string t387, .string t388] 27 (0, 0)) (by (with_reducible repeat (first | apply kn_ | apply kd_ | apply ka_)); exact BK389.out)) : gb409 ≠ gb389)); replace BK389 := A0_ (kb_ (g := gb389) (o := .cells #[.string t387, .string t388] 27 (0, 0)) (by (with_reducible repeat (first | apply kn_ | apply kd_ | apply ka_)); exact BK389.out) hb); have NB400_409 := A0_ ((by rw [hg]; exact Nat.ne_of_lt (blk_lt (g := gb400) (o := .cells #[.string t397, .string t398, .int .i64 t399] 31 (0, 0)) (by (with_reducible repeat (first | apply kn_ | apply kd_ | apply ka_)); exact BK400.out)) : gb400 ≠ gb409)); have NB409_400 := A0_ ((by rw [hg]; exact Nat.ne_of_gt (blk_lt (g := gb400) (o := .cells #[.string t397, .string t398, .int .i64 t399] 31 (0, 0)) (by (with_reducible repeat (first | apply kn_ | apply kd_ | apply ka_)); exact BK400.out)) : gb409 ≠ gb400)); replace BK400 := A0_ (kb_ (g := gb400) (o := .cells #[.string t397, .string t398, .int .i64 t399] 31 (0, 0)) (by (with_reducible repeat (first | apply kn_ | apply kd_ | apply ka_)); exact BK400.out) hb); clear hb hbox hg) | ((with_reducible refine gd_ (N := 12) rfl ?_); (try (refine gate_guard (by rfl) ?_; dsimp only)); refine be_ ?hg (N := 12) ?hd (cs := #[.string (⟨#[]⟩ : ByteArray), .string (⟨#[]⟩ : ByteArray)]) (t := 27) ?hr ?_; (case hd => rfl); (case hg => rfl); (case hr => go_simp; first | done | rfl); intro gb410 hg w39 hbox hb; replace HO385 := A0_ (Kd.R_below (by (with_reducible repeat (first | apply ra_ | apply rn_ | apply rd_)); exact HO385.out) hb); replace HO396 := A0_ (Kd.R_below (by (with_reducible repeat (first | apply ra_ | apply rn_ | apply rd_)); exact HO396.out) hb); replace HO403 := A0_ (Kd.R_below (by (with_reducible repeat (first | apply ra_ | apply rn_ | apply rd_)); exact HO403.out) hb); have BK410 := A0_ (hbox); have GW410 := A0_ ((by rw [hg]; exact (bz_ (by repeat (with_reducible first | exact HB.out | apply ba_ | apply bn_ | apply bd_ | refine bs_ ?_ GE382.out | refine bs_ ?_ GE389.out | refine bs_ ?_ GE400.out | refine bs_ ?_ GE409.out))) : w.heap.size ≤ gb410)); have GE410 := A0_ ((by rw [hg]; exact (bz_ (by repeat (with_reducible first | exact HB.out | apply ba_ | apply bn_ | apply bd_ | refine bs_ ?_ GE382.out | refine bs_ ?_ GE389.out | refine bs_ ?_ GE400.out | refine bs_ ?_ GE409.out))) : w.heap.size ≤ gb410)); replace HB := A0_ (bt_ (by repeat (with_reducible first | exact HB.out | apply ba_ | apply bn_ | apply bd_ | refine bs_ ?_ GE382.out | refine bs_ ?_ GE389.out | refine bs_ ?_ GE400.out | refine bs_ ?_ GE409.out)) hb); have NB382_410 := A0_ ((by rw [hg]; exact Nat.ne_of_lt (blk_lt (g := gb382) (o := .cells #[.string t380, .string t381] 27 (0, 0)) (by (with_reducible repeat (first | apply kn_ | apply kd_ | apply ka_)); exact BK382.out)) : gb382 ≠ gb410)); have NB410_382 := A0_ ((by rw [hg]; exact Nat.ne_of_gt (blk_lt (g := gb382) (o := .cells #[.string t380, .string t381] 27 (0, 0)) (by (with_reducible repeat (first | apply kn_ | apply kd_ | apply ka_)); exact BK382.out)) : gb410 ≠ gb382)); replace BK382 := A0_ (kb_ (g := gb382) (o := .cells #[.string t380, .string t381] 27 (0, 0)) (by (with_reducible repeat (first | apply kn_ | apply kd_ | apply ka_)); exact BK382.out) hb); have NB389_410 := A0_ ((by rw [hg]; exact Nat.ne_of_lt (blk_lt (g := gb389) (o := .cells #[.string t387, .string t388] 27 (0, 0)) (by (with_reducible repeat (first | apply kn_ | apply kd_ | apply ka_)); exact BK389.out)) : gb389 ≠ gb410)); have NB410_389 := A0_ ((by rw [hg]; exact Nat.ne_of_gt (blk_lt (g := gb389) (o := .cells #[.string t387, .string t388] 27 (0, 0)) (by (with_reducible repeat (first | apply kn_ | apply kd_ | apply ka_)); exact BK389.out)) : gb410 ≠ gb389)); replace BK389 := A0_ (kb_ (g := gb389) (o := .cells #[.string t387, .string t388] 27 (0, 0)) (by (with_reducible repeat (first | apply kn_ | apply kd_ | apply ka_)); exact BK389.out) hb); have NB400_410 := A0_ ((by rw [hg]; exact Nat.ne_of_lt (blk_lt (g := gb400) (o := .cells #[.string t397, .string t398, .int .i64 t399] 31 (0, 0)) (by (with_reducible repeat (first | apply kn_ | apply kd_ | apply ka_)); exact BK400.out)) : gb400 ≠ gb410)); have NB410_400 := A0_ ((by rw [hg]; exact Nat.ne_of_gt (blk_lt (g := gb400) (o := .cells #[.string t397, .string t398, .int .i64 t399] 31 (0, 0)) (by (with_reducible repeat (first | apply kn_ | apply kd_ | apply ka_)); exact BK400.out)) : gb410 ≠ gb400)); replace BK400 := A0_ (kb_ (g := gb400) (o := .cells #[.string t397, .string t398, .int .i64 t399] 31 (0, 0)) (by (with_reducible repeat (first | apply kn_ | apply kd_ | apply ka_)); exact BK400.out) hb); have NB409_410 := A0_ ((by rw [hg]; exact Nat.ne_of_lt (blk_lt (g := gb409) (o := .cells #[.string (⟨#[]⟩ : ByteArray), .string (⟨#[]⟩ : ByteArray), .int .i64 0] 31 (0, 0)) (by (with_reducible repeat (first | apply kn_ | apply kd_ | apply ka_)); exact BK409.out)) : gb409 ≠ gb410)); have NB410_409 := A0_ ((by rw [hg]; exact Nat.ne_of_gt (blk_lt (g := gb409) (o := .cells #[.string (⟨#[]⟩ : ByteArray), .string (⟨#[]⟩ : ByteArray), .int .i64 0] 31 (0, 0)) (by (with_reducible repeat (first | apply kn_ | apply kd_ | apply ka_)); exact BK409.out)) : gb410 ≠ gb409)); replace BK409 := A0_ (kb_ (g := gb409) (o := .cells #[.string (⟨#[]⟩ : ByteArray), .string (⟨#[]⟩ : ByteArray), .int .i64 0] 31 (0, 0)) (by (with_reducible repeat (first | apply kn_ | apply kd_ | apply ka_)); exact BK409.out) hb); clear hb hbox hg; have hnb40 := NB409_382.out; have hnc40 := NB382_409.out; have hnb41 := NB409_389.out; have hnc41 := NB389_409.out; have hnb42 := NB409_400.out; have hnc42 := NB400_409.out; have hnb43 := NB409_410.out; have hnc43 := NB410_409.out; have hcz44_0 : w39.cell? ⟨gb409, 0, none⟩ = some (.string (⟨#[]⟩ : ByteArray)) := (kc_ BK409.out 0).trans rfl; have hcz44_1 : w39.cell? ⟨gb409, 1, none⟩ = some (.string (⟨#[]⟩ : ByteArray)) := (kc_ BK409.out 1).trans rfl; have hcz44_2 : w39.cell? ⟨gb409, 2, none⟩ = some (.int .i64 0) := (kc_ BK409.out 2).trans rfl; have hfz44_0 := kf_ BK409.out 0; have hfz44_1 := kf_ BK409.out 1; have hfz44_2 := kf_ BK409.out 2; have hnb45 := NB410_382.out; have hnc45 := NB382_410.out; have hnb46 := NB410_389.out; have hnc46 := NB389_410.out; have hnb47 := NB410_400.out; have hnc47 := NB400_410.out; have hcz48_0 : w39.cell? ⟨gb410, 0, none⟩ = some (.string (⟨#[]⟩ : ByteArray)) := (kc_ BK410.out 0).trans rfl; have hcz48_1 : w39.cell? ⟨gb410, 1, none⟩ = some (.string (⟨#[]⟩ : ByteArray)) := (kc_ BK410.out 1).trans rfl; have hfz48_0 := kf_ BK410.out 0; have hfz48_1 := kf_ BK410.out 1) | ((with_reducible refine gc_ (f := 28) rfl ?_); refine goesL_ (some 63) rfl rfl Tryd.func28 (by kernel_rfl) rfl #[.agg #[.string t404, .string t405, .int .i64 t406], .agg #[.string t407, .string t408]] rfl (by (try simp only [ma_, mc_, mn_]); first | done | rfl | (simp only [ld_, lt_]; rfl)) ?_; (with_reducible refine (impl_AppendRecord.calls k t404 t405 t406 t407 t408 t411 t412 t413 t414 _ (by first | exact TabOK.below HG0.out (by repeat (with_reducible first | exact HB.out | apply ba_ | apply bn_ | apply bd_ | refine bs_ ?_ GE382.out | refine bs_ ?_ GE389.out | refine bs_ ?_ GE400.out | refine bs_ ?_ GE409.out | refine bs_ ?_ GE410.out | refine bs_ ?_ GE415.out | refine bs_ ?_ GE420.out | refine bs_ ?_ GE429.out | refine bs_ ?_ GE434.out)) | (repeat (first | exact HG0.out | apply TabOK.drew | apply TabOK.drewN)) | exact TabOK.drawn HG0.out (by assumption)) A13.out).mono ?_); rintro e w49 ⟨rfl, hb⟩; refine ⟨_, rfl, ?_⟩; replace HO385 := A0_ (Kd.R_below (by (with_reducible repeat (first | apply ra_ | apply rn_ | apply rd_)); exact (Kd.R_mono (Kd.R_mono (Kd.R_far (p := ⟨gb410, 1, none⟩) (Kd.R_far (p := ⟨gb410, 0, none⟩) (Kd.R_far (p := ⟨gb409, 2, none⟩) (Kd.R_far (p := ⟨gb409, 1, none⟩) (Kd.R_far (p := ⟨gb409, 0, none⟩) (Kd.R_types (Kd.R_types HO385.out BK409.out (by decide)) BK410.out (by decide)) (fun _ hk => hk.1.2) (.string t404)) (fun _ hk => hk.1.2) (.string t405)) (fun _ hk => hk.1.2) (.int .i64 t406)) (fun _ hk => hk.2) (.string t407)) (fun _ hk => hk.2) (.string t408)) (fun _ h_ => h_.1)) (fun _ h_ => h_.1))) hb); replace HO396 := A0_ (Kd.R_below (by (with_reducible repeat (first | apply ra_ | apply rn_ | apply rd_)); exact (Kd.R_mono (Kd.R_mono (Kd.R_far (p := ⟨gb410, 1, none⟩) (Kd.R_far (p := ⟨gb410, 0, none⟩) (Kd.R_far (p := ⟨gb409, 2, none⟩) (Kd.R_far (p := ⟨gb409, 1, none⟩) (Kd.R_far (p := ⟨gb409, 0, none⟩) (Kd.R_types (Kd.R_types HO396.out BK409.out (by decide)) BK410.out (by decide)) (fun _ hk => hk.1.2) (.string t404)) (fun _ hk => hk.1.2) (.string t405)) (fun _ hk => hk.1.2) (.int .i64 t406)) (fun _ hk => hk.2) (.string t407)) (fun _ hk => hk.2) (.string t408)) (fun _ h_ => h_.1)) (fun _ h_ => h_.1))) hb); replace HO403 := A0_ (Kd.R_below (by (with_reducible repeat (first | apply ra_ | apply rn_ | apply rd_)); exact (Kd.R_mono (Kd.R_mono (Kd.R_far (p := ⟨gb410, 1, none⟩) (Kd.R_far (p := ⟨gb410, 0, none⟩) (Kd.R_far (p := ⟨gb409, 2, none⟩) (Kd.R_far (p := ⟨gb409, 1, none⟩) (Kd.R_far (p := ⟨gb409, 0, none⟩) (Kd.R_types (Kd.R_types HO403.out BK409.out (by decide)) BK410.out (by decide)) (fun _ hk => hk.1.2) (.string t404)) (fun _ hk => hk.1.2) (.string t405)) (fun _ hk => hk.1.2) (.int .i64 t406)) (fun _ hk => hk.2) (.string t407)) (fun _ hk => hk.2) (.string t408)) (fun _ h_ => h_.1)) (fun _ h_ => h_.1))) hb); replace BK382 := A0_ (kb_ (g := gb382) (o := .cells #[.string t380, .string t381] 27 (0, 0)) (by (with_reducible repeat (first | apply kn_ | apply kd_ | apply ka_)); refine blk_far ?_ NB382_410.out _; (with_reducible repeat (first | apply kn_ | apply kd_ | apply ka_)); refine blk_far ?_ NB382_410.out _; (with_reducible repeat (first | apply kn_ | apply kd_ | apply ka_)); refine blk_far ?_ NB382_409.out _; (with_reducible repeat (first | apply kn_ | apply kd_ | apply ka_)); refine blk_far ?_ NB382_409.out _; (with_reducible repeat (first | apply kn_ | apply kd_ | apply ka_)); refine blk_far ?_ NB382_409.out _; (with_reducible repeat (first | apply kn_ | apply kd_ | apply ka_)); exact BK382.out) hb); replace BK389 := A0_ (kb_ (g := gb389) (o := .cells #[.string t387, .string t388] 27 (0, 0)) (by (with_reducible repeat (first | apply kn_ | apply kd_ | apply ka_)); refine blk_far ?_ NB389_410.out _; (with_reducible repeat (first | apply kn_ | apply kd_ | apply ka_)); refine blk_far ?_ NB389_410.out _; (with_reducible repeat (first | apply kn_ | apply kd_ | apply ka_)); refine blk_far ?_ NB389_409.out _; (with_reducible repeat (first | apply kn_ | apply kd_ | apply ka_)); refine blk_far ?_ NB389_409.out _; (with_reducible repeat (first | apply kn_ | apply kd_ | apply ka_)); refine blk_far ?_ NB389_409.out _; (with_reducible repeat (first | apply kn_ | apply kd_ | apply ka_)); exact BK389.out) hb); replace BK400 := A0_ (kb_ (g := gb400) (o := .cells #[.string t397, .string t398, .int .i64 t399] 31 (0, 0)) (by (with_reducible repeat (first | apply kn_ | apply kd_ | apply ka_)); refine blk_far ?_ NB400_410.out _; (with_reducible repeat (first | apply kn_ | apply kd_ | apply ka_)); refine blk_far ?_ NB400_410.out _; (with_reducible repeat (first | apply kn_ | apply kd_ | apply ka_)); refine blk_far ?_ NB400_409.out _; (with_reducible repeat (first | apply kn_ | apply kd_ | apply ka_)); refine blk_far ?_ NB400_409.out _; (with_reducible repeat (first | apply kn_ | apply kd_ | apply ka_)); refine blk_far ?_ NB400_409.out _; (with_reducible repeat (first | apply kn_ | apply kd_ | apply ka_)); exact BK400.out) hb); replace BK409 := A0_ (kb_ (g := gb409) (o := .cells #[.string t404, .string t405, .int .i64 t406] 31 (0, 0)) (by (with_reducible repeat (first | apply kn_ | apply kd_ | apply ka_)); refine blk_far ?_ NB409_410.out _; (with_reducible repeat (first | apply kn_ | apply kd_ | apply ka_)); refine blk_far ?_ NB409_410.out _; (with_reducible repeat (first | apply kn_ | apply kd_ | apply ka_)); refine blk_put (cs := #[.string t404, .string t405, .int .i64 0]) ?_ 2 _ rfl; (with_reducible repeat (first | apply kn_ | apply kd_ | apply ka_)); refine blk_put (cs := #[.string t404, .string (⟨#[]⟩ : ByteArray), .int .i64 0]) ?_ 1 _ rfl; (with_reducible repeat (first | apply kn_ | apply kd_ | apply ka_)); refine blk_put (cs := #[.string (⟨#[]⟩ : ByteArray), .string (⟨#[]⟩ : ByteArray), .int .i64 0]) ?_ 0 _ rfl; (with_reducible repeat (first | apply kn_ | apply kd_ | apply ka_)); exact BK409.out) hb); replace BK410 := A0_ (kb_ (g := gb410) (o := .cells #[.string t407, .string t408] 27 (0, 0)) (by (with_reducible repeat (first | apply kn_ | apply kd_ | apply ka_)); refine blk_put (cs := #[.string t407, .string (⟨#[]⟩ : ByteArray)]) ?_ 1 _ rfl; (with_reducible repeat (first | apply kn_ | apply kd_ | apply ka_)); refine blk_put (cs := #[.string (⟨#[]⟩ : ByteArray), .string (⟨#[]⟩ : ByteArray)]) ?_ 0 _ rfl; (with_reducible repeat (first | apply kn_ | apply kd_ | apply ka_)); refine blk_far ?_ NB410_409.out _; (with_reducible repeat (first | apply kn_ | apply kd_ | apply ka_)); refine blk_far ?_ NB410_409.out _; (with_reducible repeat (first | apply kn_ | apply kd_ | apply ka_)); refine blk_far ?_ NB410_409.out _; (with_reducible repeat (first | apply kn_ | apply kd_ | apply ka_)); exact BK410.out) hb); replace HB := A0_ (bt_ (by repeat (with_reducible first | exact HB.out | apply ba_ | apply bn_ | apply bd_ | refine bs_ ?_ GE382.out | refine bs_ ?_ GE389.out | refine bs_ ?_ GE400.out | refine bs_ ?_ GE409.out | refine bs_ ?_ GE410.out)) hb); (try clear hb)) | ((with_reducible refine gd_ (N := 13) rfl ?_); (try (refine gate_guard (by rfl) ?_; dsimp only)); refine be_ ?hg (N := 13) ?hd (cs := #[.string (⟨#[]⟩ : ByteArray), .string (⟨#[]⟩ : ByteArray), .int .i64 0]) (t := 31) ?hr ?_; (case hd => rfl); (case hg => rfl); (case hr => go_simp; first | done | rfl); intro gb415 hg w50 hbox hb; replace HO385 := A0_ (Kd.R_below (by (with_reducible repeat (first | apply ra_ | apply rn_ | apply rd_)); exact HO385.out) hb); replace HO396 := A0_ (Kd.R_below (by (with_reducible repeat (first | apply ra_ | apply rn_ | apply rd_)); exact HO396.out) hb); replace HO403 := A0_ (Kd.R_below (by (with_reducible repeat (first | apply ra_ | apply rn_ | apply rd_)); exact HO403.out) hb); have BK415 := A0_ (hbox); have GW415 := A0_ ((by rw [hg]; exact (bz_ (by repeat (with_reducible first | exact HB.out | apply ba_ | apply bn_ | apply bd_ | refine bs_ ?_ GE382.out | refine bs_ ?_ GE389.out | refine bs_ ?_ GE400.out | refine bs_ ?_ GE409.out | refine bs_ ?_ GE410.out))) : w.heap.size ≤ gb415)); have GE415 := A0_ ((by rw [hg]; exact (bz_ (by repeat (with_reducible first | exact HB.out | apply ba_ | apply bn_ | apply bd_ | refine bs_ ?_ GE382.out | refine bs_ ?_ GE389.out | refine bs_ ?_ GE400.out | refine bs_ ?_ GE409.out | refine bs_ ?_ GE410.out))) : w.heap.size ≤ gb415)); replace HB := A0_ (bt_ (by repeat (with_reducible first | exact HB.out | apply ba_ | apply bn_ | apply bd_ | refine bs_ ?_ GE382.out | refine bs_ ?_ GE389.out | refine bs_ ?_ GE400.out | refine bs_ ?_ GE409.out | refine bs_ ?_ GE410.out)) hb); have NB382_415 := A0_ ((by rw [hg]; exact Nat.ne_of_lt (blk_lt (g := gb382) (o := .cells #[.string t380, .string t381] 27 (0, 0)) (by (with_reducible repeat (first | apply kn_ | apply kd_ | apply ka_)); exact BK382.out)) : gb382 ≠ gb415)); have NB415_382 := A0_ ((by rw [hg]; exact Nat.ne_of_gt (blk_lt (g := gb382) (o := .cells #[.string t380, .string t381] 27 (0, 0)) (by (with_reducible repeat (first | apply kn_ | apply kd_ | apply ka_)); exact BK382.out)) : gb415 ≠ gb382)); replace BK382 := A0_ (kb_ (g := gb382) (o := .cells #[.string t380, .string t381] 27 (0, 0)) (by (with_reducible repeat (first | apply kn_ | apply kd_ | apply ka_)); exact BK382.out) hb); have NB389_415 := A0_ ((by rw [hg]; exact Nat.ne_of_lt (blk_lt (g := gb389) (o := .cells #[.string t387, .string t388] 27 (0, 0)) (by (with_reducible repeat (first | apply kn_ | apply kd_ | apply ka_)); exact BK389.out)) : gb389 ≠ gb415)); have NB415_389 := A0_ ((by rw [hg]; exact Nat.ne_of_gt (blk_lt (g := gb389) (o := .cells #[.string t387, .string t388] 27 (0, 0)) (by (with_reducible repeat (first | apply kn_ | apply kd_ | apply ka_)); exact BK389.out)) : gb415 ≠ gb389)); replace BK389 := A0_ (kb_ (g := gb389) (o := .cells #[.string t387, .string t388] 27 (0, 0)) (by (with_reducible repeat (first | apply kn_ | apply kd_ | apply ka_)); exact BK389.out) hb); have NB400_415 := A0_ ((by rw [hg]; exact Nat.ne_of_lt (blk_lt (g := gb400) (o := .cells #[.string t397, .string t398, .int .i64 t399] 31 (0, 0)) (by (with_reducible repeat (first | apply kn_ | apply kd_ | apply ka_)); exact BK400.out)) : gb400 ≠ gb415)); have NB415_400 := A0_ ((by rw [hg]; exact Nat.ne_of_gt (blk_lt (g := gb400) (o := .cells #[.string t397, .string t398, .int .i64 t399] 31 (0, 0)) (by (with_reducible repeat (first | apply kn_ | apply kd_ | apply ka_)); exact BK400.out)) : gb415 ≠ gb400)); replace BK400 := A0_ (kb_ (g := gb400) (o := .cells #[.string t397, .string t398, .int .i64 t399] 31 (0, 0)) (by (with_reducible repeat (first | apply kn_ | apply kd_ | apply ka_)); exact BK400.out) hb); have NB409_415 := A0_ ((by rw [hg]; exact Nat.ne_of_lt (blk_lt (g := gb409) (o := .cells #[.string t404, .string t405, .int .i64 t406] 31 (0, 0)) (by (with_reducible repeat (first | apply kn_ | apply kd_ | apply ka_)); exact BK409.out)) : gb409 ≠ gb415)); have NB415_409 := A0_ ((by rw [hg]; exact Nat.ne_of_gt (blk_lt (g := gb409) (o := .cells #[.string t404, .string t405, .int .i64 t406] 31 (0, 0)) (by (with_reducible repeat (first | apply kn_ | apply kd_ | apply ka_)); exact BK409.out)) : gb415 ≠ gb409)); replace BK409 := A0_ (kb_ (g := gb409) (o := .cells #[.string t404, .string t405, .int .i64 t406] 31 (0, 0)) (by (with_reducible repeat (first | apply kn_ | apply kd_ | apply ka_)); exact BK409.out) hb); have NB410_415 := A0_ ((by rw [hg]; exact Nat.ne_of_lt (blk_lt (g := gb410) (o := .cells #[.string t407, .string t408] 27 (0, 0)) (by (with_reducible repeat (first | apply kn_ | apply kd_ | apply ka_)); exact BK410.out)) : gb410 ≠ gb415)); have NB415_410 := A0_ ((by rw [hg]; exact Nat.ne_of_gt (blk_lt (g := gb410) (o := .cells #[.string t407, .string t408] 27 (0, 0)) (by (with_reducible repeat (first | apply kn_ | apply kd_ | apply ka_)); exact BK410.out)) : gb415 ≠ gb410)); replace BK410 := A0_ (kb_ (g := gb410) (o := .cells #[.string t407, .string t408] 27 (0, 0)) (by (with_reducible repeat (first | apply kn_ | apply kd_ | apply ka_)); exact BK410.out) hb); clear hb hbox hg; have hnb51 := NB415_382.out; have hnc51 := NB382_415.out; have hnb52 := NB415_389.out; have hnc52 := NB389_415.out; have hnb53 := NB415_400.out; have hnc53 := NB400_415.out; have hnb54 := NB415_409.out; have hnc54 := NB409_415.out; have hnb55 := NB415_410.out; have hnc55 := NB410_415.out; have hcz56_0 : w50.cell? ⟨gb415, 0, none⟩ = some (.string (⟨#[]⟩ : ByteArray)) := (kc_ BK415.out 0).trans rfl; have hcz56_1 : w50.cell? ⟨gb415, 1, none⟩ = some (.string (⟨#[]⟩ : ByteArray)) := (kc_ BK415.out 1).trans rfl; have hcz56_2 : w50.cell? ⟨gb415, 2, none⟩ = some (.int .i64 0) := (kc_ BK415.out 2).trans rfl; have hfz56_0 := kf_ BK415.out 0; have hfz56_1 := kf_ BK415.out 1; have hfz56_2 := kf_ BK415.out 2; have hcz57_0 : w50.cell? ⟨gb409, 0, none⟩ = some (.string t404) := (kc_ BK409.out 0).trans rfl; have hcz57_1 : w50.cell? ⟨gb409, 1, none⟩ = some (.string t405) := (kc_ BK409.out 1).trans rfl; have hcz57_2 : w50.cell? ⟨gb409, 2, none⟩ = some (.int .i64 t406) := (kc_ BK409.out 2).trans rfl; have hfz57_0 := kf_ BK409.out 0; have hfz57_1 := kf_ BK409.out 1; have hfz57_2 := kf_ BK409.out 2; have hcz58_0 : w50.cell? ⟨gb410, 0, none⟩ = some (.string t407) := (kc_ BK410.out 0).trans rfl; have hcz58_1 : w50.cell? ⟨gb410, 1, none⟩ = some (.string t408) := (kc_ BK410.out 1).trans rfl; have hfz58_0 := kf_ BK410.out 0; have hfz58_1 := kf_ BK410.out 1) | ((with_reducible refine gc_ (f := 27) rfl ?_); refine goesL_ (some 69) rfl rfl Tryd.func27 (by kernel_rfl) rfl #[.agg #[.string t404, .string t405, .int .i64 t406], .agg #[.string t407, .string t408]] rfl (by (try simp only [ma_, mc_, mn_]); first | done | rfl | (simp only [ld_, lt_]; rfl)) ?_; (with_reducible refine (spec_AppendRecord.calls k t404 t405 t406 t407 t408 t416 t417 t418 t419 _ A14.out).mono ?_); rintro e w59 ⟨rfl, hb⟩; refine ⟨_, rfl, ?_⟩; replace HO385 := A0_ (Kd.R_below (by (with_reducible repeat (first | apply ra_ | apply rn_ | apply rd_)); exact (Kd.R_mono (Kd.R_far (p := ⟨gb415, 2, none⟩) (Kd.R_far (p := ⟨gb415, 1, none⟩) (Kd.R_far (p := ⟨gb415, 0, none⟩) (Kd.R_types HO385.out BK415.out (by decide)) (fun _ hk => hk.2) (.string t411)) (fun _ hk => hk.2) (.string t412)) (fun _ hk => hk.2) (.int .i64 t413)) (fun _ h_ => h_.1))) hb); replace HO396 := A0_ (Kd.R_below (by (with_reducible repeat (first | apply ra_ | apply rn_ | apply rd_)); exact (Kd.R_mono (Kd.R_far (p := ⟨gb415, 2, none⟩) (Kd.R_far (p := ⟨gb415, 1, none⟩) (Kd.R_far (p := ⟨gb415, 0, none⟩) (Kd.R_types HO396.out BK415.out (by decide)) (fun _ hk => hk.2) (.string t411)) (fun _ hk => hk.2) (.string t412)) (fun _ hk => hk.2) (.int .i64 t413)) (fun _ h_ => h_.1))) hb); replace HO403 := A0_ (Kd.R_below (by (with_reducible repeat (first | apply ra_ | apply rn_ | apply rd_)); exact (Kd.R_mono (Kd.R_far (p := ⟨gb415, 2, none⟩) (Kd.R_far (p := ⟨gb415, 1, none⟩) (Kd.R_far (p := ⟨gb415, 0, none⟩) (Kd.R_types HO403.out BK415.out (by decide)) (fun _ hk => hk.2) (.string t411)) (fun _ hk => hk.2) (.string t412)) (fun _ hk => hk.2) (.int .i64 t413)) (fun _ h_ => h_.1))) hb); replace BK382 := A0_ (kb_ (g := gb382) (o := .cells #[.string t380, .string t381] 27 (0, 0)) (by (with_reducible repeat (first | apply kn_ | apply kd_ | apply ka_)); refine blk_far ?_ NB382_415.out _; (with_reducible repeat (first | apply kn_ | apply kd_ | apply ka_)); refine blk_far ?_ NB382_415.out _; (with_reducible repeat (first | apply kn_ | apply kd_ | apply ka_)); refine blk_far ?_ NB382_415.out _; (with_reducible repeat (first | apply kn_ | apply kd_ | apply ka_)); exact BK382.out) hb); replace BK389 := A0_ (kb_ (g := gb389) (o := .cells #[.string t387, .string t388] 27 (0, 0)) (by (with_reducible repeat (first | apply kn_ | apply kd_ | apply ka_)); refine blk_far ?_ NB389_415.out _; (with_reducible repeat (first | apply kn_ | apply kd_ | apply ka_)); refine blk_far ?_ NB389_415.out _; (with_reducible repeat (first | apply kn_ | apply kd_ | apply ka_)); refine blk_far ?_ NB389_415.out _; (with_reducible repeat (first | apply kn_ | apply kd_ | apply ka_)); exact BK389.out) hb); replace BK400 := A0_ (kb_ (g := gb400) (o := .cells #[.string t397, .string t398, .int .i64 t399] 31 (0, 0)) (by (with_reducible repeat (first | apply kn_ | apply kd_ | apply ka_)); refine blk_far ?_ NB400_415.out _; (with_reducible repeat (first | apply kn_ | apply kd_ | apply ka_)); refine blk_far ?_ NB400_415.out _; (with_reducible repeat (first | apply kn_ | apply kd_ | apply ka_)); refine blk_far ?_ NB400_415.out _; (with_reducible repeat (first | apply kn_ | apply kd_ | apply ka_)); exact BK400.out) hb); replace BK409 := A0_ (kb_ (g := gb409) (o := .cells #[.string t404, .string t405, .int .i64 t406] 31 (0, 0)) (by (with_reducible repeat (first | apply kn_ | apply kd_ | apply ka_)); refine blk_far ?_ NB409_415.out _; (with_reducible repeat (first | apply kn_ | apply kd_ | apply ka_)); refine blk_far ?_ NB409_415.out _; (with_reducible repeat (first | apply kn_ | apply kd_ | apply ka_)); refine blk_far ?_ NB409_415.out _; (with_reducible repeat (first | apply kn_ | apply kd_ | apply ka_)); exact BK409.out) hb); replace BK410 := A0_ (kb_ (g := gb410) (o := .cells #[.string t407, .string t408] 27 (0, 0)) (by (with_reducible repeat (first | apply kn_ | apply kd_ | apply ka_)); refine blk_far ?_ NB410_415.out _; (with_reducible repeat (first | apply kn_ | apply kd_ | apply ka_)); refine blk_far ?_ NB410_415.out _; (with_reducible repeat (first | apply kn_ | apply kd_ | apply ka_)); refine blk_far ?_ NB410_415.out _; (with_reducible repeat (first | apply kn_ | apply kd_ | apply ka_)); exact BK410.out) hb); replace BK415 := A0_ (kb_ (g := gb415) (o := .cells #[.string t411, .string t412, .int .i64 t413] 31 (0, 0)) (by (with_reducible repeat (first | apply kn_ | apply kd_ | apply ka_)); refine blk_put (cs := #[.string t411, .string t412, .int .i64 0]) ?_ 2 _ rfl; (with_reducible repeat (first | apply kn_ | apply kd_ | apply ka_)); refine blk_put (cs := #[.string t411, .string (⟨#[]⟩ : ByteArray), .int .i64 0]) ?_ 1 _ rfl; (with_reducible repeat (first | apply kn_ | apply kd_ | apply ka_)); refine blk_put (cs := #[.string (⟨#[]⟩ : ByteArray), .string (⟨#[]⟩ : ByteArray), .int .i64 0]) ?_ 0 _ rfl; (with_reducible repeat (first | apply kn_ | apply kd_ | apply ka_)); exact BK415.out) hb); replace HB := A0_ (bt_ (by repeat (with_reducible first | exact HB.out | apply ba_ | apply bn_ | apply bd_ | refine bs_ ?_ GE382.out | refine bs_ ?_ GE389.out | refine bs_ ?_ GE400.out | refine bs_ ?_ GE409.out | refine bs_ ?_ GE410.out | refine bs_ ?_ GE415.out)) hb); (try clear hb)) | ((with_reducible refine gd_ (N := 15) rfl ?_); (try (refine gate_guard (by rfl) ?_; dsimp only)); refine be_ ?hg (N := 15) ?hd (cs := #[.string (⟨#[]⟩ : ByteArray), .string (⟨#[]⟩ : ByteArray), .int .i64 0]) (t := 31) ?hr ?_; (case hd => rfl); (case hg => rfl); (case hr => go_simp; first | done | rfl); intro gb420 hg w60 hbox hb; replace HO385 := A0_ (Kd.R_below (by (with_reducible repeat (first | apply ra_ | apply rn_ | apply rd_)); exact HO385.out) hb); replace HO396 := A0_ (Kd.R_below (by (with_reducible repeat (first | apply ra_ | apply rn_ | apply rd_)); exact HO396.out) hb); replace HO403 := A0_ (Kd.R_below (by (with_reducible repeat (first | apply ra_ | apply rn_ | apply rd_)); exact HO403.out) hb); have BK420 := A0_ (hbox); have GW420 := A0_ ((by rw [hg]; exact (bz_ (by repeat (with_reducible first | exact HB.out | apply ba_ | apply bn_ | apply bd_ | refine bs_ ?_ GE382.out | refine bs_ ?_ GE389.out | refine bs_ ?_ GE400.out | refine bs_ ?_ GE409.out | refine bs_ ?_ GE410.out | refine bs_ ?_ GE415.out))) : w.heap.size ≤ gb420)); have GE420 := A0_ ((by rw [hg]; exact (bz_ (by repeat (with_reducible first | exact HB.out | apply ba_ | apply bn_ | apply bd_ | refine bs_ ?_ GE382.out | refine bs_ ?_ GE389.out | refine bs_ ?_ GE400.out | refine bs_ ?_ GE409.out | refine bs_ ?_ GE410.out | refine bs_ ?_ GE415.out))) : w.heap.size ≤ gb420)); replace HB := A0_ (bt_ (by repeat (with_reducible first | exact HB.out | apply ba_ | apply bn_ | apply bd_ | refine bs_ ?_ GE382.out | refine bs_ ?_ GE389.out | refine bs_ ?_ GE400.out | refine bs_ ?_ GE409.out | refine bs_ ?_ GE410.out | refine bs_ ?_ GE415.out)) hb); have NB382_420 := A0_ ((by rw [hg]; exact Nat.ne_of_lt (blk_lt (g := gb382) (o := .cells #[.string t380, .string t381] 27 (0, 0)) (by (with_reducible repeat (first | apply kn_ | apply kd_ | apply ka_)); exact BK382.out)) : gb382 ≠ gb420)); have NB420_382 := A0_ ((by rw [hg]; exact Nat.ne_of_gt (blk_lt (g := gb382) (o := .cells #[.string t380, .string t381] 27 (0, 0)) (by (with_reducible repeat (first | apply kn_ | apply kd_ | apply ka_)); exact BK382.out)) : gb420 ≠ gb382)); replace BK382 := A0_ (kb_ (g := gb382) (o := .cells #[.string t380, .string t381] 27 (0, 0)) (by (with_reducible repeat (first | apply kn_ | apply kd_ | apply ka_)); exact BK382.out) hb); have NB389_420 := A0_ ((by rw [hg]; exact Nat.ne_of_lt (blk_lt (g := gb389) (o := .cells #[.string t387, .string t388] 27 (0, 0)) (by (with_reducible repeat (first | apply kn_ | apply kd_ | apply ka_)); exact BK389.out)) : gb389 ≠ gb420)); have NB420_389 := A0_ ((by rw [hg]; exact Nat.ne_of_gt (blk_lt (g := gb389) (o := .cells #[.string t387, .string t388] 27 (0, 0)) (by (with_reducible repeat (first | apply kn_ | apply kd_ | apply ka_)); exact BK389.out)) : gb420 ≠ gb389)); replace BK389 := A0_ (kb_ (g := gb389) (o := .cells #[.string t387, .string t388] 27 (0, 0)) (by (with_reducible repeat (first | apply kn_ | apply kd_ | apply ka_)); exact BK389.out) hb); have NB400_420 := A0_ ((by rw [hg]; exact Nat.ne_of_lt (blk_lt (g := gb400) (o := .cells #[.string t397, .string t398, .int .i64 t399] 31 (0, 0)) (by (with_reducible repeat (first | apply kn_ | apply kd_ | apply ka_)); exact BK400.out)) : gb400 ≠ gb420)); have NB420_400 := A0_ ((by rw [hg]; exact Nat.ne_of_gt (blk_lt (g := gb400) (o := .cells #[.string t397, .string t398, .int .i64 t399] 31 (0, 0)) (by (with_reducible repeat (first | apply kn_ | apply kd_ | apply ka_)); exact BK400.out)) : gb420 ≠ gb400)); replace BK400 := A0_ (kb_ (g := gb400) (o := .cells #[.string t397, .string t398, .int .i64 t399] 31 (0, 0)) (by (with_reducible repeat (first | apply kn_ | apply kd_ | apply ka_)); exact BK400.out) hb); have NB409_420 := A0_ ((by rw [hg]; exact Nat.ne_of_lt (blk_lt (g := gb409) (o := .cells #[.string t404, .string t405, .int .i64 t406] 31 (0, 0)) (by (with_reducible repeat (first | apply kn_ | apply kd_ | apply ka_)); exact BK409.out)) : gb409 ≠ gb420)); have NB420_409 := A0_ ((by rw [hg]; exact Nat.ne_of_gt (blk_lt (g := gb409) (o := .cells #[.string t404, .string t405, .int .i64 t406] 31 (0, 0)) (by (with_reducible repeat (first | apply kn_ | apply kd_ | apply ka_)); exact BK409.out)) : gb420 ≠ gb409)); replace BK409 := A0_ (kb_ (g := gb409) (o := .cells #[.string t404, .string t405, .int .i64 t406] 31 (0, 0)) (by (with_reducible repeat (first | apply kn_ | apply kd_ | apply ka_)); exact BK409.out) hb); have NB410_420 := A0_ ((by rw [hg]; exact Nat.ne_of_lt (blk_lt (g := gb410) (o := .cells #[.string t407, .string t408] 27 (0, 0)) (by (with_reducible repeat (first | apply kn_ | apply kd_ | apply ka_)); exact BK410.out)) : gb410 ≠ gb420)); have NB420_410 := A0_ ((by rw [hg]; exact Nat.ne_of_gt (blk_lt (g := gb410) (o := .cells #[.string t407, .string t408] 27 (0, 0)) (by (with_reducible repeat (first | apply kn_ | apply kd_ | apply ka_)); exact BK410.out)) : gb420 ≠ gb410)); replace BK410 := A0_ (kb_ (g := gb410) (o := .cells #[.string t407, .string t408] 27 (0, 0)) (by (with_reducible repeat (first | apply kn_ | apply kd_ | apply ka_)); exact BK410.out) hb); have NB415_420 := A0_ ((by rw [hg]; exact Nat.ne_of_lt (blk_lt (g := gb415) (o := .cells #[.string t411, .string t412, .int .i64 t413] 31 (0, 0)) (by (with_reducible repeat (first | apply kn_ | apply kd_ | apply ka_)); exact BK415.out)) : gb415 ≠ gb420)); have NB420_415 := A0_ ((by rw [hg]; exact Nat.ne_of_gt (blk_lt (g := gb415) (o := .cells #[.string t411, .string t412, .int .i64 t413] 31 (0, 0)) (by (with_reducible repeat (first | apply kn_ | apply kd_ | apply ka_)); exact BK415.out)) : gb420 ≠ gb415)); replace BK415 := A0_ (kb_ (g := gb415) (o := .cells #[.string t411, .string t412, .int .i64 t413] 31 (0, 0)) (by (with_reducible repeat (first | apply kn_ | apply kd_ | apply ka_)); exact BK415.out) hb); clear hb hbox hg; have hnb61 := NB420_382.out; have hnc61 := NB382_420.out; have hnb62 := NB420_389.out; have hnc62 := NB389_420.out; have hnb63 := NB420_400.out; have hnc63 := NB400_420.out; have hnb64 := NB420_409.out; have hnc64 := NB409_420.out; have hnb65 := NB420_410.out; have hnc65 := NB410_420.out; have hnb66 := NB420_415.out; have hnc66 := NB415_420.out; have hcz67_0 : w60.cell? ⟨gb420, 0, none⟩ = some (.string (⟨#[]⟩ : ByteArray)) := (kc_ BK420.out 0).trans rfl; have hcz67_1 : w60.cell? ⟨gb420, 1, none⟩ = some (.string (⟨#[]⟩ : ByteArray)) := (kc_ BK420.out 1).trans rfl; have hcz67_2 : w60.cell? ⟨gb420, 2, none⟩ = some (.int .i64 0) := (kc_ BK420.out 2).trans rfl; have hfz67_0 := kf_ BK420.out 0; have hfz67_1 := kf_ BK420.out 1; have hfz67_2 := kf_ BK420.out 2))
  (try simp only [Act.put, sa_, sz_, ss_])
  go_cut [103] (fun v103 wc => ∃ (kq : Nat) (x103_14 : Bool), v103 = .bool x103_14 ∧ Aside0 (laws_FnLogs.j0 kq t414 x103_14 t404 t405 t406 t407 t408 t411 t412 t413 = some r) ∧ Aside0 (kq ≤ k) ∧ Aside0 (wc.heap[gb382]? = some (.cells #[.string t380, .string t381] 27 (0, 0))) ∧ Aside0 (wc.heap[gb389]? = some (.cells #[.string t387, .string t388] 27 (0, 0))) ∧ Aside0 (wc.heap[gb400]? = some (.cells #[.string t397, .string t398, .int .i64 t399] 31 (0, 0))) ∧ Aside0 (wc.heap[gb409]? = some (.cells #[.string t404, .string t405, .int .i64 t406] 31 (0, 0))) ∧ Aside0 (wc.heap[gb410]? = some (.cells #[.string t407, .string t408] 27 (0, 0))) ∧ Aside0 (wc.heap[gb415]? = some (.cells #[.string t411, .string t412, .int .i64 t413] 31 (0, 0))) ∧ Aside0 (wc.heap[gb420]? = some (.cells #[.string t416, .string t417, .int .i64 t418] 31 (0, 0))) ∧ Aside0 (Below w.heap.size w wc))
  case first =>
   have H := HC15.out
   clear HC15
   replace H := ob_.mp H
   obtain ⟨t421, A680, H⟩ := H
   have A68 := A0_ A680
   clear A680
   replace H := ob_.mp H
   obtain ⟨t422, A690, H⟩ := H
   have A69 := A0_ A690
   clear A690
   by_cases c70 : (t421 != t422) = true
   ·rw [if_pos c70] at H
    exact absurd H (by simp)
   ·rw [if_neg c70] at H
    have c70b0 : (t421 != t422) = false := by simpa using c70
    (try (have c70b1 : decide (t421 = t422) = true := by simpa using c70))
    (try (have c70b2 : (t421 == t422) = true := by simpa using c70))
    clear c70
    (first | rw [c70b0] | (simp only [i64_w, i32_w]; rw [c70b0]) | skip)
    by_cases c75 : t390.toList = t392.toList
    ·rw [if_pos c75] at H
     have c75b0 : (t390.toList == t392.toList) = true := beq_iff_eq.mpr c75
     have c75b1 : (t390.toList != t392.toList) = false := bne_eq_false_iff_eq.mpr c75
     clear c75
     by_cases c76 : (t391 != t393) = true
     ·rw [if_pos c76] at H
      exact absurd H (by simp)
     ·rw [if_neg c76] at H
      have c76b0 : (t391 != t393) = false := by simpa using c76
      (try (have c76b1 : decide (t391 = t393) = true := by simpa using c76))
      (try (have c76b2 : (t391 == t393) = true := by simpa using c76))
      clear c76
      replace H := ob_.mp H
      obtain ⟨t423, A810, H⟩ := H
      have A81 := A0_ A810
      clear A810
      replace H := ob_.mp H
      obtain ⟨t424, A820, H⟩ := H
      have A82 := A0_ A820
      clear A820
      by_cases c83 : (t423 != t424) = true
      ·rw [if_pos c83] at H
       exact absurd H (by simp)
      ·rw [if_neg c83] at H
       have c83b0 : (t423 != t424) = false := by simpa using c83
       (try (have c83b1 : decide (t423 = t424) = true := by simpa using c83))
       (try (have c83b2 : (t423 == t424) = true := by simpa using c83))
       clear c83
       by_cases c90 : (!(t411.toList == t416.toList) || (!(t412.toList == t417.toList) || (!(t413 == t418)))) = true
       ·rw [if_pos c90] at H
        exact absurd H (by simp)
       ·rw [if_neg c90] at H
        have c90b0 : (!(t411.toList == t416.toList) || (!(t412.toList == t417.toList) || (!(t413 == t418)))) = false := by simpa using c90
        clear c90
        have H' := A0_ H
        clear H
        try go_wp2
        have n0_ : Aside0 (Kd.R (Kd.int .u8) 5 (((w60.setCell ⟨gb420, 0, none⟩ (.string t416)).setCell ⟨gb420, 1, none⟩ (.string t417)).setCell ⟨gb420, 2, none⟩ (.int .i64 t418)) w.heap.size (fun k_ => some k_ ≠ (.slice Ao29 t394.length co29 : Value).ownBlock ∧ some k_ ≠ (.slice Ao36 t401.length co36 : Value).ownBlock) (.slice Ao20 t383.length co20) t383) := ⟨by (with_reducible repeat (first | apply ra_ | apply rn_ | apply rd_)); exact Kd.R_mono (Kd.R_far (p := ⟨gb420, 2, none⟩) (Kd.R_far (p := ⟨gb420, 1, none⟩) (Kd.R_far (p := ⟨gb420, 0, none⟩) (Kd.R_types HO385.out BK420.out (by decide)) (fun _ hk => hk.2) (.string t416)) (fun _ hk => hk.2) (.string t417)) (fun _ hk => hk.2) (.int .i64 t418)) (fun _ hk => ⟨hk.1.1.2, hk.1.2⟩)⟩
        have n1_ : Aside0 (Kd.R (Kd.int .u8) 5 (((w60.setCell ⟨gb420, 0, none⟩ (.string t416)).setCell ⟨gb420, 1, none⟩ (.string t417)).setCell ⟨gb420, 2, none⟩ (.int .i64 t418)) w.heap.size (fun k_ => some k_ ≠ (.slice Ao20 t383.length co20 : Value).ownBlock ∧ some k_ ≠ (.slice Ao36 t401.length co36 : Value).ownBlock) (.slice Ao29 t394.length co29) t394) := ⟨by (with_reducible repeat (first | apply ra_ | apply rn_ | apply rd_)); exact Kd.R_mono (Kd.R_far (p := ⟨gb420, 2, none⟩) (Kd.R_far (p := ⟨gb420, 1, none⟩) (Kd.R_far (p := ⟨gb420, 0, none⟩) (Kd.R_types HO396.out BK420.out (by decide)) (fun _ hk => hk.2) (.string t416)) (fun _ hk => hk.2) (.string t417)) (fun _ hk => hk.2) (.int .i64 t418)) (fun _ hk => ⟨hk.1.1.2, hk.1.2⟩)⟩
        have n2_ : Aside0 (Kd.R (Kd.int .u8) 5 (((w60.setCell ⟨gb420, 0, none⟩ (.string t416)).setCell ⟨gb420, 1, none⟩ (.string t417)).setCell ⟨gb420, 2, none⟩ (.int .i64 t418)) w.heap.size (fun k_ => some k_ ≠ (.slice Ao20 t383.length co20 : Value).ownBlock ∧ some k_ ≠ (.slice Ao29 t394.length co29 : Value).ownBlock) (.slice Ao36 t401.length co36) t401) := ⟨by (with_reducible repeat (first | apply ra_ | apply rn_ | apply rd_)); exact Kd.R_mono (Kd.R_far (p := ⟨gb420, 2, none⟩) (Kd.R_far (p := ⟨gb420, 1, none⟩) (Kd.R_far (p := ⟨gb420, 0, none⟩) (Kd.R_types HO403.out BK420.out (by decide)) (fun _ hk => hk.2) (.string t416)) (fun _ hk => hk.2) (.string t417)) (fun _ hk => hk.2) (.int .i64 t418)) (fun _ hk => ⟨hk.1.1.2, hk.1.2⟩)⟩
        have n3_ : Aside0 ((((w60.setCell ⟨gb420, 0, none⟩ (.string t416)).setCell ⟨gb420, 1, none⟩ (.string t417)).setCell ⟨gb420, 2, none⟩ (.int .i64 t418)).heap[gb382]? = some (.cells #[.string t380, .string t381] 27 (0, 0))) := ⟨by (with_reducible repeat (first | apply kn_ | apply kd_ | apply ka_)); refine blk_far ?_ NB382_420.out _; (with_reducible repeat (first | apply kn_ | apply kd_ | apply ka_)); refine blk_far ?_ NB382_420.out _; (with_reducible repeat (first | apply kn_ | apply kd_ | apply ka_)); refine blk_far ?_ NB382_420.out _; (with_reducible repeat (first | apply kn_ | apply kd_ | apply ka_)); exact BK382.out⟩
        have n4_ : Aside0 ((((w60.setCell ⟨gb420, 0, none⟩ (.string t416)).setCell ⟨gb420, 1, none⟩ (.string t417)).setCell ⟨gb420, 2, none⟩ (.int .i64 t418)).heap[gb389]? = some (.cells #[.string t387, .string t388] 27 (0, 0))) := ⟨by (with_reducible repeat (first | apply kn_ | apply kd_ | apply ka_)); refine blk_far ?_ NB389_420.out _; (with_reducible repeat (first | apply kn_ | apply kd_ | apply ka_)); refine blk_far ?_ NB389_420.out _; (with_reducible repeat (first | apply kn_ | apply kd_ | apply ka_)); refine blk_far ?_ NB389_420.out _; (with_reducible repeat (first | apply kn_ | apply kd_ | apply ka_)); exact BK389.out⟩
        have n5_ : Aside0 ((((w60.setCell ⟨gb420, 0, none⟩ (.string t416)).setCell ⟨gb420, 1, none⟩ (.string t417)).setCell ⟨gb420, 2, none⟩ (.int .i64 t418)).heap[gb400]? = some (.cells #[.string t397, .string t398, .int .i64 t399] 31 (0, 0))) := ⟨by (with_reducible repeat (first | apply kn_ | apply kd_ | apply ka_)); refine blk_far ?_ NB400_420.out _; (with_reducible repeat (first | apply kn_ | apply kd_ | apply ka_)); refine blk_far ?_ NB400_420.out _; (with_reducible repeat (first | apply kn_ | apply kd_ | apply ka_)); refine blk_far ?_ NB400_420.out _; (with_reducible repeat (first | apply kn_ | apply kd_ | apply ka_)); exact BK400.out⟩
        have n6_ : Aside0 ((((w60.setCell ⟨gb420, 0, none⟩ (.string t416)).setCell ⟨gb420, 1, none⟩ (.string t417)).setCell ⟨gb420, 2, none⟩ (.int .i64 t418)).heap[gb409]? = some (.cells #[.string t404, .string t405, .int .i64 t406] 31 (0, 0))) := ⟨by (with_reducible repeat (first | apply kn_ | apply kd_ | apply ka_)); refine blk_far ?_ NB409_420.out _; (with_reducible repeat (first | apply kn_ | apply kd_ | apply ka_)); refine blk_far ?_ NB409_420.out _; (with_reducible repeat (first | apply kn_ | apply kd_ | apply ka_)); refine blk_far ?_ NB409_420.out _; (with_reducible repeat (first | apply kn_ | apply kd_ | apply ka_)); exact BK409.out⟩
        have n7_ : Aside0 ((((w60.setCell ⟨gb420, 0, none⟩ (.string t416)).setCell ⟨gb420, 1, none⟩ (.string t417)).setCell ⟨gb420, 2, none⟩ (.int .i64 t418)).heap[gb410]? = some (.cells #[.string t407, .string t408] 27 (0, 0))) := ⟨by (with_reducible repeat (first | apply kn_ | apply kd_ | apply ka_)); refine blk_far ?_ NB410_420.out _; (with_reducible repeat (first | apply kn_ | apply kd_ | apply ka_)); refine blk_far ?_ NB410_420.out _; (with_reducible repeat (first | apply kn_ | apply kd_ | apply ka_)); refine blk_far ?_ NB410_420.out _; (with_reducible repeat (first | apply kn_ | apply kd_ | apply ka_)); exact BK410.out⟩
        have n8_ : Aside0 ((((w60.setCell ⟨gb420, 0, none⟩ (.string t416)).setCell ⟨gb420, 1, none⟩ (.string t417)).setCell ⟨gb420, 2, none⟩ (.int .i64 t418)).heap[gb415]? = some (.cells #[.string t411, .string t412, .int .i64 t413] 31 (0, 0))) := ⟨by (with_reducible repeat (first | apply kn_ | apply kd_ | apply ka_)); refine blk_far ?_ NB415_420.out _; (with_reducible repeat (first | apply kn_ | apply kd_ | apply ka_)); refine blk_far ?_ NB415_420.out _; (with_reducible repeat (first | apply kn_ | apply kd_ | apply ka_)); refine blk_far ?_ NB415_420.out _; (with_reducible repeat (first | apply kn_ | apply kd_ | apply ka_)); exact BK415.out⟩
        have n9_ : Aside0 ((((w60.setCell ⟨gb420, 0, none⟩ (.string t416)).setCell ⟨gb420, 1, none⟩ (.string t417)).setCell ⟨gb420, 2, none⟩ (.int .i64 t418)).heap[gb420]? = some (.cells #[.string t416, .string t417, .int .i64 t418] 31 (0, 0))) := ⟨by (with_reducible repeat (first | apply kn_ | apply kd_ | apply ka_)); refine blk_put (cs := #[.string t416, .string t417, .int .i64 0]) ?_ 2 _ rfl; (with_reducible repeat (first | apply kn_ | apply kd_ | apply ka_)); refine blk_put (cs := #[.string t416, .string (⟨#[]⟩ : ByteArray), .int .i64 0]) ?_ 1 _ rfl; (with_reducible repeat (first | apply kn_ | apply kd_ | apply ka_)); refine blk_put (cs := #[.string (⟨#[]⟩ : ByteArray), .string (⟨#[]⟩ : ByteArray), .int .i64 0]) ?_ 0 _ rfl; (with_reducible repeat (first | apply kn_ | apply kd_ | apply ka_)); exact BK420.out⟩
        have n10_ : Aside0 (Below w.heap.size w (((w60.setCell ⟨gb420, 0, none⟩ (.string t416)).setCell ⟨gb420, 1, none⟩ (.string t417)).setCell ⟨gb420, 2, none⟩ (.int .i64 t418))) := ⟨by repeat (with_reducible first | exact HB.out | apply ba_ | apply bn_ | apply bd_ | refine bs_ ?_ GE382.out | refine bs_ ?_ GE389.out | refine bs_ ?_ GE400.out | refine bs_ ?_ GE409.out | refine bs_ ?_ GE410.out | refine bs_ ?_ GE415.out | refine bs_ ?_ GE420.out)⟩
        (try clear HO385)
        (try clear HO396)
        (try clear HO403)
        (try clear BK382)
        (try clear BK389)
        (try clear BK400)
        (try clear BK409)
        (try clear BK410)
        (try clear BK415)
        (try clear BK420)
        (try clear HB)
        generalize (((w60.setCell ⟨gb420, 0, none⟩ (.string t416)).setCell ⟨gb420, 1, none⟩ (.string t417)).setCell ⟨gb420, 2, none⟩ (.int .i64 t418)) = w97 at n0_ n1_ n2_ n3_ n4_ n5_ n6_ n7_ n8_ n9_ n10_ ⊢
        have HO385 := n0_
        have HO396 := n1_
        have HO403 := n2_
        have BK382 := n3_
        have BK389 := n4_
        have BK400 := n5_
        have BK409 := n6_
        have BK410 := n7_
        have BK415 := n8_
        have BK420 := n9_
        have HB := n10_
        clear n0_ n1_ n2_ n3_ n4_ n5_ n6_ n7_ n8_ n9_ n10_
        replace HO385 := A0_ (rd_ HO385.out)
        replace HO396 := A0_ (rd_ HO396.out)
        replace HO403 := A0_ (rd_ HO403.out)
        replace BK382 := A0_ (kd_ BK382.out)
        replace BK389 := A0_ (kd_ BK389.out)
        replace BK400 := A0_ (kd_ BK400.out)
        replace BK409 := A0_ (kd_ BK409.out)
        replace BK410 := A0_ (kd_ BK410.out)
        replace BK415 := A0_ (kd_ BK415.out)
        replace BK420 := A0_ (kd_ BK420.out)
        replace HB := A0_ (bd_ HB.out)
        refine start_ (n := 32) (S := fun w' => w'.cell? ⟨gb382, 0, none⟩ = some (.string t380) ∧ w'.cell? ⟨gb382, 1, none⟩ = some (.string t381) ∧ w'.cell? ⟨gb400, 0, none⟩ = some (.string t397) ∧ w'.cell? ⟨gb400, 1, none⟩ = some (.string t398) ∧ w'.cell? ⟨gb400, 2, none⟩ = some (.int .i64 t399) ∧ w'.cell? ⟨gb415, 0, none⟩ = some (.string t411) ∧ w'.cell? ⟨gb415, 1, none⟩ = some (.string t412) ∧ w'.cell? ⟨gb415, 2, none⟩ = some (.int .i64 t413) ∧ w'.cell? ⟨gb420, 0, none⟩ = some (.string t416) ∧ w'.cell? ⟨gb420, 1, none⟩ = some (.string t417) ∧ w'.cell? ⟨gb420, 2, none⟩ = some (.int .i64 t418)) (ds := []) #[false, false, false, false, false, false, false, false, false, false, false, false, false, false, false, false, false, false, false, false, false, false, false, false, false, false, false, false, false, false, false, false] (by kernel_rfl) rfl rfl ⟨(kc_ BK382.out 0).trans rfl, (kc_ BK382.out 1).trans rfl, (kc_ BK400.out 0).trans rfl, (kc_ BK400.out 1).trans rfl, (kc_ BK400.out 2).trans rfl, (kc_ BK415.out 0).trans rfl, (kc_ BK415.out 1).trans rfl, (kc_ BK415.out 2).trans rfl, (kc_ BK420.out 0).trans rfl, (kc_ BK420.out 1).trans rfl, (kc_ BK420.out 2).trans rfl⟩ (fun hHeld => ?_); refine with_tabW laws_FnLogs.tab11 laws_FnLogs.bits11 (fun HT_ HW_ => ?_)
        generalize w97.drew = w98 at HO385 HO396 HO403 BK382 BK389 BK400 BK409 BK410 BK415 BK420 HB hHeld ⊢
        refine take_ (i := 0) (N := some 72) (v := ?_) (a' := ?_) #[true, false, false, false, false, false, false, false, false, false, false, false, false, false, false, false, false, false, false, false, false, false, false, false, false, false, false, false, false, false, false, false] rfl rfl (take_ofW HT_.out HW_.out (by kernel_rfl)) (fun _ _ _ h => h) (Or.inl ⟨by rfl, ?_⟩) hHeld ?_ ?_
        rotate_left
        ·rintro w' ⟨s0, s1, s2, s3, s4, s5, s6, s7, s8, s9, s10⟩
         go_simp
         with_reducible rfl
        rotate_left
        ·simp only [Act.put, sa_, sz_, ss_, i64_w, i32_w]
         rfl
        refine take_ (i := 2) (N := some 74) (v := ?_) (a' := ?_) #[true, false, true, false, false, false, false, false, false, false, false, false, false, false, false, false, false, false, false, false, false, false, false, false, false, false, false, false, false, false, false, false] rfl rfl (take_ofW HT_.out HW_.out (by kernel_rfl)) (fun _ _ _ h => h) (Or.inl ⟨by rfl, ?_⟩) hHeld ?_ ?_
        rotate_left
        ·rintro w' ⟨s0, s1, s2, s3, s4, s5, s6, s7, s8, s9, s10⟩
         go_simp
         with_reducible rfl
        rotate_left
        ·simp only [Act.put, sa_, sz_, ss_, i64_w, i32_w]
         rfl
        refine one_ (i := 1) (N := some 73) #[true, true, true, false, false, false, false, false, false, false, false, false, false, false, false, false, false, false, false, false, false, false, false, false, false, false, false, false, false, false, false, false] rfl rfl (one_of HT_.out (by kernel_rfl)) (by decide) (fun K hK => ?_)
        refine goes_ Tryd.func40 (by kernel_rfl) rfl #[.agg #[.string t380, .string t381]] (by rfl) rfl rfl (by (try simp only [ma_, mc_, mn_]); first | done | rfl | (simp only [ld_, lt_]; rfl)) ?_
        with_reducible refine (impl_IsValidRecord.calls k t380 t381 t421 _ A68.out).mono ?_
        rintro e w99 ⟨rfl, hb⟩
        refine ⟨_, rfl, ?_⟩
        replace HO385 := A0_ (Kd.R_below (by (with_reducible repeat (first | apply ra_ | apply rn_ | apply rd_)); exact HO385.out) hb)
        replace HO396 := A0_ (Kd.R_below (by (with_reducible repeat (first | apply ra_ | apply rn_ | apply rd_)); exact HO396.out) hb)
        replace HO403 := A0_ (Kd.R_below (by (with_reducible repeat (first | apply ra_ | apply rn_ | apply rd_)); exact HO403.out) hb)
        replace BK382 := A0_ (kb_ (g := gb382) (o := .cells #[.string t380, .string t381] 27 (0, 0)) (by (with_reducible repeat (first | apply kn_ | apply kd_ | apply ka_)); exact BK382.out) hb)
        replace BK389 := A0_ (kb_ (g := gb389) (o := .cells #[.string t387, .string t388] 27 (0, 0)) (by (with_reducible repeat (first | apply kn_ | apply kd_ | apply ka_)); exact BK389.out) hb)
        replace BK400 := A0_ (kb_ (g := gb400) (o := .cells #[.string t397, .string t398, .int .i64 t399] 31 (0, 0)) (by (with_reducible repeat (first | apply kn_ | apply kd_ | apply ka_)); exact BK400.out) hb)
        replace BK409 := A0_ (kb_ (g := gb409) (o := .cells #[.string t404, .string t405, .int .i64 t406] 31 (0, 0)) (by (with_reducible repeat (first | apply kn_ | apply kd_ | apply ka_)); exact BK409.out) hb)
        replace BK410 := A0_ (kb_ (g := gb410) (o := .cells #[.string t407, .string t408] 27 (0, 0)) (by (with_reducible repeat (first | apply kn_ | apply kd_ | apply ka_)); exact BK410.out) hb)
        replace BK415 := A0_ (kb_ (g := gb415) (o := .cells #[.string t411, .string t412, .int .i64 t413] 31 (0, 0)) (by (with_reducible repeat (first | apply kn_ | apply kd_ | apply ka_)); exact BK415.out) hb)
        replace BK420 := A0_ (kb_ (g := gb420) (o := .cells #[.string t416, .string t417, .int .i64 t418] 31 (0, 0)) (by (with_reducible repeat (first | apply kn_ | apply kd_ | apply ka_)); exact BK420.out) hb)
        replace HB := A0_ (bt_ (by repeat (with_reducible first | exact HB.out | apply ba_ | apply bn_ | apply bd_ | refine bs_ ?_ GE382.out | refine bs_ ?_ GE389.out | refine bs_ ?_ GE400.out | refine bs_ ?_ GE409.out | refine bs_ ?_ GE410.out | refine bs_ ?_ GE415.out | refine bs_ ?_ GE420.out)) hb)
        (try clear hb)
        (try clear hb2)
        (try clear hk)
        (try clear hi)
        refine hK.out _ _ ⟨(kc_ BK382.out 0).trans rfl, (kc_ BK382.out 1).trans rfl, (kc_ BK400.out 0).trans rfl, (kc_ BK400.out 1).trans rfl, (kc_ BK400.out 2).trans rfl, (kc_ BK415.out 0).trans rfl, (kc_ BK415.out 1).trans rfl, (kc_ BK415.out 2).trans rfl, (kc_ BK420.out 0).trans rfl, (kc_ BK420.out 1).trans rfl, (kc_ BK420.out 2).trans rfl⟩ (fun hHeld => ?_)
        clear hK K
        refine norm_ (a' := ?_) ?_ ?_
        rotate_left
        ·show Act.put _ (some 73) _ = _
         simp only [Act.put, sa_, sz_, ss_, i64_w, i32_w]
         rfl
        refine one_ (i := 3) (N := some 75) #[true, true, true, true, false, false, false, false, false, false, false, false, false, false, false, false, false, false, false, false, false, false, false, false, false, false, false, false, false, false, false, false] rfl rfl (one_of HT_.out (by kernel_rfl)) (by decide) (fun K hK => ?_)
        refine goes_ Tryd.func41 (by kernel_rfl) rfl #[.agg #[.string t380, .string t381]] (by rfl) rfl rfl (by (try simp only [ma_, mc_, mn_]); first | done | rfl | (simp only [ld_, lt_]; rfl)) ?_
        with_reducible refine (spec_IsValidRecord.calls k t380 t381 t422 _ A69.out).mono ?_
        rintro e w100 ⟨rfl, hb⟩
        refine ⟨_, rfl, ?_⟩
        replace HO385 := A0_ (Kd.R_below (by (with_reducible repeat (first | apply ra_ | apply rn_ | apply rd_)); exact HO385.out) hb)
        replace HO396 := A0_ (Kd.R_below (by (with_reducible repeat (first | apply ra_ | apply rn_ | apply rd_)); exact HO396.out) hb)
        replace HO403 := A0_ (Kd.R_below (by (with_reducible repeat (first | apply ra_ | apply rn_ | apply rd_)); exact HO403.out) hb)
        replace BK382 := A0_ (kb_ (g := gb382) (o := .cells #[.string t380, .string t381] 27 (0, 0)) (by (with_reducible repeat (first | apply kn_ | apply kd_ | apply ka_)); exact BK382.out) hb)
        replace BK389 := A0_ (kb_ (g := gb389) (o := .cells #[.string t387, .string t388] 27 (0, 0)) (by (with_reducible repeat (first | apply kn_ | apply kd_ | apply ka_)); exact BK389.out) hb)
        replace BK400 := A0_ (kb_ (g := gb400) (o := .cells #[.string t397, .string t398, .int .i64 t399] 31 (0, 0)) (by (with_reducible repeat (first | apply kn_ | apply kd_ | apply ka_)); exact BK400.out) hb)
        replace BK409 := A0_ (kb_ (g := gb409) (o := .cells #[.string t404, .string t405, .int .i64 t406] 31 (0, 0)) (by (with_reducible repeat (first | apply kn_ | apply kd_ | apply ka_)); exact BK409.out) hb)
        replace BK410 := A0_ (kb_ (g := gb410) (o := .cells #[.string t407, .string t408] 27 (0, 0)) (by (with_reducible repeat (first | apply kn_ | apply kd_ | apply ka_)); exact BK410.out) hb)
        replace BK415 := A0_ (kb_ (g := gb415) (o := .cells #[.string t411, .string t412, .int .i64 t413] 31 (0, 0)) (by (with_reducible repeat (first | apply kn_ | apply kd_ | apply ka_)); exact BK415.out) hb)
        replace BK420 := A0_ (kb_ (g := gb420) (o := .cells #[.string t416, .string t417, .int .i64 t418] 31 (0, 0)) (by (with_reducible repeat (first | apply kn_ | apply kd_ | apply ka_)); exact BK420.out) hb)
        replace HB := A0_ (bt_ (by repeat (with_reducible first | exact HB.out | apply ba_ | apply bn_ | apply bd_ | refine bs_ ?_ GE382.out | refine bs_ ?_ GE389.out | refine bs_ ?_ GE400.out | refine bs_ ?_ GE409.out | refine bs_ ?_ GE410.out | refine bs_ ?_ GE415.out | refine bs_ ?_ GE420.out)) hb)
        (try clear hb)
        (try clear hb2)
        (try clear hk)
        (try clear hi)
        refine hK.out _ _ ⟨(kc_ BK382.out 0).trans rfl, (kc_ BK382.out 1).trans rfl, (kc_ BK400.out 0).trans rfl, (kc_ BK400.out 1).trans rfl, (kc_ BK400.out 2).trans rfl, (kc_ BK415.out 0).trans rfl, (kc_ BK415.out 1).trans rfl, (kc_ BK415.out 2).trans rfl, (kc_ BK420.out 0).trans rfl, (kc_ BK420.out 1).trans rfl, (kc_ BK420.out 2).trans rfl⟩ (fun hHeld => ?_)
        clear hK K
        refine norm_ (a' := ?_) ?_ ?_
        rotate_left
        ·show Act.put _ (some 75) _ = _
         simp only [Act.put, sa_, sz_, ss_, i64_w, i32_w]
         rfl
        refine pure_ (i := 4) (N := some 76) (v := ?_) (a' := ?_) #[true, true, true, true, true, false, false, false, false, false, false, false, false, false, false, false, false, false, false, false, false, false, false, false, false, false, false, false, false, false, false, false] rfl rfl (any_of HT_.out (by kernel_rfl)) (fun _ _ _ h => h) (Or.inl ⟨by rfl, ?_⟩) ?_ ?_
        rotate_left
        ·intro w'
         go_simp
         with_reducible rfl
        rotate_left
        ·simp only [Act.put, sa_, sz_, ss_, i64_w, i32_w]
         rfl
        refine pure_ (i := 5) (N := some 77) (v := ?_) (a' := ?_) #[true, true, true, true, true, true, false, false, false, false, false, false, false, false, false, false, false, false, false, false, false, false, false, false, false, false, false, false, false, false, false, false] rfl rfl (any_of HT_.out (by kernel_rfl)) (fun _ _ _ h => h) (Or.inl ⟨by rfl, ?_⟩) ?_ ?_
        rotate_left
        ·intro w'
         go_simp
         with_reducible rfl
        rotate_left
        ·simp only [Act.put, sa_, sz_, ss_, i64_w, i32_w]
         rfl
        refine pure_ (i := 6) (N := some 78) (v := ?_) (a' := ?_) #[true, true, true, true, true, true, true, false, false, false, false, false, false, false, false, false, false, false, false, false, false, false, false, false, false, false, false, false, false, false, false, false] rfl rfl (any_of HT_.out (by kernel_rfl)) (fun _ _ _ h => h) (Or.inl ⟨by rfl, ?_⟩) ?_ ?_
        rotate_left
        ·intro w'
         go_simp
         with_reducible rfl
        rotate_left
        ·simp only [Act.put, sa_, sz_, ss_, i64_w, i32_w]
         rfl
        refine pure_ (i := 7) (N := some 79) (v := ?_) (a' := ?_) #[true, true, true, true, true, true, true, true, false, false, false, false, false, false, false, false, false, false, false, false, false, false, false, false, false, false, false, false, false, false, false, false] rfl rfl (any_of HT_.out (by kernel_rfl)) (fun _ _ _ h => h) (Or.inl ⟨by rfl, ?_⟩) ?_ ?_
        rotate_left
        ·intro w'
         go_simp
         with_reducible rfl
        rotate_left
        ·simp only [Act.put, sa_, sz_, ss_, i64_w, i32_w]
         rfl
        refine pure_ (i := 8) (N := some 80) (v := ?_) (a' := ?_) #[true, true, true, true, true, true, true, true, true, false, false, false, false, false, false, false, false, false, false, false, false, false, false, false, false, false, false, false, false, false, false, false] rfl rfl (any_of HT_.out (by kernel_rfl)) (fun _ _ _ h => h) (Or.inl ⟨by rfl, ?_⟩) ?_ ?_
        rotate_left
        ·intro w'
         go_simp
         with_reducible rfl
        rotate_left
        ·simp only [Act.put, sa_, sz_, ss_, i64_w, i32_w]
         rfl
        refine pure_ (i := 9) (N := some 81) (v := ?_) (a' := ?_) #[true, true, true, true, true, true, true, true, true, true, false, false, false, false, false, false, false, false, false, false, false, false, false, false, false, false, false, false, false, false, false, false] rfl rfl (any_of HT_.out (by kernel_rfl)) (fun _ _ _ h => h) (Or.inl ⟨by rfl, ?_⟩) ?_ ?_
        rotate_left
        ·intro w'
         go_simp
         with_reducible rfl
        rotate_left
        ·simp only [Act.put, sa_, sz_, ss_, i64_w, i32_w]
         rfl
        refine pure_ (i := 10) (N := some 82) (v := ?_) (a' := ?_) #[true, true, true, true, true, true, true, true, true, true, true, false, false, false, false, false, false, false, false, false, false, false, false, false, false, false, false, false, false, false, false, false] rfl rfl (any_of HT_.out (by kernel_rfl)) (fun _ _ _ h => h) (Or.inl ⟨by rfl, ?_⟩) ?_ ?_
        rotate_left
        ·intro w'
         go_simp
         with_reducible rfl
        rotate_left
        ·simp only [Act.put, sa_, sz_, ss_, i64_w, i32_w]
         rfl
        refine pure_ (i := 11) (N := some 83) (v := ?_) (a' := ?_) #[true, true, true, true, true, true, true, true, true, true, true, true, false, false, false, false, false, false, false, false, false, false, false, false, false, false, false, false, false, false, false, false] rfl rfl (any_of HT_.out (by kernel_rfl)) (fun _ _ _ h => h) (Or.inl ⟨by rfl, ?_⟩) ?_ ?_
        rotate_left
        ·intro w'
         go_simp
         with_reducible rfl
        rotate_left
        ·simp only [Act.put, sa_, sz_, ss_, i64_w, i32_w]
         rfl
        refine pure_ (i := 12) (N := some 84) (v := ?_) (a' := ?_) #[true, true, true, true, true, true, true, true, true, true, true, true, true, false, false, false, false, false, false, false, false, false, false, false, false, false, false, false, false, false, false, false] rfl rfl (any_of HT_.out (by kernel_rfl)) (fun _ _ _ h => h) (Or.inl ⟨by rfl, ?_⟩) ?_ ?_
        rotate_left
        ·intro w'
         go_simp
         with_reducible rfl
        rotate_left
        ·simp only [Act.put, sa_, sz_, ss_, i64_w, i32_w]
         rfl
        refine pure_ (i := 13) (N := some 85) (v := ?_) (a' := ?_) #[true, true, true, true, true, true, true, true, true, true, true, true, true, true, false, false, false, false, false, false, false, false, false, false, false, false, false, false, false, false, false, false] rfl rfl (any_of HT_.out (by kernel_rfl)) (fun _ _ _ h => h) (Or.inl ⟨by rfl, ?_⟩) ?_ ?_
        rotate_left
        ·intro w'
         go_simp
         with_reducible rfl
        rotate_left
        ·simp only [Act.put, sa_, sz_, ss_, i64_w, i32_w]
         rfl
        refine pure_ (i := 14) (N := some 86) (v := ?_) (a' := ?_) #[true, true, true, true, true, true, true, true, true, true, true, true, true, true, true, false, false, false, false, false, false, false, false, false, false, false, false, false, false, false, false, false] rfl rfl (any_of HT_.out (by kernel_rfl)) (fun _ _ _ h => h) (Or.inl ⟨by rfl, ?_⟩) ?_ ?_
        rotate_left
        ·intro w'
         go_simp
         with_reducible rfl
        rotate_left
        ·simp only [Act.put, sa_, sz_, ss_, i64_w, i32_w]
         rfl
        refine pure_ (i := 15) (N := some 87) (v := ?_) (a' := ?_) #[true, true, true, true, true, true, true, true, true, true, true, true, true, true, true, true, false, false, false, false, false, false, false, false, false, false, false, false, false, false, false, false] rfl rfl (any_of HT_.out (by kernel_rfl)) (fun _ _ _ h => h) (Or.inl ⟨by rfl, ?_⟩) ?_ ?_
        rotate_left
        ·intro w'
         go_simp
         with_reducible rfl
        rotate_left
        ·simp only [Act.put, sa_, sz_, ss_, i64_w, i32_w]
         rfl
        refine take_ (i := 16) (N := some 88) (v := ?_) (a' := ?_) #[true, true, true, true, true, true, true, true, true, true, true, true, true, true, true, true, true, false, false, false, false, false, false, false, false, false, false, false, false, false, false, false] rfl rfl (take_ofW HT_.out HW_.out (by kernel_rfl)) (fun _ _ _ h => h) (Or.inl ⟨by rfl, ?_⟩) hHeld ?_ ?_
        rotate_left
        ·rintro w' ⟨s0, s1, s2, s3, s4, s5, s6, s7, s8, s9, s10⟩
         go_simp
         with_reducible rfl
        rotate_left
        ·simp only [Act.put, sa_, sz_, ss_, i64_w, i32_w]
         rfl
        refine take_ (i := 18) (N := some 90) (v := ?_) (a' := ?_) #[true, true, true, true, true, true, true, true, true, true, true, true, true, true, true, true, true, false, true, false, false, false, false, false, false, false, false, false, false, false, false, false] rfl rfl (take_ofW HT_.out HW_.out (by kernel_rfl)) (fun _ _ _ h => h) (Or.inl ⟨by rfl, ?_⟩) hHeld ?_ ?_
        rotate_left
        ·rintro w' ⟨s0, s1, s2, s3, s4, s5, s6, s7, s8, s9, s10⟩
         go_simp
         with_reducible rfl
        rotate_left
        ·simp only [Act.put, sa_, sz_, ss_, i64_w, i32_w]
         rfl
        refine one_ (i := 17) (N := some 89) #[true, true, true, true, true, true, true, true, true, true, true, true, true, true, true, true, true, true, true, false, false, false, false, false, false, false, false, false, false, false, false, false] rfl rfl (one_of HT_.out (by kernel_rfl)) (by decide) (fun K hK => ?_)
        refine goes_ Tryd.func22 (by kernel_rfl) rfl #[.agg #[.string t397, .string t398, .int .i64 t399]] (by rfl) rfl rfl (by (try simp only [ma_, mc_, mn_]); first | done | rfl | (simp only [ld_, lt_]; rfl)) ?_
        with_reducible refine (impl_IsValidLog.calls k t397 t398 t399 t423 _ (by first | exact TabOK.below HG0.out (by repeat (with_reducible first | exact HB.out | apply ba_ | apply bn_ | apply bd_ | refine bs_ ?_ GE382.out | refine bs_ ?_ GE389.out | refine bs_ ?_ GE400.out | refine bs_ ?_ GE409.out | refine bs_ ?_ GE410.out | refine bs_ ?_ GE415.out | refine bs_ ?_ GE420.out | refine bs_ ?_ GE429.out | refine bs_ ?_ GE434.out)) | (repeat (first | exact HG0.out | apply TabOK.drew | apply TabOK.drewN)) | exact TabOK.drawn HG0.out (by assumption)) A81.out).mono ?_
        rintro e w101 ⟨rfl, hb⟩
        refine ⟨_, rfl, ?_⟩
        replace HO385 := A0_ (Kd.R_below (by (with_reducible repeat (first | apply ra_ | apply rn_ | apply rd_)); exact HO385.out) hb)
        replace HO396 := A0_ (Kd.R_below (by (with_reducible repeat (first | apply ra_ | apply rn_ | apply rd_)); exact HO396.out) hb)
        replace HO403 := A0_ (Kd.R_below (by (with_reducible repeat (first | apply ra_ | apply rn_ | apply rd_)); exact HO403.out) hb)
        replace BK382 := A0_ (kb_ (g := gb382) (o := .cells #[.string t380, .string t381] 27 (0, 0)) (by (with_reducible repeat (first | apply kn_ | apply kd_ | apply ka_)); exact BK382.out) hb)
        replace BK389 := A0_ (kb_ (g := gb389) (o := .cells #[.string t387, .string t388] 27 (0, 0)) (by (with_reducible repeat (first | apply kn_ | apply kd_ | apply ka_)); exact BK389.out) hb)
        replace BK400 := A0_ (kb_ (g := gb400) (o := .cells #[.string t397, .string t398, .int .i64 t399] 31 (0, 0)) (by (with_reducible repeat (first | apply kn_ | apply kd_ | apply ka_)); exact BK400.out) hb)
        replace BK409 := A0_ (kb_ (g := gb409) (o := .cells #[.string t404, .string t405, .int .i64 t406] 31 (0, 0)) (by (with_reducible repeat (first | apply kn_ | apply kd_ | apply ka_)); exact BK409.out) hb)
        replace BK410 := A0_ (kb_ (g := gb410) (o := .cells #[.string t407, .string t408] 27 (0, 0)) (by (with_reducible repeat (first | apply kn_ | apply kd_ | apply ka_)); exact BK410.out) hb)
        replace BK415 := A0_ (kb_ (g := gb415) (o := .cells #[.string t411, .string t412, .int .i64 t413] 31 (0, 0)) (by (with_reducible repeat (first | apply kn_ | apply kd_ | apply ka_)); exact BK415.out) hb)
        replace BK420 := A0_ (kb_ (g := gb420) (o := .cells #[.string t416, .string t417, .int .i64 t418] 31 (0, 0)) (by (with_reducible repeat (first | apply kn_ | apply kd_ | apply ka_)); exact BK420.out) hb)
        replace HB := A0_ (bt_ (by repeat (with_reducible first | exact HB.out | apply ba_ | apply bn_ | apply bd_ | refine bs_ ?_ GE382.out | refine bs_ ?_ GE389.out | refine bs_ ?_ GE400.out | refine bs_ ?_ GE409.out | refine bs_ ?_ GE410.out | refine bs_ ?_ GE415.out | refine bs_ ?_ GE420.out)) hb)
        (try clear hb)
        (try clear hb2)
        (try clear hk)
        (try clear hi)
        refine hK.out _ _ ⟨(kc_ BK382.out 0).trans rfl, (kc_ BK382.out 1).trans rfl, (kc_ BK400.out 0).trans rfl, (kc_ BK400.out 1).trans rfl, (kc_ BK400.out 2).trans rfl, (kc_ BK415.out 0).trans rfl, (kc_ BK415.out 1).trans rfl, (kc_ BK415.out 2).trans rfl, (kc_ BK420.out 0).trans rfl, (kc_ BK420.out 1).trans rfl, (kc_ BK420.out 2).trans rfl⟩ (fun hHeld => ?_)
        clear hK K
        refine norm_ (a' := ?_) ?_ ?_
        rotate_left
        ·show Act.put _ (some 89) _ = _
         simp only [Act.put, sa_, sz_, ss_, i64_w, i32_w]
         rfl
        refine one_ (i := 19) (N := some 91) #[true, true, true, true, true, true, true, true, true, true, true, true, true, true, true, true, true, true, true, true, false, false, false, false, false, false, false, false, false, false, false, false] rfl rfl (one_of HT_.out (by kernel_rfl)) (by decide) (fun K hK => ?_)
        refine goes_ Tryd.func20 (by kernel_rfl) rfl #[.agg #[.string t397, .string t398, .int .i64 t399]] (by rfl) rfl rfl (by (try simp only [ma_, mc_, mn_]); first | done | rfl | (simp only [ld_, lt_]; rfl)) ?_
        with_reducible refine (spec_IsValidLog.calls k t397 t398 t399 t424 _ A82.out).mono ?_
        rintro e w102 ⟨rfl, hb⟩
        refine ⟨_, rfl, ?_⟩
        replace HO385 := A0_ (Kd.R_below (by (with_reducible repeat (first | apply ra_ | apply rn_ | apply rd_)); exact HO385.out) hb)
        replace HO396 := A0_ (Kd.R_below (by (with_reducible repeat (first | apply ra_ | apply rn_ | apply rd_)); exact HO396.out) hb)
        replace HO403 := A0_ (Kd.R_below (by (with_reducible repeat (first | apply ra_ | apply rn_ | apply rd_)); exact HO403.out) hb)
        replace BK382 := A0_ (kb_ (g := gb382) (o := .cells #[.string t380, .string t381] 27 (0, 0)) (by (with_reducible repeat (first | apply kn_ | apply kd_ | apply ka_)); exact BK382.out) hb)
        replace BK389 := A0_ (kb_ (g := gb389) (o := .cells #[.string t387, .string t388] 27 (0, 0)) (by (with_reducible repeat (first | apply kn_ | apply kd_ | apply ka_)); exact BK389.out) hb)
        replace BK400 := A0_ (kb_ (g := gb400) (o := .cells #[.string t397, .string t398, .int .i64 t399] 31 (0, 0)) (by (with_reducible repeat (first | apply kn_ | apply kd_ | apply ka_)); exact BK400.out) hb)
        replace BK409 := A0_ (kb_ (g := gb409) (o := .cells #[.string t404, .string t405, .int .i64 t406] 31 (0, 0)) (by (with_reducible repeat (first | apply kn_ | apply kd_ | apply ka_)); exact BK409.out) hb)
        replace BK410 := A0_ (kb_ (g := gb410) (o := .cells #[.string t407, .string t408] 27 (0, 0)) (by (with_reducible repeat (first | apply kn_ | apply kd_ | apply ka_)); exact BK410.out) hb)
        replace BK415 := A0_ (kb_ (g := gb415) (o := .cells #[.string t411, .string t412, .int .i64 t413] 31 (0, 0)) (by (with_reducible repeat (first | apply kn_ | apply kd_ | apply ka_)); exact BK415.out) hb)
        replace BK420 := A0_ (kb_ (g := gb420) (o := .cells #[.string t416, .string t417, .int .i64 t418] 31 (0, 0)) (by (with_reducible repeat (first | apply kn_ | apply kd_ | apply ka_)); exact BK420.out) hb)
        replace HB := A0_ (bt_ (by repeat (with_reducible first | exact HB.out | apply ba_ | apply bn_ | apply bd_ | refine bs_ ?_ GE382.out | refine bs_ ?_ GE389.out | refine bs_ ?_ GE400.out | refine bs_ ?_ GE409.out | refine bs_ ?_ GE410.out | refine bs_ ?_ GE415.out | refine bs_ ?_ GE420.out)) hb)
        (try clear hb)
        (try clear hb2)
        (try clear hk)
        (try clear hi)
        refine hK.out _ _ ⟨(kc_ BK382.out 0).trans rfl, (kc_ BK382.out 1).trans rfl, (kc_ BK400.out 0).trans rfl, (kc_ BK400.out 1).trans rfl, (kc_ BK400.out 2).trans rfl, (kc_ BK415.out 0).trans rfl, (kc_ BK415.out 1).trans rfl, (kc_ BK415.out 2).trans rfl, (kc_ BK420.out 0).trans rfl, (kc_ BK420.out 1).trans rfl, (kc_ BK420.out 2).trans rfl⟩ (fun hHeld => ?_)
        clear hK K
        refine norm_ (a' := ?_) ?_ ?_
        rotate_left
        ·show Act.put _ (some 91) _ = _
         simp only [Act.put, sa_, sz_, ss_, i64_w, i32_w]
         rfl
        refine pure_ (i := 20) (N := some 92) (v := ?_) (a' := ?_) #[true, true, true, true, true, true, true, true, true, true, true, true, true, true, true, true, true, true, true, true, true, false, false, false, false, false, false, false, false, false, false, false] rfl rfl (any_of HT_.out (by kernel_rfl)) (fun _ _ _ h => h) (Or.inl ⟨by rfl, ?_⟩) ?_ ?_
        rotate_left
        ·intro w'
         go_simp
         with_reducible rfl
        rotate_left
        ·simp only [Act.put, sa_, sz_, ss_, i64_w, i32_w]
         rfl
        refine pure_ (i := 21) (N := some 93) (v := ?_) (a' := ?_) #[true, true, true, true, true, true, true, true, true, true, true, true, true, true, true, true, true, true, true, true, true, true, false, false, false, false, false, false, false, false, false, false] rfl rfl (any_of HT_.out (by kernel_rfl)) (fun _ _ _ h => h) (Or.inl ⟨by rfl, ?_⟩) ?_ ?_
        rotate_left
        ·intro w'
         go_simp
         with_reducible rfl
        rotate_left
        ·simp only [Act.put, sa_, sz_, ss_, i64_w, i32_w]
         rfl
        refine pure_ (i := 22) (N := some 94) (v := ?_) (a' := ?_) #[true, true, true, true, true, true, true, true, true, true, true, true, true, true, true, true, true, true, true, true, true, true, true, false, false, false, false, false, false, false, false, false] rfl rfl (any_of HT_.out (by kernel_rfl)) (fun _ _ _ h => h) (Or.inl ⟨by rfl, ?_⟩) ?_ ?_
        rotate_left
        ·intro w'
         go_simp
         with_reducible rfl
        rotate_left
        ·simp only [Act.put, sa_, sz_, ss_, i64_w, i32_w]
         rfl
        refine take_ (i := 23) (N := some 95) (v := ?_) (a' := ?_) #[true, true, true, true, true, true, true, true, true, true, true, true, true, true, true, true, true, true, true, true, true, true, true, true, false, false, false, false, false, false, false, false] rfl rfl (take_ofW HT_.out HW_.out (by kernel_rfl)) (fun _ _ _ h => h) (Or.inl ⟨by rfl, ?_⟩) hHeld ?_ ?_
        rotate_left
        ·rintro w' ⟨s0, s1, s2, s3, s4, s5, s6, s7, s8, s9, s10⟩
         go_simp
         with_reducible rfl
        rotate_left
        ·simp only [Act.put, sa_, sz_, ss_, i64_w, i32_w]
         rfl
        refine take_ (i := 24) (N := some 96) (v := ?_) (a' := ?_) #[true, true, true, true, true, true, true, true, true, true, true, true, true, true, true, true, true, true, true, true, true, true, true, true, true, false, false, false, false, false, false, false] rfl rfl (take_ofW HT_.out HW_.out (by kernel_rfl)) (fun _ _ _ h => h) (Or.inl ⟨by rfl, ?_⟩) hHeld ?_ ?_
        rotate_left
        ·rintro w' ⟨s0, s1, s2, s3, s4, s5, s6, s7, s8, s9, s10⟩
         go_simp
         with_reducible rfl
        rotate_left
        ·simp only [Act.put, sa_, sz_, ss_, i64_w, i32_w]
         rfl
        refine pure_ (i := 25) (N := some 97) (v := ?_) (a' := ?_) #[true, true, true, true, true, true, true, true, true, true, true, true, true, true, true, true, true, true, true, true, true, true, true, true, true, true, false, false, false, false, false, false] rfl rfl (any_of HT_.out (by kernel_rfl)) (fun _ _ _ h => h) (Or.inl ⟨by rfl, ?_⟩) ?_ ?_
        rotate_left
        ·intro w'
         go_simp
         with_reducible rfl
        rotate_left
        ·simp only [Act.put, sa_, sz_, ss_, i64_w, i32_w]
         rfl
        refine pure_ (i := 26) (N := some 98) (v := ?_) (a' := ?_) #[true, true, true, true, true, true, true, true, true, true, true, true, true, true, true, true, true, true, true, true, true, true, true, true, true, true, true, false, false, false, false, false] rfl rfl (any_of HT_.out (by kernel_rfl)) (fun _ _ _ h => h) (Or.inl ⟨by rfl, ?_⟩) ?_ ?_
        rotate_left
        ·intro w'
         go_simp
         with_reducible rfl
        rotate_left
        ·simp only [Act.put, sa_, sz_, ss_, i64_w, i32_w]
         rfl
        refine pure_ (i := 27) (N := some 99) (v := ?_) (a' := ?_) #[true, true, true, true, true, true, true, true, true, true, true, true, true, true, true, true, true, true, true, true, true, true, true, true, true, true, true, true, false, false, false, false] rfl rfl (any_of HT_.out (by kernel_rfl)) (fun _ _ _ h => h) (Or.inl ⟨by rfl, ?_⟩) ?_ ?_
        rotate_left
        ·intro w'
         go_simp
         with_reducible rfl
        rotate_left
        ·simp only [Act.put, sa_, sz_, ss_, i64_w, i32_w]
         rfl
        refine pure_ (i := 28) (N := some 100) (v := ?_) (a' := ?_) #[true, true, true, true, true, true, true, true, true, true, true, true, true, true, true, true, true, true, true, true, true, true, true, true, true, true, true, true, true, false, false, false] rfl rfl (any_of HT_.out (by kernel_rfl)) (fun _ _ _ h => h) (Or.inl ⟨by rfl, ?_⟩) ?_ ?_
        rotate_left
        ·intro w'
         go_simp
         with_reducible rfl
        rotate_left
        ·simp only [Act.put, sa_, sz_, ss_, i64_w, i32_w]
         rfl
        refine pure_ (i := 29) (N := some 101) (v := ?_) (a' := ?_) #[true, true, true, true, true, true, true, true, true, true, true, true, true, true, true, true, true, true, true, true, true, true, true, true, true, true, true, true, true, true, false, false] rfl rfl (any_of HT_.out (by kernel_rfl)) (fun _ _ _ h => h) (Or.inl ⟨by rfl, ?_⟩) ?_ ?_
        rotate_left
        ·intro w'
         go_simp
         with_reducible rfl
        rotate_left
        ·simp only [Act.put, sa_, sz_, ss_, i64_w, i32_w]
         rfl
        refine pure_ (i := 30) (N := some 102) (v := ?_) (a' := ?_) #[true, true, true, true, true, true, true, true, true, true, true, true, true, true, true, true, true, true, true, true, true, true, true, true, true, true, true, true, true, true, true, false] rfl rfl (any_of HT_.out (by kernel_rfl)) (fun _ _ _ h => h) (Or.inl ⟨by rfl, ?_⟩) ?_ ?_
        rotate_left
        ·intro w'
         go_simp
         with_reducible rfl
        rotate_left
        ·simp only [Act.put, sa_, sz_, ss_, i64_w, i32_w]
         rfl
        refine pure_ (i := 31) (N := some 103) (v := ?_) (a' := ?_) #[true, true, true, true, true, true, true, true, true, true, true, true, true, true, true, true, true, true, true, true, true, true, true, true, true, true, true, true, true, true, true, true] rfl rfl (any_of HT_.out (by kernel_rfl)) (fun _ _ _ h => h) (Or.inl ⟨by rfl, ?_⟩) ?_ ?_
        rotate_left
        ·intro w'
         go_simp
         with_reducible rfl
        rotate_left
        ·simp only [Act.put, sa_, sz_, ss_, i64_w, i32_w]
         rfl
        refine done_ (done_of HT_.out (by kernel_rfl)) ?_
        try go_wp2
        go_meet
        case rel => exact ⟨_, ((t414 != t419)), (by first | rfl | (simp [*]; done)), H', ⟨by first | omega | exact Nat.le_refl _⟩, ⟨by (with_reducible repeat (first | apply kn_ | apply kd_ | apply ka_)); exact BK382.out⟩, ⟨by (with_reducible repeat (first | apply kn_ | apply kd_ | apply ka_)); exact BK389.out⟩, ⟨by (with_reducible repeat (first | apply kn_ | apply kd_ | apply ka_)); exact BK400.out⟩, ⟨by (with_reducible repeat (first | apply kn_ | apply kd_ | apply ka_)); exact BK409.out⟩, ⟨by (with_reducible repeat (first | apply kn_ | apply kd_ | apply ka_)); exact BK410.out⟩, ⟨by (with_reducible repeat (first | apply kn_ | apply kd_ | apply ka_)); exact BK415.out⟩, ⟨by (with_reducible repeat (first | apply kn_ | apply kd_ | apply ka_)); exact BK420.out⟩, ⟨by repeat (with_reducible first | exact HB.out | apply ba_ | apply bn_ | apply bd_ | refine bs_ ?_ GE382.out | refine bs_ ?_ GE389.out | refine bs_ ?_ GE400.out | refine bs_ ?_ GE409.out | refine bs_ ?_ GE410.out | refine bs_ ?_ GE415.out | refine bs_ ?_ GE420.out)⟩⟩
    ·rw [if_neg c75] at H
     exact absurd H (by simp)
  case rest =>
   clear HC15
   try clear c2
   try clear p2
   try clear c4
   try clear c7
   try clear c20
   try clear c22
   try clear c40
   try clear c41
   try clear c75
   try clear c75b0
   try clear c75b1
   obtain ⟨kq, x103_14, rfl, HA, HJ14, BK382, BK389, BK400, BK409, BK410, BK415, BK420, HB⟩ := hcut
   cases kq with
   | zero => exact absurd HA.out (by simp [laws_FnLogs.j0])
   | succ kj14 =>
    have H := HA.out
    clear HA
    simp only [laws_FnLogs.j0] at H
    by_cases c107 : x103_14 = true
    ·subst c107
     have H1 : (none) = some r := by rw [if_pos rfl] at H; exact H
     exact absurd H1 (by simp)
    ·replace c107 := bf_.mpr c107
     subst c107
     rw [if_neg (show ¬ (false = true) by decide)] at H
     replace H := ob_.mp H
     obtain ⟨⟨t425, t426, t427, t428⟩, A1080, H⟩ := H
     have A108 := A0_ A1080
     clear A1080
     replace H := ob_.mp H
     obtain ⟨⟨t430, t431, t432, t433⟩, A1090, H⟩ := H
     have A109 := A0_ A1090
     clear A1090
     replace H := ob_.mp H
     obtain ⟨⟨t435, t438⟩, A1100, H⟩ := H
     have A110 := A0_ A1100
     clear A1100
     replace H := ob_.mp H
     obtain ⟨⟨t439, t442⟩, A1110, H⟩ := H
     have A111 := A0_ A1110
     clear A1110
     have HC112 := A0_ H
     clear H
     have hnb113 := NB409_382.out
     have hnc113 := NB382_409.out
     have hnb114 := NB409_389.out
     have hnc114 := NB389_409.out
     have hnb115 := NB409_400.out
     have hnc115 := NB400_409.out
     have hnb116 := NB409_410.out
     have hnc116 := NB410_409.out
     have hnb117 := NB409_415.out
     have hnc117 := NB415_409.out
     have hnb118 := NB409_420.out
     have hnc118 := NB420_409.out
     have hcz119_0 : wc.cell? ⟨gb409, 0, none⟩ = some (.string t404) := (kc_ BK409.out 0).trans rfl
     have hcz119_1 : wc.cell? ⟨gb409, 1, none⟩ = some (.string t405) := (kc_ BK409.out 1).trans rfl
     have hcz119_2 : wc.cell? ⟨gb409, 2, none⟩ = some (.int .i64 t406) := (kc_ BK409.out 2).trans rfl
     have hfz119_0 := kf_ BK409.out 0
     have hfz119_1 := kf_ BK409.out 1
     have hfz119_2 := kf_ BK409.out 2
     go_upto_region 17 with (first | ((with_reducible refine gc_ (f := 26) rfl ?_); refine goesL_ (some 106) rfl rfl Tryd.func26 (by kernel_rfl) rfl #[.agg #[.string t404, .string t405, .int .i64 t406]] rfl (by (try simp only [ma_, mc_, mn_]); first | done | rfl | (simp only [ld_, lt_]; rfl)) ?_; (with_reducible refine (impl_SyncLog.calls kj14 t404 t405 t406 t425 t426 t427 t428 _ (by first | exact TabOK.below HG0.out (by repeat (with_reducible first | exact HB.out | apply ba_ | apply bn_ | apply bd_ | refine bs_ ?_ GE382.out | refine bs_ ?_ GE389.out | refine bs_ ?_ GE400.out | refine bs_ ?_ GE409.out | refine bs_ ?_ GE410.out | refine bs_ ?_ GE415.out | refine bs_ ?_ GE420.out | refine bs_ ?_ GE429.out | refine bs_ ?_ GE434.out)) | (repeat (first | exact HG0.out | apply TabOK.drew | apply TabOK.drewN)) | exact TabOK.drawn HG0.out (by assumption)) A108.out).mono ?_); rintro e w120 ⟨rfl, hb⟩; refine ⟨_, rfl, ?_⟩; replace BK382 := A0_ (kb_ (g := gb382) (o := .cells #[.string t380, .string t381] 27 (0, 0)) (by (with_reducible repeat (first | apply kn_ | apply kd_ | apply ka_)); exact BK382.out) hb); replace BK389 := A0_ (kb_ (g := gb389) (o := .cells #[.string t387, .string t388] 27 (0, 0)) (by (with_reducible repeat (first | apply kn_ | apply kd_ | apply ka_)); exact BK389.out) hb); replace BK400 := A0_ (kb_ (g := gb400) (o := .cells #[.string t397, .string t398, .int .i64 t399] 31 (0, 0)) (by (with_reducible repeat (first | apply kn_ | apply kd_ | apply ka_)); exact BK400.out) hb); replace BK409 := A0_ (kb_ (g := gb409) (o := .cells #[.string t404, .string t405, .int .i64 t406] 31 (0, 0)) (by (with_reducible repeat (first | apply kn_ | apply kd_ | apply ka_)); exact BK409.out) hb); replace BK410 := A0_ (kb_ (g := gb410) (o := .cells #[.string t407, .string t408] 27 (0, 0)) (by (with_reducible repeat (first | apply kn_ | apply kd_ | apply ka_)); exact BK410.out) hb); replace BK415 := A0_ (kb_ (g := gb415) (o := .cells #[.string t411, .string t412, .int .i64 t413] 31 (0, 0)) (by (with_reducible repeat (first | apply kn_ | apply kd_ | apply ka_)); exact BK415.out) hb); replace BK420 := A0_ (kb_ (g := gb420) (o := .cells #[.string t416, .string t417, .int .i64 t418] 31 (0, 0)) (by (with_reducible repeat (first | apply kn_ | apply kd_ | apply ka_)); exact BK420.out) hb); replace HB := A0_ (bt_ (by repeat (with_reducible first | exact HB.out | apply ba_ | apply bn_ | apply bd_ | refine bs_ ?_ GE382.out | refine bs_ ?_ GE389.out | refine bs_ ?_ GE400.out | refine bs_ ?_ GE409.out | refine bs_ ?_ GE410.out | refine bs_ ?_ GE415.out | refine bs_ ?_ GE420.out)) hb); (try clear hb)) | ((with_reducible refine gd_ (N := 17) rfl ?_); (try (refine gate_guard (by rfl) ?_; dsimp only)); refine be_ ?hg (N := 17) ?hd (cs := #[.string (⟨#[]⟩ : ByteArray), .string (⟨#[]⟩ : ByteArray), .int .i64 0]) (t := 31) ?hr ?_; (case hd => rfl); (case hg => rfl); (case hr => go_simp; first | done | rfl); intro gb429 hg w121 hbox hb; have BK429 := A0_ (hbox); have GW429 := A0_ ((by rw [hg]; exact (bz_ (by repeat (with_reducible first | exact HB.out | apply ba_ | apply bn_ | apply bd_ | refine bs_ ?_ GE382.out | refine bs_ ?_ GE389.out | refine bs_ ?_ GE400.out | refine bs_ ?_ GE409.out | refine bs_ ?_ GE410.out | refine bs_ ?_ GE415.out | refine bs_ ?_ GE420.out))) : w.heap.size ≤ gb429)); have GE429 := A0_ ((by rw [hg]; exact (bz_ (by repeat (with_reducible first | exact HB.out | apply ba_ | apply bn_ | apply bd_ | refine bs_ ?_ GE382.out | refine bs_ ?_ GE389.out | refine bs_ ?_ GE400.out | refine bs_ ?_ GE409.out | refine bs_ ?_ GE410.out | refine bs_ ?_ GE415.out | refine bs_ ?_ GE420.out))) : w.heap.size ≤ gb429)); replace HB := A0_ (bt_ (by repeat (with_reducible first | exact HB.out | apply ba_ | apply bn_ | apply bd_ | refine bs_ ?_ GE382.out | refine bs_ ?_ GE389.out | refine bs_ ?_ GE400.out | refine bs_ ?_ GE409.out | refine bs_ ?_ GE410.out | refine bs_ ?_ GE415.out | refine bs_ ?_ GE420.out)) hb); have NB382_429 := A0_ ((by rw [hg]; exact Nat.ne_of_lt (blk_lt (g := gb382) (o := .cells #[.string t380, .string t381] 27 (0, 0)) (by (with_reducible repeat (first | apply kn_ | apply kd_ | apply ka_)); exact BK382.out)) : gb382 ≠ gb429)); have NB429_382 := A0_ ((by rw [hg]; exact Nat.ne_of_gt (blk_lt (g := gb382) (o := .cells #[.string t380, .string t381] 27 (0, 0)) (by (with_reducible repeat (first | apply kn_ | apply kd_ | apply ka_)); exact BK382.out)) : gb429 ≠ gb382)); replace BK382 := A0_ (kb_ (g := gb382) (o := .cells #[.string t380, .string t381] 27 (0, 0)) (by (with_reducible repeat (first | apply kn_ | apply kd_ | apply ka_)); exact BK382.out) hb); have NB389_429 := A0_ ((by rw [hg]; exact Nat.ne_of_lt (blk_lt (g := gb389) (o := .cells #[.string t387, .string t388] 27 (0, 0)) (by (with_reducible repeat (first | apply kn_ | apply kd_ | apply ka_)); exact BK389.out)) : gb389 ≠ gb429)); have NB429_389 := A0_ ((by rw [hg]; exact Nat.ne_of_gt (blk_lt (g := gb389) (o := .cells #[.string t387, .string t388] 27 (0, 0)) (by (with_reducible repeat (first | apply kn_ | apply kd_ | apply ka_)); exact BK389.out)) : gb429 ≠ gb389)); replace BK389 := A0_ (kb_ (g := gb389) (o := .cells #[.string t387, .string t388] 27 (0, 0)) (by (with_reducible repeat (first | apply kn_ | apply kd_ | apply ka_)); exact BK389.out) hb); have NB400_429 := A0_ ((by rw [hg]; exact Nat.ne_of_lt (blk_lt (g := gb400) (o := .cells #[.string t397, .string t398, .int .i64 t399] 31 (0, 0)) (by (with_reducible repeat (first | apply kn_ | apply kd_ | apply ka_)); exact BK400.out)) : gb400 ≠ gb429)); have NB429_400 := A0_ ((by rw [hg]; exact Nat.ne_of_gt (blk_lt (g := gb400) (o := .cells #[.string t397, .string t398, .int .i64 t399] 31 (0, 0)) (by (with_reducible repeat (first | apply kn_ | apply kd_ | apply ka_)); exact BK400.out)) : gb429 ≠ gb400)); replace BK400 := A0_ (kb_ (g := gb400) (o := .cells #[.string t397, .string t398, .int .i64 t399] 31 (0, 0)) (by (with_reducible repeat (first | apply kn_ | apply kd_ | apply ka_)); exact BK400.out) hb); have NB409_429 := A0_ ((by rw [hg]; exact Nat.ne_of_lt (blk_lt (g := gb409) (o := .cells #[.string t404, .string t405, .int .i64 t406] 31 (0, 0)) (by (with_reducible repeat (first | apply kn_ | apply kd_ | apply ka_)); exact BK409.out)) : gb409 ≠ gb429)); have NB429_409 := A0_ ((by rw [hg]; exact Nat.ne_of_gt (blk_lt (g := gb409) (o := .cells #[.string t404, .string t405, .int .i64 t406] 31 (0, 0)) (by (with_reducible repeat (first | apply kn_ | apply kd_ | apply ka_)); exact BK409.out)) : gb429 ≠ gb409)); replace BK409 := A0_ (kb_ (g := gb409) (o := .cells #[.string t404, .string t405, .int .i64 t406] 31 (0, 0)) (by (with_reducible repeat (first | apply kn_ | apply kd_ | apply ka_)); exact BK409.out) hb); have NB410_429 := A0_ ((by rw [hg]; exact Nat.ne_of_lt (blk_lt (g := gb410) (o := .cells #[.string t407, .string t408] 27 (0, 0)) (by (with_reducible repeat (first | apply kn_ | apply kd_ | apply ka_)); exact BK410.out)) : gb410 ≠ gb429)); have NB429_410 := A0_ ((by rw [hg]; exact Nat.ne_of_gt (blk_lt (g := gb410) (o := .cells #[.string t407, .string t408] 27 (0, 0)) (by (with_reducible repeat (first | apply kn_ | apply kd_ | apply ka_)); exact BK410.out)) : gb429 ≠ gb410)); replace BK410 := A0_ (kb_ (g := gb410) (o := .cells #[.string t407, .string t408] 27 (0, 0)) (by (with_reducible repeat (first | apply kn_ | apply kd_ | apply ka_)); exact BK410.out) hb); have NB415_429 := A0_ ((by rw [hg]; exact Nat.ne_of_lt (blk_lt (g := gb415) (o := .cells #[.string t411, .string t412, .int .i64 t413] 31 (0, 0)) (by (with_reducible repeat (first | apply kn_ | apply kd_ | apply ka_)); exact BK415.out)) : gb415 ≠ gb429)); have NB429_415 := A0_ ((by rw [hg]; exact Nat.ne_of_gt (blk_lt (g := gb415) (o := .cells #[.string t411, .string t412, .int .i64 t413] 31 (0, 0)) (by (with_reducible repeat (first | apply kn_ | apply kd_ | apply ka_)); exact BK415.out)) : gb429 ≠ gb415)); replace BK415 := A0_ (kb_ (g := gb415) (o := .cells #[.string t411, .string t412, .int .i64 t413] 31 (0, 0)) (by (with_reducible repeat (first | apply kn_ | apply kd_ | apply ka_)); exact BK415.out) hb); have NB420_429 := A0_ ((by rw [hg]; exact Nat.ne_of_lt (blk_lt (g := gb420) (o := .cells #[.string t416, .string t417, .int .i64 t418] 31 (0, 0)) (by (with_reducible repeat (first | apply kn_ | apply kd_ | apply ka_)); exact BK420.out)) : gb420 ≠ gb429)); have NB429_420 := A0_ ((by rw [hg]; exact Nat.ne_of_gt (blk_lt (g := gb420) (o := .cells #[.string t416, .string t417, .int .i64 t418] 31 (0, 0)) (by (with_reducible repeat (first | apply kn_ | apply kd_ | apply ka_)); exact BK420.out)) : gb429 ≠ gb420)); replace BK420 := A0_ (kb_ (g := gb420) (o := .cells #[.string t416, .string t417, .int .i64 t418] 31 (0, 0)) (by (with_reducible repeat (first | apply kn_ | apply kd_ | apply ka_)); exact BK420.out) hb); clear hb hbox hg; have hnb122 := NB429_382.out; have hnc122 := NB382_429.out; have hnb123 := NB429_389.out; have hnc123 := NB389_429.out; have hnb124 := NB429_400.out; have hnc124 := NB400_429.out; have hnb125 := NB429_409.out; have hnc125 := NB409_429.out; have hnb126 := NB429_410.out; have hnc126 := NB410_429.out; have hnb127 := NB429_415.out; have hnc127 := NB415_429.out; have hnb128 := NB429_420.out; have hnc128 := NB420_429.out; have hcz129_0 : w121.cell? ⟨gb429, 0, none⟩ = some (.string (⟨#[]⟩ : ByteArray)) := (kc_ BK429.out 0).trans rfl; have hcz129_1 : w121.cell? ⟨gb429, 1, none⟩ = some (.string (⟨#[]⟩ : ByteArray)) := (kc_ BK429.out 1).trans rfl; have hcz129_2 : w121.cell? ⟨gb429, 2, none⟩ = some (.int .i64 0) := (kc_ BK429.out 2).trans rfl; have hfz129_0 := kf_ BK429.out 0; have hfz129_1 := kf_ BK429.out 1; have hfz129_2 := kf_ BK429.out 2; have hcz130_0 : w121.cell? ⟨gb409, 0, none⟩ = some (.string t404) := (kc_ BK409.out 0).trans rfl; have hcz130_1 : w121.cell? ⟨gb409, 1, none⟩ = some (.string t405) := (kc_ BK409.out 1).trans rfl; have hcz130_2 : w121.cell? ⟨gb409, 2, none⟩ = some (.int .i64 t406) := (kc_ BK409.out 2).trans rfl; have hfz130_0 := kf_ BK409.out 0; have hfz130_1 := kf_ BK409.out 1; have hfz130_2 := kf_ BK409.out 2) | ((with_reducible refine gc_ (f := 25) rfl ?_); refine goesL_ (some 111) rfl rfl Tryd.func25 (by kernel_rfl) rfl #[.agg #[.string t404, .string t405, .int .i64 t406]] rfl (by (try simp only [ma_, mc_, mn_]); first | done | rfl | (simp only [ld_, lt_]; rfl)) ?_; (with_reducible refine (spec_SyncLog.calls kj14 t404 t405 t406 t430 t431 t432 t433 _ A109.out).mono ?_); rintro e w131 ⟨rfl, hb⟩; refine ⟨_, rfl, ?_⟩; replace BK382 := A0_ (kb_ (g := gb382) (o := .cells #[.string t380, .string t381] 27 (0, 0)) (by (with_reducible repeat (first | apply kn_ | apply kd_ | apply ka_)); refine blk_far ?_ NB382_429.out _; (with_reducible repeat (first | apply kn_ | apply kd_ | apply ka_)); refine blk_far ?_ NB382_429.out _; (with_reducible repeat (first | apply kn_ | apply kd_ | apply ka_)); refine blk_far ?_ NB382_429.out _; (with_reducible repeat (first | apply kn_ | apply kd_ | apply ka_)); exact BK382.out) hb); replace BK389 := A0_ (kb_ (g := gb389) (o := .cells #[.string t387, .string t388] 27 (0, 0)) (by (with_reducible repeat (first | apply kn_ | apply kd_ | apply ka_)); refine blk_far ?_ NB389_429.out _; (with_reducible repeat (first | apply kn_ | apply kd_ | apply ka_)); refine blk_far ?_ NB389_429.out _; (with_reducible repeat (first | apply kn_ | apply kd_ | apply ka_)); refine blk_far ?_ NB389_429.out _; (with_reducible repeat (first | apply kn_ | apply kd_ | apply ka_)); exact BK389.out) hb); replace BK400 := A0_ (kb_ (g := gb400) (o := .cells #[.string t397, .string t398, .int .i64 t399] 31 (0, 0)) (by (with_reducible repeat (first | apply kn_ | apply kd_ | apply ka_)); refine blk_far ?_ NB400_429.out _; (with_reducible repeat (first | apply kn_ | apply kd_ | apply ka_)); refine blk_far ?_ NB400_429.out _; (with_reducible repeat (first | apply kn_ | apply kd_ | apply ka_)); refine blk_far ?_ NB400_429.out _; (with_reducible repeat (first | apply kn_ | apply kd_ | apply ka_)); exact BK400.out) hb); replace BK409 := A0_ (kb_ (g := gb409) (o := .cells #[.string t404, .string t405, .int .i64 t406] 31 (0, 0)) (by (with_reducible repeat (first | apply kn_ | apply kd_ | apply ka_)); refine blk_far ?_ NB409_429.out _; (with_reducible repeat (first | apply kn_ | apply kd_ | apply ka_)); refine blk_far ?_ NB409_429.out _; (with_reducible repeat (first | apply kn_ | apply kd_ | apply ka_)); refine blk_far ?_ NB409_429.out _; (with_reducible repeat (first | apply kn_ | apply kd_ | apply ka_)); exact BK409.out) hb); replace BK410 := A0_ (kb_ (g := gb410) (o := .cells #[.string t407, .string t408] 27 (0, 0)) (by (with_reducible repeat (first | apply kn_ | apply kd_ | apply ka_)); refine blk_far ?_ NB410_429.out _; (with_reducible repeat (first | apply kn_ | apply kd_ | apply ka_)); refine blk_far ?_ NB410_429.out _; (with_reducible repeat (first | apply kn_ | apply kd_ | apply ka_)); refine blk_far ?_ NB410_429.out _; (with_reducible repeat (first | apply kn_ | apply kd_ | apply ka_)); exact BK410.out) hb); replace BK415 := A0_ (kb_ (g := gb415) (o := .cells #[.string t411, .string t412, .int .i64 t413] 31 (0, 0)) (by (with_reducible repeat (first | apply kn_ | apply kd_ | apply ka_)); refine blk_far ?_ NB415_429.out _; (with_reducible repeat (first | apply kn_ | apply kd_ | apply ka_)); refine blk_far ?_ NB415_429.out _; (with_reducible repeat (first | apply kn_ | apply kd_ | apply ka_)); refine blk_far ?_ NB415_429.out _; (with_reducible repeat (first | apply kn_ | apply kd_ | apply ka_)); exact BK415.out) hb); replace BK420 := A0_ (kb_ (g := gb420) (o := .cells #[.string t416, .string t417, .int .i64 t418] 31 (0, 0)) (by (with_reducible repeat (first | apply kn_ | apply kd_ | apply ka_)); refine blk_far ?_ NB420_429.out _; (with_reducible repeat (first | apply kn_ | apply kd_ | apply ka_)); refine blk_far ?_ NB420_429.out _; (with_reducible repeat (first | apply kn_ | apply kd_ | apply ka_)); refine blk_far ?_ NB420_429.out _; (with_reducible repeat (first | apply kn_ | apply kd_ | apply ka_)); exact BK420.out) hb); replace BK429 := A0_ (kb_ (g := gb429) (o := .cells #[.string t425, .string t426, .int .i64 t427] 31 (0, 0)) (by (with_reducible repeat (first | apply kn_ | apply kd_ | apply ka_)); refine blk_put (cs := #[.string t425, .string t426, .int .i64 0]) ?_ 2 _ rfl; (with_reducible repeat (first | apply kn_ | apply kd_ | apply ka_)); refine blk_put (cs := #[.string t425, .string (⟨#[]⟩ : ByteArray), .int .i64 0]) ?_ 1 _ rfl; (with_reducible repeat (first | apply kn_ | apply kd_ | apply ka_)); refine blk_put (cs := #[.string (⟨#[]⟩ : ByteArray), .string (⟨#[]⟩ : ByteArray), .int .i64 0]) ?_ 0 _ rfl; (with_reducible repeat (first | apply kn_ | apply kd_ | apply ka_)); exact BK429.out) hb); replace HB := A0_ (bt_ (by repeat (with_reducible first | exact HB.out | apply ba_ | apply bn_ | apply bd_ | refine bs_ ?_ GE382.out | refine bs_ ?_ GE389.out | refine bs_ ?_ GE400.out | refine bs_ ?_ GE409.out | refine bs_ ?_ GE410.out | refine bs_ ?_ GE415.out | refine bs_ ?_ GE420.out | refine bs_ ?_ GE429.out)) hb); (try clear hb)) | ((with_reducible refine gd_ (N := 19) rfl ?_); (try (refine gate_guard (by rfl) ?_; dsimp only)); refine be_ ?hg (N := 19) ?hd (cs := #[.string (⟨#[]⟩ : ByteArray), .string (⟨#[]⟩ : ByteArray), .int .i64 0]) (t := 31) ?hr ?_; (case hd => rfl); (case hg => rfl); (case hr => go_simp; first | done | rfl); intro gb434 hg w132 hbox hb; have BK434 := A0_ (hbox); have GW434 := A0_ ((by rw [hg]; exact (bz_ (by repeat (with_reducible first | exact HB.out | apply ba_ | apply bn_ | apply bd_ | refine bs_ ?_ GE382.out | refine bs_ ?_ GE389.out | refine bs_ ?_ GE400.out | refine bs_ ?_ GE409.out | refine bs_ ?_ GE410.out | refine bs_ ?_ GE415.out | refine bs_ ?_ GE420.out | refine bs_ ?_ GE429.out))) : w.heap.size ≤ gb434)); have GE434 := A0_ ((by rw [hg]; exact (bz_ (by repeat (with_reducible first | exact HB.out | apply ba_ | apply bn_ | apply bd_ | refine bs_ ?_ GE382.out | refine bs_ ?_ GE389.out | refine bs_ ?_ GE400.out | refine bs_ ?_ GE409.out | refine bs_ ?_ GE410.out | refine bs_ ?_ GE415.out | refine bs_ ?_ GE420.out | refine bs_ ?_ GE429.out))) : w.heap.size ≤ gb434)); replace HB := A0_ (bt_ (by repeat (with_reducible first | exact HB.out | apply ba_ | apply bn_ | apply bd_ | refine bs_ ?_ GE382.out | refine bs_ ?_ GE389.out | refine bs_ ?_ GE400.out | refine bs_ ?_ GE409.out | refine bs_ ?_ GE410.out | refine bs_ ?_ GE415.out | refine bs_ ?_ GE420.out | refine bs_ ?_ GE429.out)) hb); have NB382_434 := A0_ ((by rw [hg]; exact Nat.ne_of_lt (blk_lt (g := gb382) (o := .cells #[.string t380, .string t381] 27 (0, 0)) (by (with_reducible repeat (first | apply kn_ | apply kd_ | apply ka_)); exact BK382.out)) : gb382 ≠ gb434)); have NB434_382 := A0_ ((by rw [hg]; exact Nat.ne_of_gt (blk_lt (g := gb382) (o := .cells #[.string t380, .string t381] 27 (0, 0)) (by (with_reducible repeat (first | apply kn_ | apply kd_ | apply ka_)); exact BK382.out)) : gb434 ≠ gb382)); replace BK382 := A0_ (kb_ (g := gb382) (o := .cells #[.string t380, .string t381] 27 (0, 0)) (by (with_reducible repeat (first | apply kn_ | apply kd_ | apply ka_)); exact BK382.out) hb); have NB389_434 := A0_ ((by rw [hg]; exact Nat.ne_of_lt (blk_lt (g := gb389) (o := .cells #[.string t387, .string t388] 27 (0, 0)) (by (with_reducible repeat (first | apply kn_ | apply kd_ | apply ka_)); exact BK389.out)) : gb389 ≠ gb434)); have NB434_389 := A0_ ((by rw [hg]; exact Nat.ne_of_gt (blk_lt (g := gb389) (o := .cells #[.string t387, .string t388] 27 (0, 0)) (by (with_reducible repeat (first | apply kn_ | apply kd_ | apply ka_)); exact BK389.out)) : gb434 ≠ gb389)); replace BK389 := A0_ (kb_ (g := gb389) (o := .cells #[.string t387, .string t388] 27 (0, 0)) (by (with_reducible repeat (first | apply kn_ | apply kd_ | apply ka_)); exact BK389.out) hb); have NB400_434 := A0_ ((by rw [hg]; exact Nat.ne_of_lt (blk_lt (g := gb400) (o := .cells #[.string t397, .string t398, .int .i64 t399] 31 (0, 0)) (by (with_reducible repeat (first | apply kn_ | apply kd_ | apply ka_)); exact BK400.out)) : gb400 ≠ gb434)); have NB434_400 := A0_ ((by rw [hg]; exact Nat.ne_of_gt (blk_lt (g := gb400) (o := .cells #[.string t397, .string t398, .int .i64 t399] 31 (0, 0)) (by (with_reducible repeat (first | apply kn_ | apply kd_ | apply ka_)); exact BK400.out)) : gb434 ≠ gb400)); replace BK400 := A0_ (kb_ (g := gb400) (o := .cells #[.string t397, .string t398, .int .i64 t399] 31 (0, 0)) (by (with_reducible repeat (first | apply kn_ | apply kd_ | apply ka_)); exact BK400.out) hb); have NB409_434 := A0_ ((by rw [hg]; exact Nat.ne_of_lt (blk_lt (g := gb409) (o := .cells #[.string t404, .string t405, .int .i64 t406] 31 (0, 0)) (by (with_reducible repeat (first | apply kn_ | apply kd_ | apply ka_)); exact BK409.out)) : gb409 ≠ gb434)); have NB434_409 := A0_ ((by rw [hg]; exact Nat.ne_of_gt (blk_lt (g := gb409) (o := .cells #[.string t404, .string t405, .int .i64 t406] 31 (0, 0)) (by (with_reducible repeat (first | apply kn_ | apply kd_ | apply ka_)); exact BK409.out)) : gb434 ≠ gb409)); replace BK409 := A0_ (kb_ (g := gb409) (o := .cells #[.string t404, .string t405, .int .i64 t406] 31 (0, 0)) (by (with_reducible repeat (first | apply kn_ | apply kd_ | apply ka_)); exact BK409.out) hb); have NB410_434 := A0_ ((by rw [hg]; exact Nat.ne_of_lt (blk_lt (g := gb410) (o := .cells #[.string t407, .string t408] 27 (0, 0)) (by (with_reducible repeat (first | apply kn_ | apply kd_ | apply ka_)); exact BK410.out)) : gb410 ≠ gb434)); have NB434_410 := A0_ ((by rw [hg]; exact Nat.ne_of_gt (blk_lt (g := gb410) (o := .cells #[.string t407, .string t408] 27 (0, 0)) (by (with_reducible repeat (first | apply kn_ | apply kd_ | apply ka_)); exact BK410.out)) : gb434 ≠ gb410)); replace BK410 := A0_ (kb_ (g := gb410) (o := .cells #[.string t407, .string t408] 27 (0, 0)) (by (with_reducible repeat (first | apply kn_ | apply kd_ | apply ka_)); exact BK410.out) hb); have NB415_434 := A0_ ((by rw [hg]; exact Nat.ne_of_lt (blk_lt (g := gb415) (o := .cells #[.string t411, .string t412, .int .i64 t413] 31 (0, 0)) (by (with_reducible repeat (first | apply kn_ | apply kd_ | apply ka_)); exact BK415.out)) : gb415 ≠ gb434)); have NB434_415 := A0_ ((by rw [hg]; exact Nat.ne_of_gt (blk_lt (g := gb415) (o := .cells #[.string t411, .string t412, .int .i64 t413] 31 (0, 0)) (by (with_reducible repeat (first | apply kn_ | apply kd_ | apply ka_)); exact BK415.out)) : gb434 ≠ gb415)); replace BK415 := A0_ (kb_ (g := gb415) (o := .cells #[.string t411, .string t412, .int .i64 t413] 31 (0, 0)) (by (with_reducible repeat (first | apply kn_ | apply kd_ | apply ka_)); exact BK415.out) hb); have NB420_434 := A0_ ((by rw [hg]; exact Nat.ne_of_lt (blk_lt (g := gb420) (o := .cells #[.string t416, .string t417, .int .i64 t418] 31 (0, 0)) (by (with_reducible repeat (first | apply kn_ | apply kd_ | apply ka_)); exact BK420.out)) : gb420 ≠ gb434)); have NB434_420 := A0_ ((by rw [hg]; exact Nat.ne_of_gt (blk_lt (g := gb420) (o := .cells #[.string t416, .string t417, .int .i64 t418] 31 (0, 0)) (by (with_reducible repeat (first | apply kn_ | apply kd_ | apply ka_)); exact BK420.out)) : gb434 ≠ gb420)); replace BK420 := A0_ (kb_ (g := gb420) (o := .cells #[.string t416, .string t417, .int .i64 t418] 31 (0, 0)) (by (with_reducible repeat (first | apply kn_ | apply kd_ | apply ka_)); exact BK420.out) hb); have NB429_434 := A0_ ((by rw [hg]; exact Nat.ne_of_lt (blk_lt (g := gb429) (o := .cells #[.string t425, .string t426, .int .i64 t427] 31 (0, 0)) (by (with_reducible repeat (first | apply kn_ | apply kd_ | apply ka_)); exact BK429.out)) : gb429 ≠ gb434)); have NB434_429 := A0_ ((by rw [hg]; exact Nat.ne_of_gt (blk_lt (g := gb429) (o := .cells #[.string t425, .string t426, .int .i64 t427] 31 (0, 0)) (by (with_reducible repeat (first | apply kn_ | apply kd_ | apply ka_)); exact BK429.out)) : gb434 ≠ gb429)); replace BK429 := A0_ (kb_ (g := gb429) (o := .cells #[.string t425, .string t426, .int .i64 t427] 31 (0, 0)) (by (with_reducible repeat (first | apply kn_ | apply kd_ | apply ka_)); exact BK429.out) hb); clear hb hbox hg; have hnb133 := NB434_382.out; have hnc133 := NB382_434.out; have hnb134 := NB434_389.out; have hnc134 := NB389_434.out; have hnb135 := NB434_400.out; have hnc135 := NB400_434.out; have hnb136 := NB434_409.out; have hnc136 := NB409_434.out; have hnb137 := NB434_410.out; have hnc137 := NB410_434.out; have hnb138 := NB434_415.out; have hnc138 := NB415_434.out; have hnb139 := NB434_420.out; have hnc139 := NB420_434.out; have hnb140 := NB434_429.out; have hnc140 := NB429_434.out; have hcz141_0 : w132.cell? ⟨gb434, 0, none⟩ = some (.string (⟨#[]⟩ : ByteArray)) := (kc_ BK434.out 0).trans rfl; have hcz141_1 : w132.cell? ⟨gb434, 1, none⟩ = some (.string (⟨#[]⟩ : ByteArray)) := (kc_ BK434.out 1).trans rfl; have hcz141_2 : w132.cell? ⟨gb434, 2, none⟩ = some (.int .i64 0) := (kc_ BK434.out 2).trans rfl; have hfz141_0 := kf_ BK434.out 0; have hfz141_1 := kf_ BK434.out 1; have hfz141_2 := kf_ BK434.out 2; have hcz142_0 : w132.cell? ⟨gb409, 0, none⟩ = some (.string t404) := (kc_ BK409.out 0).trans rfl; have hcz142_1 : w132.cell? ⟨gb409, 1, none⟩ = some (.string t405) := (kc_ BK409.out 1).trans rfl; have hcz142_2 : w132.cell? ⟨gb409, 2, none⟩ = some (.int .i64 t406) := (kc_ BK409.out 2).trans rfl; have hfz142_0 := kf_ BK409.out 0; have hfz142_1 := kf_ BK409.out 1; have hfz142_2 := kf_ BK409.out 2) | ((with_reducible refine gc_ (f := 30) rfl ?_); refine goesL_ (some 116) rfl rfl Tryd.func30 (by kernel_rfl) rfl #[.agg #[.string t404, .string t405, .int .i64 t406]] rfl (by (try simp only [ma_, mc_, mn_]); first | done | rfl | (simp only [ld_, lt_]; rfl)) ?_; (with_reducible refine (impl_LogRecords.calls kj14 t404 t405 t406 t435 t438 _ (by first | exact TabOK.below HG0.out (by repeat (with_reducible first | exact HB.out | apply ba_ | apply bn_ | apply bd_ | refine bs_ ?_ GE382.out | refine bs_ ?_ GE389.out | refine bs_ ?_ GE400.out | refine bs_ ?_ GE409.out | refine bs_ ?_ GE410.out | refine bs_ ?_ GE415.out | refine bs_ ?_ GE420.out | refine bs_ ?_ GE429.out | refine bs_ ?_ GE434.out)) | (repeat (first | exact HG0.out | apply TabOK.drew | apply TabOK.drewN)) | exact TabOK.drawn HG0.out (by assumption)) A110.out).mono ?_); rintro e w143 ⟨v436, rfl, ho0, hb⟩; refine ⟨_, rfl, ?_⟩; have HO437 := A0_ (Kd.R_lower (Kd.R_newB (Kd.R_newB (Kd.R_newB ho0 (g := gb382) (o := .cells #[.string t380, .string t381] 27 (0, 0)) (by (with_reducible repeat (first | apply kn_ | apply kd_ | apply ka_)); refine blk_far ?_ NB382_434.out _; (with_reducible repeat (first | apply kn_ | apply kd_ | apply ka_)); refine blk_far ?_ NB382_434.out _; (with_reducible repeat (first | apply kn_ | apply kd_ | apply ka_)); refine blk_far ?_ NB382_434.out _; (with_reducible repeat (first | apply kn_ | apply kd_ | apply ka_)); exact BK382.out)) (g := gb389) (o := .cells #[.string t387, .string t388] 27 (0, 0)) (by (with_reducible repeat (first | apply kn_ | apply kd_ | apply ka_)); refine blk_far ?_ NB389_434.out _; (with_reducible repeat (first | apply kn_ | apply kd_ | apply ka_)); refine blk_far ?_ NB389_434.out _; (with_reducible repeat (first | apply kn_ | apply kd_ | apply ka_)); refine blk_far ?_ NB389_434.out _; (with_reducible repeat (first | apply kn_ | apply kd_ | apply ka_)); exact BK389.out)) (g := gb410) (o := .cells #[.string t407, .string t408] 27 (0, 0)) (by (with_reducible repeat (first | apply kn_ | apply kd_ | apply ka_)); refine blk_far ?_ NB410_434.out _; (with_reducible repeat (first | apply kn_ | apply kd_ | apply ka_)); refine blk_far ?_ NB410_434.out _; (with_reducible repeat (first | apply kn_ | apply kd_ | apply ka_)); refine blk_far ?_ NB410_434.out _; (with_reducible repeat (first | apply kn_ | apply kd_ | apply ka_)); exact BK410.out)) (bz_ (by repeat (with_reducible first | exact HB.out | apply ba_ | apply bn_ | apply bd_ | refine bs_ ?_ GE382.out | refine bs_ ?_ GE389.out | refine bs_ ?_ GE400.out | refine bs_ ?_ GE409.out | refine bs_ ?_ GE410.out | refine bs_ ?_ GE415.out | refine bs_ ?_ GE420.out | refine bs_ ?_ GE429.out | refine bs_ ?_ GE434.out)))); replace BK382 := A0_ (kb_ (g := gb382) (o := .cells #[.string t380, .string t381] 27 (0, 0)) (by (with_reducible repeat (first | apply kn_ | apply kd_ | apply ka_)); refine blk_far ?_ NB382_434.out _; (with_reducible repeat (first | apply kn_ | apply kd_ | apply ka_)); refine blk_far ?_ NB382_434.out _; (with_reducible repeat (first | apply kn_ | apply kd_ | apply ka_)); refine blk_far ?_ NB382_434.out _; (with_reducible repeat (first | apply kn_ | apply kd_ | apply ka_)); exact BK382.out) hb); replace BK389 := A0_ (kb_ (g := gb389) (o := .cells #[.string t387, .string t388] 27 (0, 0)) (by (with_reducible repeat (first | apply kn_ | apply kd_ | apply ka_)); refine blk_far ?_ NB389_434.out _; (with_reducible repeat (first | apply kn_ | apply kd_ | apply ka_)); refine blk_far ?_ NB389_434.out _; (with_reducible repeat (first | apply kn_ | apply kd_ | apply ka_)); refine blk_far ?_ NB389_434.out _; (with_reducible repeat (first | apply kn_ | apply kd_ | apply ka_)); exact BK389.out) hb); replace BK400 := A0_ (kb_ (g := gb400) (o := .cells #[.string t397, .string t398, .int .i64 t399] 31 (0, 0)) (by (with_reducible repeat (first | apply kn_ | apply kd_ | apply ka_)); refine blk_far ?_ NB400_434.out _; (with_reducible repeat (first | apply kn_ | apply kd_ | apply ka_)); refine blk_far ?_ NB400_434.out _; (with_reducible repeat (first | apply kn_ | apply kd_ | apply ka_)); refine blk_far ?_ NB400_434.out _; (with_reducible repeat (first | apply kn_ | apply kd_ | apply ka_)); exact BK400.out) hb); replace BK409 := A0_ (kb_ (g := gb409) (o := .cells #[.string t404, .string t405, .int .i64 t406] 31 (0, 0)) (by (with_reducible repeat (first | apply kn_ | apply kd_ | apply ka_)); refine blk_far ?_ NB409_434.out _; (with_reducible repeat (first | apply kn_ | apply kd_ | apply ka_)); refine blk_far ?_ NB409_434.out _; (with_reducible repeat (first | apply kn_ | apply kd_ | apply ka_)); refine blk_far ?_ NB409_434.out _; (with_reducible repeat (first | apply kn_ | apply kd_ | apply ka_)); exact BK409.out) hb); replace BK410 := A0_ (kb_ (g := gb410) (o := .cells #[.string t407, .string t408] 27 (0, 0)) (by (with_reducible repeat (first | apply kn_ | apply kd_ | apply ka_)); refine blk_far ?_ NB410_434.out _; (with_reducible repeat (first | apply kn_ | apply kd_ | apply ka_)); refine blk_far ?_ NB410_434.out _; (with_reducible repeat (first | apply kn_ | apply kd_ | apply ka_)); refine blk_far ?_ NB410_434.out _; (with_reducible repeat (first | apply kn_ | apply kd_ | apply ka_)); exact BK410.out) hb); replace BK415 := A0_ (kb_ (g := gb415) (o := .cells #[.string t411, .string t412, .int .i64 t413] 31 (0, 0)) (by (with_reducible repeat (first | apply kn_ | apply kd_ | apply ka_)); refine blk_far ?_ NB415_434.out _; (with_reducible repeat (first | apply kn_ | apply kd_ | apply ka_)); refine blk_far ?_ NB415_434.out _; (with_reducible repeat (first | apply kn_ | apply kd_ | apply ka_)); refine blk_far ?_ NB415_434.out _; (with_reducible repeat (first | apply kn_ | apply kd_ | apply ka_)); exact BK415.out) hb); replace BK420 := A0_ (kb_ (g := gb420) (o := .cells #[.string t416, .string t417, .int .i64 t418] 31 (0, 0)) (by (with_reducible repeat (first | apply kn_ | apply kd_ | apply ka_)); refine blk_far ?_ NB420_434.out _; (with_reducible repeat (first | apply kn_ | apply kd_ | apply ka_)); refine blk_far ?_ NB420_434.out _; (with_reducible repeat (first | apply kn_ | apply kd_ | apply ka_)); refine blk_far ?_ NB420_434.out _; (with_reducible repeat (first | apply kn_ | apply kd_ | apply ka_)); exact BK420.out) hb); replace BK429 := A0_ (kb_ (g := gb429) (o := .cells #[.string t425, .string t426, .int .i64 t427] 31 (0, 0)) (by (with_reducible repeat (first | apply kn_ | apply kd_ | apply ka_)); refine blk_far ?_ NB429_434.out _; (with_reducible repeat (first | apply kn_ | apply kd_ | apply ka_)); refine blk_far ?_ NB429_434.out _; (with_reducible repeat (first | apply kn_ | apply kd_ | apply ka_)); refine blk_far ?_ NB429_434.out _; (with_reducible repeat (first | apply kn_ | apply kd_ | apply ka_)); exact BK429.out) hb); replace BK434 := A0_ (kb_ (g := gb434) (o := .cells #[.string t430, .string t431, .int .i64 t432] 31 (0, 0)) (by (with_reducible repeat (first | apply kn_ | apply kd_ | apply ka_)); refine blk_put (cs := #[.string t430, .string t431, .int .i64 0]) ?_ 2 _ rfl; (with_reducible repeat (first | apply kn_ | apply kd_ | apply ka_)); refine blk_put (cs := #[.string t430, .string (⟨#[]⟩ : ByteArray), .int .i64 0]) ?_ 1 _ rfl; (with_reducible repeat (first | apply kn_ | apply kd_ | apply ka_)); refine blk_put (cs := #[.string (⟨#[]⟩ : ByteArray), .string (⟨#[]⟩ : ByteArray), .int .i64 0]) ?_ 0 _ rfl; (with_reducible repeat (first | apply kn_ | apply kd_ | apply ka_)); exact BK434.out) hb); replace HB := A0_ (bt_ (by repeat (with_reducible first | exact HB.out | apply ba_ | apply bn_ | apply bd_ | refine bs_ ?_ GE382.out | refine bs_ ?_ GE389.out | refine bs_ ?_ GE400.out | refine bs_ ?_ GE409.out | refine bs_ ?_ GE410.out | refine bs_ ?_ GE415.out | refine bs_ ?_ GE420.out | refine bs_ ?_ GE429.out | refine bs_ ?_ GE434.out)) hb); (try clear hb); (try clear ho0); have hcz144_0 : w143.cell? ⟨gb409, 0, none⟩ = some (.string t404) := (kc_ BK409.out 0).trans rfl; have hcz144_1 : w143.cell? ⟨gb409, 1, none⟩ = some (.string t405) := (kc_ BK409.out 1).trans rfl; have hcz144_2 : w143.cell? ⟨gb409, 2, none⟩ = some (.int .i64 t406) := (kc_ BK409.out 2).trans rfl; have hfz144_0 := kf_ BK409.out 0; have hfz144_1 := kf_ BK409.out 1; have hfz144_2 := kf_ BK409.out 2) | ((with_reducible refine gc_ (f := 29) rfl ?_); refine goesL_ (some 121) rfl rfl Tryd.func29 (by kernel_rfl) rfl #[.agg #[.string t404, .string t405, .int .i64 t406]] rfl (by (try simp only [ma_, mc_, mn_]); first | done | rfl | (simp only [ld_, lt_]; rfl)) ?_; (with_reducible refine (spec_LogRecords.calls kj14 t404 t405 t406 t439 t442 _ A111.out).mono ?_); rintro e w145 ⟨v440, rfl, ho0, hb⟩; refine ⟨_, rfl, ?_⟩; have HO441 := A0_ (Kd.R_lower (Kd.R_newB (Kd.R_newB (Kd.R_newB (Kd.R_new' ho0 (Kd.R_lt (by (with_reducible repeat (first | apply ra_ | apply rn_ | apply rd_)); exact HO437.out))) (g := gb382) (o := .cells #[.string t380, .string t381] 27 (0, 0)) (by (with_reducible repeat (first | apply kn_ | apply kd_ | apply ka_)); exact BK382.out)) (g := gb389) (o := .cells #[.string t387, .string t388] 27 (0, 0)) (by (with_reducible repeat (first | apply kn_ | apply kd_ | apply ka_)); exact BK389.out)) (g := gb410) (o := .cells #[.string t407, .string t408] 27 (0, 0)) (by (with_reducible repeat (first | apply kn_ | apply kd_ | apply ka_)); exact BK410.out)) (bz_ (by repeat (with_reducible first | exact HB.out | apply ba_ | apply bn_ | apply bd_ | refine bs_ ?_ GE382.out | refine bs_ ?_ GE389.out | refine bs_ ?_ GE400.out | refine bs_ ?_ GE409.out | refine bs_ ?_ GE410.out | refine bs_ ?_ GE415.out | refine bs_ ?_ GE420.out | refine bs_ ?_ GE429.out | refine bs_ ?_ GE434.out)))); replace HO437 := A0_ (Kd.R_elder' (by (with_reducible repeat (first | apply ra_ | apply rn_ | apply rd_)); exact HO437.out) (Kd.R_base ho0) hb); replace BK382 := A0_ (kb_ (g := gb382) (o := .cells #[.string t380, .string t381] 27 (0, 0)) (by (with_reducible repeat (first | apply kn_ | apply kd_ | apply ka_)); exact BK382.out) hb); replace BK389 := A0_ (kb_ (g := gb389) (o := .cells #[.string t387, .string t388] 27 (0, 0)) (by (with_reducible repeat (first | apply kn_ | apply kd_ | apply ka_)); exact BK389.out) hb); replace BK400 := A0_ (kb_ (g := gb400) (o := .cells #[.string t397, .string t398, .int .i64 t399] 31 (0, 0)) (by (with_reducible repeat (first | apply kn_ | apply kd_ | apply ka_)); exact BK400.out) hb); replace BK409 := A0_ (kb_ (g := gb409) (o := .cells #[.string t404, .string t405, .int .i64 t406] 31 (0, 0)) (by (with_reducible repeat (first | apply kn_ | apply kd_ | apply ka_)); exact BK409.out) hb); replace BK410 := A0_ (kb_ (g := gb410) (o := .cells #[.string t407, .string t408] 27 (0, 0)) (by (with_reducible repeat (first | apply kn_ | apply kd_ | apply ka_)); exact BK410.out) hb); replace BK415 := A0_ (kb_ (g := gb415) (o := .cells #[.string t411, .string t412, .int .i64 t413] 31 (0, 0)) (by (with_reducible repeat (first | apply kn_ | apply kd_ | apply ka_)); exact BK415.out) hb); replace BK420 := A0_ (kb_ (g := gb420) (o := .cells #[.string t416, .string t417, .int .i64 t418] 31 (0, 0)) (by (with_reducible repeat (first | apply kn_ | apply kd_ | apply ka_)); exact BK420.out) hb); replace BK429 := A0_ (kb_ (g := gb429) (o := .cells #[.string t425, .string t426, .int .i64 t427] 31 (0, 0)) (by (with_reducible repeat (first | apply kn_ | apply kd_ | apply ka_)); exact BK429.out) hb); replace BK434 := A0_ (kb_ (g := gb434) (o := .cells #[.string t430, .string t431, .int .i64 t432] 31 (0, 0)) (by (with_reducible repeat (first | apply kn_ | apply kd_ | apply ka_)); exact BK434.out) hb); replace HB := A0_ (bt_ (by repeat (with_reducible first | exact HB.out | apply ba_ | apply bn_ | apply bd_ | refine bs_ ?_ GE382.out | refine bs_ ?_ GE389.out | refine bs_ ?_ GE400.out | refine bs_ ?_ GE409.out | refine bs_ ?_ GE410.out | refine bs_ ?_ GE415.out | refine bs_ ?_ GE420.out | refine bs_ ?_ GE429.out | refine bs_ ?_ GE434.out)) hb); (try clear hb); (try clear ho0)))
     (try simp only [Act.put, sa_, sz_, ss_])
     go_cut [142] (fun v142 wc => ∃ (kq : Nat) (x142_111 : Bool), v142 = .bool x142_111 ∧ Aside0 (laws_FnLogs.j1 kq t414 t428 t435 x142_111 t404 t405 t406 t407 t408 t411 t412 t413 t425 t426 t427 = some r) ∧ Aside0 (kq ≤ kj14) ∧ Aside0 (Kd.R k27 27 wc w.heap.size (fun k_ => k_ ≠ gb382 ∧ k_ ≠ gb389 ∧ k_ ≠ gb410) v436 t435) ∧ Aside0 (wc.heap[gb382]? = some (.cells #[.string t380, .string t381] 27 (0, 0))) ∧ Aside0 (wc.heap[gb389]? = some (.cells #[.string t387, .string t388] 27 (0, 0))) ∧ Aside0 (wc.heap[gb400]? = some (.cells #[.string t397, .string t398, .int .i64 t399] 31 (0, 0))) ∧ Aside0 (wc.heap[gb409]? = some (.cells #[.string t404, .string t405, .int .i64 t406] 31 (0, 0))) ∧ Aside0 (wc.heap[gb410]? = some (.cells #[.string t407, .string t408] 27 (0, 0))) ∧ Aside0 (wc.heap[gb415]? = some (.cells #[.string t411, .string t412, .int .i64 t413] 31 (0, 0))) ∧ Aside0 (wc.heap[gb420]? = some (.cells #[.string t416, .string t417, .int .i64 t418] 31 (0, 0))) ∧ Aside0 (wc.heap[gb429]? = some (.cells #[.string t425, .string t426, .int .i64 t427] 31 (0, 0))) ∧ Aside0 (wc.heap[gb434]? = some (.cells #[.string t430, .string t431, .int .i64 t432] 31 (0, 0))) ∧ Aside0 (Below w.heap.size w wc))
     case first =>
      have H := HC112.out
      clear HC112
      by_cases c146 : (!(t425.toList == t430.toList) || (!(t426.toList == t431.toList) || (!(t427 == t432)))) = true
      ·rw [if_pos c146] at H
       exact absurd H (by simp)
      ·rw [if_neg c146] at H
       have c146b0 : (!(t425.toList == t430.toList) || (!(t426.toList == t431.toList) || (!(t427 == t432)))) = false := by simpa using c146
       clear c146
       (first | rw [c146b0] | (simp only [i64_w, i32_w]; rw [c146b0]) | skip)
       by_cases c164 : (t428 != t433) = true
       ·rw [if_pos c164] at H
        exact absurd H (by simp)
       ·rw [if_neg c164] at H
        have c164b0 : (t428 != t433) = false := by simpa using c164
        (try (have c164b1 : decide (t428 = t433) = true := by simpa using c164))
        (try (have c164b2 : (t428 == t433) = true := by simpa using c164))
        clear c164
        by_cases c182 : (t438 != t442) = true
        ·rw [if_pos c182] at H
         exact absurd H (by simp)
        ·rw [if_neg c182] at H
         have c182b0 : (t438 != t442) = false := by simpa using c182
         (try (have c182b1 : decide (t438 = t442) = true := by simpa using c182))
         (try (have c182b2 : (t438 == t442) = true := by simpa using c182))
         clear c182
         replace H := ob_.mp H
         obtain ⟨t443, A2000, H⟩ := H
         have A200 := A0_ A2000
         clear A2000
         have H' := A0_ H
         clear H
         have hnb201 := NB429_382.out
         have hnc201 := NB382_429.out
         have hnb202 := NB429_389.out
         have hnc202 := NB389_429.out
         have hnb203 := NB429_400.out
         have hnc203 := NB400_429.out
         have hnb204 := NB429_409.out
         have hnc204 := NB409_429.out
         have hnb205 := NB429_410.out
         have hnc205 := NB410_429.out
         have hnb206 := NB429_415.out
         have hnc206 := NB415_429.out
         have hnb207 := NB429_420.out
         have hnc207 := NB420_429.out
         have hnb208 := NB429_434.out
         have hnc208 := NB434_429.out
         have hcz209_0 : w145.cell? ⟨gb429, 0, none⟩ = some (.string t425) := (kc_ BK429.out 0).trans rfl
         have hcz209_1 : w145.cell? ⟨gb429, 1, none⟩ = some (.string t426) := (kc_ BK429.out 1).trans rfl
         have hcz209_2 : w145.cell? ⟨gb429, 2, none⟩ = some (.int .i64 t427) := (kc_ BK429.out 2).trans rfl
         have hfz209_0 := kf_ BK429.out 0
         have hfz209_1 := kf_ BK429.out 1
         have hfz209_2 := kf_ BK429.out 2
         have hnb210 := NB434_382.out
         have hnc210 := NB382_434.out
         have hnb211 := NB434_389.out
         have hnc211 := NB389_434.out
         have hnb212 := NB434_400.out
         have hnc212 := NB400_434.out
         have hnb213 := NB434_409.out
         have hnc213 := NB409_434.out
         have hnb214 := NB434_410.out
         have hnc214 := NB410_434.out
         have hnb215 := NB434_415.out
         have hnc215 := NB415_434.out
         have hnb216 := NB434_420.out
         have hnc216 := NB420_434.out
         have hcz217_0 : w145.cell? ⟨gb434, 0, none⟩ = some (.string t430) := (kc_ BK434.out 0).trans rfl
         have hcz217_1 : w145.cell? ⟨gb434, 1, none⟩ = some (.string t431) := (kc_ BK434.out 1).trans rfl
         have hcz217_2 : w145.cell? ⟨gb434, 2, none⟩ = some (.int .i64 t432) := (kc_ BK434.out 2).trans rfl
         have hfz217_0 := kf_ BK434.out 0
         have hfz217_1 := kf_ BK434.out 1
         have hfz217_2 := kf_ BK434.out 2
         obtain ⟨Ao218, co218, eo218⟩ := Kd.R_slice HO437.out
         subst eo218
         obtain ⟨Ao219, co219, eo219⟩ := Kd.R_slice HO441.out
         subst eo219
         go_wp2_with (first | (go_at_call 42; (with_reducible refine (laws_vRecords.calls kj14 _ _ t435 _ _ t439 t443 _ ?side1 ?side2 ?side3 ?side4 A200.out).mono ?_); (case side1 => repeat (first | exact (rr_ HO437.out).2.2 | (with_reducible refine ca_ ?_ _) | (with_reducible refine cn_ ?_ _) | (with_reducible refine cd_ ?_))); (case side2 => exact (rr_ HO437.out).2.1); (case side3 => repeat (first | exact (rr_ HO441.out).2.2 | (with_reducible refine ca_ ?_ _) | (with_reducible refine cn_ ?_ _) | (with_reducible refine cd_ ?_))); (case side4 => exact (rr_ HO441.out).2.1); rintro e w' ⟨rfl, ⟨nd, rfl⟩⟩))
         go_meet
         case rel => exact ⟨_, (!t443), (by first | rfl | (simp [*]; done)), H', ⟨by have := HJ14.out; first | omega | exact Nat.le_refl _⟩, ⟨by (with_reducible repeat (first | apply ra_ | apply rn_ | apply rd_)); exact Kd.R_mono HO437.out (fun _ hk => ⟨hk.1.1.1.2, ⟨hk.1.1.2, hk.1.2⟩⟩)⟩, ⟨by (with_reducible repeat (first | apply kn_ | apply kd_ | apply ka_)); exact BK382.out⟩, ⟨by (with_reducible repeat (first | apply kn_ | apply kd_ | apply ka_)); exact BK389.out⟩, ⟨by (with_reducible repeat (first | apply kn_ | apply kd_ | apply ka_)); exact BK400.out⟩, ⟨by (with_reducible repeat (first | apply kn_ | apply kd_ | apply ka_)); exact BK409.out⟩, ⟨by (with_reducible repeat (first | apply kn_ | apply kd_ | apply ka_)); exact BK410.out⟩, ⟨by (with_reducible repeat (first | apply kn_ | apply kd_ | apply ka_)); exact BK415.out⟩, ⟨by (with_reducible repeat (first | apply kn_ | apply kd_ | apply ka_)); exact BK420.out⟩, ⟨by (with_reducible repeat (first | apply kn_ | apply kd_ | apply ka_)); exact BK429.out⟩, ⟨by (with_reducible repeat (first | apply kn_ | apply kd_ | apply ka_)); exact BK434.out⟩, ⟨by repeat (with_reducible first | exact HB.out | apply ba_ | apply bn_ | apply bd_ | refine bs_ ?_ GE382.out | refine bs_ ?_ GE389.out | refine bs_ ?_ GE400.out | refine bs_ ?_ GE409.out | refine bs_ ?_ GE410.out | refine bs_ ?_ GE415.out | refine bs_ ?_ GE420.out | refine bs_ ?_ GE429.out | refine bs_ ?_ GE434.out)⟩⟩
     case rest =>
      clear HC112
      try clear c1
      try clear c2
      try clear p2
      try clear c3
      try clear c4
      try clear c7
      try clear c10
      try clear c11
      try clear c12
      try clear c13
      try clear c14
      try clear c15
      try clear c16
      try clear c17
      try clear c18
      try clear c19
      try clear c20
      try clear c21
      try clear c22
      try clear c25
      try clear c26
      try clear c29
      try clear c30
      try clear c40
      try clear c41
      try clear c75
      try clear c75b0
      try clear c75b1
      try clear c107
      try clear c113
      try clear c114
      try clear c115
      try clear c116
      try clear c117
      try clear c118
      try clear c122
      try clear c123
      try clear c124
      try clear c125
      try clear c126
      try clear c127
      try clear c128
      try clear c133
      try clear c134
      try clear c135
      try clear c136
      try clear c137
      try clear c138
      try clear c139
      try clear c140
      try clear c146
      try clear c146b0
      try clear c147
      try clear c148
      try clear c149
      try clear c150
      try clear c151
      try clear c152
      try clear c153
      try clear c154
      try clear c156
      try clear c157
      try clear c158
      try clear c159
      try clear c160
      try clear c161
      try clear c162
      try clear c164
      try clear c164b0
      try clear c164b1
      try clear c164b2
      try clear c165
      try clear c166
      try clear c167
      try clear c168
      try clear c169
      try clear c170
      try clear c171
      try clear c172
      try clear c174
      try clear c175
      try clear c176
      try clear c177
      try clear c178
      try clear c179
      try clear c180
      try clear c182
      try clear c182b0
      try clear c182b1
      try clear c182b2
      try clear c183
      try clear c184
      try clear c185
      try clear c186
      try clear c187
      try clear c188
      try clear c189
      try clear c190
      try clear c192
      try clear c193
      try clear c194
      try clear c195
      try clear c196
      try clear c197
      try clear c198
      try clear c201
      try clear c202
      try clear c203
      try clear c204
      try clear c205
      try clear c206
      try clear c207
      try clear c208
      try clear c210
      try clear c211
      try clear c212
      try clear c213
      try clear c214
      try clear c215
      try clear c216
      try clear hcz119_0
      try clear hcz119_1
      try clear hcz119_2
      try clear hcz129_0
      try clear hcz129_1
      try clear hcz129_2
      try clear hcz130_0
      try clear hcz130_1
      try clear hcz130_2
      try clear hcz141_0
      try clear hcz141_1
      try clear hcz141_2
      try clear hcz142_0
      try clear hcz142_1
      try clear hcz142_2
      try clear hcz144_0
      try clear hcz144_1
      try clear hcz144_2
      try clear hcz155_0
      try clear hcz155_1
      try clear hcz155_2
      try clear hcz163_0
      try clear hcz163_1
      try clear hcz163_2
      try clear hcz173_0
      try clear hcz173_1
      try clear hcz173_2
      try clear hcz181_0
      try clear hcz181_1
      try clear hcz181_2
      try clear hcz191_0
      try clear hcz191_1
      try clear hcz191_2
      try clear hcz199_0
      try clear hcz199_1
      try clear hcz199_2
      try clear hcz209_0
      try clear hcz209_1
      try clear hcz209_2
      try clear hcz217_0
      try clear hcz217_1
      try clear hcz217_2
      try clear hfz119_0
      try clear hfz119_1
      try clear hfz119_2
      try clear hfz129_0
      try clear hfz129_1
      try clear hfz129_2
      try clear hfz130_0
      try clear hfz130_1
      try clear hfz130_2
      try clear hfz141_0
      try clear hfz141_1
      try clear hfz141_2
      try clear hfz142_0
      try clear hfz142_1
      try clear hfz142_2
      try clear hfz144_0
      try clear hfz144_1
      try clear hfz144_2
      try clear hfz155_0
      try clear hfz155_1
      try clear hfz155_2
      try clear hfz163_0
      try clear hfz163_1
      try clear hfz163_2
      try clear hfz173_0
      try clear hfz173_1
      try clear hfz173_2
      try clear hfz181_0
      try clear hfz181_1
      try clear hfz181_2
      try clear hfz191_0
      try clear hfz191_1
      try clear hfz191_2
      try clear hfz199_0
      try clear hfz199_1
      try clear hfz199_2
      try clear hfz209_0
      try clear hfz209_1
      try clear hfz209_2
      try clear hfz217_0
      try clear hfz217_1
      try clear hfz217_2
      try clear p2
      obtain ⟨kq, x142_111, rfl, HA, HJ111, HO_21, BK382, BK389, BK400, BK409, BK410, BK415, BK420, BK429, BK434, HB⟩ := hcut
      cases kq with
      | zero => exact absurd HA.out (by simp [laws_FnLogs.j1])
      | succ kj111 =>
       have H := HA.out
       clear HA
       simp only [laws_FnLogs.j1] at H
       by_cases c220 : x142_111 = true
       ·subst c220
        have H1 : (none) = some r := by rw [if_pos rfl] at H; exact H
        exact absurd H1 (by simp)
       ·replace c220 := bf_.mpr c220
        subst c220
        rw [if_neg (show ¬ (false = true) by decide)] at H
        replace H := ob_.mp H
        obtain ⟨⟨t444, t447⟩, A2210, H⟩ := H
        have A221 := A0_ A2210
        clear A2210
        have HC222 := A0_ H
        clear H
        have hnb223 := NB429_382.out
        have hnc223 := NB382_429.out
        have hnb224 := NB429_389.out
        have hnc224 := NB389_429.out
        have hnb225 := NB429_400.out
        have hnc225 := NB400_429.out
        have hnb226 := NB429_409.out
        have hnc226 := NB409_429.out
        have hnb227 := NB429_410.out
        have hnc227 := NB410_429.out
        have hnb228 := NB429_415.out
        have hnc228 := NB415_429.out
        have hnb229 := NB429_420.out
        have hnc229 := NB420_429.out
        have hnb230 := NB429_434.out
        have hnc230 := NB434_429.out
        have hcz231_0 : wc.cell? ⟨gb429, 0, none⟩ = some (.string t425) := (kc_ BK429.out 0).trans rfl
        have hcz231_1 : wc.cell? ⟨gb429, 1, none⟩ = some (.string t426) := (kc_ BK429.out 1).trans rfl
        have hcz231_2 : wc.cell? ⟨gb429, 2, none⟩ = some (.int .i64 t427) := (kc_ BK429.out 2).trans rfl
        have hfz231_0 := kf_ BK429.out 0
        have hfz231_1 := kf_ BK429.out 1
        have hfz231_2 := kf_ BK429.out 2
        go_upto_region 20 with (first | ((with_reducible refine gc_ (f := 30) rfl ?_); refine goesL_ (some 145) rfl rfl Tryd.func30 (by kernel_rfl) rfl #[.agg #[.string t425, .string t426, .int .i64 t427]] rfl (by (try simp only [ma_, mc_, mn_]); first | done | rfl | (simp only [ld_, lt_]; rfl)) ?_; (with_reducible refine (impl_LogRecords.calls kj111 t425 t426 t427 t444 t447 _ (by first | exact TabOK.below HG0.out (by repeat (with_reducible first | exact HB.out | apply ba_ | apply bn_ | apply bd_ | refine bs_ ?_ GE382.out | refine bs_ ?_ GE389.out | refine bs_ ?_ GE400.out | refine bs_ ?_ GE409.out | refine bs_ ?_ GE410.out | refine bs_ ?_ GE415.out | refine bs_ ?_ GE420.out | refine bs_ ?_ GE429.out | refine bs_ ?_ GE434.out)) | (repeat (first | exact HG0.out | apply TabOK.drew | apply TabOK.drewN)) | exact TabOK.drawn HG0.out (by assumption)) A221.out).mono ?_); rintro e w232 ⟨v445, rfl, ho0, hb⟩; refine ⟨_, rfl, ?_⟩; have HO446 := A0_ (Kd.R_lower (Kd.R_newB (Kd.R_newB (Kd.R_newB (Kd.R_new' ho0 (Kd.R_lt (by (with_reducible repeat (first | apply ra_ | apply rn_ | apply rd_)); exact HO_21.out))) (g := gb382) (o := .cells #[.string t380, .string t381] 27 (0, 0)) (by (with_reducible repeat (first | apply kn_ | apply kd_ | apply ka_)); exact BK382.out)) (g := gb389) (o := .cells #[.string t387, .string t388] 27 (0, 0)) (by (with_reducible repeat (first | apply kn_ | apply kd_ | apply ka_)); exact BK389.out)) (g := gb410) (o := .cells #[.string t407, .string t408] 27 (0, 0)) (by (with_reducible repeat (first | apply kn_ | apply kd_ | apply ka_)); exact BK410.out)) (bz_ (by repeat (with_reducible first | exact HB.out | apply ba_ | apply bn_ | apply bd_ | refine bs_ ?_ GE382.out | refine bs_ ?_ GE389.out | refine bs_ ?_ GE400.out | refine bs_ ?_ GE409.out | refine bs_ ?_ GE410.out | refine bs_ ?_ GE415.out | refine bs_ ?_ GE420.out | refine bs_ ?_ GE429.out | refine bs_ ?_ GE434.out)))); replace HO_21 := A0_ (Kd.R_elder' (by (with_reducible repeat (first | apply ra_ | apply rn_ | apply rd_)); exact HO_21.out) (Kd.R_base ho0) hb); replace BK382 := A0_ (kb_ (g := gb382) (o := .cells #[.string t380, .string t381] 27 (0, 0)) (by (with_reducible repeat (first | apply kn_ | apply kd_ | apply ka_)); exact BK382.out) hb); replace BK389 := A0_ (kb_ (g := gb389) (o := .cells #[.string t387, .string t388] 27 (0, 0)) (by (with_reducible repeat (first | apply kn_ | apply kd_ | apply ka_)); exact BK389.out) hb); replace BK400 := A0_ (kb_ (g := gb400) (o := .cells #[.string t397, .string t398, .int .i64 t399] 31 (0, 0)) (by (with_reducible repeat (first | apply kn_ | apply kd_ | apply ka_)); exact BK400.out) hb); replace BK409 := A0_ (kb_ (g := gb409) (o := .cells #[.string t404, .string t405, .int .i64 t406] 31 (0, 0)) (by (with_reducible repeat (first | apply kn_ | apply kd_ | apply ka_)); exact BK409.out) hb); replace BK410 := A0_ (kb_ (g := gb410) (o := .cells #[.string t407, .string t408] 27 (0, 0)) (by (with_reducible repeat (first | apply kn_ | apply kd_ | apply ka_)); exact BK410.out) hb); replace BK415 := A0_ (kb_ (g := gb415) (o := .cells #[.string t411, .string t412, .int .i64 t413] 31 (0, 0)) (by (with_reducible repeat (first | apply kn_ | apply kd_ | apply ka_)); exact BK415.out) hb); replace BK420 := A0_ (kb_ (g := gb420) (o := .cells #[.string t416, .string t417, .int .i64 t418] 31 (0, 0)) (by (with_reducible repeat (first | apply kn_ | apply kd_ | apply ka_)); exact BK420.out) hb); replace BK429 := A0_ (kb_ (g := gb429) (o := .cells #[.string t425, .string t426, .int .i64 t427] 31 (0, 0)) (by (with_reducible repeat (first | apply kn_ | apply kd_ | apply ka_)); exact BK429.out) hb); replace BK434 := A0_ (kb_ (g := gb434) (o := .cells #[.string t430, .string t431, .int .i64 t432] 31 (0, 0)) (by (with_reducible repeat (first | apply kn_ | apply kd_ | apply ka_)); exact BK434.out) hb); replace HB := A0_ (bt_ (by repeat (with_reducible first | exact HB.out | apply ba_ | apply bn_ | apply bd_ | refine bs_ ?_ GE382.out | refine bs_ ?_ GE389.out | refine bs_ ?_ GE400.out | refine bs_ ?_ GE409.out | refine bs_ ?_ GE410.out | refine bs_ ?_ GE415.out | refine bs_ ?_ GE420.out | refine bs_ ?_ GE429.out | refine bs_ ?_ GE434.out)) hb); (try clear hb); (try clear ho0)))
        (try simp only [Act.put, sa_, sz_, ss_])
        go_cut [154] (fun v154 wc => ∃ (kq : Nat) (x154_221 : Bool), v154 = .bool x154_221 ∧ Aside0 (laws_FnLogs.j2 kq t414 t435 x154_221 t404 t405 t406 t407 t408 t411 t412 t413 = some r) ∧ Aside0 (kq ≤ kj111) ∧ Aside0 (Kd.R k27 27 wc w.heap.size (fun k_ => k_ ≠ gb382 ∧ k_ ≠ gb389 ∧ k_ ≠ gb410) v436 t435) ∧ Aside0 (wc.heap[gb382]? = some (.cells #[.string t380, .string t381] 27 (0, 0))) ∧ Aside0 (wc.heap[gb389]? = some (.cells #[.string t387, .string t388] 27 (0, 0))) ∧ Aside0 (wc.heap[gb400]? = some (.cells #[.string t397, .string t398, .int .i64 t399] 31 (0, 0))) ∧ Aside0 (wc.heap[gb409]? = some (.cells #[.string t404, .string t405, .int .i64 t406] 31 (0, 0))) ∧ Aside0 (wc.heap[gb410]? = some (.cells #[.string t407, .string t408] 27 (0, 0))) ∧ Aside0 (wc.heap[gb415]? = some (.cells #[.string t411, .string t412, .int .i64 t413] 31 (0, 0))) ∧ Aside0 (wc.heap[gb420]? = some (.cells #[.string t416, .string t417, .int .i64 t418] 31 (0, 0))) ∧ Aside0 (wc.heap[gb429]? = some (.cells #[.string t425, .string t426, .int .i64 t427] 31 (0, 0))) ∧ Aside0 (wc.heap[gb434]? = some (.cells #[.string t430, .string t431, .int .i64 t432] 31 (0, 0))) ∧ Aside0 (Below w.heap.size w wc))
        case first =>
         have H := HC222.out
         clear HC222
         by_cases c233 : t428 = true
         ·subst c233
          rw [if_pos rfl] at H
          replace H := ob_.mp H
          obtain ⟨t448, A2340, H⟩ := H
          have A234 := A0_ A2340
          clear A2340
          have H' := A0_ H
          clear H
          obtain ⟨Ao235, co235, eo235⟩ := Kd.R_slice HO446.out
          subst eo235
          obtain ⟨Ao236, co236, eo236⟩ := Kd.R_slice HO_21.out
          subst eo236
          go_wp2_with (first | (go_at_call 42; (with_reducible refine (laws_vRecords.calls kj111 _ _ t444 _ _ t435 t448 _ ?side1 ?side2 ?side3 ?side4 A234.out).mono ?_); (case side1 => repeat (first | exact (rr_ HO446.out).2.2 | (with_reducible refine ca_ ?_ _) | (with_reducible refine cn_ ?_ _) | (with_reducible refine cd_ ?_))); (case side2 => exact (rr_ HO446.out).2.1); (case side3 => repeat (first | exact (rr_ HO_21.out).2.2 | (with_reducible refine ca_ ?_ _) | (with_reducible refine cn_ ?_ _) | (with_reducible refine cd_ ?_))); (case side4 => exact (rr_ HO_21.out).2.1); rintro e w' ⟨rfl, ⟨nd, rfl⟩⟩))
          go_meet
          case rel => exact ⟨_, (!t448), (by first | rfl | (simp [*]; done)), H', ⟨by have := HJ14.out; have := HJ111.out; first | omega | exact Nat.le_refl _⟩, ⟨by (with_reducible repeat (first | apply ra_ | apply rn_ | apply rd_)); exact Kd.R_mono HO_21.out (fun _ hk => ⟨hk.1.1, ⟨hk.1.2.1, hk.1.2.2⟩⟩)⟩, ⟨by (with_reducible repeat (first | apply kn_ | apply kd_ | apply ka_)); exact BK382.out⟩, ⟨by (with_reducible repeat (first | apply kn_ | apply kd_ | apply ka_)); exact BK389.out⟩, ⟨by (with_reducible repeat (first | apply kn_ | apply kd_ | apply ka_)); exact BK400.out⟩, ⟨by (with_reducible repeat (first | apply kn_ | apply kd_ | apply ka_)); exact BK409.out⟩, ⟨by (with_reducible repeat (first | apply kn_ | apply kd_ | apply ka_)); exact BK410.out⟩, ⟨by (with_reducible repeat (first | apply kn_ | apply kd_ | apply ka_)); exact BK415.out⟩, ⟨by (with_reducible repeat (first | apply kn_ | apply kd_ | apply ka_)); exact BK420.out⟩, ⟨by (with_reducible repeat (first | apply kn_ | apply kd_ | apply ka_)); exact BK429.out⟩, ⟨by (with_reducible repeat (first | apply kn_ | apply kd_ | apply ka_)); exact BK434.out⟩, ⟨by repeat (with_reducible first | exact HB.out | apply ba_ | apply bn_ | apply bd_ | refine bs_ ?_ GE382.out | refine bs_ ?_ GE389.out | refine bs_ ?_ GE400.out | refine bs_ ?_ GE409.out | refine bs_ ?_ GE410.out | refine bs_ ?_ GE415.out | refine bs_ ?_ GE420.out | refine bs_ ?_ GE429.out | refine bs_ ?_ GE434.out)⟩⟩
         ·replace c233 := bf_.mpr c233
          subst c233
          rw [if_neg (show ¬ (false = true) by decide)] at H
          have H' := A0_ H
          clear H
          go_wp2
          go_meet
          case rel => exact ⟨_, (false), (by first | rfl | (simp [*]; done)), H', ⟨by have := HJ14.out; have := HJ111.out; first | omega | exact Nat.le_refl _⟩, ⟨by (with_reducible repeat (first | apply ra_ | apply rn_ | apply rd_)); exact Kd.R_mono HO_21.out (fun _ hk => ⟨hk.1.1, ⟨hk.1.2.1, hk.1.2.2⟩⟩)⟩, ⟨by (with_reducible repeat (first | apply kn_ | apply kd_ | apply ka_)); exact BK382.out⟩, ⟨by (with_reducible repeat (first | apply kn_ | apply kd_ | apply ka_)); exact BK389.out⟩, ⟨by (with_reducible repeat (first | apply kn_ | apply kd_ | apply ka_)); exact BK400.out⟩, ⟨by (with_reducible repeat (first | apply kn_ | apply kd_ | apply ka_)); exact BK409.out⟩, ⟨by (with_reducible repeat (first | apply kn_ | apply kd_ | apply ka_)); exact BK410.out⟩, ⟨by (with_reducible repeat (first | apply kn_ | apply kd_ | apply ka_)); exact BK415.out⟩, ⟨by (with_reducible repeat (first | apply kn_ | apply kd_ | apply ka_)); exact BK420.out⟩, ⟨by (with_reducible repeat (first | apply kn_ | apply kd_ | apply ka_)); exact BK429.out⟩, ⟨by (with_reducible repeat (first | apply kn_ | apply kd_ | apply ka_)); exact BK434.out⟩, ⟨by repeat (with_reducible first | exact HB.out | apply ba_ | apply bn_ | apply bd_ | refine bs_ ?_ GE382.out | refine bs_ ?_ GE389.out | refine bs_ ?_ GE400.out | refine bs_ ?_ GE409.out | refine bs_ ?_ GE410.out | refine bs_ ?_ GE415.out | refine bs_ ?_ GE420.out | refine bs_ ?_ GE429.out | refine bs_ ?_ GE434.out)⟩⟩
        case rest =>
         clear HC222
         try clear c1
         try clear c2
         try clear p2
         try clear c3
         try clear c4
         try clear c7
         try clear c10
         try clear c11
         try clear c12
         try clear c13
         try clear c14
         try clear c15
         try clear c16
         try clear c17
         try clear c18
         try clear c19
         try clear c20
         try clear c21
         try clear c22
         try clear c23
         try clear c25
         try clear c26
         try clear c29
         try clear c30
         try clear c40
         try clear c41
         try clear c75
         try clear c75b0
         try clear c75b1
         try clear c107
         try clear c113
         try clear c114
         try clear c115
         try clear c116
         try clear c117
         try clear c118
         try clear c122
         try clear c123
         try clear c124
         try clear c125
         try clear c126
         try clear c127
         try clear c128
         try clear c133
         try clear c134
         try clear c135
         try clear c136
         try clear c137
         try clear c138
         try clear c139
         try clear c140
         try clear c146
         try clear c146b0
         try clear c147
         try clear c148
         try clear c149
         try clear c150
         try clear c151
         try clear c152
         try clear c153
         try clear c154
         try clear c156
         try clear c157
         try clear c158
         try clear c159
         try clear c160
         try clear c161
         try clear c162
         try clear c164
         try clear c164b0
         try clear c164b1
         try clear c164b2
         try clear c165
         try clear c166
         try clear c167
         try clear c168
         try clear c169
         try clear c170
         try clear c171
         try clear c172
         try clear c174
         try clear c175
         try clear c176
         try clear c177
         try clear c178
         try clear c179
         try clear c180
         try clear c182
         try clear c182b0
         try clear c182b1
         try clear c182b2
         try clear c183
         try clear c184
         try clear c185
         try clear c186
         try clear c187
         try clear c188
         try clear c189
         try clear c190
         try clear c192
         try clear c193
         try clear c194
         try clear c195
         try clear c196
         try clear c197
         try clear c198
         try clear c201
         try clear c202
         try clear c203
         try clear c204
         try clear c205
         try clear c206
         try clear c207
         try clear c208
         try clear c210
         try clear c211
         try clear c212
         try clear c213
         try clear c214
         try clear c215
         try clear c216
         try clear c220
         try clear c223
         try clear c224
         try clear c225
         try clear c226
         try clear c227
         try clear c228
         try clear c229
         try clear c230
         try clear c233
         try clear hcz119_0
         try clear hcz119_1
         try clear hcz119_2
         try clear hcz129_0
         try clear hcz129_1
         try clear hcz129_2
         try clear hcz130_0
         try clear hcz130_1
         try clear hcz130_2
         try clear hcz141_0
         try clear hcz141_1
         try clear hcz141_2
         try clear hcz142_0
         try clear hcz142_1
         try clear hcz142_2
         try clear hcz144_0
         try clear hcz144_1
         try clear hcz144_2
         try clear hcz155_0
         try clear hcz155_1
         try clear hcz155_2
         try clear hcz163_0
         try clear hcz163_1
         try clear hcz163_2
         try clear hcz173_0
         try clear hcz173_1
         try clear hcz173_2
         try clear hcz181_0
         try clear hcz181_1
         try clear hcz181_2
         try clear hcz191_0
         try clear hcz191_1
         try clear hcz191_2
         try clear hcz199_0
         try clear hcz199_1
         try clear hcz199_2
         try clear hcz209_0
         try clear hcz209_1
         try clear hcz209_2
         try clear hcz217_0
         try clear hcz217_1
         try clear hcz217_2
         try clear hcz231_0
         try clear hcz231_1
         try clear hcz231_2
         try clear hfz119_0
         try clear hfz119_1
         try clear hfz119_2
         try clear hfz129_0
         try clear hfz129_1
         try clear hfz129_2
         try clear hfz130_0
         try clear hfz130_1
         try clear hfz130_2
         try clear hfz141_0
         try clear hfz141_1
         try clear hfz141_2
         try clear hfz142_0
         try clear hfz142_1
         try clear hfz142_2
         try clear hfz144_0
         try clear hfz144_1
         try clear hfz144_2
         try clear hfz155_0
         try clear hfz155_1
         try clear hfz155_2
         try clear hfz163_0
         try clear hfz163_1
         try clear hfz163_2
         try clear hfz173_0
         try clear hfz173_1
         try clear hfz173_2
         try clear hfz181_0
         try clear hfz181_1
         try clear hfz181_2
         try clear hfz191_0
         try clear hfz191_1
         try clear hfz191_2
         try clear hfz199_0
         try clear hfz199_1
         try clear hfz199_2
         try clear hfz209_0
         try clear hfz209_1
         try clear hfz209_2
         try clear hfz217_0
         try clear hfz217_1
         try clear hfz217_2
         try clear hfz231_0
         try clear hfz231_1
         try clear hfz231_2
         try clear p2
         obtain ⟨kq, x154_221, rfl, HA, HJ221, HO_21, BK382, BK389, BK400, BK409, BK410, BK415, BK420, BK429, BK434, HB⟩ := hcut
         cases kq with
         | zero => exact absurd HA.out (by simp [laws_FnLogs.j2])
         | succ kj221 =>
          have H := HA.out
          clear HA
          simp only [laws_FnLogs.j2] at H
          by_cases c237 : x154_221 = true
          ·subst c237
           have H1 : (none) = some r := by rw [if_pos rfl] at H; exact H
           exact absurd H1 (by simp)
          ·replace c237 := bf_.mpr c237
           subst c237
           rw [if_neg (show ¬ (false = true) by decide)] at H
           by_cases c238 : t414 = 0
           ·rw [if_pos c238] at H
            have c238b0 : (t414 == 0) = true := beq_iff_eq.mpr c238
            have c238b1 : (t414 != 0) = false := bne_eq_false_iff_eq.mpr c238
            clear c238
            replace H := ob_.mp H
            obtain ⟨⟨t449, t452⟩, A2390, H⟩ := H
            have A239 := A0_ A2390
            clear A2390
            replace H := ob_.mp H
            obtain ⟨t453, A2400, H⟩ := H
            have A240 := A0_ A2400
            clear A2400
            by_cases c241 : t453 = true
            ·subst c241
             rw [if_pos rfl] at H
             by_cases c242 : (t449.length : Int) = (wrap64 ((t435.length : Int) + 1))
             ·rw [if_pos c242] at H
              have c242b0 : ((t449.length : Int) == (wrap64 ((t435.length : Int) + 1))) = true := beq_iff_eq.mpr c242
              have c242b1 : ((t449.length : Int) != (wrap64 ((t435.length : Int) + 1))) = false := bne_eq_false_iff_eq.mpr c242
              clear c242
              by_cases c243 : 0 ≤ (t435.length : Int)
              ·rw [if_pos c243] at H
               have c243b0 := eq_true c243
               have c243b1 : decide (0 ≤ (t435.length : Int)) = true := dt_ c243
               clear c243
               by_cases c244 : (t435.length : Int) ≤ (t449.length : Int)
               ·rw [if_pos c244] at H
                have c244b0 := eq_true c244
                have c244b1 : decide ((t435.length : Int) ≤ (t449.length : Int)) = true := dt_ c244
                clear c244
                obtain ⟨y454, hy454⟩ : ∃ y_ : List (S27), y_ = (t449.take ((t435.length : Int) : Int).toNat) := ⟨_, rfl⟩
                replace H : ((laws_vRecords.f kj221 y454 t435).bind fun t458 => (if t458 = true then (if (t435.length : Int) < (t449.length : Int) then (some ((((rd_T27 t449 (t435.length : Int)).f0).toList) == t407.toList && ((((rd_T27 t449 (t435.length : Int)).f1).toList) == t408.toList))) else (none)) else (none))) = some r := by first | (rw [hy454]; with_reducible exact H) | (have H2_ := (Option.bind_some _ _).symm.trans H; rw [hy454]; with_reducible exact H2_) | (have H2_ := (Option.bind_some _ _).symm.trans H; with_reducible exact H2_) | with_reducible exact H | (rw [hy454]; exact H) | exact H
                have Ny454 := A0_ hy454
                clear hy454
                replace H := ob_.mp H
                obtain ⟨t458, A2450, H⟩ := H
                have A245 := A0_ A2450
                clear A2450
                by_cases c246 : t458 = true
                ·subst c246
                 rw [if_pos rfl] at H
                 by_cases c247 : (t435.length : Int) < (t449.length : Int)
                 ·rw [if_pos c247] at H
                  have c247b0 : decide ((t435.length : Int) < (t449.length : Int)) = true := dt_ c247
                  have c247b1 : decide (t435.length < t449.length) = true := dt_ (Int.ofNat_lt.mp c247)
                  clear c247
                  obtain rfl := si_ H
                  have hnb248 := NB415_382.out
                  have hnc248 := NB382_415.out
                  have hnb249 := NB415_389.out
                  have hnc249 := NB389_415.out
                  have hnb250 := NB415_400.out
                  have hnc250 := NB400_415.out
                  have hnb251 := NB415_409.out
                  have hnc251 := NB409_415.out
                  have hnb252 := NB415_410.out
                  have hnc252 := NB410_415.out
                  have hnb253 := NB415_420.out
                  have hnc253 := NB420_415.out
                  have hnb254 := NB415_429.out
                  have hnc254 := NB429_415.out
                  have hnb255 := NB415_434.out
                  have hnc255 := NB434_415.out
                  have hcz256_0 : wc.cell? ⟨gb415, 0, none⟩ = some (.string t411) := (kc_ BK415.out 0).trans rfl
                  have hcz256_1 : wc.cell? ⟨gb415, 1, none⟩ = some (.string t412) := (kc_ BK415.out 1).trans rfl
                  have hcz256_2 : wc.cell? ⟨gb415, 2, none⟩ = some (.int .i64 t413) := (kc_ BK415.out 2).trans rfl
                  have hfz256_0 := kf_ BK415.out 0
                  have hfz256_1 := kf_ BK415.out 1
                  have hfz256_2 := kf_ BK415.out 2
                  try go_wp2_with (first | ((with_reducible refine gc_ (f := 30) rfl ?_); refine goesL_ (some 162) rfl rfl Tryd.func30 (by kernel_rfl) rfl #[.agg #[.string t411, .string t412, .int .i64 t413]] rfl (by (try simp only [ma_, mc_, mn_]); first | done | rfl | (simp only [ld_, lt_]; rfl)) ?_; (with_reducible refine (impl_LogRecords.calls kj221 t411 t412 t413 t449 t452 _ (by first | exact TabOK.below HG0.out (by repeat (with_reducible first | exact HB.out | apply ba_ | apply bn_ | apply bd_ | refine bs_ ?_ GE382.out | refine bs_ ?_ GE389.out | refine bs_ ?_ GE400.out | refine bs_ ?_ GE409.out | refine bs_ ?_ GE410.out | refine bs_ ?_ GE415.out | refine bs_ ?_ GE420.out | refine bs_ ?_ GE429.out | refine bs_ ?_ GE434.out)) | (repeat (first | exact HG0.out | apply TabOK.drew | apply TabOK.drewN)) | exact TabOK.drawn HG0.out (by assumption)) A239.out).mono ?_); rintro e w257 ⟨v450, rfl, ho0, hb⟩; refine ⟨_, rfl, ?_⟩; have HO451 := A0_ (Kd.R_lower (Kd.R_newB (Kd.R_newB (Kd.R_newB (Kd.R_new' ho0 (Kd.R_lt (by (with_reducible repeat (first | apply ra_ | apply rn_ | apply rd_)); exact HO_21.out))) (g := gb382) (o := .cells #[.string t380, .string t381] 27 (0, 0)) (by (with_reducible repeat (first | apply kn_ | apply kd_ | apply ka_)); exact BK382.out)) (g := gb389) (o := .cells #[.string t387, .string t388] 27 (0, 0)) (by (with_reducible repeat (first | apply kn_ | apply kd_ | apply ka_)); exact BK389.out)) (g := gb410) (o := .cells #[.string t407, .string t408] 27 (0, 0)) (by (with_reducible repeat (first | apply kn_ | apply kd_ | apply ka_)); exact BK410.out)) (bz_ (by repeat (with_reducible first | exact HB.out | apply ba_ | apply bn_ | apply bd_ | refine bs_ ?_ GE382.out | refine bs_ ?_ GE389.out | refine bs_ ?_ GE400.out | refine bs_ ?_ GE409.out | refine bs_ ?_ GE410.out | refine bs_ ?_ GE415.out | refine bs_ ?_ GE420.out | refine bs_ ?_ GE429.out | refine bs_ ?_ GE434.out)))); replace HO_21 := A0_ (Kd.R_elder' (by (with_reducible repeat (first | apply ra_ | apply rn_ | apply rd_)); exact HO_21.out) (Kd.R_base ho0) hb); replace BK382 := A0_ (kb_ (g := gb382) (o := .cells #[.string t380, .string t381] 27 (0, 0)) (by (with_reducible repeat (first | apply kn_ | apply kd_ | apply ka_)); exact BK382.out) hb); replace BK389 := A0_ (kb_ (g := gb389) (o := .cells #[.string t387, .string t388] 27 (0, 0)) (by (with_reducible repeat (first | apply kn_ | apply kd_ | apply ka_)); exact BK389.out) hb); replace BK400 := A0_ (kb_ (g := gb400) (o := .cells #[.string t397, .string t398, .int .i64 t399] 31 (0, 0)) (by (with_reducible repeat (first | apply kn_ | apply kd_ | apply ka_)); exact BK400.out) hb); replace BK409 := A0_ (kb_ (g := gb409) (o := .cells #[.string t404, .string t405, .int .i64 t406] 31 (0, 0)) (by (with_reducible repeat (first | apply kn_ | apply kd_ | apply ka_)); exact BK409.out) hb); replace BK410 := A0_ (kb_ (g := gb410) (o := .cells #[.string t407, .string t408] 27 (0, 0)) (by (with_reducible repeat (first | apply kn_ | apply kd_ | apply ka_)); exact BK410.out) hb); replace BK415 := A0_ (kb_ (g := gb415) (o := .cells #[.string t411, .string t412, .int .i64 t413] 31 (0, 0)) (by (with_reducible repeat (first | apply kn_ | apply kd_ | apply ka_)); exact BK415.out) hb); replace BK420 := A0_ (kb_ (g := gb420) (o := .cells #[.string t416, .string t417, .int .i64 t418] 31 (0, 0)) (by (with_reducible repeat (first | apply kn_ | apply kd_ | apply ka_)); exact BK420.out) hb); replace BK429 := A0_ (kb_ (g := gb429) (o := .cells #[.string t425, .string t426, .int .i64 t427] 31 (0, 0)) (by (with_reducible repeat (first | apply kn_ | apply kd_ | apply ka_)); exact BK429.out) hb); replace BK434 := A0_ (kb_ (g := gb434) (o := .cells #[.string t430, .string t431, .int .i64 t432] 31 (0, 0)) (by (with_reducible repeat (first | apply kn_ | apply kd_ | apply ka_)); exact BK434.out) hb); replace HB := A0_ (bt_ (by repeat (with_reducible first | exact HB.out | apply ba_ | apply bn_ | apply bd_ | refine bs_ ?_ GE382.out | refine bs_ ?_ GE389.out | refine bs_ ?_ GE400.out | refine bs_ ?_ GE409.out | refine bs_ ?_ GE410.out | refine bs_ ?_ GE415.out | refine bs_ ?_ GE420.out | refine bs_ ?_ GE429.out | refine bs_ ?_ GE434.out)) hb); (try clear hb); (try clear ho0)))
                  replace HO_21 := A0_ (rd_ HO_21.out)
                  replace HO451 := A0_ (rd_ HO451.out)
                  replace BK382 := A0_ (kd_ BK382.out)
                  replace BK389 := A0_ (kd_ BK389.out)
                  replace BK400 := A0_ (kd_ BK400.out)
                  replace BK409 := A0_ (kd_ BK409.out)
                  replace BK410 := A0_ (kd_ BK410.out)
                  replace BK415 := A0_ (kd_ BK415.out)
                  replace BK420 := A0_ (kd_ BK420.out)
                  replace BK429 := A0_ (kd_ BK429.out)
                  replace BK434 := A0_ (kd_ BK434.out)
                  replace HB := A0_ (bd_ HB.out)
                  have p459 : 0 ≤ ((t435.length : Int) : Int) := od_ (by first | (with_reducible assumption) | assumption)
                  have q459 : (t435.length : Int) < (t449.length : Int) := od_ (by first | (with_reducible assumption) | assumption)
                  obtain ⟨Ao260, co260, eo260⟩ := Kd.R_slice HO451.out
                  (first | subst eo260 | (injection eo260 with f1_ f2_ f3_; have f4_ := f1_.symm; have f5_ := f3_.symm; clear f1_ f2_ f3_; subst f4_; subst f5_))
                  obtain ⟨ad459, e459, hx459_0, hx459_1⟩ := at_T27 (rr_ HO451.out).2.2 (t435.length : Int) p459 q459
                  cases e459
                  (try simp only [Go.IntWalk.toNatUp] at hx459_0)
                  (try simp only [Go.IntWalk.toNatUp] at hx459_1)
                  replace p459 := eq_true p459
                  replace q459 := eq_true q459
                  refine start_ (n := 28) (S := fun w' => w'.cell? ⟨gb415, 0, none⟩ = some (.string t411) ∧ w'.cell? ⟨gb415, 1, none⟩ = some (.string t412) ∧ w'.cell? ⟨gb415, 2, none⟩ = some (.int .i64 t413) ∧ w'.cell? ⟨gb410, 0, none⟩ = some (.string t407) ∧ w'.cell? ⟨gb410, 1, none⟩ = some (.string t408) ∧ w'.cell? (ad459.add (((t435.length : Int)).toNat * 2)) = some (.string ((rd_T27 t449 (t435.length : Int)).f0)) ∧ w'.cell? ⟨(ad459.add (((t435.length : Int)).toNat * 2)).block, (ad459.add (((t435.length : Int)).toNat * 2)).off + 1, none⟩ = some (.string ((rd_T27 t449 (t435.length : Int)).f1))) (ds := []) #[false, false, false, false, false, false, false, false, false, false, false, false, false, false, false, false, false, false, false, false, false, false, false, false, false, false, false, false] (by kernel_rfl) rfl rfl ⟨(kc_ BK415.out 0).trans rfl, (kc_ BK415.out 1).trans rfl, (kc_ BK415.out 2).trans rfl, (kc_ BK410.out 0).trans rfl, (kc_ BK410.out 1).trans rfl, hx459_0, hx459_1⟩ (fun hHeld => ?_); refine with_tabW laws_FnLogs.tab25 laws_FnLogs.bits25 (fun HT_ HW_ => ?_)
                  generalize w257.drew = w258 at HO_21 HO451 BK382 BK389 BK400 BK409 BK410 BK415 BK420 BK429 BK434 HB hx459_0 hx459_1 hHeld ⊢
                  refine take_ (i := 0) (N := some 165) (v := ?_) (a' := ?_) #[true, false, false, false, false, false, false, false, false, false, false, false, false, false, false, false, false, false, false, false, false, false, false, false, false, false, false, false] rfl rfl (take_ofW HT_.out HW_.out (by kernel_rfl)) (fun _ _ _ h => h) (Or.inl ⟨by rfl, ?_⟩) hHeld ?_ ?_
                  rotate_left
                  ·rintro w' ⟨s0, s1, s2, s3, s4, s5, s6⟩
                   (try simp only [Int.toNat_natCast] at s0 s1 s2 s3 s4 s5 s6)
                   go_simp
                   with_reducible rfl
                  rotate_left
                  ·simp only [Act.put, sa_, sz_, ss_, i64_w, i32_w]
                   rfl
                  refine one_ (i := 1) (N := some 166) #[true, true, false, false, false, false, false, false, false, false, false, false, false, false, false, false, false, false, false, false, false, false, false, false, false, false, false, false] rfl rfl (one_of HT_.out (by kernel_rfl)) (by decide) (fun K hK => ?_)
                  refine goes_ Tryd.func22 (by kernel_rfl) rfl #[.agg #[.string t411, .string t412, .int .i64 t413]] (by rfl) rfl rfl (by (try simp only [ma_, mc_, mn_]); first | done | rfl | (simp only [ld_, lt_]; rfl)) ?_
                  with_reducible refine (impl_IsValidLog.calls kj221 t411 t412 t413 true _ (by first | exact TabOK.below HG0.out (by repeat (with_reducible first | exact HB.out | apply ba_ | apply bn_ | apply bd_ | refine bs_ ?_ GE382.out | refine bs_ ?_ GE389.out | refine bs_ ?_ GE400.out | refine bs_ ?_ GE409.out | refine bs_ ?_ GE410.out | refine bs_ ?_ GE415.out | refine bs_ ?_ GE420.out | refine bs_ ?_ GE429.out | refine bs_ ?_ GE434.out)) | (repeat (first | exact HG0.out | apply TabOK.drew | apply TabOK.drewN)) | exact TabOK.drawn HG0.out (by assumption)) A240.out).mono ?_
                  rintro e w259 ⟨rfl, hb⟩
                  have HS5_ := (hb.cell (World.block_lt_of_cell? _ _ (hHeld.2.2.2.2.2.1))).trans (hHeld.2.2.2.2.2.1)
                  have HS6_ := (hb.cell (World.block_lt_of_cell? _ _ (hHeld.2.2.2.2.2.2))).trans (hHeld.2.2.2.2.2.2)
                  refine ⟨_, rfl, ?_⟩
                  replace HO_21 := A0_ (Kd.R_below (by (with_reducible repeat (first | apply ra_ | apply rn_ | apply rd_)); exact HO_21.out) hb)
                  replace HO451 := A0_ (Kd.R_below (by (with_reducible repeat (first | apply ra_ | apply rn_ | apply rd_)); exact HO451.out) hb)
                  replace BK382 := A0_ (kb_ (g := gb382) (o := .cells #[.string t380, .string t381] 27 (0, 0)) (by (with_reducible repeat (first | apply kn_ | apply kd_ | apply ka_)); exact BK382.out) hb)
                  replace BK389 := A0_ (kb_ (g := gb389) (o := .cells #[.string t387, .string t388] 27 (0, 0)) (by (with_reducible repeat (first | apply kn_ | apply kd_ | apply ka_)); exact BK389.out) hb)
                  replace BK400 := A0_ (kb_ (g := gb400) (o := .cells #[.string t397, .string t398, .int .i64 t399] 31 (0, 0)) (by (with_reducible repeat (first | apply kn_ | apply kd_ | apply ka_)); exact BK400.out) hb)
                  replace BK409 := A0_ (kb_ (g := gb409) (o := .cells #[.string t404, .string t405, .int .i64 t406] 31 (0, 0)) (by (with_reducible repeat (first | apply kn_ | apply kd_ | apply ka_)); exact BK409.out) hb)
                  replace BK410 := A0_ (kb_ (g := gb410) (o := .cells #[.string t407, .string t408] 27 (0, 0)) (by (with_reducible repeat (first | apply kn_ | apply kd_ | apply ka_)); exact BK410.out) hb)
                  replace BK415 := A0_ (kb_ (g := gb415) (o := .cells #[.string t411, .string t412, .int .i64 t413] 31 (0, 0)) (by (with_reducible repeat (first | apply kn_ | apply kd_ | apply ka_)); exact BK415.out) hb)
                  replace BK420 := A0_ (kb_ (g := gb420) (o := .cells #[.string t416, .string t417, .int .i64 t418] 31 (0, 0)) (by (with_reducible repeat (first | apply kn_ | apply kd_ | apply ka_)); exact BK420.out) hb)
                  replace BK429 := A0_ (kb_ (g := gb429) (o := .cells #[.string t425, .string t426, .int .i64 t427] 31 (0, 0)) (by (with_reducible repeat (first | apply kn_ | apply kd_ | apply ka_)); exact BK429.out) hb)
                  replace BK434 := A0_ (kb_ (g := gb434) (o := .cells #[.string t430, .string t431, .int .i64 t432] 31 (0, 0)) (by (with_reducible repeat (first | apply kn_ | apply kd_ | apply ka_)); exact BK434.out) hb)
                  replace HB := A0_ (bt_ (by repeat (with_reducible first | exact HB.out | apply ba_ | apply bn_ | apply bd_ | refine bs_ ?_ GE382.out | refine bs_ ?_ GE389.out | refine bs_ ?_ GE400.out | refine bs_ ?_ GE409.out | refine bs_ ?_ GE410.out | refine bs_ ?_ GE415.out | refine bs_ ?_ GE420.out | refine bs_ ?_ GE429.out | refine bs_ ?_ GE434.out)) hb)
                  (try clear hb)
                  (try clear hb2)
                  (try clear hk)
                  (try clear hi)
                  obtain ⟨Ao261, co261, eo261⟩ := Kd.R_slice HO_21.out
                  (first | subst eo261 | (injection eo261 with f1_ f2_ f3_; have f4_ := f1_.symm; have f5_ := f3_.symm; clear f1_ f2_ f3_; subst f4_; subst f5_))
                  have q262 : ((t435.length : Int) : Int) ≤ ((t449.length : Int) : Int) := od_ (by first | (with_reducible assumption) | assumption)
                  obtain ⟨i0262, hi0262, _, hsz262, _⟩ := info_parts info27
                  have hroom262 : t449.length ≤ co260 := (rr_ HO451.out).2.1
                  have hC262 : Kd.C k27 _ (some ad459) t449.length t449 := (rr_ HO451.out).2.2
                  have hcut262 := cut_to (P := Tryd.prog) 48 27 .i64 Tryd.underlying48 hi0262 (some ad459) t449.length co260 (t435.length : Int) (od_ (by first | (with_reducible assumption) | assumption)) q262 hroom262
                  have hr262 := Kd.C_take (m := ((t435.length : Int) : Int).toNat) hC262 (by omega)
                  have hy262 : y454.length = ((t435.length : Int) : Int).toNat := (by rw [Ny454.out, lt_]; omega)
                  rw [← Ny454.out] at hr262
                  rw [← hy262] at hcut262
                  have HR457 := A0_ hr262
                  have HC457 := A0_ (show y454.length ≤ co260 from by omega)
                  clear hr262 hC262 hroom262 hi0262 hsz262
                  have KY262 := A0_ hy262
                  clear hy262
                  have KL262 := A0_ (show ((t435.length : Int) : Int).toNat ≤ t449.length from by omega)
                  replace q262 := eq_true q262
                  refine hK.out _ _ ⟨(kc_ BK415.out 0).trans rfl, (kc_ BK415.out 1).trans rfl, (kc_ BK415.out 2).trans rfl, (kc_ BK410.out 0).trans rfl, (kc_ BK410.out 1).trans rfl, HS5_, HS6_⟩ (fun hHeld => ?_)
                  clear hK K
                  refine norm_ (a' := ?_) ?_ ?_
                  rotate_left
                  ·show Act.put _ (some 166) _ = _
                   simp only [Act.put, sa_, sz_, ss_, i64_w, i32_w]
                   rfl
                  refine pure_ (i := 2) (N := some 167) (v := ?_) (a' := ?_) #[true, true, true, false, false, false, false, false, false, false, false, false, false, false, false, false, false, false, false, false, false, false, false, false, false, false, false, false] rfl rfl (any_of HT_.out (by kernel_rfl)) (fun _ _ _ h => h) (Or.inl ⟨by rfl, ?_⟩) ?_ ?_
                  rotate_left
                  ·intro w'
                   go_simp
                   with_reducible rfl
                  rotate_left
                  ·simp only [Act.put, sa_, sz_, ss_, i64_w, i32_w]
                   rfl
                  refine pure_ (i := 3) (N := some 168) (v := ?_) (a' := ?_) #[true, true, true, true, false, false, false, false, false, false, false, false, false, false, false, false, false, false, false, false, false, false, false, false, false, false, false, false] rfl rfl (any_of HT_.out (by kernel_rfl)) (fun _ _ _ h => h) (Or.inl ⟨by rfl, ?_⟩) ?_ ?_
                  rotate_left
                  ·intro w'
                   go_simp
                   with_reducible rfl
                  rotate_left
                  ·simp only [Act.put, sa_, sz_, ss_, i64_w, i32_w]
                   rfl
                  refine pure_ (i := 4) (N := some 169) (v := ?_) (a' := ?_) #[true, true, true, true, true, false, false, false, false, false, false, false, false, false, false, false, false, false, false, false, false, false, false, false, false, false, false, false] rfl rfl (any_of HT_.out (by kernel_rfl)) (fun _ _ _ h => h) (Or.inl ⟨by rfl, ?_⟩) ?_ ?_
                  rotate_left
                  ·intro w'
                   go_simp
                   with_reducible rfl
                  rotate_left
                  ·simp only [Act.put, sa_, sz_, ss_, i64_w, i32_w]
                   rfl
                  refine pure_ (i := 5) (N := some 170) (v := ?_) (a' := ?_) #[true, true, true, true, true, true, false, false, false, false, false, false, false, false, false, false, false, false, false, false, false, false, false, false, false, false, false, false] rfl rfl (any_of HT_.out (by kernel_rfl)) (fun _ _ _ h => h) (Or.inl ⟨by rfl, ?_⟩) ?_ ?_
                  rotate_left
                  ·intro w'
                   go_simp
                   with_reducible rfl
                  rotate_left
                  ·simp only [Act.put, sa_, sz_, ss_, i64_w, i32_w]
                   rfl
                  refine pure_ (i := 6) (N := some 171) (v := ?_) (a' := ?_) #[true, true, true, true, true, true, true, false, false, false, false, false, false, false, false, false, false, false, false, false, false, false, false, false, false, false, false, false] rfl rfl (any_of HT_.out (by kernel_rfl)) (fun _ _ _ h => h) (Or.inl ⟨by rfl, ?_⟩) ?_ ?_
                  rotate_left
                  ·intro w'
                   go_simp
                   with_reducible rfl
                  rotate_left
                  ·simp only [Act.put, sa_, sz_, ss_, i64_w, i32_w]
                   rfl
                  refine pure_ (i := 7) (N := some 172) (v := ?_) (a' := ?_) #[true, true, true, true, true, true, true, true, false, false, false, false, false, false, false, false, false, false, false, false, false, false, false, false, false, false, false, false] rfl rfl (any_of HT_.out (by kernel_rfl)) (fun _ _ _ h => h) (Or.inl ⟨by rfl, ?_⟩) ?_ ?_
                  rotate_left
                  ·intro w'
                   go_simp
                   with_reducible rfl
                  rotate_left
                  ·simp only [Act.put, sa_, sz_, ss_, i64_w, i32_w]
                   rfl
                  refine pure_ (i := 8) (N := some 173) (v := ?_) (a' := ?_) #[true, true, true, true, true, true, true, true, true, false, false, false, false, false, false, false, false, false, false, false, false, false, false, false, false, false, false, false] rfl rfl (any_of HT_.out (by kernel_rfl)) (fun _ _ _ h => h) (Or.inl ⟨by rfl, ?_⟩) ?_ ?_
                  rotate_left
                  ·intro w'
                   go_simp
                   with_reducible rfl
                  rotate_left
                  ·simp only [Act.put, sa_, sz_, ss_, i64_w, i32_w]
                   rfl
                  refine pure_ (i := 9) (N := some 174) (v := ?_) (a' := ?_) #[true, true, true, true, true, true, true, true, true, true, false, false, false, false, false, false, false, false, false, false, false, false, false, false, false, false, false, false] rfl rfl (any_of HT_.out (by kernel_rfl)) (fun _ _ _ h => h) (Or.inl ⟨by rfl, ?_⟩) ?_ ?_
                  rotate_left
                  ·intro w'
                   go_simp
                   with_reducible rfl
                  rotate_left
                  ·simp only [Act.put, sa_, sz_, ss_, i64_w, i32_w]
                   rfl
                  refine pure_ (i := 10) (N := some 175) (v := ?_) (a' := ?_) #[true, true, true, true, true, true, true, true, true, true, true, false, false, false, false, false, false, false, false, false, false, false, false, false, false, false, false, false] rfl rfl (any_of HT_.out (by kernel_rfl)) (fun _ _ _ h => h) (Or.inl ⟨by rfl, ?_⟩) ?_ ?_
                  rotate_left
                  ·intro w'
                   go_simp
                   with_reducible rfl
                  rotate_left
                  ·simp only [Act.put, sa_, sz_, ss_, i64_w, i32_w]
                   rfl
                  refine pure_ (i := 11) (N := some 176) (v := ?_) (a' := ?_) #[true, true, true, true, true, true, true, true, true, true, true, true, false, false, false, false, false, false, false, false, false, false, false, false, false, false, false, false] rfl rfl (any_of HT_.out (by kernel_rfl)) (fun _ _ _ h => h) (Or.inl ⟨by rfl, ?_⟩) ?_ ?_
                  rotate_left
                  ·intro w'
                   go_simp
                   with_reducible rfl
                  rotate_left
                  ·simp only [Act.put, sa_, sz_, ss_, i64_w, i32_w]
                   rfl
                  refine pure_ (i := 12) (N := some 177) (v := ?_) (a' := ?_) #[true, true, true, true, true, true, true, true, true, true, true, true, true, false, false, false, false, false, false, false, false, false, false, false, false, false, false, false] rfl rfl (any_of HT_.out (by kernel_rfl)) (fun _ _ _ h => h) (Or.inl ⟨by rfl, ?_⟩) ?_ ?_
                  rotate_left
                  ·intro w'
                   go_simp
                   with_reducible rfl
                  rotate_left
                  ·simp only [Act.put, sa_, sz_, ss_, i64_w, i32_w]
                   rfl
                  refine pure_ (i := 13) (N := some 178) (v := ?_) (a' := ?_) #[true, true, true, true, true, true, true, true, true, true, true, true, true, true, false, false, false, false, false, false, false, false, false, false, false, false, false, false] rfl rfl (any_of HT_.out (by kernel_rfl)) (fun _ _ _ h => h) (Or.inl ⟨by rfl, ?_⟩) ?_ ?_
                  rotate_left
                  ·intro w'
                   go_simp
                   with_reducible rfl
                  rotate_left
                  ·simp only [Act.put, sa_, sz_, ss_, i64_w, i32_w]
                   rfl
                  refine pure_ (i := 14) (N := some 179) (v := ?_) (a' := ?_) #[true, true, true, true, true, true, true, true, true, true, true, true, true, true, true, false, false, false, false, false, false, false, false, false, false, false, false, false] rfl rfl (any_of HT_.out (by kernel_rfl)) (fun _ _ _ h => h) (Or.inl ⟨by rfl, ?_⟩) ?_ ?_
                  rotate_left
                  ·intro w'
                   go_simp
                   with_reducible rfl
                  rotate_left
                  ·simp only [Act.put, sa_, sz_, ss_, i64_w, i32_w]
                   rfl
                  refine pure_ (i := 15) (N := some 180) (v := ?_) (a' := ?_) #[true, true, true, true, true, true, true, true, true, true, true, true, true, true, true, true, false, false, false, false, false, false, false, false, false, false, false, false] rfl rfl (any_of HT_.out (by kernel_rfl)) (fun _ _ _ h => h) (Or.inl ⟨by rfl, ?_⟩) ?_ ?_
                  rotate_left
                  ·intro w'
                   go_simp
                   with_reducible rfl
                  rotate_left
                  ·simp only [Act.put, sa_, sz_, ss_, i64_w, i32_w]
                   rfl
                  refine one_ (i := 16) (N := some 181) #[true, true, true, true, true, true, true, true, true, true, true, true, true, true, true, true, true, false, false, false, false, false, false, false, false, false, false, false] rfl rfl (one_of HT_.out (by kernel_rfl)) (by decide) (fun K hK => ?_)
                  refine goes_ Tryd.func42 (by kernel_rfl) rfl #[.slice (some ad459) y454.length co260, .slice Ao261 t435.length co261] (by rfl) rfl rfl (by (try simp only [ma_, mc_, mn_]); first | done | rfl | (simp only [ld_, lt_]; rfl)) ?_
                  with_reducible refine (laws_vRecords.calls kj221 _ _ y454 _ _ t435 true _ ?side1 ?side2 ?side3 ?side4 A245.out).mono ?_
                  (case side1 => repeat (first | exact (by repeat (first | (with_reducible exact HR457.out) | (with_reducible refine ca_ ?_ _) | (with_reducible refine cn_ ?_ _) | (with_reducible refine cd_ ?_) | exact HR457.out)) | (with_reducible refine ca_ ?_ _) | (with_reducible refine cn_ ?_ _) | (with_reducible refine cd_ ?_)))
                  (case side2 => exact HC457.out)
                  (case side3 => repeat (first | exact (rr_ HO_21.out).2.2 | (with_reducible refine ca_ ?_ _) | (with_reducible refine cn_ ?_ _) | (with_reducible refine cd_ ?_)))
                  (case side4 => exact (rr_ HO_21.out).2.1)
                  rintro e w' ⟨rfl, ⟨nd, rfl⟩⟩
                  refine ⟨_, rfl, ?_⟩
                  refine hK.out _ _ ⟨(kc_ BK415.out 0).trans rfl, (kc_ BK415.out 1).trans rfl, (kc_ BK415.out 2).trans rfl, (kc_ BK410.out 0).trans rfl, (kc_ BK410.out 1).trans rfl, hHeld.2.2.2.2.2.1, hHeld.2.2.2.2.2.2⟩ (fun hHeld => ?_)
                  clear hK K
                  refine norm_ (a' := ?_) ?_ ?_
                  rotate_left
                  ·show Act.put _ (some 181) _ = _
                   simp only [Act.put, sa_, sz_, ss_, i64_w, i32_w]
                   rfl
                  refine pure_ (i := 17) (N := some 182) (v := ?_) (a' := ?_) #[true, true, true, true, true, true, true, true, true, true, true, true, true, true, true, true, true, true, false, false, false, false, false, false, false, false, false, false] rfl rfl (any_of HT_.out (by kernel_rfl)) (fun _ _ _ h => h) (Or.inl ⟨by rfl, ?_⟩) ?_ ?_
                  rotate_left
                  ·intro w'
                   go_simp
                   with_reducible rfl
                  rotate_left
                  ·simp only [Act.put, sa_, sz_, ss_, i64_w, i32_w]
                   rfl
                  refine pure_ (i := 18) (N := some 183) (v := ?_) (a' := ?_) #[true, true, true, true, true, true, true, true, true, true, true, true, true, true, true, true, true, true, true, false, false, false, false, false, false, false, false, false] rfl rfl (any_of HT_.out (by kernel_rfl)) (fun _ _ _ h => h) (Or.inl ⟨by rfl, ?_⟩) ?_ ?_
                  rotate_left
                  ·intro w'
                   go_simp
                   with_reducible rfl
                  rotate_left
                  ·simp only [Act.put, sa_, sz_, ss_, i64_w, i32_w]
                   rfl
                  refine pure_ (i := 19) (N := some 184) (v := ?_) (a' := ?_) #[true, true, true, true, true, true, true, true, true, true, true, true, true, true, true, true, true, true, true, true, false, false, false, false, false, false, false, false] rfl rfl (any_of HT_.out (by kernel_rfl)) (fun _ _ _ h => h) (Or.inl ⟨by rfl, ?_⟩) ?_ ?_
                  rotate_left
                  ·intro w'
                   go_simp
                   with_reducible rfl
                  rotate_left
                  ·simp only [Act.put, sa_, sz_, ss_, i64_w, i32_w]
                   rfl
                  refine pure_ (i := 20) (N := some 185) (v := ?_) (a' := ?_) #[true, true, true, true, true, true, true, true, true, true, true, true, true, true, true, true, true, true, true, true, true, false, false, false, false, false, false, false] rfl rfl (any_of HT_.out (by kernel_rfl)) (fun _ _ _ h => h) (Or.inl ⟨by rfl, ?_⟩) ?_ ?_
                  rotate_left
                  ·intro w'
                   go_simp
                   with_reducible rfl
                  rotate_left
                  ·simp only [Act.put, sa_, sz_, ss_, i64_w, i32_w]
                   rfl
                  refine pure_ (i := 21) (N := some 186) (v := ?_) (a' := ?_) #[true, true, true, true, true, true, true, true, true, true, true, true, true, true, true, true, true, true, true, true, true, true, false, false, false, false, false, false] rfl rfl (any_of HT_.out (by kernel_rfl)) (fun _ _ _ h => h) (Or.inl ⟨by rfl, ?_⟩) ?_ ?_
                  rotate_left
                  ·intro w'
                   go_simp
                   with_reducible rfl
                  rotate_left
                  ·simp only [Act.put, sa_, sz_, ss_, i64_w, i32_w]
                   rfl
                  refine pure_ (i := 22) (N := some 187) (v := ?_) (a' := ?_) #[true, true, true, true, true, true, true, true, true, true, true, true, true, true, true, true, true, true, true, true, true, true, true, false, false, false, false, false] rfl rfl (any_of HT_.out (by kernel_rfl)) (fun _ _ _ h => h) (Or.inl ⟨by rfl, ?_⟩) ?_ ?_
                  rotate_left
                  ·intro w'
                   go_simp
                   with_reducible rfl
                  rotate_left
                  ·simp only [Act.put, sa_, sz_, ss_, i64_w, i32_w]
                   rfl
                  refine take_ (i := 23) (N := some 188) (v := ?_) (a' := ?_) #[true, true, true, true, true, true, true, true, true, true, true, true, true, true, true, true, true, true, true, true, true, true, true, true, false, false, false, false] rfl rfl (take_ofW HT_.out HW_.out (by kernel_rfl)) (fun _ _ _ h => h) (Or.inl ⟨by rfl, ?_⟩) hHeld ?_ ?_
                  rotate_left
                  ·rintro w' ⟨s0, s1, s2, s3, s4, s5, s6⟩
                   (try simp only [Int.toNat_natCast] at s0 s1 s2 s3 s4 s5 s6)
                   go_simp
                   with_reducible rfl
                  rotate_left
                  ·simp only [Act.put, sa_, sz_, ss_, i64_w, i32_w]
                   rfl
                  refine take_ (i := 24) (N := some 189) (v := ?_) (a' := ?_) #[true, true, true, true, true, true, true, true, true, true, true, true, true, true, true, true, true, true, true, true, true, true, true, true, true, false, false, false] rfl rfl (take_ofW HT_.out HW_.out (by kernel_rfl)) (fun _ _ _ h => h) (Or.inl ⟨by rfl, ?_⟩) hHeld ?_ ?_
                  rotate_left
                  ·rintro w' ⟨s0, s1, s2, s3, s4, s5, s6⟩
                   (try simp only [Int.toNat_natCast] at s0 s1 s2 s3 s4 s5 s6)
                   go_simp
                   with_reducible rfl
                  rotate_left
                  ·simp only [Act.put, sa_, sz_, ss_, i64_w, i32_w]
                   rfl
                  refine pure_ (i := 25) (N := some 190) (v := ?_) (a' := ?_) #[true, true, true, true, true, true, true, true, true, true, true, true, true, true, true, true, true, true, true, true, true, true, true, true, true, true, false, false] rfl rfl (any_of HT_.out (by kernel_rfl)) (fun _ _ _ h => h) (Or.inl ⟨by rfl, ?_⟩) ?_ ?_
                  rotate_left
                  ·intro w'
                   go_simp
                   with_reducible rfl
                  rotate_left
                  ·simp only [Act.put, sa_, sz_, ss_, i64_w, i32_w]
                   rfl
                  refine pure_ (i := 26) (N := some 191) (v := ?_) (a' := ?_) #[true, true, true, true, true, true, true, true, true, true, true, true, true, true, true, true, true, true, true, true, true, true, true, true, true, true, true, false] rfl rfl (any_of HT_.out (by kernel_rfl)) (fun _ _ _ h => h) (Or.inl ⟨by rfl, ?_⟩) ?_ ?_
                  rotate_left
                  ·intro w'
                   go_simp
                   with_reducible rfl
                  rotate_left
                  ·simp only [Act.put, sa_, sz_, ss_, i64_w, i32_w]
                   rfl
                  refine pure_ (i := 27) (N := some 2) (v := ?_) (a' := ?_) #[true, true, true, true, true, true, true, true, true, true, true, true, true, true, true, true, true, true, true, true, true, true, true, true, true, true, true, true] rfl rfl (any_of HT_.out (by kernel_rfl)) (fun _ _ _ h => h) (Or.inl ⟨by rfl, ?_⟩) ?_ ?_
                  rotate_left
                  ·intro w'
                   go_simp
                   with_reducible rfl
                  rotate_left
                  ·simp only [Act.put, sa_, sz_, ss_, i64_w, i32_w]
                   rfl
                  refine done_ (done_of HT_.out (by kernel_rfl)) ?_
                  try go_wp2
                  go_ret
                  exact ⟨by first | rfl | (simp [*, errW_none, errW_some] <;> rfl), by repeat (with_reducible first | exact HB.out | apply ba_ | apply bn_ | apply bd_ | refine bs_ ?_ GE382.out | refine bs_ ?_ GE389.out | refine bs_ ?_ GE400.out | refine bs_ ?_ GE409.out | refine bs_ ?_ GE410.out | refine bs_ ?_ GE415.out | refine bs_ ?_ GE420.out | refine bs_ ?_ GE429.out | refine bs_ ?_ GE434.out)⟩
                 ·rw [if_neg c247] at H
                  exact absurd H (by simp)
                ·replace c246 := bf_.mpr c246
                 subst c246
                 have H1 : (none) = some r := by rw [if_neg (show ¬ (false = true) by decide)] at H; exact H
                 exact absurd H1 (by simp)
               ·rw [if_neg c244] at H
                exact absurd H (by simp)
              ·rw [if_neg c243] at H
               exact absurd H (by simp)
             ·rw [if_neg c242] at H
              exact absurd H (by simp)
            ·replace c241 := bf_.mpr c241
             subst c241
             have H1 : (none) = some r := by rw [if_neg (show ¬ (false = true) by decide)] at H; exact H
             exact absurd H1 (by simp)
           ·rw [if_neg c238] at H
            have c238b0 : (t414 == 0) = false := beq_eq_false_iff_ne.mpr c238
            have c238b1 : (t414 != 0) = true := bne_iff_ne.mpr c238
            obtain rfl := si_ H
            have hnb304 := NB415_382.out
            have hnc304 := NB382_415.out
            have hnb305 := NB415_389.out
            have hnc305 := NB389_415.out
            have hnb306 := NB415_400.out
            have hnc306 := NB400_415.out
            have hnb307 := NB415_409.out
            have hnc307 := NB409_415.out
            have hnb308 := NB415_410.out
            have hnc308 := NB410_415.out
            have hnb309 := NB415_420.out
            have hnc309 := NB420_415.out
            have hnb310 := NB415_429.out
            have hnc310 := NB429_415.out
            have hnb311 := NB415_434.out
            have hnc311 := NB434_415.out
            have hcz312_0 : wc.cell? ⟨gb415, 0, none⟩ = some (.string t411) := (kc_ BK415.out 0).trans rfl
            have hcz312_1 : wc.cell? ⟨gb415, 1, none⟩ = some (.string t412) := (kc_ BK415.out 1).trans rfl
            have hcz312_2 : wc.cell? ⟨gb415, 2, none⟩ = some (.int .i64 t413) := (kc_ BK415.out 2).trans rfl
            have hfz312_0 := kf_ BK415.out 0
            have hfz312_1 := kf_ BK415.out 1
            have hfz312_2 := kf_ BK415.out 2
            have hnb313 := NB409_382.out
            have hnc313 := NB382_409.out
            have hnb314 := NB409_389.out
            have hnc314 := NB389_409.out
            have hnb315 := NB409_400.out
            have hnc315 := NB400_409.out
            have hnb316 := NB409_410.out
            have hnc316 := NB410_409.out
            have hnb317 := NB409_420.out
            have hnc317 := NB420_409.out
            have hnb318 := NB409_429.out
            have hnc318 := NB429_409.out
            have hnb319 := NB409_434.out
            have hnc319 := NB434_409.out
            have hcz320_0 : wc.cell? ⟨gb409, 0, none⟩ = some (.string t404) := (kc_ BK409.out 0).trans rfl
            have hcz320_1 : wc.cell? ⟨gb409, 1, none⟩ = some (.string t405) := (kc_ BK409.out 1).trans rfl
            have hcz320_2 : wc.cell? ⟨gb409, 2, none⟩ = some (.int .i64 t406) := (kc_ BK409.out 2).trans rfl
            have hfz320_0 := kf_ BK409.out 0
            have hfz320_1 := kf_ BK409.out 1
            have hfz320_2 := kf_ BK409.out 2
            go_wp2
            go_ret
            exact ⟨by first | rfl | (simp [*, errW_none, errW_some] <;> rfl), by repeat (with_reducible first | exact HB.out | apply ba_ | apply bn_ | apply bd_ | refine bs_ ?_ GE382.out | refine bs_ ?_ GE389.out | refine bs_ ?_ GE400.out | refine bs_ ?_ GE409.out | refine bs_ ?_ GE410.out | refine bs_ ?_ GE415.out | refine bs_ ?_ GE420.out | refine bs_ ?_ GE429.out | refine bs_ ?_ GE434.out)⟩

/-- THE ONE PURE STATEMENT of laws_FnLogs: yours. -/
def laws_FnLogs.Pure : Prop := ∀ (l0 : List Int), l0.length ≤ maxLen → l0.length * 1 ≤ 140737488351232 → (∀ x ∈ l0, (Lit.int .u8 x).wf = true) → ∃ k, laws_FnLogs.f k l0 = some true
theorem laws_FnLogs.walk (P : laws_FnLogs.Pure) (a0 : Option Addr) (len0 cap0 : Nat) (z0 : List Int) (w : World) (hG : TabOK w) (w0 : (a0 = none ∧ len0 = 0 ∧ cap0 = 0 ∧ z0 = []) ∨ ∃ x, a0 = some x ∧ len0 ≤ cap0 ∧ cap0 ≤ maxLen ∧ z0.length = cap0 ∧ (∀ i, i < z0.length → w.cell? (x.add i) = some (.int .u8 (z0.getD i 0))) ∧ ∀ n ∈ z0, (Lit.int .u8 n).wf = true) (y0 : len0 * 1 ≤ 140737488351232) :
  Calls Tryd.prog 10 #[.slice a0 len0 cap0] w fun e w' => e = .returned (.bool true) ∧ Below w.heap.size w w' := by
 obtain ⟨l0, rfl, hr0, hm0, hw0, hc0⟩ := ReadsInt.ofRowC w0
 obtain ⟨k, h⟩ := P l0 hm0 y0 hw0
 refine (laws_FnLogs.calls k _ _ l0 true w (Kd.C_of_reads (d := (0 : Int)) (h1 := fun _ => rfl) hr0) hc0 hG h).mono ?_
 rintro e w' ⟨rfl, hd⟩
 exact ⟨rfl, hd⟩

end Go.Proofs.YtphcagjmpaajmaaDoor.QFnLogs
-- squeezed
