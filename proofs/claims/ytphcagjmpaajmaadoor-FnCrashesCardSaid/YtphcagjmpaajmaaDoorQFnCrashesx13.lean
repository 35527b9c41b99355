-- Written by px.py, a program of this session, over the kit's printer: some functions have a definition and a proof of this session's own.
import Derived.Test.YtphcagjmpaajmaaDoorQFnCrashesx0
import Derived.Test.YtphcagjmpaajmaaDoorQFnCrashesx2
import Derived.Test.YtphcagjmpaajmaaDoorQFnCrashesx5
import Derived.Test.YtphcagjmpaajmaaDoorQFnCrashesx7
import Derived.Test.YtphcagjmpaajmaaDoorQFnCrashesx8
import Derived.Test.YtphcagjmpaajmaaDoorQFnCrashesx9
import Derived.Test.YtphcagjmpaajmaaDoorQFnCrashesx12
namespace Go.Proofs.YtphcagjmpaajmaaDoor.QFnCrashes
open Go.RowKit Go.Proofs.YtphcagjmpaajmaaDoorW.PrintWords Go.Proofs.YtphcagjmpaajmaaDoorW.PrintLast Go.Proofs.YtphcagjmpaajmaaDoorW.PrintMore
attribute [local go_sem] max2_int min2_int max_two min_two max_three min_three max_four min_four   -- for this text's walks alone
set_option linter.unusedVariables false
set_option linter.unusedSimpArgs false

attribute [local go_sem high] eqA31
/-! ### laws_FnCrashes: function 11 -/
mutual
def laws_FnCrashes.j0 : Nat → Int → Bool → ByteArray → Bool → Bool → ByteArray → ByteArray → Int → Option (Bool)
 | 0, _, _, _, _, _, _, _, _ => none
 | k + 1, x4, x5, x6, x7, x83, x375000, x375001, x375002 => if x83 = true then (some false) else (if x7 = true then ((impl_RecoverLog.f k x6).bind fun bt395 => (if bt395.2.2.2.2 = true then ((impl_IsValidLog.f k bt395.1 bt395.2.1 bt395.2.2.1).bind fun t401 => (if t401 = true then (if bt395.2.2.2.1 < (x375000.size : Int) then (laws_FnCrashes.j1 k x4 x5 true x375000 x375001 x375002 bt395.1 bt395.2.1 bt395.2.2.1) else (laws_FnCrashes.j1 k x4 x5 ((bt395.1.size : Int) != bt395.2.2.2.1) x375000 x375001 x375002 bt395.1 bt395.2.1 bt395.2.2.1)) else (laws_FnCrashes.j1 k x4 x5 true x375000 x375001 x375002 bt395.1 bt395.2.1 bt395.2.2.1))) else (laws_FnCrashes.j1 k x4 x5 true x375000 x375001 x375002 bt395.1 bt395.2.1 bt395.2.2.1))) else (some true))
def laws_FnCrashes.j1 : Nat → Int → Bool → Bool → ByteArray → ByteArray → Int → ByteArray → ByteArray → Int → Option (Bool)
 | 0, _, _, _, _, _, _, _, _, _ => none
 | k + 1, x4, x5, x112, x375000, x375001, x375002, x401000, x401001, x401002 => if x112 = true then (some false) else ((impl_LogRecords.f k x375000 x375001 x375002).bind fun bt402 => ((impl_LogRecords.f k x401000 x401001 x401002).bind fun bt406 => (if (bt406.1.length : Int) ≤ (bt402.1.length : Int) then (if 0 ≤ (bt406.1.length : Int) then ((laws_vRecords.f k bt406.1 (bt402.1.take ((bt406.1.length : Int) : Int).toNat)).bind fun t414 => (if t414 = true then (if x5 = true then (some true) else (if x4 < (x375001.size : Int) then (some true) else (some ((bt406.1.length : Int) == (bt402.1.length : Int))))) else (some false))) else (none)) else (some false))))
end
def laws_FnCrashes.f (k : Nat) (l0 : List Int) : Option (Bool) := (laws_vBig.f l0).bind fun t368 => (if t368 = true then (some true) else ((spec_DrawCrashLog.f k l0).bind fun bt369 => ((impl_CrashLog.f k bt369.1 bt369.2.1 bt369.2.2.1 bt369.2.2.2.1 bt369.2.2.2.2).bind fun bt375 => ((spec_CrashLog.f k bt369.1 bt369.2.1 bt369.2.2.1 bt369.2.2.2.1 bt369.2.2.2.2).bind fun bt377 => ((laws_vCut.f l0 1).bind fun t379 => ((spec_DrawRecoverLog.f k t379).bind fun t382 => ((impl_RecoverLog.f k t382).bind fun bt383 => ((spec_RecoverLog.f k t382).bind fun bt389 => (if bt375.1.toList = bt377.1.toList then (if (bt375.2 != bt377.2) = true then (laws_FnCrashes.j0 k bt369.2.2.2.1 bt369.2.2.2.2 bt375.1 bt375.2 true bt369.1 bt369.2.1 bt369.2.2.1) else (if (!(bt383.1.toList == bt389.1.toList) || (!(bt383.2.1.toList == bt389.2.1.toList) || (!(bt383.2.2.1 == bt389.2.2.1)))) = true then (laws_FnCrashes.j0 k bt369.2.2.2.1 bt369.2.2.2.2 bt375.1 bt375.2 true bt369.1 bt369.2.1 bt369.2.2.1) else (if bt383.2.2.2.1 = bt389.2.2.2.1 then (laws_FnCrashes.j0 k bt369.2.2.2.1 bt369.2.2.2.2 bt375.1 bt375.2 (bt383.2.2.2.2 != bt389.2.2.2.2) bt369.1 bt369.2.1 bt369.2.2.1) else (laws_FnCrashes.j0 k bt369.2.2.2.1 bt369.2.2.2.2 bt375.1 bt375.2 true bt369.1 bt369.2.1 bt369.2.2.1)))) else (laws_FnCrashes.j0 k bt369.2.2.2.1 bt369.2.2.2.2 bt375.1 bt375.2 true bt369.1 bt369.2.1 bt369.2.2.1))))))))))
theorem laws_FnCrashes.mono_l : ∀ k, (∀ y0 y1 y2 y3 y4 y5 y6 y7, LeO (laws_FnCrashes.j0 k y0 y1 y2 y3 y4 y5 y6 y7) (laws_FnCrashes.j0 (k + 1) y0 y1 y2 y3 y4 y5 y6 y7)) ∧ (∀ y0 y1 y2 y3 y4 y5 y6 y7 y8, LeO (laws_FnCrashes.j1 k y0 y1 y2 y3 y4 y5 y6 y7 y8) (laws_FnCrashes.j1 (k + 1) y0 y1 y2 y3 y4 y5 y6 y7 y8))
 | 0 => ⟨fun _ _ _ _ _ _ _ _ r h => by simp [laws_FnCrashes.j0] at h, fun _ _ _ _ _ _ _ _ _ r h => by simp [laws_FnCrashes.j1] at h⟩
 | k + 1 => by
  obtain ⟨ih0, ih1⟩ := laws_FnCrashes.mono_l k
  refine ⟨?_, ?_⟩
  ·intro y0 y1 y2 y3 y4 y5 y6 y7
   unfold laws_FnCrashes.j0
   repeat' first
   | (with_reducible exact ih0 _ _ _ _ _ _ _ _)
   | (with_reducible exact ih1 _ _ _ _ _ _ _ _ _)
   | (with_reducible exact impl_CrashLog.mono _ _ _ _ _ _)
   | (with_reducible exact impl_IsValidLog.mono _ _ _ _)
   | (with_reducible exact impl_LogRecords.mono _ _ _ _)
   | (with_reducible exact impl_RecoverLog.mono _ _)
   | (with_reducible exact laws_vRecords.mono _ _ _)
   | (with_reducible exact spec_CrashLog.mono _ _ _ _ _ _)
   | (with_reducible exact spec_DrawCrashLog.mono _ _)
   | (with_reducible exact spec_DrawRecoverLog.mono _ _)
   | (with_reducible exact spec_RecoverLog.mono _ _)
   | (with_reducible exact LeO.refl _)
   | (with_reducible exact LeO.none _)
   | (with_reducible refine LeO.ite ?_ ?_)
   | (with_reducible refine LeO.bind ?_ (fun _ => ?_))
   | exact ih0 _ _ _ _ _ _ _ _
   | exact ih1 _ _ _ _ _ _ _ _ _
   | exact impl_CrashLog.mono _ _ _ _ _ _
   | exact impl_IsValidLog.mono _ _ _ _
   | exact impl_LogRecords.mono _ _ _ _
   | exact impl_RecoverLog.mono _ _
   | exact laws_vRecords.mono _ _ _
   | exact spec_CrashLog.mono _ _ _ _ _ _
   | exact spec_DrawCrashLog.mono _ _
   | exact spec_DrawRecoverLog.mono _ _
   | exact spec_RecoverLog.mono _ _
   | exact LeO.none _
   | refine LeO.ite ?_ ?_
   | refine LeO.bind ?_ (fun _ => ?_)
  ·intro y0 y1 y2 y3 y4 y5 y6 y7 y8
   unfold laws_FnCrashes.j1
   repeat' first
   | (with_reducible exact ih0 _ _ _ _ _ _ _ _)
   | (with_reducible exact ih1 _ _ _ _ _ _ _ _ _)
   | (with_reducible exact impl_CrashLog.mono _ _ _ _ _ _)
   | (with_reducible exact impl_IsValidLog.mono _ _ _ _)
   | (with_reducible exact impl_LogRecords.mono _ _ _ _)
   | (with_reducible exact impl_RecoverLog.mono _ _)
   | (with_reducible exact laws_vRecords.mono _ _ _)
   | (with_reducible exact spec_CrashLog.mono _ _ _ _ _ _)
   | (with_reducible exact spec_DrawCrashLog.mono _ _)
   | (with_reducible exact spec_DrawRecoverLog.mono _ _)
   | (with_reducible exact spec_RecoverLog.mono _ _)
   | (with_reducible exact LeO.refl _)
   | (with_reducible exact LeO.none _)
   | (with_reducible refine LeO.ite ?_ ?_)
   | (with_reducible refine LeO.bind ?_ (fun _ => ?_))
   | exact ih0 _ _ _ _ _ _ _ _
   | exact ih1 _ _ _ _ _ _ _ _ _
   | exact impl_CrashLog.mono _ _ _ _ _ _
   | exact impl_IsValidLog.mono _ _ _ _
   | exact impl_LogRecords.mono _ _ _ _
   | exact impl_RecoverLog.mono _ _
   | exact laws_vRecords.mono _ _ _
   | exact spec_CrashLog.mono _ _ _ _ _ _
   | exact spec_DrawCrashLog.mono _ _
   | exact spec_DrawRecoverLog.mono _ _
   | exact spec_RecoverLog.mono _ _
   | exact LeO.none _
   | refine LeO.ite ?_ ?_
   | refine LeO.bind ?_ (fun _ => ?_)
theorem laws_FnCrashes.mono : ∀ a0 k, LeO (laws_FnCrashes.f k a0) (laws_FnCrashes.f (k + 1) a0) := by
 intro a0 k
 obtain ⟨ih0, ih1⟩ := laws_FnCrashes.mono_l k
 unfold laws_FnCrashes.f
 repeat' first
   | (with_reducible exact ih0 _ _ _ _ _ _ _ _)
   | (with_reducible exact ih1 _ _ _ _ _ _ _ _ _)
   | (with_reducible exact impl_CrashLog.mono _ _ _ _ _ _)
   | (with_reducible exact impl_IsValidLog.mono _ _ _ _)
   | (with_reducible exact impl_LogRecords.mono _ _ _ _)
   | (with_reducible exact impl_RecoverLog.mono _ _)
   | (with_reducible exact laws_vRecords.mono _ _ _)
   | (with_reducible exact spec_CrashLog.mono _ _ _ _ _ _)
   | (with_reducible exact spec_DrawCrashLog.mono _ _)
   | (with_reducible exact spec_DrawRecoverLog.mono _ _)
   | (with_reducible exact spec_RecoverLog.mono _ _)
   | (with_reducible exact LeO.refl _)
   | (with_reducible exact LeO.none _)
   | (with_reducible refine LeO.ite ?_ ?_)
   | (with_reducible refine LeO.bind ?_ (fun _ => ?_))
   | exact ih0 _ _ _ _ _ _ _ _
   | exact ih1 _ _ _ _ _ _ _ _ _
   | exact impl_CrashLog.mono _ _ _ _ _ _
   | exact impl_IsValidLog.mono _ _ _ _
   | exact impl_LogRecords.mono _ _ _ _
   | exact impl_RecoverLog.mono _ _
   | exact laws_vRecords.mono _ _ _
   | exact spec_CrashLog.mono _ _ _ _ _ _
   | exact spec_DrawCrashLog.mono _ _
   | exact spec_DrawRecoverLog.mono _ _
   | exact spec_RecoverLog.mono _ _
   | exact LeO.none _
   | refine LeO.ite ?_ ?_
   | refine LeO.bind ?_ (fun _ => ?_)
set_option maxHeartbeats 8000000 in
set_option maxRecDepth 100000 in
theorem laws_FnCrashes.calls (k : Nat) (A0 : Option Addr) (c0 : Nat) (l0 : List Int) (r : Bool) (w : World) (hr0 : Kd.C (Kd.int .u8) w A0 l0.length l0) (hc0 : l0.length ≤ c0) (hG : TabOK w) (h : laws_FnCrashes.f k l0 = some r) :
  Calls Tryd.prog 11 #[.slice A0 l0.length c0] w fun e w' => e = .returned (.bool r) ∧ Below w.heap.size w w' := by
 have HG0 := Aside0.mk hG
 clear hG
 have hu31 := Tryd.underlying31
 have HR0 := Aside0.mk hr0
 have HC0 := Aside0.mk hc0
 clear hr0 hc0
 have HB := Aside0.mk (Below.refl w.heap.size w)
 have H : ((laws_vBig.f l0).bind fun t368 => (if t368 = true then (some true) else ((spec_DrawCrashLog.f k l0).bind fun bt369 => ((impl_CrashLog.f k bt369.1 bt369.2.1 bt369.2.2.1 bt369.2.2.2.1 bt369.2.2.2.2).bind fun bt375 => ((spec_CrashLog.f k bt369.1 bt369.2.1 bt369.2.2.1 bt369.2.2.2.1 bt369.2.2.2.2).bind fun bt377 => ((laws_vCut.f l0 1).bind fun t379 => ((spec_DrawRecoverLog.f k t379).bind fun t382 => ((impl_RecoverLog.f k t382).bind fun bt383 => ((spec_RecoverLog.f k t382).bind fun bt389 => (if bt375.1.toList = bt377.1.toList then (if (bt375.2 != bt377.2) = true then (laws_FnCrashes.j0 k bt369.2.2.2.1 bt369.2.2.2.2 bt375.1 bt375.2 true bt369.1 bt369.2.1 bt369.2.2.1) else (if (!(bt383.1.toList == bt389.1.toList) || (!(bt383.2.1.toList == bt389.2.1.toList) || (!(bt383.2.2.1 == bt389.2.2.1)))) = true then (laws_FnCrashes.j0 k bt369.2.2.2.1 bt369.2.2.2.2 bt375.1 bt375.2 true bt369.1 bt369.2.1 bt369.2.2.1) else (if bt383.2.2.2.1 = bt389.2.2.2.1 then (laws_FnCrashes.j0 k bt369.2.2.2.1 bt369.2.2.2.2 bt375.1 bt375.2 (bt383.2.2.2.2 != bt389.2.2.2.2) bt369.1 bt369.2.1 bt369.2.2.1) else (laws_FnCrashes.j0 k bt369.2.2.2.1 bt369.2.2.2.2 bt375.1 bt375.2 true bt369.1 bt369.2.1 bt369.2.2.1)))) else (laws_FnCrashes.j0 k bt369.2.2.2.1 bt369.2.2.2.2 bt375.1 bt375.2 true bt369.1 bt369.2.1 bt369.2.2.1))))))))))) = some r := h
 clear h
 replace H := Option.bind_eq_some_iff.mp H
 obtain ⟨t368, A20, H⟩ := H
 replace H : (if t368 = true then (some true) else ((spec_DrawCrashLog.f k l0).bind fun bt369 => ((impl_CrashLog.f k bt369.1 bt369.2.1 bt369.2.2.1 bt369.2.2.2.1 bt369.2.2.2.2).bind fun bt375 => ((spec_CrashLog.f k bt369.1 bt369.2.1 bt369.2.2.1 bt369.2.2.2.1 bt369.2.2.2.2).bind fun bt377 => ((laws_vCut.f l0 1).bind fun t379 => ((spec_DrawRecoverLog.f k t379).bind fun t382 => ((impl_RecoverLog.f k t382).bind fun bt383 => ((spec_RecoverLog.f k t382).bind fun bt389 => (if bt375.1.toList = bt377.1.toList then (if (bt375.2 != bt377.2) = true then (laws_FnCrashes.j0 k bt369.2.2.2.1 bt369.2.2.2.2 bt375.1 bt375.2 true bt369.1 bt369.2.1 bt369.2.2.1) else (if (!(bt383.1.toList == bt389.1.toList) || (!(bt383.2.1.toList == bt389.2.1.toList) || (!(bt383.2.2.1 == bt389.2.2.1)))) = true then (laws_FnCrashes.j0 k bt369.2.2.2.1 bt369.2.2.2.2 bt375.1 bt375.2 true bt369.1 bt369.2.1 bt369.2.2.1) else (if bt383.2.2.2.1 = bt389.2.2.2.1 then (laws_FnCrashes.j0 k bt369.2.2.2.1 bt369.2.2.2.2 bt375.1 bt375.2 (bt383.2.2.2.2 != bt389.2.2.2.2) bt369.1 bt369.2.1 bt369.2.2.1) else (laws_FnCrashes.j0 k bt369.2.2.2.1 bt369.2.2.2.2 bt375.1 bt375.2 true bt369.1 bt369.2.1 bt369.2.2.1)))) else (laws_FnCrashes.j0 k bt369.2.2.2.1 bt369.2.2.2.2 bt375.1 bt375.2 true bt369.1 bt369.2.1 bt369.2.2.1)))))))))) = some r := H
 have A2 := Aside0.mk A20
 clear A20
 by_cases c3 : t368 = true
 ·subst c3
  have H1 : (some true) = some r := by rw [if_pos rfl] at H; exact H
  clear H
  have H := H1
  clear H1
  obtain rfl := Option.some.inj H
  go_enter Tryd.func11, Tryd.ntmps11
  go_wp2_with (first | ((with_reducible refine gate_callee (f := 34) rfl ?_); refine goesL_ (some 25) rfl rfl Tryd.func34 (by kernel_rfl) rfl #[.slice A0 l0.length c0] rfl (by (try simp only [List.map_toArray, List.map_cons, List.map_nil]); first | done | rfl | (simp only [List.length_drop, List.length_take]; rfl)) ?_; (with_reducible refine (laws_vBig.calls _ _ l0 true _ ?side1 ?side2 A2.out).mono ?_); (case side1 => repeat (first | exact HR0.out | (with_reducible refine Kd.C_alloc ?_ _) | (with_reducible refine Kd.C_drewN ?_ _) | (with_reducible refine Kd.C_drew ?_))); (case side2 => exact HC0.out); rintro e w' ⟨rfl, ⟨nd, rfl⟩⟩; refine ⟨_, rfl, ?_⟩))
  go_ret
  exact ⟨by first | rfl | (simp [errW_none, errW_some] <;> rfl) | (simp [*, errW_none, errW_some] <;> rfl), by repeat (first | (with_reducible first | exact HB.out | apply below_alloc | apply pw_below_drewN | apply below_drew1) | exact HB.out)⟩
 ·replace c3 := Bool.eq_false_iff.mpr c3
  subst c3
  have H1 : ((spec_DrawCrashLog.f k l0).bind fun bt369 => ((impl_CrashLog.f k bt369.1 bt369.2.1 bt369.2.2.1 bt369.2.2.2.1 bt369.2.2.2.2).bind fun bt375 => ((spec_CrashLog.f k bt369.1 bt369.2.1 bt369.2.2.1 bt369.2.2.2.1 bt369.2.2.2.2).bind fun bt377 => ((laws_vCut.f l0 1).bind fun t379 => ((spec_DrawRecoverLog.f k t379).bind fun t382 => ((impl_RecoverLog.f k t382).bind fun bt383 => ((spec_RecoverLog.f k t382).bind fun bt389 => (if bt375.1.toList = bt377.1.toList then (if (bt375.2 != bt377.2) = true then (laws_FnCrashes.j0 k bt369.2.2.2.1 bt369.2.2.2.2 bt375.1 bt375.2 true bt369.1 bt369.2.1 bt369.2.2.1) else (if (!(bt383.1.toList == bt389.1.toList) || (!(bt383.2.1.toList == bt389.2.1.toList) || (!(bt383.2.2.1 == bt389.2.2.1)))) = true then (laws_FnCrashes.j0 k bt369.2.2.2.1 bt369.2.2.2.2 bt375.1 bt375.2 true bt369.1 bt369.2.1 bt369.2.2.1) else (if bt383.2.2.2.1 = bt389.2.2.2.1 then (laws_FnCrashes.j0 k bt369.2.2.2.1 bt369.2.2.2.2 bt375.1 bt375.2 (bt383.2.2.2.2 != bt389.2.2.2.2) bt369.1 bt369.2.1 bt369.2.2.1) else (laws_FnCrashes.j0 k bt369.2.2.2.1 bt369.2.2.2.2 bt375.1 bt375.2 true bt369.1 bt369.2.1 bt369.2.2.1)))) else (laws_FnCrashes.j0 k bt369.2.2.2.1 bt369.2.2.2.2 bt375.1 bt375.2 true bt369.1 bt369.2.1 bt369.2.2.1))))))))) = some r := by rw [if_neg (show ¬ (false = true) by decide)] at H; exact H
  clear H
  have H := H1
  clear H1
  replace H := Option.bind_eq_some_iff.mp H
  obtain ⟨⟨t369, t370, t371, t372, t373⟩, A40, H⟩ := H
  replace H : ((impl_CrashLog.f k t369 t370 t371 t372 t373).bind fun bt375 => ((spec_CrashLog.f k t369 t370 t371 t372 t373).bind fun bt377 => ((laws_vCut.f l0 1).bind fun t379 => ((spec_DrawRecoverLog.f k t379).bind fun t382 => ((impl_RecoverLog.f k t382).bind fun bt383 => ((spec_RecoverLog.f k t382).bind fun bt389 => (if bt375.1.toList = bt377.1.toList then (if (bt375.2 != bt377.2) = true then (laws_FnCrashes.j0 k t372 t373 bt375.1 bt375.2 true t369 t370 t371) else (if (!(bt383.1.toList == bt389.1.toList) || (!(bt383.2.1.toList == bt389.2.1.toList) || (!(bt383.2.2.1 == bt389.2.2.1)))) = true then (laws_FnCrashes.j0 k t372 t373 bt375.1 bt375.2 true t369 t370 t371) else (if bt383.2.2.2.1 = bt389.2.2.2.1 then (laws_FnCrashes.j0 k t372 t373 bt375.1 bt375.2 (bt383.2.2.2.2 != bt389.2.2.2.2) t369 t370 t371) else (laws_FnCrashes.j0 k t372 t373 bt375.1 bt375.2 true t369 t370 t371)))) else (laws_FnCrashes.j0 k t372 t373 bt375.1 bt375.2 true t369 t370 t371)))))))) = some r := H
  have A4 := Aside0.mk A40
  clear A40
  replace H := Option.bind_eq_some_iff.mp H
  obtain ⟨⟨t375, t376⟩, A50, H⟩ := H
  replace H : ((spec_CrashLog.f k t369 t370 t371 t372 t373).bind fun bt377 => ((laws_vCut.f l0 1).bind fun t379 => ((spec_DrawRecoverLog.f k t379).bind fun t382 => ((impl_RecoverLog.f k t382).bind fun bt383 => ((spec_RecoverLog.f k t382).bind fun bt389 => (if t375.toList = bt377.1.toList then (if (t376 != bt377.2) = true then (laws_FnCrashes.j0 k t372 t373 t375 t376 true t369 t370 t371) else (if (!(bt383.1.toList == bt389.1.toList) || (!(bt383.2.1.toList == bt389.2.1.toList) || (!(bt383.2.2.1 == bt389.2.2.1)))) = true then (laws_FnCrashes.j0 k t372 t373 t375 t376 true t369 t370 t371) else (if bt383.2.2.2.1 = bt389.2.2.2.1 then (laws_FnCrashes.j0 k t372 t373 t375 t376 (bt383.2.2.2.2 != bt389.2.2.2.2) t369 t370 t371) else (laws_FnCrashes.j0 k t372 t373 t375 t376 true t369 t370 t371)))) else (laws_FnCrashes.j0 k t372 t373 t375 t376 true t369 t370 t371))))))) = some r := H
  have A5 := Aside0.mk A50
  clear A50
  replace H := Option.bind_eq_some_iff.mp H
  obtain ⟨⟨t377, t378⟩, A60, H⟩ := H
  replace H : ((laws_vCut.f l0 1).bind fun t379 => ((spec_DrawRecoverLog.f k t379).bind fun t382 => ((impl_RecoverLog.f k t382).bind fun bt383 => ((spec_RecoverLog.f k t382).bind fun bt389 => (if t375.toList = t377.toList then (if (t376 != t378) = true then (laws_FnCrashes.j0 k t372 t373 t375 t376 true t369 t370 t371) else (if (!(bt383.1.toList == bt389.1.toList) || (!(bt383.2.1.toList == bt389.2.1.toList) || (!(bt383.2.2.1 == bt389.2.2.1)))) = true then (laws_FnCrashes.j0 k t372 t373 t375 t376 true t369 t370 t371) else (if bt383.2.2.2.1 = bt389.2.2.2.1 then (laws_FnCrashes.j0 k t372 t373 t375 t376 (bt383.2.2.2.2 != bt389.2.2.2.2) t369 t370 t371) else (laws_FnCrashes.j0 k t372 t373 t375 t376 true t369 t370 t371)))) else (laws_FnCrashes.j0 k t372 t373 t375 t376 true t369 t370 t371)))))) = some r := H
  have A6 := Aside0.mk A60
  clear A60
  replace H := Option.bind_eq_some_iff.mp H
  obtain ⟨t379, A70, H⟩ := H
  replace H : ((spec_DrawRecoverLog.f k t379).bind fun t382 => ((impl_RecoverLog.f k t382).bind fun bt383 => ((spec_RecoverLog.f k t382).bind fun bt389 => (if t375.toList = t377.toList then (if (t376 != t378) = true then (laws_FnCrashes.j0 k t372 t373 t375 t376 true t369 t370 t371) else (if (!(bt383.1.toList == bt389.1.toList) || (!(bt383.2.1.toList == bt389.2.1.toList) || (!(bt383.2.2.1 == bt389.2.2.1)))) = true then (laws_FnCrashes.j0 k t372 t373 t375 t376 true t369 t370 t371) else (if bt383.2.2.2.1 = bt389.2.2.2.1 then (laws_FnCrashes.j0 k t372 t373 t375 t376 (bt383.2.2.2.2 != bt389.2.2.2.2) t369 t370 t371) else (laws_FnCrashes.j0 k t372 t373 t375 t376 true t369 t370 t371)))) else (laws_FnCrashes.j0 k t372 t373 t375 t376 true t369 t370 t371))))) = some r := H
  have A7 := Aside0.mk A70
  clear A70
  replace H := Option.bind_eq_some_iff.mp H
  obtain ⟨t382, A80, H⟩ := H
  replace H : ((impl_RecoverLog.f k t382).bind fun bt383 => ((spec_RecoverLog.f k t382).bind fun bt389 => (if t375.toList = t377.toList then (if (t376 != t378) = true then (laws_FnCrashes.j0 k t372 t373 t375 t376 true t369 t370 t371) else (if (!(bt383.1.toList == bt389.1.toList) || (!(bt383.2.1.toList == bt389.2.1.toList) || (!(bt383.2.2.1 == bt389.2.2.1)))) = true then (laws_FnCrashes.j0 k t372 t373 t375 t376 true t369 t370 t371) else (if bt383.2.2.2.1 = bt389.2.2.2.1 then (laws_FnCrashes.j0 k t372 t373 t375 t376 (bt383.2.2.2.2 != bt389.2.2.2.2) t369 t370 t371) else (laws_FnCrashes.j0 k t372 t373 t375 t376 true t369 t370 t371)))) else (laws_FnCrashes.j0 k t372 t373 t375 t376 true t369 t370 t371)))) = some r := H
  have A8 := Aside0.mk A80
  clear A80
  replace H := Option.bind_eq_some_iff.mp H
  obtain ⟨⟨t383, t384, t385, t386, t387⟩, A90, H⟩ := H
  replace H : ((spec_RecoverLog.f k t382).bind fun bt389 => (if t375.toList = t377.toList then (if (t376 != t378) = true then (laws_FnCrashes.j0 k t372 t373 t375 t376 true t369 t370 t371) else (if (!(t383.toList == bt389.1.toList) || (!(t384.toList == bt389.2.1.toList) || (!(t385 == bt389.2.2.1)))) = true then (laws_FnCrashes.j0 k t372 t373 t375 t376 true t369 t370 t371) else (if t386 = bt389.2.2.2.1 then (laws_FnCrashes.j0 k t372 t373 t375 t376 (t387 != bt389.2.2.2.2) t369 t370 t371) else (laws_FnCrashes.j0 k t372 t373 t375 t376 true t369 t370 t371)))) else (laws_FnCrashes.j0 k t372 t373 t375 t376 true t369 t370 t371))) = some r := H
  have A9 := Aside0.mk A90
  clear A90
  replace H := Option.bind_eq_some_iff.mp H
  obtain ⟨⟨t389, t390, t391, t392, t393⟩, A100, H⟩ := H
  replace H : (if t375.toList = t377.toList then (if (t376 != t378) = true then (laws_FnCrashes.j0 k t372 t373 t375 t376 true t369 t370 t371) else (if (!(t383.toList == t389.toList) || (!(t384.toList == t390.toList) || (!(t385 == t391)))) = true then (laws_FnCrashes.j0 k t372 t373 t375 t376 true t369 t370 t371) else (if t386 = t392 then (laws_FnCrashes.j0 k t372 t373 t375 t376 (t387 != t393) t369 t370 t371) else (laws_FnCrashes.j0 k t372 t373 t375 t376 true t369 t370 t371)))) else (laws_FnCrashes.j0 k t372 t373 t375 t376 true t369 t370 t371)) = some r := H
  have A10 := Aside0.mk A100
  clear A100
  have HC11 := Aside0.mk H
  clear H
  go_enter Tryd.func11, Tryd.ntmps11
  go_upto_region 9 with (first | ((with_reducible refine gate_callee (f := 34) rfl ?_); refine goesL_ (some 25) rfl rfl Tryd.func34 (by kernel_rfl) rfl #[.slice A0 l0.length c0] rfl (by (try simp only [List.map_toArray, List.map_cons, List.map_nil]); first | done | rfl | (simp only [List.length_drop, List.length_take]; rfl)) ?_; (with_reducible refine (laws_vBig.calls _ _ l0 false _ ?side1 ?side2 A2.out).mono ?_); (case side1 => repeat (first | exact HR0.out | (with_reducible refine Kd.C_alloc ?_ _) | (with_reducible refine Kd.C_drewN ?_ _) | (with_reducible refine Kd.C_drew ?_))); (case side2 => exact HC0.out); rintro e w' ⟨rfl, ⟨nd, rfl⟩⟩; refine ⟨_, rfl, ?_⟩) | ((with_reducible refine gate_callee (f := 43) rfl ?_); refine goesL_ (some 28) rfl rfl Tryd.func43 (by kernel_rfl) rfl #[.slice A0 l0.length c0] rfl (by (try simp only [List.map_toArray, List.map_cons, List.map_nil]); first | done | rfl | (simp only [List.length_drop, List.length_take]; rfl)) ?_; (with_reducible refine (spec_DrawCrashLog.calls k _ _ l0 t369 t370 t371 t372 t373 _ ?side1 ?side2 A4.out).mono ?_); (case side1 => repeat (first | exact HR0.out | (with_reducible refine Kd.C_alloc ?_ _) | (with_reducible refine Kd.C_drewN ?_ _) | (with_reducible refine Kd.C_drew ?_))); (case side2 => exact HC0.out); rintro e w12 ⟨rfl, hb⟩; refine ⟨_, rfl, ?_⟩; have n0_ := Aside0.mk (below_step (by repeat (first | (with_reducible first | exact HB.out | apply below_alloc | apply pw_below_drewN | apply below_drew1) | exact HB.out)) hb); clear HB; have HB := n0_; clear n0_; (try clear hb); (try clear hb2); (try clear hk); (try clear hi)) | ((with_reducible refine gate_dst (N := 3) rfl ?_); (try (refine gate_guard (by rfl) ?_; dsimp only)); refine box_event ?hg (N := 3) ?hd (cs := #[.string (⟨#[]⟩ : ByteArray), .string (⟨#[]⟩ : ByteArray), .int .i64 0]) (t := 31) ?hr ?_; (case hd => rfl); (case hg => rfl); (case hr => first | (go_simp; done) | (go_simp; rfl)); intro gb374 hg w13 hbox hb; have n0_ := Aside0.mk (below_step (by repeat (first | (with_reducible first | exact HB.out | apply below_alloc | apply pw_below_drewN | apply below_drew1) | exact HB.out)) hb); have n1_ := Aside0.mk (hbox); have n2_ := Aside0.mk ((by rw [hg]; exact (below_size (by repeat (first | (with_reducible first | exact HB.out | apply below_alloc | apply pw_below_drewN | apply below_drew1) | exact HB.out))) : w.heap.size ≤ gb374)); have n3_ := Aside0.mk ((by rw [hg]; exact (below_size (by repeat (first | (with_reducible first | exact HB.out | apply below_alloc | apply pw_below_drewN | apply below_drew1) | exact HB.out))) : w.heap.size ≤ gb374)); clear HB; have HB := n0_; have BK374 := n1_; have GW374 := n2_; have GE374 := n3_; clear n0_ n1_ n2_ n3_ hb hbox hg; have hcz14_0 : w13.cell? ⟨gb374, 0, none⟩ = some (.string (⟨#[]⟩ : ByteArray)) := (blk_cell BK374.out 0).trans rfl; have hcz14_1 : w13.cell? ⟨gb374, 1, none⟩ = some (.string (⟨#[]⟩ : ByteArray)) := (blk_cell BK374.out 1).trans rfl; have hcz14_2 : w13.cell? ⟨gb374, 2, none⟩ = some (.int .i64 0) := (blk_cell BK374.out 2).trans rfl; have hfz14_0 := blk_frozen BK374.out 0; have hfz14_1 := blk_frozen BK374.out 1; have hfz14_2 := blk_frozen BK374.out 2) | ((with_reducible refine gate_callee (f := 24) rfl ?_); refine goesL_ (some 36) rfl rfl Tryd.func24 (by kernel_rfl) rfl #[.agg #[.string t369, .string t370, .int .i64 t371], .int .i64 t372, .bool t373] rfl (by (try simp only [List.map_toArray, List.map_cons, List.map_nil]); first | done | rfl | (simp only [List.length_drop, List.length_take]; rfl)) ?_; (with_reducible refine (impl_CrashLog.calls k t369 t370 t371 t372 t373 t375 t376 _ (by first | exact TabOK.below HG0.out (by repeat (first | (with_reducible first | exact HB.out | apply below_alloc | apply pw_below_drewN | apply below_drew1 | refine below_set ?_ GE374.out | refine below_set ?_ GE388.out | refine below_set ?_ GE394.out | refine below_set ?_ GE400.out) | exact HB.out)) | (repeat (first | exact HG0.out | apply TabOK.drew | apply TabOK.drewN)) | exact TabOK.drawn HG0.out (by assumption)) A5.out).mono ?_); rintro e w15 ⟨rfl, hb⟩; refine ⟨_, rfl, ?_⟩; have n0_ := Aside0.mk (blk_below (g := gb374) (o := .cells #[.string t369, .string t370, .int .i64 t371] 31 (0, 0)) (by (with_reducible repeat (first | refine blk_drewN ?_ _ | refine blk_drew ?_ | refine blk_alloc ?_ _)); refine blk_put (cs := #[.string t369, .string t370, .int .i64 0]) ?_ 2 _ rfl; (with_reducible repeat (first | refine blk_drewN ?_ _ | refine blk_drew ?_ | refine blk_alloc ?_ _)); refine blk_put (cs := #[.string t369, .string (⟨#[]⟩ : ByteArray), .int .i64 0]) ?_ 1 _ rfl; (with_reducible repeat (first | refine blk_drewN ?_ _ | refine blk_drew ?_ | refine blk_alloc ?_ _)); refine blk_put (cs := #[.string (⟨#[]⟩ : ByteArray), .string (⟨#[]⟩ : ByteArray), .int .i64 0]) ?_ 0 _ rfl; (with_reducible repeat (first | refine blk_drewN ?_ _ | refine blk_drew ?_ | refine blk_alloc ?_ _)); exact BK374.out) hb); have n1_ := Aside0.mk (below_step (by repeat (first | (with_reducible first | exact HB.out | apply below_alloc | apply pw_below_drewN | apply below_drew1 | refine below_set ?_ GE374.out) | exact HB.out)) hb); clear BK374 HB; have BK374 := n0_; have HB := n1_; clear n0_ n1_; (try clear hb); (try clear hb2); (try clear hk); (try clear hi); have hcz16_0 : w15.cell? ⟨gb374, 0, none⟩ = some (.string t369) := (blk_cell BK374.out 0).trans rfl; have hcz16_1 : w15.cell? ⟨gb374, 1, none⟩ = some (.string t370) := (blk_cell BK374.out 1).trans rfl; have hcz16_2 : w15.cell? ⟨gb374, 2, none⟩ = some (.int .i64 t371) := (blk_cell BK374.out 2).trans rfl; have hfz16_0 := blk_frozen BK374.out 0; have hfz16_1 := blk_frozen BK374.out 1; have hfz16_2 := blk_frozen BK374.out 2) | ((with_reducible refine gate_callee (f := 23) rfl ?_); refine goesL_ (some 43) rfl rfl Tryd.func23 (by kernel_rfl) rfl #[.agg #[.string t369, .string t370, .int .i64 t371], .int .i64 t372, .bool t373] rfl (by (try simp only [List.map_toArray, List.map_cons, List.map_nil]); first | done | rfl | (simp only [List.length_drop, List.length_take]; rfl)) ?_; (with_reducible refine (spec_CrashLog.calls k t369 t370 t371 t372 t373 t377 t378 _ A6.out).mono ?_); rintro e w17 ⟨rfl, hb⟩; refine ⟨_, rfl, ?_⟩; have n0_ := Aside0.mk (blk_below (g := gb374) (o := .cells #[.string t369, .string t370, .int .i64 t371] 31 (0, 0)) (by (with_reducible repeat (first | refine blk_drewN ?_ _ | refine blk_drew ?_ | refine blk_alloc ?_ _)); exact BK374.out) hb); have n1_ := Aside0.mk (below_step (by repeat (first | (with_reducible first | exact HB.out | apply below_alloc | apply pw_below_drewN | apply below_drew1 | refine below_set ?_ GE374.out) | exact HB.out)) hb); clear BK374 HB; have BK374 := n0_; have HB := n1_; clear n0_ n1_; (try clear hb); (try clear hb2); (try clear hk); (try clear hi)) | ((with_reducible refine gate_callee (f := 37) rfl ?_); refine goesL_ (some 47) rfl rfl Tryd.func37 (by kernel_rfl) rfl #[.slice A0 l0.length c0, .int .i64 1] rfl (by (try simp only [List.map_toArray, List.map_cons, List.map_nil]); first | done | rfl | (simp only [List.length_drop, List.length_take]; rfl)) ?_; (with_reducible refine (laws_vCut.calls _ _ l0 1 t379 _ ?side1 ?side2 A7.out).mono ?_); (case side1 => repeat (first | exact (Kd.C_below HR0.out HB.out) | (with_reducible refine Kd.C_alloc ?_ _) | (with_reducible refine Kd.C_drewN ?_ _) | (with_reducible refine Kd.C_drew ?_))); (case side2 => exact HC0.out); rintro e w18 ⟨v380, rfl, ho0, hb⟩; refine ⟨_, rfl, ?_⟩; have n0_ := Aside0.mk (Kd.R_lower ho0 (below_size (by repeat (first | (with_reducible first | exact HB.out | apply below_alloc | apply pw_below_drewN | apply below_drew1 | refine below_set ?_ GE374.out) | exact HB.out)))); have n1_ := Aside0.mk (blk_below (g := gb374) (o := .cells #[.string t369, .string t370, .int .i64 t371] 31 (0, 0)) (by (with_reducible repeat (first | refine blk_drewN ?_ _ | refine blk_drew ?_ | refine blk_alloc ?_ _)); exact BK374.out) hb); have n2_ := Aside0.mk (below_step (by repeat (first | (with_reducible first | exact HB.out | apply below_alloc | apply pw_below_drewN | apply below_drew1 | refine below_set ?_ GE374.out) | exact HB.out)) hb); clear BK374 HB; have HO381 := n0_; have BK374 := n1_; have HB := n2_; clear n0_ n1_ n2_; (try clear hb); (try clear hb2); (try clear hk); (try clear hi); (try clear ho0); obtain ⟨Ao19, co19, eo19⟩ := Kd.R_slice HO381.out; subst eo19) | ((with_reducible refine gate_callee (f := 44) rfl ?_); refine goesL_ (some 48) rfl rfl Tryd.func44 (by kernel_rfl) rfl #[.slice Ao19 t379.length co19] rfl (by (try simp only [List.map_toArray, List.map_cons, List.map_nil]); first | done | rfl | (simp only [List.length_drop, List.length_take]; rfl)) ?_; (with_reducible refine (spec_DrawRecoverLog.calls k _ _ t379 t382 _ ?side1 ?side2 A8.out).mono ?_); (case side1 => repeat (first | exact (Kd.R_reads' HO381.out).2.2 | (with_reducible refine Kd.C_alloc ?_ _) | (with_reducible refine Kd.C_drewN ?_ _) | (with_reducible refine Kd.C_drew ?_))); (case side2 => exact (Kd.R_reads' HO381.out).2.1); rintro e w20 ⟨rfl, hb⟩; refine ⟨_, rfl, ?_⟩; have n0_ := Aside0.mk (Kd.R_below (by (with_reducible repeat (first | apply Kd.R_alloc | apply Kd.R_drewN | apply Kd.R_drew)); exact HO381.out) hb); have n1_ := Aside0.mk (blk_below (g := gb374) (o := .cells #[.string t369, .string t370, .int .i64 t371] 31 (0, 0)) (by (with_reducible repeat (first | refine blk_drewN ?_ _ | refine blk_drew ?_ | refine blk_alloc ?_ _)); exact BK374.out) hb); have n2_ := Aside0.mk (below_step (by repeat (first | (with_reducible first | exact HB.out | apply below_alloc | apply pw_below_drewN | apply below_drew1 | refine below_set ?_ GE374.out) | exact HB.out)) hb); clear HO381 BK374 HB; have HO381 := n0_; have BK374 := n1_; have HB := n2_; clear n0_ n1_ n2_; (try clear hb); (try clear hb2); (try clear hk); (try clear hi)) | ((with_reducible refine gate_callee (f := 17) rfl ?_); refine goesL_ (some 51) rfl rfl Tryd.func17 (by kernel_rfl) rfl #[.string t382] rfl (by (try simp only [List.map_toArray, List.map_cons, List.map_nil]); first | done | rfl | (simp only [List.length_drop, List.length_take]; rfl)) ?_; (with_reducible refine (impl_RecoverLog.calls k t382 t383 t384 t385 t386 t387 _ (by first | exact TabOK.below HG0.out (by repeat (first | (with_reducible first | exact HB.out | apply below_alloc | apply pw_below_drewN | apply below_drew1 | refine below_set ?_ GE374.out | refine below_set ?_ GE388.out | refine below_set ?_ GE394.out | refine below_set ?_ GE400.out) | exact HB.out)) | (repeat (first | exact HG0.out | apply TabOK.drew | apply TabOK.drewN)) | exact TabOK.drawn HG0.out (by assumption)) A9.out).mono ?_); rintro e w21 ⟨rfl, hb⟩; refine ⟨_, rfl, ?_⟩; have n0_ := Aside0.mk (Kd.R_below (by (with_reducible repeat (first | apply Kd.R_alloc | apply Kd.R_drewN | apply Kd.R_drew)); exact HO381.out) hb); have n1_ := Aside0.mk (blk_below (g := gb374) (o := .cells #[.string t369, .string t370, .int .i64 t371] 31 (0, 0)) (by (with_reducible repeat (first | refine blk_drewN ?_ _ | refine blk_drew ?_ | refine blk_alloc ?_ _)); exact BK374.out) hb); have n2_ := Aside0.mk (below_step (by repeat (first | (with_reducible first | exact HB.out | apply below_alloc | apply pw_below_drewN | apply below_drew1 | refine below_set ?_ GE374.out) | exact HB.out)) hb); clear HO381 BK374 HB; have HO381 := n0_; have BK374 := n1_; have HB := n2_; clear n0_ n1_ n2_; (try clear hb); (try clear hb2); (try clear hk); (try clear hi)) | ((with_reducible refine gate_dst (N := 11) rfl ?_); (try (refine gate_guard (by rfl) ?_; dsimp only)); refine box_event ?hg (N := 11) ?hd (cs := #[.string (⟨#[]⟩ : ByteArray), .string (⟨#[]⟩ : ByteArray), .int .i64 0]) (t := 31) ?hr ?_; (case hd => rfl); (case hg => rfl); (case hr => first | (go_simp; done) | (go_simp; rfl)); intro gb388 hg w22 hbox hb; have n0_ := Aside0.mk (Kd.R_below (by (with_reducible repeat (first | apply Kd.R_alloc | apply Kd.R_drewN | apply Kd.R_drew)); exact HO381.out) hb); have n1_ := Aside0.mk (blk_below (g := gb374) (o := .cells #[.string t369, .string t370, .int .i64 t371] 31 (0, 0)) (by (with_reducible repeat (first | refine blk_drewN ?_ _ | refine blk_drew ?_ | refine blk_alloc ?_ _)); exact BK374.out) hb); have n2_ := Aside0.mk (below_step (by repeat (first | (with_reducible first | exact HB.out | apply below_alloc | apply pw_below_drewN | apply below_drew1 | refine below_set ?_ GE374.out) | exact HB.out)) hb); have n3_ := Aside0.mk (hbox); have n4_ := Aside0.mk ((by rw [hg]; exact (below_size (by repeat (first | (with_reducible first | exact HB.out | apply below_alloc | apply pw_below_drewN | apply below_drew1 | refine below_set ?_ GE374.out) | exact HB.out))) : w.heap.size ≤ gb388)); have n5_ := Aside0.mk ((by rw [hg]; exact (below_size (by repeat (first | (with_reducible first | exact HB.out | apply below_alloc | apply pw_below_drewN | apply below_drew1 | refine below_set ?_ GE374.out) | exact HB.out))) : w.heap.size ≤ gb388)); have n6_ := Aside0.mk ((by rw [hg]; exact Nat.ne_of_lt (blk_lt (g := gb374) (o := .cells #[.string t369, .string t370, .int .i64 t371] 31 (0, 0)) (by (with_reducible repeat (first | refine blk_drewN ?_ _ | refine blk_drew ?_ | refine blk_alloc ?_ _)); exact BK374.out)) : gb374 ≠ gb388)); have n7_ := Aside0.mk ((by rw [hg]; exact Nat.ne_of_gt (blk_lt (g := gb374) (o := .cells #[.string t369, .string t370, .int .i64 t371] 31 (0, 0)) (by (with_reducible repeat (first | refine blk_drewN ?_ _ | refine blk_drew ?_ | refine blk_alloc ?_ _)); exact BK374.out)) : gb388 ≠ gb374)); clear HO381 BK374 HB; have HO381 := n0_; have BK374 := n1_; have HB := n2_; have BK388 := n3_; have GW388 := n4_; have GE388 := n5_; have NB374_388 := n6_; have NB388_374 := n7_; clear n0_ n1_ n2_ n3_ n4_ n5_ n6_ n7_ hb hbox hg; have hnb23 := NB388_374.out; have hnc23 := NB374_388.out; have hcz24_0 : w22.cell? ⟨gb388, 0, none⟩ = some (.string (⟨#[]⟩ : ByteArray)) := (blk_cell BK388.out 0).trans rfl; have hcz24_1 : w22.cell? ⟨gb388, 1, none⟩ = some (.string (⟨#[]⟩ : ByteArray)) := (blk_cell BK388.out 1).trans rfl; have hcz24_2 : w22.cell? ⟨gb388, 2, none⟩ = some (.int .i64 0) := (blk_cell BK388.out 2).trans rfl; have hfz24_0 := blk_frozen BK388.out 0; have hfz24_1 := blk_frozen BK388.out 1; have hfz24_2 := blk_frozen BK388.out 2) | ((with_reducible refine gate_callee (f := 16) rfl ?_); refine goesL_ (some 57) rfl rfl Tryd.func16 (by kernel_rfl) rfl #[.string t382] rfl (by (try simp only [List.map_toArray, List.map_cons, List.map_nil]); first | done | rfl | (simp only [List.length_drop, List.length_take]; rfl)) ?_; (with_reducible refine (spec_RecoverLog.calls k t382 t389 t390 t391 t392 t393 _ A10.out).mono ?_); rintro e w25 ⟨rfl, hb⟩; refine ⟨_, rfl, ?_⟩; have n0_ := Aside0.mk (Kd.R_below (by (with_reducible repeat (first | apply Kd.R_alloc | apply Kd.R_drewN | apply Kd.R_drew)); exact (Kd.R_mono (Kd.R_far (p := ⟨gb388, 2, none⟩) (Kd.R_far (p := ⟨gb388, 1, none⟩) (Kd.R_far (p := ⟨gb388, 0, none⟩) (Kd.R_types HO381.out BK388.out (by decide)) (fun _ hk => hk.2) (.string t383)) (fun _ hk => hk.2) (.string t384)) (fun _ hk => hk.2) (.int .i64 t385)) (fun _ h_ => h_.1))) hb); have n1_ := Aside0.mk (blk_below (g := gb374) (o := .cells #[.string t369, .string t370, .int .i64 t371] 31 (0, 0)) (by (with_reducible repeat (first | refine blk_drewN ?_ _ | refine blk_drew ?_ | refine blk_alloc ?_ _)); refine blk_far ?_ NB374_388.out _; (with_reducible repeat (first | refine blk_drewN ?_ _ | refine blk_drew ?_ | refine blk_alloc ?_ _)); refine blk_far ?_ NB374_388.out _; (with_reducible repeat (first | refine blk_drewN ?_ _ | refine blk_drew ?_ | refine blk_alloc ?_ _)); refine blk_far ?_ NB374_388.out _; (with_reducible repeat (first | refine blk_drewN ?_ _ | refine blk_drew ?_ | refine blk_alloc ?_ _)); exact BK374.out) hb); have n2_ := Aside0.mk (blk_below (g := gb388) (o := .cells #[.string t383, .string t384, .int .i64 t385] 31 (0, 0)) (by (with_reducible repeat (first | refine blk_drewN ?_ _ | refine blk_drew ?_ | refine blk_alloc ?_ _)); refine blk_put (cs := #[.string t383, .string t384, .int .i64 0]) ?_ 2 _ rfl; (with_reducible repeat (first | refine blk_drewN ?_ _ | refine blk_drew ?_ | refine blk_alloc ?_ _)); refine blk_put (cs := #[.string t383, .string (⟨#[]⟩ : ByteArray), .int .i64 0]) ?_ 1 _ rfl; (with_reducible repeat (first | refine blk_drewN ?_ _ | refine blk_drew ?_ | refine blk_alloc ?_ _)); refine blk_put (cs := #[.string (⟨#[]⟩ : ByteArray), .string (⟨#[]⟩ : ByteArray), .int .i64 0]) ?_ 0 _ rfl; (with_reducible repeat (first | refine blk_drewN ?_ _ | refine blk_drew ?_ | refine blk_alloc ?_ _)); exact BK388.out) hb); have n3_ := Aside0.mk (below_step (by repeat (first | (with_reducible first | exact HB.out | apply below_alloc | apply pw_below_drewN | apply below_drew1 | refine below_set ?_ GE374.out | refine below_set ?_ GE388.out) | exact HB.out)) hb); clear HO381 BK374 BK388 HB; have HO381 := n0_; have BK374 := n1_; have BK388 := n2_; have HB := n3_; clear n0_ n1_ n2_ n3_; (try clear hb); (try clear hb2); (try clear hk); (try clear hi)) | ((with_reducible refine gate_dst (N := 14) rfl ?_); (try (refine gate_guard (by rfl) ?_; dsimp only)); refine box_event ?hg (N := 14) ?hd (cs := #[.string (⟨#[]⟩ : ByteArray), .string (⟨#[]⟩ : ByteArray), .int .i64 0]) (t := 31) ?hr ?_; (case hd => rfl); (case hg => rfl); (case hr => first | (go_simp; done) | (go_simp; rfl)); intro gb394 hg w26 hbox hb; have n0_ := Aside0.mk (Kd.R_below (by (with_reducible repeat (first | apply Kd.R_alloc | apply Kd.R_drewN | apply Kd.R_drew)); exact HO381.out) hb); have n1_ := Aside0.mk (blk_below (g := gb374) (o := .cells #[.string t369, .string t370, .int .i64 t371] 31 (0, 0)) (by (with_reducible repeat (first | refine blk_drewN ?_ _ | refine blk_drew ?_ | refine blk_alloc ?_ _)); exact BK374.out) hb); have n2_ := Aside0.mk (blk_below (g := gb388) (o := .cells #[.string t383, .string t384, .int .i64 t385] 31 (0, 0)) (by (with_reducible repeat (first | refine blk_drewN ?_ _ | refine blk_drew ?_ | refine blk_alloc ?_ _)); exact BK388.out) hb); have n3_ := Aside0.mk (below_step (by repeat (first | (with_reducible first | exact HB.out | apply below_alloc | apply pw_below_drewN | apply below_drew1 | refine below_set ?_ GE374.out | refine below_set ?_ GE388.out) | exact HB.out)) hb); have n4_ := Aside0.mk (hbox); have n5_ := Aside0.mk ((by rw [hg]; exact (below_size (by repeat (first | (with_reducible first | exact HB.out | apply below_alloc | apply pw_below_drewN | apply below_drew1 | refine below_set ?_ GE374.out | refine below_set ?_ GE388.out) | exact HB.out))) : w.heap.size ≤ gb394)); have n6_ := Aside0.mk ((by rw [hg]; exact (below_size (by repeat (first | (with_reducible first | exact HB.out | apply below_alloc | apply pw_below_drewN | apply below_drew1 | refine below_set ?_ GE374.out | refine below_set ?_ GE388.out) | exact HB.out))) : w.heap.size ≤ gb394)); have n7_ := Aside0.mk ((by rw [hg]; exact Nat.ne_of_lt (blk_lt (g := gb374) (o := .cells #[.string t369, .string t370, .int .i64 t371] 31 (0, 0)) (by (with_reducible repeat (first | refine blk_drewN ?_ _ | refine blk_drew ?_ | refine blk_alloc ?_ _)); exact BK374.out)) : gb374 ≠ gb394)); have n8_ := Aside0.mk ((by rw [hg]; exact Nat.ne_of_gt (blk_lt (g := gb374) (o := .cells #[.string t369, .string t370, .int .i64 t371] 31 (0, 0)) (by (with_reducible repeat (first | refine blk_drewN ?_ _ | refine blk_drew ?_ | refine blk_alloc ?_ _)); exact BK374.out)) : gb394 ≠ gb374)); have n9_ := Aside0.mk ((by rw [hg]; exact Nat.ne_of_lt (blk_lt (g := gb388) (o := .cells #[.string t383, .string t384, .int .i64 t385] 31 (0, 0)) (by (with_reducible repeat (first | refine blk_drewN ?_ _ | refine blk_drew ?_ | refine blk_alloc ?_ _)); exact BK388.out)) : gb388 ≠ gb394)); have n10_ := Aside0.mk ((by rw [hg]; exact Nat.ne_of_gt (blk_lt (g := gb388) (o := .cells #[.string t383, .string t384, .int .i64 t385] 31 (0, 0)) (by (with_reducible repeat (first | refine blk_drewN ?_ _ | refine blk_drew ?_ | refine blk_alloc ?_ _)); exact BK388.out)) : gb394 ≠ gb388)); clear HO381 BK374 BK388 HB; have HO381 := n0_; have BK374 := n1_; have BK388 := n2_; have HB := n3_; have BK394 := n4_; have GW394 := n5_; have GE394 := n6_; have NB374_394 := n7_; have NB394_374 := n8_; have NB388_394 := n9_; have NB394_388 := n10_; clear n0_ n1_ n2_ n3_ n4_ n5_ n6_ n7_ n8_ n9_ n10_ hb hbox hg; have hnb27 := NB394_374.out; have hnc27 := NB374_394.out; have hnb28 := NB394_388.out; have hnc28 := NB388_394.out; have hcz29_0 : w26.cell? ⟨gb394, 0, none⟩ = some (.string (⟨#[]⟩ : ByteArray)) := (blk_cell BK394.out 0).trans rfl; have hcz29_1 : w26.cell? ⟨gb394, 1, none⟩ = some (.string (⟨#[]⟩ : ByteArray)) := (blk_cell BK394.out 1).trans rfl; have hcz29_2 : w26.cell? ⟨gb394, 2, none⟩ = some (.int .i64 0) := (blk_cell BK394.out 2).trans rfl; have hfz29_0 := blk_frozen BK394.out 0; have hfz29_1 := blk_frozen BK394.out 1; have hfz29_2 := blk_frozen BK394.out 2))
  (try simp only [Act.put, List.setIfInBounds_toArray, List.set_cons_zero, List.set_cons_succ])
  go_cut [83] (fun v83 wc => ∃ (kq : Nat) (x83_10 : Bool), v83 = .bool x83_10 ∧ Aside0 (laws_FnCrashes.j0 kq t372 t373 t375 t376 x83_10 t369 t370 t371 = some r) ∧ Aside0 (kq ≤ k) ∧ Aside0 (wc.heap[gb374]? = some (.cells #[.string t369, .string t370, .int .i64 t371] 31 (0, 0))) ∧ Aside0 (wc.heap[gb388]? = some (.cells #[.string t383, .string t384, .int .i64 t385] 31 (0, 0))) ∧ Aside0 (wc.heap[gb394]? = some (.cells #[.string t389, .string t390, .int .i64 t391] 31 (0, 0))) ∧ Aside0 (Below w.heap.size w wc))
  case first =>
   have H := HC11.out
   clear HC11
   by_cases c30 : t375.toList = t377.toList
   ·rw [if_pos c30] at H
    have c30b0 : (t375.toList == t377.toList) = true := beq_iff_eq.mpr c30
    have c30b1 : (t375.toList != t377.toList) = false := bne_eq_false_iff_eq.mpr c30
    clear c30
    (first | rw [c30b0] | (simp only [i64_w, i32_w]; rw [c30b0]) | skip)
    by_cases c31 : (t376 != t378) = true
    ·rw [if_pos c31] at H
     have c31b0 : (t376 != t378) = true := c31
     (try (have c31b1 : decide (t376 = t378) = false := by simpa using c31))
     (try (have c31b2 : (t376 == t378) = false := by simpa using c31))
     (try (have c31b3 : ¬ (t376 = t378) := by simpa using c31))
     clear c31
     have H' := Aside0.mk H
     clear H
     go_wp2
     go_meet
     case rel => exact ⟨_, (true), (by first | rfl | (simp; done) | (simp [*]; done)), H', ⟨by first | omega | exact Nat.le_refl _⟩, ⟨by (with_reducible repeat (first | refine blk_drewN ?_ _ | refine blk_drew ?_ | refine blk_alloc ?_ _)); refine blk_far ?_ NB374_394.out _; (with_reducible repeat (first | refine blk_drewN ?_ _ | refine blk_drew ?_ | refine blk_alloc ?_ _)); refine blk_far ?_ NB374_394.out _; (with_reducible repeat (first | refine blk_drewN ?_ _ | refine blk_drew ?_ | refine blk_alloc ?_ _)); refine blk_far ?_ NB374_394.out _; (with_reducible repeat (first | refine blk_drewN ?_ _ | refine blk_drew ?_ | refine blk_alloc ?_ _)); exact BK374.out⟩, ⟨by (with_reducible repeat (first | refine blk_drewN ?_ _ | refine blk_drew ?_ | refine blk_alloc ?_ _)); refine blk_far ?_ NB388_394.out _; (with_reducible repeat (first | refine blk_drewN ?_ _ | refine blk_drew ?_ | refine blk_alloc ?_ _)); refine blk_far ?_ NB388_394.out _; (with_reducible repeat (first | refine blk_drewN ?_ _ | refine blk_drew ?_ | refine blk_alloc ?_ _)); refine blk_far ?_ NB388_394.out _; (with_reducible repeat (first | refine blk_drewN ?_ _ | refine blk_drew ?_ | refine blk_alloc ?_ _)); exact BK388.out⟩, ⟨by (with_reducible repeat (first | refine blk_drewN ?_ _ | refine blk_drew ?_ | refine blk_alloc ?_ _)); refine blk_put (cs := #[.string t389, .string t390, .int .i64 0]) ?_ 2 _ rfl; (with_reducible repeat (first | refine blk_drewN ?_ _ | refine blk_drew ?_ | refine blk_alloc ?_ _)); refine blk_put (cs := #[.string t389, .string (⟨#[]⟩ : ByteArray), .int .i64 0]) ?_ 1 _ rfl; (with_reducible repeat (first | refine blk_drewN ?_ _ | refine blk_drew ?_ | refine blk_alloc ?_ _)); refine blk_put (cs := #[.string (⟨#[]⟩ : ByteArray), .string (⟨#[]⟩ : ByteArray), .int .i64 0]) ?_ 0 _ rfl; (with_reducible repeat (first | refine blk_drewN ?_ _ | refine blk_drew ?_ | refine blk_alloc ?_ _)); exact BK394.out⟩, ⟨by repeat (first | (with_reducible first | exact HB.out | apply below_alloc | apply pw_below_drewN | apply below_drew1 | refine below_set ?_ GE374.out | refine below_set ?_ GE388.out | refine below_set ?_ GE394.out) | exact HB.out)⟩⟩
    ·rw [if_neg c31] at H
     have c31b0 : (t376 != t378) = false := by simpa using c31
     (try (have c31b1 : decide (t376 = t378) = true := by simpa using c31))
     (try (have c31b2 : (t376 == t378) = true := by simpa using c31))
     clear c31
     by_cases c32 : (!(t383.toList == t389.toList) || (!(t384.toList == t390.toList) || (!(t385 == t391)))) = true
     ·rw [if_pos c32] at H
      have c32b0 : (!(t383.toList == t389.toList) || (!(t384.toList == t390.toList) || (!(t385 == t391)))) = true := c32
      clear c32
      have H' := Aside0.mk H
      clear H
      have hnb33 := NB388_374.out
      have hnc33 := NB374_388.out
      have hnb34 := NB388_394.out
      have hnc34 := NB394_388.out
      have hcz35_0 : w26.cell? ⟨gb388, 0, none⟩ = some (.string t383) := (blk_cell BK388.out 0).trans rfl
      have hcz35_1 : w26.cell? ⟨gb388, 1, none⟩ = some (.string t384) := (blk_cell BK388.out 1).trans rfl
      have hcz35_2 : w26.cell? ⟨gb388, 2, none⟩ = some (.int .i64 t385) := (blk_cell BK388.out 2).trans rfl
      have hfz35_0 := blk_frozen BK388.out 0
      have hfz35_1 := blk_frozen BK388.out 1
      have hfz35_2 := blk_frozen BK388.out 2
      have hnb36 := NB394_374.out
      have hnc36 := NB374_394.out
      have hcz37_0 : w26.cell? ⟨gb394, 0, none⟩ = some (.string (⟨#[]⟩ : ByteArray)) := (blk_cell BK394.out 0).trans rfl
      have hcz37_1 : w26.cell? ⟨gb394, 1, none⟩ = some (.string (⟨#[]⟩ : ByteArray)) := (blk_cell BK394.out 1).trans rfl
      have hcz37_2 : w26.cell? ⟨gb394, 2, none⟩ = some (.int .i64 0) := (blk_cell BK394.out 2).trans rfl
      have hfz37_0 := blk_frozen BK394.out 0
      have hfz37_1 := blk_frozen BK394.out 1
      have hfz37_2 := blk_frozen BK394.out 2
      go_wp2
      go_meet
      case rel => exact ⟨_, (true), (by first | rfl | (simp; done) | (simp [*]; done)), H', ⟨by first | omega | exact Nat.le_refl _⟩, ⟨by (with_reducible repeat (first | refine blk_drewN ?_ _ | refine blk_drew ?_ | refine blk_alloc ?_ _)); refine blk_far ?_ NB374_394.out _; (with_reducible repeat (first | refine blk_drewN ?_ _ | refine blk_drew ?_ | refine blk_alloc ?_ _)); refine blk_far ?_ NB374_394.out _; (with_reducible repeat (first | refine blk_drewN ?_ _ | refine blk_drew ?_ | refine blk_alloc ?_ _)); refine blk_far ?_ NB374_394.out _; (with_reducible repeat (first | refine blk_drewN ?_ _ | refine blk_drew ?_ | refine blk_alloc ?_ _)); exact BK374.out⟩, ⟨by (with_reducible repeat (first | refine blk_drewN ?_ _ | refine blk_drew ?_ | refine blk_alloc ?_ _)); refine blk_far ?_ NB388_394.out _; (with_reducible repeat (first | refine blk_drewN ?_ _ | refine blk_drew ?_ | refine blk_alloc ?_ _)); refine blk_far ?_ NB388_394.out _; (with_reducible repeat (first | refine blk_drewN ?_ _ | refine blk_drew ?_ | refine blk_alloc ?_ _)); refine blk_far ?_ NB388_394.out _; (with_reducible repeat (first | refine blk_drewN ?_ _ | refine blk_drew ?_ | refine blk_alloc ?_ _)); exact BK388.out⟩, ⟨by (with_reducible repeat (first | refine blk_drewN ?_ _ | refine blk_drew ?_ | refine blk_alloc ?_ _)); refine blk_put (cs := #[.string t389, .string t390, .int .i64 0]) ?_ 2 _ rfl; (with_reducible repeat (first | refine blk_drewN ?_ _ | refine blk_drew ?_ | refine blk_alloc ?_ _)); refine blk_put (cs := #[.string t389, .string (⟨#[]⟩ : ByteArray), .int .i64 0]) ?_ 1 _ rfl; (with_reducible repeat (first | refine blk_drewN ?_ _ | refine blk_drew ?_ | refine blk_alloc ?_ _)); refine blk_put (cs := #[.string (⟨#[]⟩ : ByteArray), .string (⟨#[]⟩ : ByteArray), .int .i64 0]) ?_ 0 _ rfl; (with_reducible repeat (first | refine blk_drewN ?_ _ | refine blk_drew ?_ | refine blk_alloc ?_ _)); exact BK394.out⟩, ⟨by repeat (first | (with_reducible first | exact HB.out | apply below_alloc | apply pw_below_drewN | apply below_drew1 | refine below_set ?_ GE374.out | refine below_set ?_ GE388.out | refine below_set ?_ GE394.out) | exact HB.out)⟩⟩
     ·rw [if_neg c32] at H
      have c32b0 : (!(t383.toList == t389.toList) || (!(t384.toList == t390.toList) || (!(t385 == t391)))) = false := by simpa using c32
      clear c32
      by_cases c38 : t386 = t392
      ·rw [if_pos c38] at H
       have c38b0 : (t386 == t392) = true := beq_iff_eq.mpr c38
       have c38b1 : (t386 != t392) = false := bne_eq_false_iff_eq.mpr c38
       clear c38
       have H' := Aside0.mk H
       clear H
       have hnb39 := NB388_374.out
       have hnc39 := NB374_388.out
       have hnb40 := NB388_394.out
       have hnc40 := NB394_388.out
       have hcz41_0 : w26.cell? ⟨gb388, 0, none⟩ = some (.string t383) := (blk_cell BK388.out 0).trans rfl
       have hcz41_1 : w26.cell? ⟨gb388, 1, none⟩ = some (.string t384) := (blk_cell BK388.out 1).trans rfl
       have hcz41_2 : w26.cell? ⟨gb388, 2, none⟩ = some (.int .i64 t385) := (blk_cell BK388.out 2).trans rfl
       have hfz41_0 := blk_frozen BK388.out 0
       have hfz41_1 := blk_frozen BK388.out 1
       have hfz41_2 := blk_frozen BK388.out 2
       have hnb42 := NB394_374.out
       have hnc42 := NB374_394.out
       have hcz43_0 : w26.cell? ⟨gb394, 0, none⟩ = some (.string (⟨#[]⟩ : ByteArray)) := (blk_cell BK394.out 0).trans rfl
       have hcz43_1 : w26.cell? ⟨gb394, 1, none⟩ = some (.string (⟨#[]⟩ : ByteArray)) := (blk_cell BK394.out 1).trans rfl
       have hcz43_2 : w26.cell? ⟨gb394, 2, none⟩ = some (.int .i64 0) := (blk_cell BK394.out 2).trans rfl
       have hfz43_0 := blk_frozen BK394.out 0
       have hfz43_1 := blk_frozen BK394.out 1
       have hfz43_2 := blk_frozen BK394.out 2
       go_wp2
       go_meet
       case rel => exact ⟨_, ((t387 != t393)), (by first | rfl | (simp; done) | (simp [*]; done)), H', ⟨by first | omega | exact Nat.le_refl _⟩, ⟨by (with_reducible repeat (first | refine blk_drewN ?_ _ | refine blk_drew ?_ | refine blk_alloc ?_ _)); refine blk_far ?_ NB374_394.out _; (with_reducible repeat (first | refine blk_drewN ?_ _ | refine blk_drew ?_ | refine blk_alloc ?_ _)); refine blk_far ?_ NB374_394.out _; (with_reducible repeat (first | refine blk_drewN ?_ _ | refine blk_drew ?_ | refine blk_alloc ?_ _)); refine blk_far ?_ NB374_394.out _; (with_reducible repeat (first | refine blk_drewN ?_ _ | refine blk_drew ?_ | refine blk_alloc ?_ _)); exact BK374.out⟩, ⟨by (with_reducible repeat (first | refine blk_drewN ?_ _ | refine blk_drew ?_ | refine blk_alloc ?_ _)); refine blk_far ?_ NB388_394.out _; (with_reducible repeat (first | refine blk_drewN ?_ _ | refine blk_drew ?_ | refine blk_alloc ?_ _)); refine blk_far ?_ NB388_394.out _; (with_reducible repeat (first | refine blk_drewN ?_ _ | refine blk_drew ?_ | refine blk_alloc ?_ _)); refine blk_far ?_ NB388_394.out _; (with_reducible repeat (first | refine blk_drewN ?_ _ | refine blk_drew ?_ | refine blk_alloc ?_ _)); exact BK388.out⟩, ⟨by (with_reducible repeat (first | refine blk_drewN ?_ _ | refine blk_drew ?_ | refine blk_alloc ?_ _)); refine blk_put (cs := #[.string t389, .string t390, .int .i64 0]) ?_ 2 _ rfl; (with_reducible repeat (first | refine blk_drewN ?_ _ | refine blk_drew ?_ | refine blk_alloc ?_ _)); refine blk_put (cs := #[.string t389, .string (⟨#[]⟩ : ByteArray), .int .i64 0]) ?_ 1 _ rfl; (with_reducible repeat (first | refine blk_drewN ?_ _ | refine blk_drew ?_ | refine blk_alloc ?_ _)); refine blk_put (cs := #[.string (⟨#[]⟩ : ByteArray), .string (⟨#[]⟩ : ByteArray), .int .i64 0]) ?_ 0 _ rfl; (with_reducible repeat (first | refine blk_drewN ?_ _ | refine blk_drew ?_ | refine blk_alloc ?_ _)); exact BK394.out⟩, ⟨by repeat (first | (with_reducible first | exact HB.out | apply below_alloc | apply pw_below_drewN | apply below_drew1 | refine below_set ?_ GE374.out | refine below_set ?_ GE388.out | refine below_set ?_ GE394.out) | exact HB.out)⟩⟩
      ·rw [if_neg c38] at H
       have c38b0 : (t386 == t392) = false := beq_eq_false_iff_ne.mpr c38
       have c38b1 : (t386 != t392) = true := bne_iff_ne.mpr c38
       have H' := Aside0.mk H
       clear H
       have hnb44 := NB388_374.out
       have hnc44 := NB374_388.out
       have hnb45 := NB388_394.out
       have hnc45 := NB394_388.out
       have hcz46_0 : w26.cell? ⟨gb388, 0, none⟩ = some (.string t383) := (blk_cell BK388.out 0).trans rfl
       have hcz46_1 : w26.cell? ⟨gb388, 1, none⟩ = some (.string t384) := (blk_cell BK388.out 1).trans rfl
       have hcz46_2 : w26.cell? ⟨gb388, 2, none⟩ = some (.int .i64 t385) := (blk_cell BK388.out 2).trans rfl
       have hfz46_0 := blk_frozen BK388.out 0
       have hfz46_1 := blk_frozen BK388.out 1
       have hfz46_2 := blk_frozen BK388.out 2
       have hnb47 := NB394_374.out
       have hnc47 := NB374_394.out
       have hcz48_0 : w26.cell? ⟨gb394, 0, none⟩ = some (.string (⟨#[]⟩ : ByteArray)) := (blk_cell BK394.out 0).trans rfl
       have hcz48_1 : w26.cell? ⟨gb394, 1, none⟩ = some (.string (⟨#[]⟩ : ByteArray)) := (blk_cell BK394.out 1).trans rfl
       have hcz48_2 : w26.cell? ⟨gb394, 2, none⟩ = some (.int .i64 0) := (blk_cell BK394.out 2).trans rfl
       have hfz48_0 := blk_frozen BK394.out 0
       have hfz48_1 := blk_frozen BK394.out 1
       have hfz48_2 := blk_frozen BK394.out 2
       go_wp2
       go_meet
       case rel => exact ⟨_, (true), (by first | rfl | (simp; done) | (simp [*]; done)), H', ⟨by first | omega | exact Nat.le_refl _⟩, ⟨by (with_reducible repeat (first | refine blk_drewN ?_ _ | refine blk_drew ?_ | refine blk_alloc ?_ _)); refine blk_far ?_ NB374_394.out _; (with_reducible repeat (first | refine blk_drewN ?_ _ | refine blk_drew ?_ | refine blk_alloc ?_ _)); refine blk_far ?_ NB374_394.out _; (with_reducible repeat (first | refine blk_drewN ?_ _ | refine blk_drew ?_ | refine blk_alloc ?_ _)); refine blk_far ?_ NB374_394.out _; (with_reducible repeat (first | refine blk_drewN ?_ _ | refine blk_drew ?_ | refine blk_alloc ?_ _)); exact BK374.out⟩, ⟨by (with_reducible repeat (first | refine blk_drewN ?_ _ | refine blk_drew ?_ | refine blk_alloc ?_ _)); refine blk_far ?_ NB388_394.out _; (with_reducible repeat (first | refine blk_drewN ?_ _ | refine blk_drew ?_ | refine blk_alloc ?_ _)); refine blk_far ?_ NB388_394.out _; (with_reducible repeat (first | refine blk_drewN ?_ _ | refine blk_drew ?_ | refine blk_alloc ?_ _)); refine blk_far ?_ NB388_394.out _; (with_reducible repeat (first | refine blk_drewN ?_ _ | refine blk_drew ?_ | refine blk_alloc ?_ _)); exact BK388.out⟩, ⟨by (with_reducible repeat (first | refine blk_drewN ?_ _ | refine blk_drew ?_ | refine blk_alloc ?_ _)); refine blk_put (cs := #[.string t389, .string t390, .int .i64 0]) ?_ 2 _ rfl; (with_reducible repeat (first | refine blk_drewN ?_ _ | refine blk_drew ?_ | refine blk_alloc ?_ _)); refine blk_put (cs := #[.string t389, .string (⟨#[]⟩ : ByteArray), .int .i64 0]) ?_ 1 _ rfl; (with_reducible repeat (first | refine blk_drewN ?_ _ | refine blk_drew ?_ | refine blk_alloc ?_ _)); refine blk_put (cs := #[.string (⟨#[]⟩ : ByteArray), .string (⟨#[]⟩ : ByteArray), .int .i64 0]) ?_ 0 _ rfl; (with_reducible repeat (first | refine blk_drewN ?_ _ | refine blk_drew ?_ | refine blk_alloc ?_ _)); exact BK394.out⟩, ⟨by repeat (first | (with_reducible first | exact HB.out | apply below_alloc | apply pw_below_drewN | apply below_drew1 | refine below_set ?_ GE374.out | refine below_set ?_ GE388.out | refine below_set ?_ GE394.out) | exact HB.out)⟩⟩
   ·rw [if_neg c30] at H
    have c30b0 : (t375.toList == t377.toList) = false := beq_eq_false_iff_ne.mpr c30
    have c30b1 : (t375.toList != t377.toList) = true := bne_iff_ne.mpr c30
    (first | rw [c30b0] | (simp only [i64_w, i32_w]; rw [c30b0]) | skip)
    have H' := Aside0.mk H
    clear H
    go_wp2
    go_meet
    case rel => exact ⟨_, (true), (by first | rfl | (simp; done) | (simp [*]; done)), H', ⟨by first | omega | exact Nat.le_refl _⟩, ⟨by (with_reducible repeat (first | refine blk_drewN ?_ _ | refine blk_drew ?_ | refine blk_alloc ?_ _)); refine blk_far ?_ NB374_394.out _; (with_reducible repeat (first | refine blk_drewN ?_ _ | refine blk_drew ?_ | refine blk_alloc ?_ _)); refine blk_far ?_ NB374_394.out _; (with_reducible repeat (first | refine blk_drewN ?_ _ | refine blk_drew ?_ | refine blk_alloc ?_ _)); refine blk_far ?_ NB374_394.out _; (with_reducible repeat (first | refine blk_drewN ?_ _ | refine blk_drew ?_ | refine blk_alloc ?_ _)); exact BK374.out⟩, ⟨by (with_reducible repeat (first | refine blk_drewN ?_ _ | refine blk_drew ?_ | refine blk_alloc ?_ _)); refine blk_far ?_ NB388_394.out _; (with_reducible repeat (first | refine blk_drewN ?_ _ | refine blk_drew ?_ | refine blk_alloc ?_ _)); refine blk_far ?_ NB388_394.out _; (with_reducible repeat (first | refine blk_drewN ?_ _ | refine blk_drew ?_ | refine blk_alloc ?_ _)); refine blk_far ?_ NB388_394.out _; (with_reducible repeat (first | refine blk_drewN ?_ _ | refine blk_drew ?_ | refine blk_alloc ?_ _)); exact BK388.out⟩, ⟨by (with_reducible repeat (first | refine blk_drewN ?_ _ | refine blk_drew ?_ | refine blk_alloc ?_ _)); refine blk_put (cs := #[.string t389, .string t390, .int .i64 0]) ?_ 2 _ rfl; (with_reducible repeat (first | refine blk_drewN ?_ _ | refine blk_drew ?_ | refine blk_alloc ?_ _)); refine blk_put (cs := #[.string t389, .string (⟨#[]⟩ : ByteArray), .int .i64 0]) ?_ 1 _ rfl; (with_reducible repeat (first | refine blk_drewN ?_ _ | refine blk_drew ?_ | refine blk_alloc ?_ _)); refine blk_put (cs := #[.string (⟨#[]⟩ : ByteArray), .string (⟨#[]⟩ : ByteArray), .int .i64 0]) ?_ 0 _ rfl; (with_reducible repeat (first | refine blk_drewN ?_ _ | refine blk_drew ?_ | refine blk_alloc ?_ _)); exact BK394.out⟩, ⟨by repeat (first | (with_reducible first | exact HB.out | apply below_alloc | apply pw_below_drewN | apply below_drew1 | refine below_set ?_ GE374.out | refine below_set ?_ GE388.out | refine below_set ?_ GE394.out) | exact HB.out)⟩⟩
  case rest =>
   clear HC11
   try clear c1
   try clear c2
   try clear p2
   try clear c3
   try clear c4
   try clear c11
   try clear c16
   try clear c17
   try clear c23
   try clear c24
   try clear c27
   try clear c28
   try clear c30
   try clear c30b0
   try clear c30b1
   try clear c31
   try clear c31b0
   try clear c31b1
   try clear c31b2
   try clear c32
   try clear c32b0
   try clear c33
   try clear c34
   try clear c36
   try clear c37
   try clear c38
   try clear c38b0
   try clear c38b1
   try clear c39
   try clear c40
   try clear c42
   try clear c43
   try clear c44
   try clear c45
   try clear c47
   try clear hcz14_0
   try clear hcz14_1
   try clear hcz14_2
   try clear hcz16_0
   try clear hcz16_1
   try clear hcz16_2
   try clear hcz24_0
   try clear hcz24_1
   try clear hcz24_2
   try clear hcz29_0
   try clear hcz29_1
   try clear hcz29_2
   try clear hcz35_0
   try clear hcz35_1
   try clear hcz35_2
   try clear hcz37_0
   try clear hcz37_1
   try clear hcz37_2
   try clear hcz41_0
   try clear hcz41_1
   try clear hcz41_2
   try clear hcz43_0
   try clear hcz43_1
   try clear hcz43_2
   try clear hcz46_0
   try clear hcz46_1
   try clear hcz46_2
   try clear hcz48_0
   try clear hcz48_1
   try clear hcz48_2
   try clear hfz14_0
   try clear hfz14_1
   try clear hfz14_2
   try clear hfz16_0
   try clear hfz16_1
   try clear hfz16_2
   try clear hfz24_0
   try clear hfz24_1
   try clear hfz24_2
   try clear hfz29_0
   try clear hfz29_1
   try clear hfz29_2
   try clear hfz35_0
   try clear hfz35_1
   try clear hfz35_2
   try clear hfz37_0
   try clear hfz37_1
   try clear hfz37_2
   try clear hfz41_0
   try clear hfz41_1
   try clear hfz41_2
   try clear hfz43_0
   try clear hfz43_1
   try clear hfz43_2
   try clear hfz46_0
   try clear hfz46_1
   try clear hfz46_2
   try clear hfz48_0
   try clear hfz48_1
   try clear hfz48_2
   obtain ⟨kq, x83_10, rfl, HA, HJ10, BK374, BK388, BK394, HB⟩ := hcut
   cases kq with
   | zero => exact absurd HA.out (by simp [laws_FnCrashes.j0])
   | succ kj10 =>
    have H := HA.out
    clear HA
    simp only [laws_FnCrashes.j0] at H
    by_cases c49 : x83_10 = true
    ·subst c49
     have H1 : (some false) = some r := by rw [if_pos rfl] at H; exact H
     clear H
     have H := H1
     clear H1
     obtain rfl := Option.some.inj H
     go_wp2
     go_ret
     exact ⟨by first | rfl | (simp [errW_none, errW_some] <;> rfl) | (simp [*, errW_none, errW_some] <;> rfl), by repeat (first | (with_reducible first | exact HB.out | apply below_alloc | apply pw_below_drewN | apply below_drew1 | refine below_set ?_ GE374.out | refine below_set ?_ GE388.out | refine below_set ?_ GE394.out) | exact HB.out)⟩
    ·replace c49 := Bool.eq_false_iff.mpr c49
     subst c49
     have H1 : (if t376 = true then ((impl_RecoverLog.f kj10 t375).bind fun bt395 => (if bt395.2.2.2.2 = true then ((impl_IsValidLog.f kj10 bt395.1 bt395.2.1 bt395.2.2.1).bind fun t401 => (if t401 = true then (if bt395.2.2.2.1 < (t369.size : Int) then (laws_FnCrashes.j1 kj10 t372 t373 true t369 t370 t371 bt395.1 bt395.2.1 bt395.2.2.1) else (laws_FnCrashes.j1 kj10 t372 t373 ((bt395.1.size : Int) != bt395.2.2.2.1) t369 t370 t371 bt395.1 bt395.2.1 bt395.2.2.1)) else (laws_FnCrashes.j1 kj10 t372 t373 true t369 t370 t371 bt395.1 bt395.2.1 bt395.2.2.1))) else (laws_FnCrashes.j1 kj10 t372 t373 true t369 t370 t371 bt395.1 bt395.2.1 bt395.2.2.1))) else (some true)) = some r := by rw [if_neg (show ¬ (false = true) by decide)] at H; exact H
     clear H
     have H := H1
     clear H1
     by_cases c50 : t376 = true
     ·subst c50
      have H1 : ((impl_RecoverLog.f kj10 t375).bind fun bt395 => (if bt395.2.2.2.2 = true then ((impl_IsValidLog.f kj10 bt395.1 bt395.2.1 bt395.2.2.1).bind fun t401 => (if t401 = true then (if bt395.2.2.2.1 < (t369.size : Int) then (laws_FnCrashes.j1 kj10 t372 t373 true t369 t370 t371 bt395.1 bt395.2.1 bt395.2.2.1) else (laws_FnCrashes.j1 kj10 t372 t373 ((bt395.1.size : Int) != bt395.2.2.2.1) t369 t370 t371 bt395.1 bt395.2.1 bt395.2.2.1)) else (laws_FnCrashes.j1 kj10 t372 t373 true t369 t370 t371 bt395.1 bt395.2.1 bt395.2.2.1))) else (laws_FnCrashes.j1 kj10 t372 t373 true t369 t370 t371 bt395.1 bt395.2.1 bt395.2.2.1))) = some r := by rw [if_pos rfl] at H; exact H
      clear H
      have H := H1
      clear H1
      replace H := Option.bind_eq_some_iff.mp H
      obtain ⟨⟨t395, t396, t397, t398, t399⟩, A510, H⟩ := H
      replace H : (if t399 = true then ((impl_IsValidLog.f kj10 t395 t396 t397).bind fun t401 => (if t401 = true then (if t398 < (t369.size : Int) then (laws_FnCrashes.j1 kj10 t372 t373 true t369 t370 t371 t395 t396 t397) else (laws_FnCrashes.j1 kj10 t372 t373 ((t395.size : Int) != t398) t369 t370 t371 t395 t396 t397)) else (laws_FnCrashes.j1 kj10 t372 t373 true t369 t370 t371 t395 t396 t397))) else (laws_FnCrashes.j1 kj10 t372 t373 true t369 t370 t371 t395 t396 t397)) = some r := H
      have A51 := Aside0.mk A510
      clear A510
      have HC52 := Aside0.mk H
      clear H
      go_upto_region 14 with (first | ((with_reducible refine gate_callee (f := 17) rfl ?_); refine goesL_ (some 88) rfl rfl Tryd.func17 (by kernel_rfl) rfl #[.string t375] rfl (by (try simp only [List.map_toArray, List.map_cons, List.map_nil]); first | done | rfl | (simp only [List.length_drop, List.length_take]; rfl)) ?_; (with_reducible refine (impl_RecoverLog.calls kj10 t375 t395 t396 t397 t398 t399 _ (by first | exact TabOK.below HG0.out (by repeat (first | (with_reducible first | exact HB.out | apply below_alloc | apply pw_below_drewN | apply below_drew1 | refine below_set ?_ GE374.out | refine below_set ?_ GE388.out | refine below_set ?_ GE394.out | refine below_set ?_ GE400.out) | exact HB.out)) | (repeat (first | exact HG0.out | apply TabOK.drew | apply TabOK.drewN)) | exact TabOK.drawn HG0.out (by assumption)) A51.out).mono ?_); rintro e w53 ⟨rfl, hb⟩; refine ⟨_, rfl, ?_⟩; have n0_ := Aside0.mk (blk_below (g := gb374) (o := .cells #[.string t369, .string t370, .int .i64 t371] 31 (0, 0)) (by (with_reducible repeat (first | refine blk_drewN ?_ _ | refine blk_drew ?_ | refine blk_alloc ?_ _)); exact BK374.out) hb); have n1_ := Aside0.mk (blk_below (g := gb388) (o := .cells #[.string t383, .string t384, .int .i64 t385] 31 (0, 0)) (by (with_reducible repeat (first | refine blk_drewN ?_ _ | refine blk_drew ?_ | refine blk_alloc ?_ _)); exact BK388.out) hb); have n2_ := Aside0.mk (blk_below (g := gb394) (o := .cells #[.string t389, .string t390, .int .i64 t391] 31 (0, 0)) (by (with_reducible repeat (first | refine blk_drewN ?_ _ | refine blk_drew ?_ | refine blk_alloc ?_ _)); exact BK394.out) hb); have n3_ := Aside0.mk (below_step (by repeat (first | (with_reducible first | exact HB.out | apply below_alloc | apply pw_below_drewN | apply below_drew1 | refine below_set ?_ GE374.out | refine below_set ?_ GE388.out | refine below_set ?_ GE394.out) | exact HB.out)) hb); clear BK374 BK388 BK394 HB; have BK374 := n0_; have BK388 := n1_; have BK394 := n2_; have HB := n3_; clear n0_ n1_ n2_ n3_; (try clear hb); (try clear hb2); (try clear hk); (try clear hi)) | ((with_reducible refine gate_dst (N := 17) rfl ?_); (try (refine gate_guard (by rfl) ?_; dsimp only)); refine box_event ?hg (N := 17) ?hd (cs := #[.string (⟨#[]⟩ : ByteArray), .string (⟨#[]⟩ : ByteArray), .int .i64 0]) (t := 31) ?hr ?_; (case hd => rfl); (case hg => rfl); (case hr => first | (go_simp; done) | (go_simp; rfl)); intro gb400 hg w54 hbox hb; have n0_ := Aside0.mk (blk_below (g := gb374) (o := .cells #[.string t369, .string t370, .int .i64 t371] 31 (0, 0)) (by (with_reducible repeat (first | refine blk_drewN ?_ _ | refine blk_drew ?_ | refine blk_alloc ?_ _)); exact BK374.out) hb); have n1_ := Aside0.mk (blk_below (g := gb388) (o := .cells #[.string t383, .string t384, .int .i64 t385] 31 (0, 0)) (by (with_reducible repeat (first | refine blk_drewN ?_ _ | refine blk_drew ?_ | refine blk_alloc ?_ _)); exact BK388.out) hb); have n2_ := Aside0.mk (blk_below (g := gb394) (o := .cells #[.string t389, .string t390, .int .i64 t391] 31 (0, 0)) (by (with_reducible repeat (first | refine blk_drewN ?_ _ | refine blk_drew ?_ | refine blk_alloc ?_ _)); exact BK394.out) hb); have n3_ := Aside0.mk (below_step (by repeat (first | (with_reducible first | exact HB.out | apply below_alloc | apply pw_below_drewN | apply below_drew1 | refine below_set ?_ GE374.out | refine below_set ?_ GE388.out | refine below_set ?_ GE394.out) | exact HB.out)) hb); have n4_ := Aside0.mk (hbox); have n5_ := Aside0.mk ((by rw [hg]; exact (below_size (by repeat (first | (with_reducible first | exact HB.out | apply below_alloc | apply pw_below_drewN | apply below_drew1 | refine below_set ?_ GE374.out | refine below_set ?_ GE388.out | refine below_set ?_ GE394.out) | exact HB.out))) : w.heap.size ≤ gb400)); have n6_ := Aside0.mk ((by rw [hg]; exact (below_size (by repeat (first | (with_reducible first | exact HB.out | apply below_alloc | apply pw_below_drewN | apply below_drew1 | refine below_set ?_ GE374.out | refine below_set ?_ GE388.out | refine below_set ?_ GE394.out) | exact HB.out))) : w.heap.size ≤ gb400)); have n7_ := Aside0.mk ((by rw [hg]; exact Nat.ne_of_lt (blk_lt (g := gb374) (o := .cells #[.string t369, .string t370, .int .i64 t371] 31 (0, 0)) (by (with_reducible repeat (first | refine blk_drewN ?_ _ | refine blk_drew ?_ | refine blk_alloc ?_ _)); exact BK374.out)) : gb374 ≠ gb400)); have n8_ := Aside0.mk ((by rw [hg]; exact Nat.ne_of_gt (blk_lt (g := gb374) (o := .cells #[.string t369, .string t370, .int .i64 t371] 31 (0, 0)) (by (with_reducible repeat (first | refine blk_drewN ?_ _ | refine blk_drew ?_ | refine blk_alloc ?_ _)); exact BK374.out)) : gb400 ≠ gb374)); have n9_ := Aside0.mk ((by rw [hg]; exact Nat.ne_of_lt (blk_lt (g := gb388) (o := .cells #[.string t383, .string t384, .int .i64 t385] 31 (0, 0)) (by (with_reducible repeat (first | refine blk_drewN ?_ _ | refine blk_drew ?_ | refine blk_alloc ?_ _)); exact BK388.out)) : gb388 ≠ gb400)); have n10_ := Aside0.mk ((by rw [hg]; exact Nat.ne_of_gt (blk_lt (g := gb388) (o := .cells #[.string t383, .string t384, .int .i64 t385] 31 (0, 0)) (by (with_reducible repeat (first | refine blk_drewN ?_ _ | refine blk_drew ?_ | refine blk_alloc ?_ _)); exact BK388.out)) : gb400 ≠ gb388)); have n11_ := Aside0.mk ((by rw [hg]; exact Nat.ne_of_lt (blk_lt (g := gb394) (o := .cells #[.string t389, .string t390, .int .i64 t391] 31 (0, 0)) (by (with_reducible repeat (first | refine blk_drewN ?_ _ | refine blk_drew ?_ | refine blk_alloc ?_ _)); exact BK394.out)) : gb394 ≠ gb400)); have n12_ := Aside0.mk ((by rw [hg]; exact Nat.ne_of_gt (blk_lt (g := gb394) (o := .cells #[.string t389, .string t390, .int .i64 t391] 31 (0, 0)) (by (with_reducible repeat (first | refine blk_drewN ?_ _ | refine blk_drew ?_ | refine blk_alloc ?_ _)); exact BK394.out)) : gb400 ≠ gb394)); clear BK374 BK388 BK394 HB; have BK374 := n0_; have BK388 := n1_; have BK394 := n2_; have HB := n3_; have BK400 := n4_; have GW400 := n5_; have GE400 := n6_; have NB374_400 := n7_; have NB400_374 := n8_; have NB388_400 := n9_; have NB400_388 := n10_; have NB394_400 := n11_; have NB400_394 := n12_; clear n0_ n1_ n2_ n3_ n4_ n5_ n6_ n7_ n8_ n9_ n10_ n11_ n12_ hb hbox hg; have hnb55 := NB400_374.out; have hnc55 := NB374_400.out; have hnb56 := NB400_388.out; have hnc56 := NB388_400.out; have hnb57 := NB400_394.out; have hnc57 := NB394_400.out; have hcz58_0 : w54.cell? ⟨gb400, 0, none⟩ = some (.string (⟨#[]⟩ : ByteArray)) := (blk_cell BK400.out 0).trans rfl; have hcz58_1 : w54.cell? ⟨gb400, 1, none⟩ = some (.string (⟨#[]⟩ : ByteArray)) := (blk_cell BK400.out 1).trans rfl; have hcz58_2 : w54.cell? ⟨gb400, 2, none⟩ = some (.int .i64 0) := (blk_cell BK400.out 2).trans rfl; have hfz58_0 := blk_frozen BK400.out 0; have hfz58_1 := blk_frozen BK400.out 1; have hfz58_2 := blk_frozen BK400.out 2))
      (try simp only [Act.put, List.setIfInBounds_toArray, List.set_cons_zero, List.set_cons_succ])
      go_cut [112] (fun v112 wc => ∃ (kq : Nat) (x112_51 : Bool), v112 = .bool x112_51 ∧ Aside0 (laws_FnCrashes.j1 kq t372 t373 x112_51 t369 t370 t371 t395 t396 t397 = some r) ∧ Aside0 (kq ≤ kj10) ∧ Aside0 (wc.heap[gb374]? = some (.cells #[.string t369, .string t370, .int .i64 t371] 31 (0, 0))) ∧ Aside0 (wc.heap[gb388]? = some (.cells #[.string t383, .string t384, .int .i64 t385] 31 (0, 0))) ∧ Aside0 (wc.heap[gb394]? = some (.cells #[.string t389, .string t390, .int .i64 t391] 31 (0, 0))) ∧ Aside0 (wc.heap[gb400]? = some (.cells #[.string t395, .string t396, .int .i64 t397] 31 (0, 0))) ∧ Aside0 (Below w.heap.size w wc))
      case first =>
       have H := HC52.out
       clear HC52
       by_cases c59 : t399 = true
       ·subst c59
        have H1 : ((impl_IsValidLog.f kj10 t395 t396 t397).bind fun t401 => (if t401 = true then (if t398 < (t369.size : Int) then (laws_FnCrashes.j1 kj10 t372 t373 true t369 t370 t371 t395 t396 t397) else (laws_FnCrashes.j1 kj10 t372 t373 ((t395.size : Int) != t398) t369 t370 t371 t395 t396 t397)) else (laws_FnCrashes.j1 kj10 t372 t373 true t369 t370 t371 t395 t396 t397))) = some r := by rw [if_pos rfl] at H; exact H
        clear H
        have H := H1
        clear H1
        replace H := Option.bind_eq_some_iff.mp H
        obtain ⟨t401, A600, H⟩ := H
        replace H : (if t401 = true then (if t398 < (t369.size : Int) then (laws_FnCrashes.j1 kj10 t372 t373 true t369 t370 t371 t395 t396 t397) else (laws_FnCrashes.j1 kj10 t372 t373 ((t395.size : Int) != t398) t369 t370 t371 t395 t396 t397)) else (laws_FnCrashes.j1 kj10 t372 t373 true t369 t370 t371 t395 t396 t397)) = some r := H
        have A60 := Aside0.mk A600
        clear A600
        by_cases c61 : t401 = true
        ·subst c61
         have H1 : (if t398 < (t369.size : Int) then (laws_FnCrashes.j1 kj10 t372 t373 true t369 t370 t371 t395 t396 t397) else (laws_FnCrashes.j1 kj10 t372 t373 ((t395.size : Int) != t398) t369 t370 t371 t395 t396 t397)) = some r := by rw [if_pos rfl] at H; exact H
         clear H
         have H := H1
         clear H1
         by_cases c62 : t398 < (t369.size : Int)
         ·rw [if_pos c62] at H
          have c62b0 : decide (t398 < (t369.size : Int)) = true := decide_eq_true c62
          clear c62
          (first | rw [c62b0] | (simp only [i64_w, i32_w]; rw [c62b0]) | skip)
          have H' := Aside0.mk H
          clear H
          have hnb63 := NB400_374.out
          have hnc63 := NB374_400.out
          have hnb64 := NB400_388.out
          have hnc64 := NB388_400.out
          have hnb65 := NB400_394.out
          have hnc65 := NB394_400.out
          have hcz66_0 : w54.cell? ⟨gb400, 0, none⟩ = some (.string (⟨#[]⟩ : ByteArray)) := (blk_cell BK400.out 0).trans rfl
          have hcz66_1 : w54.cell? ⟨gb400, 1, none⟩ = some (.string (⟨#[]⟩ : ByteArray)) := (blk_cell BK400.out 1).trans rfl
          have hcz66_2 : w54.cell? ⟨gb400, 2, none⟩ = some (.int .i64 0) := (blk_cell BK400.out 2).trans rfl
          have hfz66_0 := blk_frozen BK400.out 0
          have hfz66_1 := blk_frozen BK400.out 1
          have hfz66_2 := blk_frozen BK400.out 2
          go_wp2_with (first | (go_at_call 22; (with_reducible refine (impl_IsValidLog.calls kj10 t395 t396 t397 true _ (by first | exact TabOK.below HG0.out (by repeat (first | (with_reducible first | exact HB.out | apply below_alloc | apply pw_below_drewN | apply below_drew1 | refine below_set ?_ GE374.out | refine below_set ?_ GE388.out | refine below_set ?_ GE394.out | refine below_set ?_ GE400.out) | exact HB.out)) | (repeat (first | exact HG0.out | apply TabOK.drew | apply TabOK.drewN)) | exact TabOK.drawn HG0.out (by assumption)) A60.out).mono ?_); rintro e w67 ⟨rfl, hb⟩; have n0_ := Aside0.mk (blk_below (g := gb374) (o := .cells #[.string t369, .string t370, .int .i64 t371] 31 (0, 0)) (by (with_reducible repeat (first | refine blk_drewN ?_ _ | refine blk_drew ?_ | refine blk_alloc ?_ _)); refine blk_far ?_ NB374_400.out _; (with_reducible repeat (first | refine blk_drewN ?_ _ | refine blk_drew ?_ | refine blk_alloc ?_ _)); refine blk_far ?_ NB374_400.out _; (with_reducible repeat (first | refine blk_drewN ?_ _ | refine blk_drew ?_ | refine blk_alloc ?_ _)); refine blk_far ?_ NB374_400.out _; (with_reducible repeat (first | refine blk_drewN ?_ _ | refine blk_drew ?_ | refine blk_alloc ?_ _)); exact BK374.out) hb); have n1_ := Aside0.mk (blk_below (g := gb388) (o := .cells #[.string t383, .string t384, .int .i64 t385] 31 (0, 0)) (by (with_reducible repeat (first | refine blk_drewN ?_ _ | refine blk_drew ?_ | refine blk_alloc ?_ _)); refine blk_far ?_ NB388_400.out _; (with_reducible repeat (first | refine blk_drewN ?_ _ | refine blk_drew ?_ | refine blk_alloc ?_ _)); refine blk_far ?_ NB388_400.out _; (with_reducible repeat (first | refine blk_drewN ?_ _ | refine blk_drew ?_ | refine blk_alloc ?_ _)); refine blk_far ?_ NB388_400.out _; (with_reducible repeat (first | refine blk_drewN ?_ _ | refine blk_drew ?_ | refine blk_alloc ?_ _)); exact BK388.out) hb); have n2_ := Aside0.mk (blk_below (g := gb394) (o := .cells #[.string t389, .string t390, .int .i64 t391] 31 (0, 0)) (by (with_reducible repeat (first | refine blk_drewN ?_ _ | refine blk_drew ?_ | refine blk_alloc ?_ _)); refine blk_far ?_ NB394_400.out _; (with_reducible repeat (first | refine blk_drewN ?_ _ | refine blk_drew ?_ | refine blk_alloc ?_ _)); refine blk_far ?_ NB394_400.out _; (with_reducible repeat (first | refine blk_drewN ?_ _ | refine blk_drew ?_ | refine blk_alloc ?_ _)); refine blk_far ?_ NB394_400.out _; (with_reducible repeat (first | refine blk_drewN ?_ _ | refine blk_drew ?_ | refine blk_alloc ?_ _)); exact BK394.out) hb); have n3_ := Aside0.mk (blk_below (g := gb400) (o := .cells #[.string t395, .string t396, .int .i64 t397] 31 (0, 0)) (by (with_reducible repeat (first | refine blk_drewN ?_ _ | refine blk_drew ?_ | refine blk_alloc ?_ _)); refine blk_put (cs := #[.string t395, .string t396, .int .i64 0]) ?_ 2 _ rfl; (with_reducible repeat (first | refine blk_drewN ?_ _ | refine blk_drew ?_ | refine blk_alloc ?_ _)); refine blk_put (cs := #[.string t395, .string (⟨#[]⟩ : ByteArray), .int .i64 0]) ?_ 1 _ rfl; (with_reducible repeat (first | refine blk_drewN ?_ _ | refine blk_drew ?_ | refine blk_alloc ?_ _)); refine blk_put (cs := #[.string (⟨#[]⟩ : ByteArray), .string (⟨#[]⟩ : ByteArray), .int .i64 0]) ?_ 0 _ rfl; (with_reducible repeat (first | refine blk_drewN ?_ _ | refine blk_drew ?_ | refine blk_alloc ?_ _)); exact BK400.out) hb); have n4_ := Aside0.mk (below_step (by repeat (first | (with_reducible first | exact HB.out | apply below_alloc | apply pw_below_drewN | apply below_drew1 | refine below_set ?_ GE374.out | refine below_set ?_ GE388.out | refine below_set ?_ GE394.out | refine below_set ?_ GE400.out) | exact HB.out)) hb); clear BK374 BK388 BK394 BK400 HB; have BK374 := n0_; have BK388 := n1_; have BK394 := n2_; have BK400 := n3_; have HB := n4_; clear n0_ n1_ n2_ n3_ n4_; (try clear hb); (try clear hb2); (try clear hk); (try clear hi); have hnb68 := NB374_388.out; have hnc68 := NB388_374.out; have hnb69 := NB374_394.out; have hnc69 := NB394_374.out; have hcz70_0 : w67.cell? ⟨gb374, 0, none⟩ = some (.string t369) := (blk_cell BK374.out 0).trans rfl; have hcz70_1 : w67.cell? ⟨gb374, 1, none⟩ = some (.string t370) := (blk_cell BK374.out 1).trans rfl; have hcz70_2 : w67.cell? ⟨gb374, 2, none⟩ = some (.int .i64 t371) := (blk_cell BK374.out 2).trans rfl; have hfz70_0 := blk_frozen BK374.out 0; have hfz70_1 := blk_frozen BK374.out 1; have hfz70_2 := blk_frozen BK374.out 2))
          go_meet
          case rel => exact ⟨_, (true), (by first | rfl | (simp; done) | (simp [*]; done)), H', ⟨by have := HJ10.out; first | omega | exact Nat.le_refl _⟩, ⟨by (with_reducible repeat (first | refine blk_drewN ?_ _ | refine blk_drew ?_ | refine blk_alloc ?_ _)); exact BK374.out⟩, ⟨by (with_reducible repeat (first | refine blk_drewN ?_ _ | refine blk_drew ?_ | refine blk_alloc ?_ _)); exact BK388.out⟩, ⟨by (with_reducible repeat (first | refine blk_drewN ?_ _ | refine blk_drew ?_ | refine blk_alloc ?_ _)); exact BK394.out⟩, ⟨by (with_reducible repeat (first | refine blk_drewN ?_ _ | refine blk_drew ?_ | refine blk_alloc ?_ _)); exact BK400.out⟩, ⟨by repeat (first | (with_reducible first | exact HB.out | apply below_alloc | apply pw_below_drewN | apply below_drew1 | refine below_set ?_ GE374.out | refine below_set ?_ GE388.out | refine below_set ?_ GE394.out | refine below_set ?_ GE400.out) | exact HB.out)⟩⟩
         ·rw [if_neg c62] at H
          have c62b0 : decide (t398 < (t369.size : Int)) = false := decide_eq_false c62
          clear c62
          (first | rw [c62b0] | (simp only [i64_w, i32_w]; rw [c62b0]) | skip)
          have H' := Aside0.mk H
          clear H
          have hnb71 := NB400_374.out
          have hnc71 := NB374_400.out
          have hnb72 := NB400_388.out
          have hnc72 := NB388_400.out
          have hnb73 := NB400_394.out
          have hnc73 := NB394_400.out
          have hcz74_0 : w54.cell? ⟨gb400, 0, none⟩ = some (.string (⟨#[]⟩ : ByteArray)) := (blk_cell BK400.out 0).trans rfl
          have hcz74_1 : w54.cell? ⟨gb400, 1, none⟩ = some (.string (⟨#[]⟩ : ByteArray)) := (blk_cell BK400.out 1).trans rfl
          have hcz74_2 : w54.cell? ⟨gb400, 2, none⟩ = some (.int .i64 0) := (blk_cell BK400.out 2).trans rfl
          have hfz74_0 := blk_frozen BK400.out 0
          have hfz74_1 := blk_frozen BK400.out 1
          have hfz74_2 := blk_frozen BK400.out 2
          go_wp2_with (first | (go_at_call 22; (with_reducible refine (impl_IsValidLog.calls kj10 t395 t396 t397 true _ (by first | exact TabOK.below HG0.out (by repeat (first | (with_reducible first | exact HB.out | apply below_alloc | apply pw_below_drewN | apply below_drew1 | refine below_set ?_ GE374.out | refine below_set ?_ GE388.out | refine below_set ?_ GE394.out | refine below_set ?_ GE400.out) | exact HB.out)) | (repeat (first | exact HG0.out | apply TabOK.drew | apply TabOK.drewN)) | exact TabOK.drawn HG0.out (by assumption)) A60.out).mono ?_); rintro e w75 ⟨rfl, hb⟩; have n0_ := Aside0.mk (blk_below (g := gb374) (o := .cells #[.string t369, .string t370, .int .i64 t371] 31 (0, 0)) (by (with_reducible repeat (first | refine blk_drewN ?_ _ | refine blk_drew ?_ | refine blk_alloc ?_ _)); refine blk_far ?_ NB374_400.out _; (with_reducible repeat (first | refine blk_drewN ?_ _ | refine blk_drew ?_ | refine blk_alloc ?_ _)); refine blk_far ?_ NB374_400.out _; (with_reducible repeat (first | refine blk_drewN ?_ _ | refine blk_drew ?_ | refine blk_alloc ?_ _)); refine blk_far ?_ NB374_400.out _; (with_reducible repeat (first | refine blk_drewN ?_ _ | refine blk_drew ?_ | refine blk_alloc ?_ _)); exact BK374.out) hb); have n1_ := Aside0.mk (blk_below (g := gb388) (o := .cells #[.string t383, .string t384, .int .i64 t385] 31 (0, 0)) (by (with_reducible repeat (first | refine blk_drewN ?_ _ | refine blk_drew ?_ | refine blk_alloc ?_ _)); refine blk_far ?_ NB388_400.out _; (with_reducible repeat (first | refine blk_drewN ?_ _ | refine blk_drew ?_ | refine blk_alloc ?_ _)); refine blk_far ?_ NB388_400.out _; (with_reducible repeat (first | refine blk_drewN ?_ _ | refine blk_drew ?_ | refine blk_alloc ?_ _)); refine blk_far ?_ NB388_400.out _; (with_reducible repeat (first | refine blk_drewN ?_ _ | refine blk_drew ?_ | refine blk_alloc ?_ _)); exact BK388.out) hb); have n2_ := Aside0.mk (blk_below (g := gb394) (o := .cells #[.string t389, .string t390, .int .i64 t391] 31 (0, 0)) (by (with_reducible repeat (first | refine blk_drewN ?_ _ | refine blk_drew ?_ | refine blk_alloc ?_ _)); refine blk_far ?_ NB394_400.out _; (with_reducible repeat (first | refine blk_drewN ?_ _ | refine blk_drew ?_ | refine blk_alloc ?_ _)); refine blk_far ?_ NB394_400.out _; (with_reducible repeat (first | refine blk_drewN ?_ _ | refine blk_drew ?_ | refine blk_alloc ?_ _)); refine blk_far ?_ NB394_400.out _; (with_reducible repeat (first | refine blk_drewN ?_ _ | refine blk_drew ?_ | refine blk_alloc ?_ _)); exact BK394.out) hb); have n3_ := Aside0.mk (blk_below (g := gb400) (o := .cells #[.string t395, .string t396, .int .i64 t397] 31 (0, 0)) (by (with_reducible repeat (first | refine blk_drewN ?_ _ | refine blk_drew ?_ | refine blk_alloc ?_ _)); refine blk_put (cs := #[.string t395, .string t396, .int .i64 0]) ?_ 2 _ rfl; (with_reducible repeat (first | refine blk_drewN ?_ _ | refine blk_drew ?_ | refine blk_alloc ?_ _)); refine blk_put (cs := #[.string t395, .string (⟨#[]⟩ : ByteArray), .int .i64 0]) ?_ 1 _ rfl; (with_reducible repeat (first | refine blk_drewN ?_ _ | refine blk_drew ?_ | refine blk_alloc ?_ _)); refine blk_put (cs := #[.string (⟨#[]⟩ : ByteArray), .string (⟨#[]⟩ : ByteArray), .int .i64 0]) ?_ 0 _ rfl; (with_reducible repeat (first | refine blk_drewN ?_ _ | refine blk_drew ?_ | refine blk_alloc ?_ _)); exact BK400.out) hb); have n4_ := Aside0.mk (below_step (by repeat (first | (with_reducible first | exact HB.out | apply below_alloc | apply pw_below_drewN | apply below_drew1 | refine below_set ?_ GE374.out | refine below_set ?_ GE388.out | refine below_set ?_ GE394.out | refine below_set ?_ GE400.out) | exact HB.out)) hb); clear BK374 BK388 BK394 BK400 HB; have BK374 := n0_; have BK388 := n1_; have BK394 := n2_; have BK400 := n3_; have HB := n4_; clear n0_ n1_ n2_ n3_ n4_; (try clear hb); (try clear hb2); (try clear hk); (try clear hi); have hnb76 := NB374_388.out; have hnc76 := NB388_374.out; have hnb77 := NB374_394.out; have hnc77 := NB394_374.out; have hcz78_0 : w75.cell? ⟨gb374, 0, none⟩ = some (.string t369) := (blk_cell BK374.out 0).trans rfl; have hcz78_1 : w75.cell? ⟨gb374, 1, none⟩ = some (.string t370) := (blk_cell BK374.out 1).trans rfl; have hcz78_2 : w75.cell? ⟨gb374, 2, none⟩ = some (.int .i64 t371) := (blk_cell BK374.out 2).trans rfl; have hfz78_0 := blk_frozen BK374.out 0; have hfz78_1 := blk_frozen BK374.out 1; have hfz78_2 := blk_frozen BK374.out 2; have hcz79_0 : w75.cell? ⟨gb400, 0, none⟩ = some (.string t395) := (blk_cell BK400.out 0).trans rfl; have hcz79_1 : w75.cell? ⟨gb400, 1, none⟩ = some (.string t396) := (blk_cell BK400.out 1).trans rfl; have hcz79_2 : w75.cell? ⟨gb400, 2, none⟩ = some (.int .i64 t397) := (blk_cell BK400.out 2).trans rfl; have hfz79_0 := blk_frozen BK400.out 0; have hfz79_1 := blk_frozen BK400.out 1; have hfz79_2 := blk_frozen BK400.out 2))
          go_meet
          case rel => exact ⟨_, (((t395.size : Int) != t398)), (by first | rfl | (simp; done) | (simp [*]; done)), H', ⟨by have := HJ10.out; first | omega | exact Nat.le_refl _⟩, ⟨by (with_reducible repeat (first | refine blk_drewN ?_ _ | refine blk_drew ?_ | refine blk_alloc ?_ _)); exact BK374.out⟩, ⟨by (with_reducible repeat (first | refine blk_drewN ?_ _ | refine blk_drew ?_ | refine blk_alloc ?_ _)); exact BK388.out⟩, ⟨by (with_reducible repeat (first | refine blk_drewN ?_ _ | refine blk_drew ?_ | refine blk_alloc ?_ _)); exact BK394.out⟩, ⟨by (with_reducible repeat (first | refine blk_drewN ?_ _ | refine blk_drew ?_ | refine blk_alloc ?_ _)); exact BK400.out⟩, ⟨by repeat (first | (with_reducible first | exact HB.out | apply below_alloc | apply pw_below_drewN | apply below_drew1 | refine below_set ?_ GE374.out | refine below_set ?_ GE388.out | refine below_set ?_ GE394.out | refine below_set ?_ GE400.out) | exact HB.out)⟩⟩
        ·replace c61 := Bool.eq_false_iff.mpr c61
         subst c61
         have H1 : (laws_FnCrashes.j1 kj10 t372 t373 true t369 t370 t371 t395 t396 t397) = some r := by rw [if_neg (show ¬ (false = true) by decide)] at H; exact H
         clear H
         have H := H1
         clear H1
         have H' := Aside0.mk H
         clear H
         have hnb80 := NB400_374.out
         have hnc80 := NB374_400.out
         have hnb81 := NB400_388.out
         have hnc81 := NB388_400.out
         have hnb82 := NB400_394.out
         have hnc82 := NB394_400.out
         have hcz83_0 : w54.cell? ⟨gb400, 0, none⟩ = some (.string (⟨#[]⟩ : ByteArray)) := (blk_cell BK400.out 0).trans rfl
         have hcz83_1 : w54.cell? ⟨gb400, 1, none⟩ = some (.string (⟨#[]⟩ : ByteArray)) := (blk_cell BK400.out 1).trans rfl
         have hcz83_2 : w54.cell? ⟨gb400, 2, none⟩ = some (.int .i64 0) := (blk_cell BK400.out 2).trans rfl
         have hfz83_0 := blk_frozen BK400.out 0
         have hfz83_1 := blk_frozen BK400.out 1
         have hfz83_2 := blk_frozen BK400.out 2
         go_wp2_with (first | (go_at_call 22; (with_reducible refine (impl_IsValidLog.calls kj10 t395 t396 t397 false _ (by first | exact TabOK.below HG0.out (by repeat (first | (with_reducible first | exact HB.out | apply below_alloc | apply pw_below_drewN | apply below_drew1 | refine below_set ?_ GE374.out | refine below_set ?_ GE388.out | refine below_set ?_ GE394.out | refine below_set ?_ GE400.out) | exact HB.out)) | (repeat (first | exact HG0.out | apply TabOK.drew | apply TabOK.drewN)) | exact TabOK.drawn HG0.out (by assumption)) A60.out).mono ?_); rintro e w84 ⟨rfl, hb⟩; have n0_ := Aside0.mk (blk_below (g := gb374) (o := .cells #[.string t369, .string t370, .int .i64 t371] 31 (0, 0)) (by (with_reducible repeat (first | refine blk_drewN ?_ _ | refine blk_drew ?_ | refine blk_alloc ?_ _)); refine blk_far ?_ NB374_400.out _; (with_reducible repeat (first | refine blk_drewN ?_ _ | refine blk_drew ?_ | refine blk_alloc ?_ _)); refine blk_far ?_ NB374_400.out _; (with_reducible repeat (first | refine blk_drewN ?_ _ | refine blk_drew ?_ | refine blk_alloc ?_ _)); refine blk_far ?_ NB374_400.out _; (with_reducible repeat (first | refine blk_drewN ?_ _ | refine blk_drew ?_ | refine blk_alloc ?_ _)); exact BK374.out) hb); have n1_ := Aside0.mk (blk_below (g := gb388) (o := .cells #[.string t383, .string t384, .int .i64 t385] 31 (0, 0)) (by (with_reducible repeat (first | refine blk_drewN ?_ _ | refine blk_drew ?_ | refine blk_alloc ?_ _)); refine blk_far ?_ NB388_400.out _; (with_reducible repeat (first | refine blk_drewN ?_ _ | refine blk_drew ?_ | refine blk_alloc ?_ _)); refine blk_far ?_ NB388_400.out _; (with_reducible repeat (first | refine blk_drewN ?_ _ | refine blk_drew ?_ | refine blk_alloc ?_ _)); refine blk_far ?_ NB388_400.out _; (with_reducible repeat (first | refine blk_drewN ?_ _ | refine blk_drew ?_ | refine blk_alloc ?_ _)); exact BK388.out) hb); have n2_ := Aside0.mk (blk_below (g := gb394) (o := .cells #[.string t389, .string t390, .int .i64 t391] 31 (0, 0)) (by (with_reducible repeat (first | refine blk_drewN ?_ _ | refine blk_drew ?_ | refine blk_alloc ?_ _)); refine blk_far ?_ NB394_400.out _; (with_reducible repeat (first | refine blk_drewN ?_ _ | refine blk_drew ?_ | refine blk_alloc ?_ _)); refine blk_far ?_ NB394_400.out _; (with_reducible repeat (first | refine blk_drewN ?_ _ | refine blk_drew ?_ | refine blk_alloc ?_ _)); refine blk_far ?_ NB394_400.out _; (with_reducible repeat (first | refine blk_drewN ?_ _ | refine blk_drew ?_ | refine blk_alloc ?_ _)); exact BK394.out) hb); have n3_ := Aside0.mk (blk_below (g := gb400) (o := .cells #[.string t395, .string t396, .int .i64 t397] 31 (0, 0)) (by (with_reducible repeat (first | refine blk_drewN ?_ _ | refine blk_drew ?_ | refine blk_alloc ?_ _)); refine blk_put (cs := #[.string t395, .string t396, .int .i64 0]) ?_ 2 _ rfl; (with_reducible repeat (first | refine blk_drewN ?_ _ | refine blk_drew ?_ | refine blk_alloc ?_ _)); refine blk_put (cs := #[.string t395, .string (⟨#[]⟩ : ByteArray), .int .i64 0]) ?_ 1 _ rfl; (with_reducible repeat (first | refine blk_drewN ?_ _ | refine blk_drew ?_ | refine blk_alloc ?_ _)); refine blk_put (cs := #[.string (⟨#[]⟩ : ByteArray), .string (⟨#[]⟩ : ByteArray), .int .i64 0]) ?_ 0 _ rfl; (with_reducible repeat (first | refine blk_drewN ?_ _ | refine blk_drew ?_ | refine blk_alloc ?_ _)); exact BK400.out) hb); have n4_ := Aside0.mk (below_step (by repeat (first | (with_reducible first | exact HB.out | apply below_alloc | apply pw_below_drewN | apply below_drew1 | refine below_set ?_ GE374.out | refine below_set ?_ GE388.out | refine below_set ?_ GE394.out | refine below_set ?_ GE400.out) | exact HB.out)) hb); clear BK374 BK388 BK394 BK400 HB; have BK374 := n0_; have BK388 := n1_; have BK394 := n2_; have BK400 := n3_; have HB := n4_; clear n0_ n1_ n2_ n3_ n4_; (try clear hb); (try clear hb2); (try clear hk); (try clear hi)))
         go_meet
         case rel => exact ⟨_, (true), (by first | rfl | (simp; done) | (simp [*]; done)), H', ⟨by have := HJ10.out; first | omega | exact Nat.le_refl _⟩, ⟨by (with_reducible repeat (first | refine blk_drewN ?_ _ | refine blk_drew ?_ | refine blk_alloc ?_ _)); exact BK374.out⟩, ⟨by (with_reducible repeat (first | refine blk_drewN ?_ _ | refine blk_drew ?_ | refine blk_alloc ?_ _)); exact BK388.out⟩, ⟨by (with_reducible repeat (first | refine blk_drewN ?_ _ | refine blk_drew ?_ | refine blk_alloc ?_ _)); exact BK394.out⟩, ⟨by (with_reducible repeat (first | refine blk_drewN ?_ _ | refine blk_drew ?_ | refine blk_alloc ?_ _)); exact BK400.out⟩, ⟨by repeat (first | (with_reducible first | exact HB.out | apply below_alloc | apply pw_below_drewN | apply below_drew1 | refine below_set ?_ GE374.out | refine below_set ?_ GE388.out | refine below_set ?_ GE394.out | refine below_set ?_ GE400.out) | exact HB.out)⟩⟩
       ·replace c59 := Bool.eq_false_iff.mpr c59
        subst c59
        have H1 : (laws_FnCrashes.j1 kj10 t372 t373 true t369 t370 t371 t395 t396 t397) = some r := by rw [if_neg (show ¬ (false = true) by decide)] at H; exact H
        clear H
        have H := H1
        clear H1
        have H' := Aside0.mk H
        clear H
        go_wp2
        go_meet
        case rel => exact ⟨_, (true), (by first | rfl | (simp; done) | (simp [*]; done)), H', ⟨by have := HJ10.out; first | omega | exact Nat.le_refl _⟩, ⟨by (with_reducible repeat (first | refine blk_drewN ?_ _ | refine blk_drew ?_ | refine blk_alloc ?_ _)); refine blk_far ?_ NB374_400.out _; (with_reducible repeat (first | refine blk_drewN ?_ _ | refine blk_drew ?_ | refine blk_alloc ?_ _)); refine blk_far ?_ NB374_400.out _; (with_reducible repeat (first | refine blk_drewN ?_ _ | refine blk_drew ?_ | refine blk_alloc ?_ _)); refine blk_far ?_ NB374_400.out _; (with_reducible repeat (first | refine blk_drewN ?_ _ | refine blk_drew ?_ | refine blk_alloc ?_ _)); exact BK374.out⟩, ⟨by (with_reducible repeat (first | refine blk_drewN ?_ _ | refine blk_drew ?_ | refine blk_alloc ?_ _)); refine blk_far ?_ NB388_400.out _; (with_reducible repeat (first | refine blk_drewN ?_ _ | refine blk_drew ?_ | refine blk_alloc ?_ _)); refine blk_far ?_ NB388_400.out _; (with_reducible repeat (first | refine blk_drewN ?_ _ | refine blk_drew ?_ | refine blk_alloc ?_ _)); refine blk_far ?_ NB388_400.out _; (with_reducible repeat (first | refine blk_drewN ?_ _ | refine blk_drew ?_ | refine blk_alloc ?_ _)); exact BK388.out⟩, ⟨by (with_reducible repeat (first | refine blk_drewN ?_ _ | refine blk_drew ?_ | refine blk_alloc ?_ _)); refine blk_far ?_ NB394_400.out _; (with_reducible repeat (first | refine blk_drewN ?_ _ | refine blk_drew ?_ | refine blk_alloc ?_ _)); refine blk_far ?_ NB394_400.out _; (with_reducible repeat (first | refine blk_drewN ?_ _ | refine blk_drew ?_ | refine blk_alloc ?_ _)); refine blk_far ?_ NB394_400.out _; (with_reducible repeat (first | refine blk_drewN ?_ _ | refine blk_drew ?_ | refine blk_alloc ?_ _)); exact BK394.out⟩, ⟨by (with_reducible repeat (first | refine blk_drewN ?_ _ | refine blk_drew ?_ | refine blk_alloc ?_ _)); refine blk_put (cs := #[.string t395, .string t396, .int .i64 0]) ?_ 2 _ rfl; (with_reducible repeat (first | refine blk_drewN ?_ _ | refine blk_drew ?_ | refine blk_alloc ?_ _)); refine blk_put (cs := #[.string t395, .string (⟨#[]⟩ : ByteArray), .int .i64 0]) ?_ 1 _ rfl; (with_reducible repeat (first | refine blk_drewN ?_ _ | refine blk_drew ?_ | refine blk_alloc ?_ _)); refine blk_put (cs := #[.string (⟨#[]⟩ : ByteArray), .string (⟨#[]⟩ : ByteArray), .int .i64 0]) ?_ 0 _ rfl; (with_reducible repeat (first | refine blk_drewN ?_ _ | refine blk_drew ?_ | refine blk_alloc ?_ _)); exact BK400.out⟩, ⟨by repeat (first | (with_reducible first | exact HB.out | apply below_alloc | apply pw_below_drewN | apply below_drew1 | refine below_set ?_ GE374.out | refine below_set ?_ GE388.out | refine below_set ?_ GE394.out | refine below_set ?_ GE400.out) | exact HB.out)⟩⟩
      case rest =>
       clear HC52
       try clear c1
       try clear c2
       try clear p2
       try clear c3
       try clear c4
       try clear c5
       try clear c6
       try clear c7
       try clear c8
       try clear c11
       try clear c16
       try clear c17
       try clear c23
       try clear c24
       try clear c27
       try clear c28
       try clear c30
       try clear c30b0
       try clear c30b1
       try clear c31
       try clear c31b0
       try clear c31b1
       try clear c31b2
       try clear c32
       try clear c32b0
       try clear c33
       try clear c34
       try clear c36
       try clear c37
       try clear c38
       try clear c38b0
       try clear c38b1
       try clear c39
       try clear c40
       try clear c42
       try clear c43
       try clear c44
       try clear c45
       try clear c47
       try clear c49
       try clear c50
       try clear c55
       try clear c56
       try clear c57
       try clear c59
       try clear c61
       try clear c62
       try clear c62b0
       try clear c63
       try clear c64
       try clear c65
       try clear c68
       try clear c69
       try clear c71
       try clear c72
       try clear c73
       try clear c76
       try clear c77
       try clear c80
       try clear c81
       try clear c82
       try clear hcz14_0
       try clear hcz14_1
       try clear hcz14_2
       try clear hcz16_0
       try clear hcz16_1
       try clear hcz16_2
       try clear hcz24_0
       try clear hcz24_1
       try clear hcz24_2
       try clear hcz29_0
       try clear hcz29_1
       try clear hcz29_2
       try clear hcz35_0
       try clear hcz35_1
       try clear hcz35_2
       try clear hcz37_0
       try clear hcz37_1
       try clear hcz37_2
       try clear hcz41_0
       try clear hcz41_1
       try clear hcz41_2
       try clear hcz43_0
       try clear hcz43_1
       try clear hcz43_2
       try clear hcz46_0
       try clear hcz46_1
       try clear hcz46_2
       try clear hcz48_0
       try clear hcz48_1
       try clear hcz48_2
       try clear hcz58_0
       try clear hcz58_1
       try clear hcz58_2
       try clear hcz66_0
       try clear hcz66_1
       try clear hcz66_2
       try clear hcz70_0
       try clear hcz70_1
       try clear hcz70_2
       try clear hcz74_0
       try clear hcz74_1
       try clear hcz74_2
       try clear hcz78_0
       try clear hcz78_1
       try clear hcz78_2
       try clear hcz79_0
       try clear hcz79_1
       try clear hcz79_2
       try clear hcz83_0
       try clear hcz83_1
       try clear hcz83_2
       try clear hfz14_0
       try clear hfz14_1
       try clear hfz14_2
       try clear hfz16_0
       try clear hfz16_1
       try clear hfz16_2
       try clear hfz24_0
       try clear hfz24_1
       try clear hfz24_2
       try clear hfz29_0
       try clear hfz29_1
       try clear hfz29_2
       try clear hfz35_0
       try clear hfz35_1
       try clear hfz35_2
       try clear hfz37_0
       try clear hfz37_1
       try clear hfz37_2
       try clear hfz41_0
       try clear hfz41_1
       try clear hfz41_2
       try clear hfz43_0
       try clear hfz43_1
       try clear hfz43_2
       try clear hfz46_0
       try clear hfz46_1
       try clear hfz46_2
       try clear hfz48_0
       try clear hfz48_1
       try clear hfz48_2
       try clear hfz58_0
       try clear hfz58_1
       try clear hfz58_2
       try clear hfz66_0
       try clear hfz66_1
       try clear hfz66_2
       try clear hfz70_0
       try clear hfz70_1
       try clear hfz70_2
       try clear hfz74_0
       try clear hfz74_1
       try clear hfz74_2
       try clear hfz78_0
       try clear hfz78_1
       try clear hfz78_2
       try clear hfz79_0
       try clear hfz79_1
       try clear hfz79_2
       try clear hfz83_0
       try clear hfz83_1
       try clear hfz83_2
       try clear p2
       obtain ⟨kq, x112_51, rfl, HA, HJ51, BK374, BK388, BK394, BK400, HB⟩ := hcut
       cases kq with
       | zero => exact absurd HA.out (by simp [laws_FnCrashes.j1])
       | succ kj51 =>
        have H := HA.out
        clear HA
        simp only [laws_FnCrashes.j1] at H
        by_cases c85 : x112_51 = true
        ·subst c85
         have H1 : (some false) = some r := by rw [if_pos rfl] at H; exact H
         clear H
         have H := H1
         clear H1
         obtain rfl := Option.some.inj H
         go_wp2
         go_ret
         exact ⟨by first | rfl | (simp [errW_none, errW_some] <;> rfl) | (simp [*, errW_none, errW_some] <;> rfl), by repeat (first | (with_reducible first | exact HB.out | apply below_alloc | apply pw_below_drewN | apply below_drew1 | refine below_set ?_ GE374.out | refine below_set ?_ GE388.out | refine below_set ?_ GE394.out | refine below_set ?_ GE400.out) | exact HB.out)⟩
        ·replace c85 := Bool.eq_false_iff.mpr c85
         subst c85
         have H1 : ((impl_LogRecords.f kj51 t369 t370 t371).bind fun bt402 => ((impl_LogRecords.f kj51 t395 t396 t397).bind fun bt406 => (if (bt406.1.length : Int) ≤ (bt402.1.length : Int) then (if 0 ≤ (bt406.1.length : Int) then ((laws_vRecords.f kj51 bt406.1 (bt402.1.take ((bt406.1.length : Int) : Int).toNat)).bind fun t414 => (if t414 = true then (if t373 = true then (some true) else (if t372 < (t370.size : Int) then (some true) else (some ((bt406.1.length : Int) == (bt402.1.length : Int))))) else (some false))) else (none)) else (some false)))) = some r := by rw [if_neg (show ¬ (false = true) by decide)] at H; exact H
         clear H
         have H := H1
         clear H1
         replace H := Option.bind_eq_some_iff.mp H
         obtain ⟨⟨t402, t405⟩, A860, H⟩ := H
         replace H : ((impl_LogRecords.f kj51 t395 t396 t397).bind fun bt406 => (if (bt406.1.length : Int) ≤ (t402.length : Int) then (if 0 ≤ (bt406.1.length : Int) then ((laws_vRecords.f kj51 bt406.1 (t402.take ((bt406.1.length : Int) : Int).toNat)).bind fun t414 => (if t414 = true then (if t373 = true then (some true) else (if t372 < (t370.size : Int) then (some true) else (some ((bt406.1.length : Int) == (t402.length : Int))))) else (some false))) else (none)) else (some false))) = some r := H
         have A86 := Aside0.mk A860
         clear A860
         replace H := Option.bind_eq_some_iff.mp H
         obtain ⟨⟨t406, t409⟩, A870, H⟩ := H
         replace H : (if (t406.length : Int) ≤ (t402.length : Int) then (if 0 ≤ (t406.length : Int) then ((laws_vRecords.f kj51 t406 (t402.take ((t406.length : Int) : Int).toNat)).bind fun t414 => (if t414 = true then (if t373 = true then (some true) else (if t372 < (t370.size : Int) then (some true) else (some ((t406.length : Int) == (t402.length : Int))))) else (some false))) else (none)) else (some false)) = some r := H
         have A87 := Aside0.mk A870
         clear A870
         by_cases c88 : (t406.length : Int) ≤ (t402.length : Int)
         ·rw [if_pos c88] at H
          have c88b0 : decide ((t406.length : Int) ≤ (t402.length : Int)) = true := decide_eq_true c88
          have c88b1 : decide (t406.length ≤ t402.length) = true := decide_eq_true (Int.ofNat_le.mp c88)
          clear c88
          by_cases c89 : 0 ≤ (t406.length : Int)
          ·rw [if_pos c89] at H
           have c89b0 := eq_true c89
           have c89b1 : decide (0 ≤ (t406.length : Int)) = true := decide_eq_true c89
           clear c89
           have c90b0 := eq_true (of_decide_eq_true (by first | (with_reducible assumption) | assumption) : (t406.length : Int) ≤ (t402.length : Int))
           obtain ⟨y410, hy410⟩ : ∃ y_ : List (S27), y_ = (t402.take ((t406.length : Int) : Int).toNat) := ⟨_, rfl⟩
           replace H : ((laws_vRecords.f kj51 t406 y410).bind fun t414 => (if t414 = true then (if t373 = true then (some true) else (if t372 < (t370.size : Int) then (some true) else (some ((t406.length : Int) == (t402.length : Int))))) else (some false))) = some r := by first | (rw [hy410]; with_reducible exact H) | (have H2_ := (Option.bind_some _ _).symm.trans H; rw [hy410]; with_reducible exact H2_) | (have H2_ := (Option.bind_some _ _).symm.trans H; with_reducible exact H2_) | with_reducible exact H | (rw [hy410]; exact H) | exact H
           have Ny410 := Aside0.mk hy410
           clear hy410
           replace H := Option.bind_eq_some_iff.mp H
           obtain ⟨t414, A910, H⟩ := H
           replace H : (if t414 = true then (if t373 = true then (some true) else (if t372 < (t370.size : Int) then (some true) else (some ((t406.length : Int) == (t402.length : Int))))) else (some false)) = some r := H
           have A91 := Aside0.mk A910
           clear A910
           by_cases c92 : t414 = true
           ·subst c92
            have H1 : (if t373 = true then (some true) else (if t372 < (t370.size : Int) then (some true) else (some ((t406.length : Int) == (t402.length : Int))))) = some r := by rw [if_pos rfl] at H; exact H
            clear H
            have H := H1
            clear H1
            by_cases c93 : t373 = true
            ·subst c93
             have H1 : (some true) = some r := by rw [if_pos rfl] at H; exact H
             clear H
             have H := H1
             clear H1
             obtain rfl := Option.some.inj H
             have hnb94 := NB374_388.out
             have hnc94 := NB388_374.out
             have hnb95 := NB374_394.out
             have hnc95 := NB394_374.out
             have hnb96 := NB374_400.out
             have hnc96 := NB400_374.out
             have hcz97_0 : wc.cell? ⟨gb374, 0, none⟩ = some (.string t369) := (blk_cell BK374.out 0).trans rfl
             have hcz97_1 : wc.cell? ⟨gb374, 1, none⟩ = some (.string t370) := (blk_cell BK374.out 1).trans rfl
             have hcz97_2 : wc.cell? ⟨gb374, 2, none⟩ = some (.int .i64 t371) := (blk_cell BK374.out 2).trans rfl
             have hfz97_0 := blk_frozen BK374.out 0
             have hfz97_1 := blk_frozen BK374.out 1
             have hfz97_2 := blk_frozen BK374.out 2
             go_wp2_with (first | ((with_reducible refine gate_callee (f := 30) rfl ?_); refine goesL_ (some 115) rfl rfl Tryd.func30 (by kernel_rfl) rfl #[.agg #[.string t369, .string t370, .int .i64 t371]] rfl (by (try simp only [List.map_toArray, List.map_cons, List.map_nil]); first | done | rfl | (simp only [List.length_drop, List.length_take]; rfl)) ?_; (with_reducible refine (impl_LogRecords.calls kj51 t369 t370 t371 t402 t405 _ (by first | exact TabOK.below HG0.out (by repeat (first | (with_reducible first | exact HB.out | apply below_alloc | apply pw_below_drewN | apply below_drew1 | refine below_set ?_ GE374.out | refine below_set ?_ GE388.out | refine below_set ?_ GE394.out | refine below_set ?_ GE400.out) | exact HB.out)) | (repeat (first | exact HG0.out | apply TabOK.drew | apply TabOK.drewN)) | exact TabOK.drawn HG0.out (by assumption)) A86.out).mono ?_); rintro e w98 ⟨v403, rfl, ho0, hb⟩; refine ⟨_, rfl, ?_⟩; have n0_ := Aside0.mk (Kd.R_lower ho0 (below_size (by repeat (first | (with_reducible first | exact HB.out | apply below_alloc | apply pw_below_drewN | apply below_drew1 | refine below_set ?_ GE374.out | refine below_set ?_ GE388.out | refine below_set ?_ GE394.out | refine below_set ?_ GE400.out) | exact HB.out)))); have n1_ := Aside0.mk (blk_below (g := gb374) (o := .cells #[.string t369, .string t370, .int .i64 t371] 31 (0, 0)) (by (with_reducible repeat (first | refine blk_drewN ?_ _ | refine blk_drew ?_ | refine blk_alloc ?_ _)); exact BK374.out) hb); have n2_ := Aside0.mk (blk_below (g := gb388) (o := .cells #[.string t383, .string t384, .int .i64 t385] 31 (0, 0)) (by (with_reducible repeat (first | refine blk_drewN ?_ _ | refine blk_drew ?_ | refine blk_alloc ?_ _)); exact BK388.out) hb); have n3_ := Aside0.mk (blk_below (g := gb394) (o := .cells #[.string t389, .string t390, .int .i64 t391] 31 (0, 0)) (by (with_reducible repeat (first | refine blk_drewN ?_ _ | refine blk_drew ?_ | refine blk_alloc ?_ _)); exact BK394.out) hb); have n4_ := Aside0.mk (blk_below (g := gb400) (o := .cells #[.string t395, .string t396, .int .i64 t397] 31 (0, 0)) (by (with_reducible repeat (first | refine blk_drewN ?_ _ | refine blk_drew ?_ | refine blk_alloc ?_ _)); exact BK400.out) hb); have n5_ := Aside0.mk (below_step (by repeat (first | (with_reducible first | exact HB.out | apply below_alloc | apply pw_below_drewN | apply below_drew1 | refine below_set ?_ GE374.out | refine below_set ?_ GE388.out | refine below_set ?_ GE394.out | refine below_set ?_ GE400.out) | exact HB.out)) hb); clear BK374 BK388 BK394 BK400 HB; have HO404 := n0_; have BK374 := n1_; have BK388 := n2_; have BK394 := n3_; have BK400 := n4_; have HB := n5_; clear n0_ n1_ n2_ n3_ n4_ n5_; (try clear hb); (try clear hb2); (try clear hk); (try clear hi); (try clear ho0); have hnb99 := NB400_388.out; have hnc99 := NB388_400.out; have hnb100 := NB400_394.out; have hnc100 := NB394_400.out; have hcz101_0 : w98.cell? ⟨gb400, 0, none⟩ = some (.string t395) := (blk_cell BK400.out 0).trans rfl; have hcz101_1 : w98.cell? ⟨gb400, 1, none⟩ = some (.string t396) := (blk_cell BK400.out 1).trans rfl; have hcz101_2 : w98.cell? ⟨gb400, 2, none⟩ = some (.int .i64 t397) := (blk_cell BK400.out 2).trans rfl; have hfz101_0 := blk_frozen BK400.out 0; have hfz101_1 := blk_frozen BK400.out 1; have hfz101_2 := blk_frozen BK400.out 2) | ((with_reducible refine gate_callee (f := 30) rfl ?_); refine goesL_ (some 120) rfl rfl Tryd.func30 (by kernel_rfl) rfl #[.agg #[.string t395, .string t396, .int .i64 t397]] rfl (by (try simp only [List.map_toArray, List.map_cons, List.map_nil]); first | done | rfl | (simp only [List.length_drop, List.length_take]; rfl)) ?_; (with_reducible refine (impl_LogRecords.calls kj51 t395 t396 t397 t406 t409 _ (by first | exact TabOK.below HG0.out (by repeat (first | (with_reducible first | exact HB.out | apply below_alloc | apply pw_below_drewN | apply below_drew1 | refine below_set ?_ GE374.out | refine below_set ?_ GE388.out | refine below_set ?_ GE394.out | refine below_set ?_ GE400.out) | exact HB.out)) | (repeat (first | exact HG0.out | apply TabOK.drew | apply TabOK.drewN)) | exact TabOK.drawn HG0.out (by assumption)) A87.out).mono ?_); rintro e w102 ⟨v407, rfl, ho0, hb⟩; refine ⟨_, rfl, ?_⟩; have n0_ := Aside0.mk (Kd.R_elder' (by (with_reducible repeat (first | apply Kd.R_alloc | apply Kd.R_drewN | apply Kd.R_drew)); exact HO404.out) (Kd.R_base ho0) hb); have n1_ := Aside0.mk (Kd.R_lower (Kd.R_new' ho0 (Kd.R_lt (by (with_reducible repeat (first | apply Kd.R_alloc | apply Kd.R_drewN | apply Kd.R_drew)); exact HO404.out))) (below_size (by repeat (first | (with_reducible first | exact HB.out | apply below_alloc | apply pw_below_drewN | apply below_drew1 | refine below_set ?_ GE374.out | refine below_set ?_ GE388.out | refine below_set ?_ GE394.out | refine below_set ?_ GE400.out) | exact HB.out)))); have n2_ := Aside0.mk (blk_below (g := gb374) (o := .cells #[.string t369, .string t370, .int .i64 t371] 31 (0, 0)) (by (with_reducible repeat (first | refine blk_drewN ?_ _ | refine blk_drew ?_ | refine blk_alloc ?_ _)); exact BK374.out) hb); have n3_ := Aside0.mk (blk_below (g := gb388) (o := .cells #[.string t383, .string t384, .int .i64 t385] 31 (0, 0)) (by (with_reducible repeat (first | refine blk_drewN ?_ _ | refine blk_drew ?_ | refine blk_alloc ?_ _)); exact BK388.out) hb); have n4_ := Aside0.mk (blk_below (g := gb394) (o := .cells #[.string t389, .string t390, .int .i64 t391] 31 (0, 0)) (by (with_reducible repeat (first | refine blk_drewN ?_ _ | refine blk_drew ?_ | refine blk_alloc ?_ _)); exact BK394.out) hb); have n5_ := Aside0.mk (blk_below (g := gb400) (o := .cells #[.string t395, .string t396, .int .i64 t397] 31 (0, 0)) (by (with_reducible repeat (first | refine blk_drewN ?_ _ | refine blk_drew ?_ | refine blk_alloc ?_ _)); exact BK400.out) hb); have n6_ := Aside0.mk (below_step (by repeat (first | (with_reducible first | exact HB.out | apply below_alloc | apply pw_below_drewN | apply below_drew1 | refine below_set ?_ GE374.out | refine below_set ?_ GE388.out | refine below_set ?_ GE394.out | refine below_set ?_ GE400.out) | exact HB.out)) hb); clear HO404 BK374 BK388 BK394 BK400 HB; have HO404 := n0_; have HO408 := n1_; have BK374 := n2_; have BK388 := n3_; have BK394 := n4_; have BK400 := n5_; have HB := n6_; clear n0_ n1_ n2_ n3_ n4_ n5_ n6_; (try clear hb); (try clear hb2); (try clear hk); (try clear hi); (try clear ho0); obtain ⟨Ao103, co103, eo103⟩ := Kd.R_slice HO408.out; subst eo103; obtain ⟨Ao104, co104, eo104⟩ := Kd.R_slice HO404.out; subst eo104; have q105 : ((t406.length : Int) : Int) ≤ ((t402.length : Int) : Int) := of_decide_eq_true (by first | (with_reducible assumption) | assumption); obtain ⟨i0105, hi0105, _, hsz105, _⟩ := info_parts info27; have hroom105 : t402.length ≤ co104 := (Kd.R_reads' HO404.out).2.1; have hC105 : Kd.C k27 _ Ao104 t402.length t402 := (Kd.R_reads' HO404.out).2.2; have hcut105 := cut_to (P := Tryd.prog) 48 27 .i64 Tryd.underlying48 hi0105 Ao104 t402.length co104 (t406.length : Int) (of_decide_eq_true (by first | (with_reducible assumption) | assumption)) q105 hroom105; have hr105 := Kd.C_take (m := ((t406.length : Int) : Int).toNat) hC105 (by omega); have hy105 : y410.length = ((t406.length : Int) : Int).toNat := (by rw [Ny410.out, List.length_take]; omega); rw [← Ny410.out] at hr105; rw [← hy105] at hcut105; have HR413 := Aside0.mk hr105; have HC413 := Aside0.mk (show y410.length ≤ co104 from by omega); clear hr105 hC105 hroom105 hi0105 hsz105; have KY105 := Aside0.mk hy105; clear hy105; have KL105 := Aside0.mk (show ((t406.length : Int) : Int).toNat ≤ t402.length from by omega); replace q105 := eq_true q105) | (go_at_call 42; (with_reducible refine (laws_vRecords.calls kj51 _ _ t406 _ _ y410 true _ ?side1 ?side2 ?side3 ?side4 A91.out).mono ?_); (case side1 => repeat (first | exact (Kd.R_reads' HO408.out).2.2 | (with_reducible refine Kd.C_alloc ?_ _) | (with_reducible refine Kd.C_drewN ?_ _) | (with_reducible refine Kd.C_drew ?_))); (case side2 => exact (Kd.R_reads' HO408.out).2.1); (case side3 => repeat (first | exact (by repeat (first | (with_reducible exact HR413.out) | (with_reducible refine Kd.C_alloc ?_ _) | (with_reducible refine Kd.C_drewN ?_ _) | (with_reducible refine Kd.C_drew ?_) | exact HR413.out)) | (with_reducible refine Kd.C_alloc ?_ _) | (with_reducible refine Kd.C_drewN ?_ _) | (with_reducible refine Kd.C_drew ?_))); (case side4 => exact HC413.out); rintro e w' ⟨rfl, ⟨nd, rfl⟩⟩))
             go_ret
             exact ⟨by first | rfl | (simp [errW_none, errW_some] <;> rfl) | (simp [*, errW_none, errW_some] <;> rfl), by repeat (first | (with_reducible first | exact HB.out | apply below_alloc | apply pw_below_drewN | apply below_drew1 | refine below_set ?_ GE374.out | refine below_set ?_ GE388.out | refine below_set ?_ GE394.out | refine below_set ?_ GE400.out) | exact HB.out)⟩
            ·replace c93 := Bool.eq_false_iff.mpr c93
             subst c93
             have H1 : (if t372 < (t370.size : Int) then (some true) else (some ((t406.length : Int) == (t402.length : Int)))) = some r := by rw [if_neg (show ¬ (false = true) by decide)] at H; exact H
             clear H
             have H := H1
             clear H1
             by_cases c106 : t372 < (t370.size : Int)
             ·rw [if_pos c106] at H
              have c106b0 : decide (t372 < (t370.size : Int)) = true := decide_eq_true c106
              clear c106
              obtain rfl := Option.some.inj H
              have hnb107 := NB374_388.out
              have hnc107 := NB388_374.out
              have hnb108 := NB374_394.out
              have hnc108 := NB394_374.out
              have hnb109 := NB374_400.out
              have hnc109 := NB400_374.out
              have hcz110_0 : wc.cell? ⟨gb374, 0, none⟩ = some (.string t369) := (blk_cell BK374.out 0).trans rfl
              have hcz110_1 : wc.cell? ⟨gb374, 1, none⟩ = some (.string t370) := (blk_cell BK374.out 1).trans rfl
              have hcz110_2 : wc.cell? ⟨gb374, 2, none⟩ = some (.int .i64 t371) := (blk_cell BK374.out 2).trans rfl
              have hfz110_0 := blk_frozen BK374.out 0
              have hfz110_1 := blk_frozen BK374.out 1
              have hfz110_2 := blk_frozen BK374.out 2
              go_wp2_with (first | ((with_reducible refine gate_callee (f := 30) rfl ?_); refine goesL_ (some 115) rfl rfl Tryd.func30 (by kernel_rfl) rfl #[.agg #[.string t369, .string t370, .int .i64 t371]] rfl (by (try simp only [List.map_toArray, List.map_cons, List.map_nil]); first | done | rfl | (simp only [List.length_drop, List.length_take]; rfl)) ?_; (with_reducible refine (impl_LogRecords.calls kj51 t369 t370 t371 t402 t405 _ (by first | exact TabOK.below HG0.out (by repeat (first | (with_reducible first | exact HB.out | apply below_alloc | apply pw_below_drewN | apply below_drew1 | refine below_set ?_ GE374.out | refine below_set ?_ GE388.out | refine below_set ?_ GE394.out | refine below_set ?_ GE400.out) | exact HB.out)) | (repeat (first | exact HG0.out | apply TabOK.drew | apply TabOK.drewN)) | exact TabOK.drawn HG0.out (by assumption)) A86.out).mono ?_); rintro e w111 ⟨v403, rfl, ho0, hb⟩; refine ⟨_, rfl, ?_⟩; have n0_ := Aside0.mk (Kd.R_lower ho0 (below_size (by repeat (first | (with_reducible first | exact HB.out | apply below_alloc | apply pw_below_drewN | apply below_drew1 | refine below_set ?_ GE374.out | refine below_set ?_ GE388.out | refine below_set ?_ GE394.out | refine below_set ?_ GE400.out) | exact HB.out)))); have n1_ := Aside0.mk (blk_below (g := gb374) (o := .cells #[.string t369, .string t370, .int .i64 t371] 31 (0, 0)) (by (with_reducible repeat (first | refine blk_drewN ?_ _ | refine blk_drew ?_ | refine blk_alloc ?_ _)); exact BK374.out) hb); have n2_ := Aside0.mk (blk_below (g := gb388) (o := .cells #[.string t383, .string t384, .int .i64 t385] 31 (0, 0)) (by (with_reducible repeat (first | refine blk_drewN ?_ _ | refine blk_drew ?_ | refine blk_alloc ?_ _)); exact BK388.out) hb); have n3_ := Aside0.mk (blk_below (g := gb394) (o := .cells #[.string t389, .string t390, .int .i64 t391] 31 (0, 0)) (by (with_reducible repeat (first | refine blk_drewN ?_ _ | refine blk_drew ?_ | refine blk_alloc ?_ _)); exact BK394.out) hb); have n4_ := Aside0.mk (blk_below (g := gb400) (o := .cells #[.string t395, .string t396, .int .i64 t397] 31 (0, 0)) (by (with_reducible repeat (first | refine blk_drewN ?_ _ | refine blk_drew ?_ | refine blk_alloc ?_ _)); exact BK400.out) hb); have n5_ := Aside0.mk (below_step (by repeat (first | (with_reducible first | exact HB.out | apply below_alloc | apply pw_below_drewN | apply below_drew1 | refine below_set ?_ GE374.out | refine below_set ?_ GE388.out | refine below_set ?_ GE394.out | refine below_set ?_ GE400.out) | exact HB.out)) hb); clear BK374 BK388 BK394 BK400 HB; have HO404 := n0_; have BK374 := n1_; have BK388 := n2_; have BK394 := n3_; have BK400 := n4_; have HB := n5_; clear n0_ n1_ n2_ n3_ n4_ n5_; (try clear hb); (try clear hb2); (try clear hk); (try clear hi); (try clear ho0); have hnb112 := NB400_388.out; have hnc112 := NB388_400.out; have hnb113 := NB400_394.out; have hnc113 := NB394_400.out; have hcz114_0 : w111.cell? ⟨gb400, 0, none⟩ = some (.string t395) := (blk_cell BK400.out 0).trans rfl; have hcz114_1 : w111.cell? ⟨gb400, 1, none⟩ = some (.string t396) := (blk_cell BK400.out 1).trans rfl; have hcz114_2 : w111.cell? ⟨gb400, 2, none⟩ = some (.int .i64 t397) := (blk_cell BK400.out 2).trans rfl; have hfz114_0 := blk_frozen BK400.out 0; have hfz114_1 := blk_frozen BK400.out 1; have hfz114_2 := blk_frozen BK400.out 2) | ((with_reducible refine gate_callee (f := 30) rfl ?_); refine goesL_ (some 120) rfl rfl Tryd.func30 (by kernel_rfl) rfl #[.agg #[.string t395, .string t396, .int .i64 t397]] rfl (by (try simp only [List.map_toArray, List.map_cons, List.map_nil]); first | done | rfl | (simp only [List.length_drop, List.length_take]; rfl)) ?_; (with_reducible refine (impl_LogRecords.calls kj51 t395 t396 t397 t406 t409 _ (by first | exact TabOK.below HG0.out (by repeat (first | (with_reducible first | exact HB.out | apply below_alloc | apply pw_below_drewN | apply below_drew1 | refine below_set ?_ GE374.out | refine below_set ?_ GE388.out | refine below_set ?_ GE394.out | refine below_set ?_ GE400.out) | exact HB.out)) | (repeat (first | exact HG0.out | apply TabOK.drew | apply TabOK.drewN)) | exact TabOK.drawn HG0.out (by assumption)) A87.out).mono ?_); rintro e w115 ⟨v407, rfl, ho0, hb⟩; refine ⟨_, rfl, ?_⟩; have n0_ := Aside0.mk (Kd.R_elder' (by (with_reducible repeat (first | apply Kd.R_alloc | apply Kd.R_drewN | apply Kd.R_drew)); exact HO404.out) (Kd.R_base ho0) hb); have n1_ := Aside0.mk (Kd.R_lower (Kd.R_new' ho0 (Kd.R_lt (by (with_reducible repeat (first | apply Kd.R_alloc | apply Kd.R_drewN | apply Kd.R_drew)); exact HO404.out))) (below_size (by repeat (first | (with_reducible first | exact HB.out | apply below_alloc | apply pw_below_drewN | apply below_drew1 | refine below_set ?_ GE374.out | refine below_set ?_ GE388.out | refine below_set ?_ GE394.out | refine below_set ?_ GE400.out) | exact HB.out)))); have n2_ := Aside0.mk (blk_below (g := gb374) (o := .cells #[.string t369, .string t370, .int .i64 t371] 31 (0, 0)) (by (with_reducible repeat (first | refine blk_drewN ?_ _ | refine blk_drew ?_ | refine blk_alloc ?_ _)); exact BK374.out) hb); have n3_ := Aside0.mk (blk_below (g := gb388) (o := .cells #[.string t383, .string t384, .int .i64 t385] 31 (0, 0)) (by (with_reducible repeat (first | refine blk_drewN ?_ _ | refine blk_drew ?_ | refine blk_alloc ?_ _)); exact BK388.out) hb); have n4_ := Aside0.mk (blk_below (g := gb394) (o := .cells #[.string t389, .string t390, .int .i64 t391] 31 (0, 0)) (by (with_reducible repeat (first | refine blk_drewN ?_ _ | refine blk_drew ?_ | refine blk_alloc ?_ _)); exact BK394.out) hb); have n5_ := Aside0.mk (blk_below (g := gb400) (o := .cells #[.string t395, .string t396, .int .i64 t397] 31 (0, 0)) (by (with_reducible repeat (first | refine blk_drewN ?_ _ | refine blk_drew ?_ | refine blk_alloc ?_ _)); exact BK400.out) hb); have n6_ := Aside0.mk (below_step (by repeat (first | (with_reducible first | exact HB.out | apply below_alloc | apply pw_below_drewN | apply below_drew1 | refine below_set ?_ GE374.out | refine below_set ?_ GE388.out | refine below_set ?_ GE394.out | refine below_set ?_ GE400.out) | exact HB.out)) hb); clear HO404 BK374 BK388 BK394 BK400 HB; have HO404 := n0_; have HO408 := n1_; have BK374 := n2_; have BK388 := n3_; have BK394 := n4_; have BK400 := n5_; have HB := n6_; clear n0_ n1_ n2_ n3_ n4_ n5_ n6_; (try clear hb); (try clear hb2); (try clear hk); (try clear hi); (try clear ho0); obtain ⟨Ao116, co116, eo116⟩ := Kd.R_slice HO408.out; subst eo116; obtain ⟨Ao117, co117, eo117⟩ := Kd.R_slice HO404.out; subst eo117; have q118 : ((t406.length : Int) : Int) ≤ ((t402.length : Int) : Int) := of_decide_eq_true (by first | (with_reducible assumption) | assumption); obtain ⟨i0118, hi0118, _, hsz118, _⟩ := info_parts info27; have hroom118 : t402.length ≤ co117 := (Kd.R_reads' HO404.out).2.1; have hC118 : Kd.C k27 _ Ao117 t402.length t402 := (Kd.R_reads' HO404.out).2.2; have hcut118 := cut_to (P := Tryd.prog) 48 27 .i64 Tryd.underlying48 hi0118 Ao117 t402.length co117 (t406.length : Int) (of_decide_eq_true (by first | (with_reducible assumption) | assumption)) q118 hroom118; have hr118 := Kd.C_take (m := ((t406.length : Int) : Int).toNat) hC118 (by omega); have hy118 : y410.length = ((t406.length : Int) : Int).toNat := (by rw [Ny410.out, List.length_take]; omega); rw [← Ny410.out] at hr118; rw [← hy118] at hcut118; have HR413 := Aside0.mk hr118; have HC413 := Aside0.mk (show y410.length ≤ co117 from by omega); clear hr118 hC118 hroom118 hi0118 hsz118; have KY118 := Aside0.mk hy118; clear hy118; have KL118 := Aside0.mk (show ((t406.length : Int) : Int).toNat ≤ t402.length from by omega); replace q118 := eq_true q118) | (go_at_call 42; (with_reducible refine (laws_vRecords.calls kj51 _ _ t406 _ _ y410 true _ ?side1 ?side2 ?side3 ?side4 A91.out).mono ?_); (case side1 => repeat (first | exact (Kd.R_reads' HO408.out).2.2 | (with_reducible refine Kd.C_alloc ?_ _) | (with_reducible refine Kd.C_drewN ?_ _) | (with_reducible refine Kd.C_drew ?_))); (case side2 => exact (Kd.R_reads' HO408.out).2.1); (case side3 => repeat (first | exact (by repeat (first | (with_reducible exact HR413.out) | (with_reducible refine Kd.C_alloc ?_ _) | (with_reducible refine Kd.C_drewN ?_ _) | (with_reducible refine Kd.C_drew ?_) | exact HR413.out)) | (with_reducible refine Kd.C_alloc ?_ _) | (with_reducible refine Kd.C_drewN ?_ _) | (with_reducible refine Kd.C_drew ?_))); (case side4 => exact HC413.out); rintro e w' ⟨rfl, ⟨nd, rfl⟩⟩; have hcz119_0 : w115.cell? ⟨gb374, 0, none⟩ = some (.string t369) := (blk_cell BK374.out 0).trans rfl; have hcz119_1 : w115.cell? ⟨gb374, 1, none⟩ = some (.string t370) := (blk_cell BK374.out 1).trans rfl; have hcz119_2 : w115.cell? ⟨gb374, 2, none⟩ = some (.int .i64 t371) := (blk_cell BK374.out 2).trans rfl; have hfz119_0 := blk_frozen BK374.out 0; have hfz119_1 := blk_frozen BK374.out 1; have hfz119_2 := blk_frozen BK374.out 2))
              go_ret
              exact ⟨by first | rfl | (simp [errW_none, errW_some] <;> rfl) | (simp [*, errW_none, errW_some] <;> rfl), by repeat (first | (with_reducible first | exact HB.out | apply below_alloc | apply pw_below_drewN | apply below_drew1 | refine below_set ?_ GE374.out | refine below_set ?_ GE388.out | refine below_set ?_ GE394.out | refine below_set ?_ GE400.out) | exact HB.out)⟩
             ·rw [if_neg c106] at H
              have c106b0 : decide (t372 < (t370.size : Int)) = false := decide_eq_false c106
              clear c106
              obtain rfl := Option.some.inj H
              have hnb120 := NB374_388.out
              have hnc120 := NB388_374.out
              have hnb121 := NB374_394.out
              have hnc121 := NB394_374.out
              have hnb122 := NB374_400.out
              have hnc122 := NB400_374.out
              have hcz123_0 : wc.cell? ⟨gb374, 0, none⟩ = some (.string t369) := (blk_cell BK374.out 0).trans rfl
              have hcz123_1 : wc.cell? ⟨gb374, 1, none⟩ = some (.string t370) := (blk_cell BK374.out 1).trans rfl
              have hcz123_2 : wc.cell? ⟨gb374, 2, none⟩ = some (.int .i64 t371) := (blk_cell BK374.out 2).trans rfl
              have hfz123_0 := blk_frozen BK374.out 0
              have hfz123_1 := blk_frozen BK374.out 1
              have hfz123_2 := blk_frozen BK374.out 2
              go_wp2_with (first | ((with_reducible refine gate_callee (f := 30) rfl ?_); refine goesL_ (some 115) rfl rfl Tryd.func30 (by kernel_rfl) rfl #[.agg #[.string t369, .string t370, .int .i64 t371]] rfl (by (try simp only [List.map_toArray, List.map_cons, List.map_nil]); first | done | rfl | (simp only [List.length_drop, List.length_take]; rfl)) ?_; (with_reducible refine (impl_LogRecords.calls kj51 t369 t370 t371 t402 t405 _ (by first | exact TabOK.below HG0.out (by repeat (first | (with_reducible first | exact HB.out | apply below_alloc | apply pw_below_drewN | apply below_drew1 | refine below_set ?_ GE374.out | refine below_set ?_ GE388.out | refine below_set ?_ GE394.out | refine below_set ?_ GE400.out) | exact HB.out)) | (repeat (first | exact HG0.out | apply TabOK.drew | apply TabOK.drewN)) | exact TabOK.drawn HG0.out (by assumption)) A86.out).mono ?_); rintro e w124 ⟨v403, rfl, ho0, hb⟩; refine ⟨_, rfl, ?_⟩; have n0_ := Aside0.mk (Kd.R_lower ho0 (below_size (by repeat (first | (with_reducible first | exact HB.out | apply below_alloc | apply pw_below_drewN | apply below_drew1 | refine below_set ?_ GE374.out | refine below_set ?_ GE388.out | refine below_set ?_ GE394.out | refine below_set ?_ GE400.out) | exact HB.out)))); have n1_ := Aside0.mk (blk_below (g := gb374) (o := .cells #[.string t369, .string t370, .int .i64 t371] 31 (0, 0)) (by (with_reducible repeat (first | refine blk_drewN ?_ _ | refine blk_drew ?_ | refine blk_alloc ?_ _)); exact BK374.out) hb); have n2_ := Aside0.mk (blk_below (g := gb388) (o := .cells #[.string t383, .string t384, .int .i64 t385] 31 (0, 0)) (by (with_reducible repeat (first | refine blk_drewN ?_ _ | refine blk_drew ?_ | refine blk_alloc ?_ _)); exact BK388.out) hb); have n3_ := Aside0.mk (blk_below (g := gb394) (o := .cells #[.string t389, .string t390, .int .i64 t391] 31 (0, 0)) (by (with_reducible repeat (first | refine blk_drewN ?_ _ | refine blk_drew ?_ | refine blk_alloc ?_ _)); exact BK394.out) hb); have n4_ := Aside0.mk (blk_below (g := gb400) (o := .cells #[.string t395, .string t396, .int .i64 t397] 31 (0, 0)) (by (with_reducible repeat (first | refine blk_drewN ?_ _ | refine blk_drew ?_ | refine blk_alloc ?_ _)); exact BK400.out) hb); have n5_ := Aside0.mk (below_step (by repeat (first | (with_reducible first | exact HB.out | apply below_alloc | apply pw_below_drewN | apply below_drew1 | refine below_set ?_ GE374.out | refine below_set ?_ GE388.out | refine below_set ?_ GE394.out | refine below_set ?_ GE400.out) | exact HB.out)) hb); clear BK374 BK388 BK394 BK400 HB; have HO404 := n0_; have BK374 := n1_; have BK388 := n2_; have BK394 := n3_; have BK400 := n4_; have HB := n5_; clear n0_ n1_ n2_ n3_ n4_ n5_; (try clear hb); (try clear hb2); (try clear hk); (try clear hi); (try clear ho0); have hnb125 := NB400_388.out; have hnc125 := NB388_400.out; have hnb126 := NB400_394.out; have hnc126 := NB394_400.out; have hcz127_0 : w124.cell? ⟨gb400, 0, none⟩ = some (.string t395) := (blk_cell BK400.out 0).trans rfl; have hcz127_1 : w124.cell? ⟨gb400, 1, none⟩ = some (.string t396) := (blk_cell BK400.out 1).trans rfl; have hcz127_2 : w124.cell? ⟨gb400, 2, none⟩ = some (.int .i64 t397) := (blk_cell BK400.out 2).trans rfl; have hfz127_0 := blk_frozen BK400.out 0; have hfz127_1 := blk_frozen BK400.out 1; have hfz127_2 := blk_frozen BK400.out 2) | ((with_reducible refine gate_callee (f := 30) rfl ?_); refine goesL_ (some 120) rfl rfl Tryd.func30 (by kernel_rfl) rfl #[.agg #[.string t395, .string t396, .int .i64 t397]] rfl (by (try simp only [List.map_toArray, List.map_cons, List.map_nil]); first | done | rfl | (simp only [List.length_drop, List.length_take]; rfl)) ?_; (with_reducible refine (impl_LogRecords.calls kj51 t395 t396 t397 t406 t409 _ (by first | exact TabOK.below HG0.out (by repeat (first | (with_reducible first | exact HB.out | apply below_alloc | apply pw_below_drewN | apply below_drew1 | refine below_set ?_ GE374.out | refine below_set ?_ GE388.out | refine below_set ?_ GE394.out | refine below_set ?_ GE400.out) | exact HB.out)) | (repeat (first | exact HG0.out | apply TabOK.drew | apply TabOK.drewN)) | exact TabOK.drawn HG0.out (by assumption)) A87.out).mono ?_); rintro e w128 ⟨v407, rfl, ho0, hb⟩; refine ⟨_, rfl, ?_⟩; have n0_ := Aside0.mk (Kd.R_elder' (by (with_reducible repeat (first | apply Kd.R_alloc | apply Kd.R_drewN | apply Kd.R_drew)); exact HO404.out) (Kd.R_base ho0) hb); have n1_ := Aside0.mk (Kd.R_lower (Kd.R_new' ho0 (Kd.R_lt (by (with_reducible repeat (first | apply Kd.R_alloc | apply Kd.R_drewN | apply Kd.R_drew)); exact HO404.out))) (below_size (by repeat (first | (with_reducible first | exact HB.out | apply below_alloc | apply pw_below_drewN | apply below_drew1 | refine below_set ?_ GE374.out | refine below_set ?_ GE388.out | refine below_set ?_ GE394.out | refine below_set ?_ GE400.out) | exact HB.out)))); have n2_ := Aside0.mk (blk_below (g := gb374) (o := .cells #[.string t369, .string t370, .int .i64 t371] 31 (0, 0)) (by (with_reducible repeat (first | refine blk_drewN ?_ _ | refine blk_drew ?_ | refine blk_alloc ?_ _)); exact BK374.out) hb); have n3_ := Aside0.mk (blk_below (g := gb388) (o := .cells #[.string t383, .string t384, .int .i64 t385] 31 (0, 0)) (by (with_reducible repeat (first | refine blk_drewN ?_ _ | refine blk_drew ?_ | refine blk_alloc ?_ _)); exact BK388.out) hb); have n4_ := Aside0.mk (blk_below (g := gb394) (o := .cells #[.string t389, .string t390, .int .i64 t391] 31 (0, 0)) (by (with_reducible repeat (first | refine blk_drewN ?_ _ | refine blk_drew ?_ | refine blk_alloc ?_ _)); exact BK394.out) hb); have n5_ := Aside0.mk (blk_below (g := gb400) (o := .cells #[.string t395, .string t396, .int .i64 t397] 31 (0, 0)) (by (with_reducible repeat (first | refine blk_drewN ?_ _ | refine blk_drew ?_ | refine blk_alloc ?_ _)); exact BK400.out) hb); have n6_ := Aside0.mk (below_step (by repeat (first | (with_reducible first | exact HB.out | apply below_alloc | apply pw_below_drewN | apply below_drew1 | refine below_set ?_ GE374.out | refine below_set ?_ GE388.out | refine below_set ?_ GE394.out | refine below_set ?_ GE400.out) | exact HB.out)) hb); clear HO404 BK374 BK388 BK394 BK400 HB; have HO404 := n0_; have HO408 := n1_; have BK374 := n2_; have BK388 := n3_; have BK394 := n4_; have BK400 := n5_; have HB := n6_; clear n0_ n1_ n2_ n3_ n4_ n5_ n6_; (try clear hb); (try clear hb2); (try clear hk); (try clear hi); (try clear ho0); obtain ⟨Ao129, co129, eo129⟩ := Kd.R_slice HO408.out; subst eo129; obtain ⟨Ao130, co130, eo130⟩ := Kd.R_slice HO404.out; subst eo130; have q131 : ((t406.length : Int) : Int) ≤ ((t402.length : Int) : Int) := of_decide_eq_true (by first | (with_reducible assumption) | assumption); obtain ⟨i0131, hi0131, _, hsz131, _⟩ := info_parts info27; have hroom131 : t402.length ≤ co130 := (Kd.R_reads' HO404.out).2.1; have hC131 : Kd.C k27 _ Ao130 t402.length t402 := (Kd.R_reads' HO404.out).2.2; have hcut131 := cut_to (P := Tryd.prog) 48 27 .i64 Tryd.underlying48 hi0131 Ao130 t402.length co130 (t406.length : Int) (of_decide_eq_true (by first | (with_reducible assumption) | assumption)) q131 hroom131; have hr131 := Kd.C_take (m := ((t406.length : Int) : Int).toNat) hC131 (by omega); have hy131 : y410.length = ((t406.length : Int) : Int).toNat := (by rw [Ny410.out, List.length_take]; omega); rw [← Ny410.out] at hr131; rw [← hy131] at hcut131; have HR413 := Aside0.mk hr131; have HC413 := Aside0.mk (show y410.length ≤ co130 from by omega); clear hr131 hC131 hroom131 hi0131 hsz131; have KY131 := Aside0.mk hy131; clear hy131; have KL131 := Aside0.mk (show ((t406.length : Int) : Int).toNat ≤ t402.length from by omega); replace q131 := eq_true q131) | (go_at_call 42; (with_reducible refine (laws_vRecords.calls kj51 _ _ t406 _ _ y410 true _ ?side1 ?side2 ?side3 ?side4 A91.out).mono ?_); (case side1 => repeat (first | exact (Kd.R_reads' HO408.out).2.2 | (with_reducible refine Kd.C_alloc ?_ _) | (with_reducible refine Kd.C_drewN ?_ _) | (with_reducible refine Kd.C_drew ?_))); (case side2 => exact (Kd.R_reads' HO408.out).2.1); (case side3 => repeat (first | exact (by repeat (first | (with_reducible exact HR413.out) | (with_reducible refine Kd.C_alloc ?_ _) | (with_reducible refine Kd.C_drewN ?_ _) | (with_reducible refine Kd.C_drew ?_) | exact HR413.out)) | (with_reducible refine Kd.C_alloc ?_ _) | (with_reducible refine Kd.C_drewN ?_ _) | (with_reducible refine Kd.C_drew ?_))); (case side4 => exact HC413.out); rintro e w' ⟨rfl, ⟨nd, rfl⟩⟩; have hcz132_0 : w128.cell? ⟨gb374, 0, none⟩ = some (.string t369) := (blk_cell BK374.out 0).trans rfl; have hcz132_1 : w128.cell? ⟨gb374, 1, none⟩ = some (.string t370) := (blk_cell BK374.out 1).trans rfl; have hcz132_2 : w128.cell? ⟨gb374, 2, none⟩ = some (.int .i64 t371) := (blk_cell BK374.out 2).trans rfl; have hfz132_0 := blk_frozen BK374.out 0; have hfz132_1 := blk_frozen BK374.out 1; have hfz132_2 := blk_frozen BK374.out 2))
              go_ret
              exact ⟨by first | rfl | (simp [errW_none, errW_some] <;> rfl) | (simp [*, errW_none, errW_some] <;> rfl), by repeat (first | (with_reducible first | exact HB.out | apply below_alloc | apply pw_below_drewN | apply below_drew1 | refine below_set ?_ GE374.out | refine below_set ?_ GE388.out | refine below_set ?_ GE394.out | refine below_set ?_ GE400.out) | exact HB.out)⟩
           ·replace c92 := Bool.eq_false_iff.mpr c92
            subst c92
            have H1 : (some false) = some r := by rw [if_neg (show ¬ (false = true) by decide)] at H; exact H
            clear H
            have H := H1
            clear H1
            obtain rfl := Option.some.inj H
            have hnb133 := NB374_388.out
            have hnc133 := NB388_374.out
            have hnb134 := NB374_394.out
            have hnc134 := NB394_374.out
            have hnb135 := NB374_400.out
            have hnc135 := NB400_374.out
            have hcz136_0 : wc.cell? ⟨gb374, 0, none⟩ = some (.string t369) := (blk_cell BK374.out 0).trans rfl
            have hcz136_1 : wc.cell? ⟨gb374, 1, none⟩ = some (.string t370) := (blk_cell BK374.out 1).trans rfl
            have hcz136_2 : wc.cell? ⟨gb374, 2, none⟩ = some (.int .i64 t371) := (blk_cell BK374.out 2).trans rfl
            have hfz136_0 := blk_frozen BK374.out 0
            have hfz136_1 := blk_frozen BK374.out 1
            have hfz136_2 := blk_frozen BK374.out 2
            go_wp2_with (first | ((with_reducible refine gate_callee (f := 30) rfl ?_); refine goesL_ (some 115) rfl rfl Tryd.func30 (by kernel_rfl) rfl #[.agg #[.string t369, .string t370, .int .i64 t371]] rfl (by (try simp only [List.map_toArray, List.map_cons, List.map_nil]); first | done | rfl | (simp only [List.length_drop, List.length_take]; rfl)) ?_; (with_reducible refine (impl_LogRecords.calls kj51 t369 t370 t371 t402 t405 _ (by first | exact TabOK.below HG0.out (by repeat (first | (with_reducible first | exact HB.out | apply below_alloc | apply pw_below_drewN | apply below_drew1 | refine below_set ?_ GE374.out | refine below_set ?_ GE388.out | refine below_set ?_ GE394.out | refine below_set ?_ GE400.out) | exact HB.out)) | (repeat (first | exact HG0.out | apply TabOK.drew | apply TabOK.drewN)) | exact TabOK.drawn HG0.out (by assumption)) A86.out).mono ?_); rintro e w137 ⟨v403, rfl, ho0, hb⟩; refine ⟨_, rfl, ?_⟩; have n0_ := Aside0.mk (Kd.R_lower ho0 (below_size (by repeat (first | (with_reducible first | exact HB.out | apply below_alloc | apply pw_below_drewN | apply below_drew1 | refine below_set ?_ GE374.out | refine below_set ?_ GE388.out | refine below_set ?_ GE394.out | refine below_set ?_ GE400.out) | exact HB.out)))); have n1_ := Aside0.mk (blk_below (g := gb374) (o := .cells #[.string t369, .string t370, .int .i64 t371] 31 (0, 0)) (by (with_reducible repeat (first | refine blk_drewN ?_ _ | refine blk_drew ?_ | refine blk_alloc ?_ _)); exact BK374.out) hb); have n2_ := Aside0.mk (blk_below (g := gb388) (o := .cells #[.string t383, .string t384, .int .i64 t385] 31 (0, 0)) (by (with_reducible repeat (first | refine blk_drewN ?_ _ | refine blk_drew ?_ | refine blk_alloc ?_ _)); exact BK388.out) hb); have n3_ := Aside0.mk (blk_below (g := gb394) (o := .cells #[.string t389, .string t390, .int .i64 t391] 31 (0, 0)) (by (with_reducible repeat (first | refine blk_drewN ?_ _ | refine blk_drew ?_ | refine blk_alloc ?_ _)); exact BK394.out) hb); have n4_ := Aside0.mk (blk_below (g := gb400) (o := .cells #[.string t395, .string t396, .int .i64 t397] 31 (0, 0)) (by (with_reducible repeat (first | refine blk_drewN ?_ _ | refine blk_drew ?_ | refine blk_alloc ?_ _)); exact BK400.out) hb); have n5_ := Aside0.mk (below_step (by repeat (first | (with_reducible first | exact HB.out | apply below_alloc | apply pw_below_drewN | apply below_drew1 | refine below_set ?_ GE374.out | refine below_set ?_ GE388.out | refine below_set ?_ GE394.out | refine below_set ?_ GE400.out) | exact HB.out)) hb); clear BK374 BK388 BK394 BK400 HB; have HO404 := n0_; have BK374 := n1_; have BK388 := n2_; have BK394 := n3_; have BK400 := n4_; have HB := n5_; clear n0_ n1_ n2_ n3_ n4_ n5_; (try clear hb); (try clear hb2); (try clear hk); (try clear hi); (try clear ho0); have hnb138 := NB400_388.out; have hnc138 := NB388_400.out; have hnb139 := NB400_394.out; have hnc139 := NB394_400.out; have hcz140_0 : w137.cell? ⟨gb400, 0, none⟩ = some (.string t395) := (blk_cell BK400.out 0).trans rfl; have hcz140_1 : w137.cell? ⟨gb400, 1, none⟩ = some (.string t396) := (blk_cell BK400.out 1).trans rfl; have hcz140_2 : w137.cell? ⟨gb400, 2, none⟩ = some (.int .i64 t397) := (blk_cell BK400.out 2).trans rfl; have hfz140_0 := blk_frozen BK400.out 0; have hfz140_1 := blk_frozen BK400.out 1; have hfz140_2 := blk_frozen BK400.out 2) | ((with_reducible refine gate_callee (f := 30) rfl ?_); refine goesL_ (some 120) rfl rfl Tryd.func30 (by kernel_rfl) rfl #[.agg #[.string t395, .string t396, .int .i64 t397]] rfl (by (try simp only [List.map_toArray, List.map_cons, List.map_nil]); first | done | rfl | (simp only [List.length_drop, List.length_take]; rfl)) ?_; (with_reducible refine (impl_LogRecords.calls kj51 t395 t396 t397 t406 t409 _ (by first | exact TabOK.below HG0.out (by repeat (first | (with_reducible first | exact HB.out | apply below_alloc | apply pw_below_drewN | apply below_drew1 | refine below_set ?_ GE374.out | refine below_set ?_ GE388.out | refine below_set ?_ GE394.out | refine below_set ?_ GE400.out) | exact HB.out)) | (repeat (first | exact HG0.out | apply TabOK.drew | apply TabOK.drewN)) | exact TabOK.drawn HG0.out (by assumption)) A87.out).mono ?_); rintro e w141 ⟨v407, rfl, ho0, hb⟩; refine ⟨_, rfl, ?_⟩; have n0_ := Aside0.mk (Kd.R_elder' (by (with_reducible repeat (first | apply Kd.R_alloc | apply Kd.R_drewN | apply Kd.R_drew)); exact HO404.out) (Kd.R_base ho0) hb); have n1_ := Aside0.mk (Kd.R_lower (Kd.R_new' ho0 (Kd.R_lt (by (with_reducible repeat (first | apply Kd.R_alloc | apply Kd.R_drewN | apply Kd.R_drew)); exact HO404.out))) (below_size (by repeat (first | (with_reducible first | exact HB.out | apply below_alloc | apply pw_below_drewN | apply below_drew1 | refine below_set ?_ GE374.out | refine below_set ?_ GE388.out | refine below_set ?_ GE394.out | refine below_set ?_ GE400.out) | exact HB.out)))); have n2_ := Aside0.mk (blk_below (g := gb374) (o := .cells #[.string t369, .string t370, .int .i64 t371] 31 (0, 0)) (by (with_reducible repeat (first | refine blk_drewN ?_ _ | refine blk_drew ?_ | refine blk_alloc ?_ _)); exact BK374.out) hb); have n3_ := Aside0.mk (blk_below (g := gb388) (o := .cells #[.string t383, .string t384, .int .i64 t385] 31 (0, 0)) (by (with_reducible repeat (first | refine blk_drewN ?_ _ | refine blk_drew ?_ | refine blk_alloc ?_ _)); exact BK388.out) hb); have n4_ := Aside0.mk (blk_below (g := gb394) (o := .cells #[.string t389, .string t390, .int .i64 t391] 31 (0, 0)) (by (with_reducible repeat (first | refine blk_drewN ?_ _ | refine blk_drew ?_ | refine blk_alloc ?_ _)); exact BK394.out) hb); have n5_ := Aside0.mk (blk_below (g := gb400) (o := .cells #[.string t395, .string t396, .int .i64 t397] 31 (0, 0)) (by (with_reducible repeat (first | refine blk_drewN ?_ _ | refine blk_drew ?_ | refine blk_alloc ?_ _)); exact BK400.out) hb); have n6_ := Aside0.mk (below_step (by repeat (first | (with_reducible first | exact HB.out | apply below_alloc | apply pw_below_drewN | apply below_drew1 | refine below_set ?_ GE374.out | refine below_set ?_ GE388.out | refine below_set ?_ GE394.out | refine below_set ?_ GE400.out) | exact HB.out)) hb); clear HO404 BK374 BK388 BK394 BK400 HB; have HO404 := n0_; have HO408 := n1_; have BK374 := n2_; have BK388 := n3_; have BK394 := n4_; have BK400 := n5_; have HB := n6_; clear n0_ n1_ n2_ n3_ n4_ n5_ n6_; (try clear hb); (try clear hb2); (try clear hk); (try clear hi); (try clear ho0); obtain ⟨Ao142, co142, eo142⟩ := Kd.R_slice HO408.out; subst eo142; obtain ⟨Ao143, co143, eo143⟩ := Kd.R_slice HO404.out; subst eo143; have q144 : ((t406.length : Int) : Int) ≤ ((t402.length : Int) : Int) := of_decide_eq_true (by first | (with_reducible assumption) | assumption); obtain ⟨i0144, hi0144, _, hsz144, _⟩ := info_parts info27; have hroom144 : t402.length ≤ co143 := (Kd.R_reads' HO404.out).2.1; have hC144 : Kd.C k27 _ Ao143 t402.length t402 := (Kd.R_reads' HO404.out).2.2; have hcut144 := cut_to (P := Tryd.prog) 48 27 .i64 Tryd.underlying48 hi0144 Ao143 t402.length co143 (t406.length : Int) (of_decide_eq_true (by first | (with_reducible assumption) | assumption)) q144 hroom144; have hr144 := Kd.C_take (m := ((t406.length : Int) : Int).toNat) hC144 (by omega); have hy144 : y410.length = ((t406.length : Int) : Int).toNat := (by rw [Ny410.out, List.length_take]; omega); rw [← Ny410.out] at hr144; rw [← hy144] at hcut144; have HR413 := Aside0.mk hr144; have HC413 := Aside0.mk (show y410.length ≤ co143 from by omega); clear hr144 hC144 hroom144 hi0144 hsz144; have KY144 := Aside0.mk hy144; clear hy144; have KL144 := Aside0.mk (show ((t406.length : Int) : Int).toNat ≤ t402.length from by omega); replace q144 := eq_true q144) | (go_at_call 42; (with_reducible refine (laws_vRecords.calls kj51 _ _ t406 _ _ y410 false _ ?side1 ?side2 ?side3 ?side4 A91.out).mono ?_); (case side1 => repeat (first | exact (Kd.R_reads' HO408.out).2.2 | (with_reducible refine Kd.C_alloc ?_ _) | (with_reducible refine Kd.C_drewN ?_ _) | (with_reducible refine Kd.C_drew ?_))); (case side2 => exact (Kd.R_reads' HO408.out).2.1); (case side3 => repeat (first | exact (by repeat (first | (with_reducible exact HR413.out) | (with_reducible refine Kd.C_alloc ?_ _) | (with_reducible refine Kd.C_drewN ?_ _) | (with_reducible refine Kd.C_drew ?_) | exact HR413.out)) | (with_reducible refine Kd.C_alloc ?_ _) | (with_reducible refine Kd.C_drewN ?_ _) | (with_reducible refine Kd.C_drew ?_))); (case side4 => exact HC413.out); rintro e w' ⟨rfl, ⟨nd, rfl⟩⟩))
            go_ret
            exact ⟨by first | rfl | (simp [errW_none, errW_some] <;> rfl) | (simp [*, errW_none, errW_some] <;> rfl), by repeat (first | (with_reducible first | exact HB.out | apply below_alloc | apply pw_below_drewN | apply below_drew1 | refine below_set ?_ GE374.out | refine below_set ?_ GE388.out | refine below_set ?_ GE394.out | refine below_set ?_ GE400.out) | exact HB.out)⟩
          ·rw [if_neg c89] at H
           exact absurd H (by simp)
         ·rw [if_neg c88] at H
          have c88b0 : decide ((t406.length : Int) ≤ (t402.length : Int)) = false := decide_eq_false c88
          have c88b1 : decide (t406.length ≤ t402.length) = false := decide_eq_false (fun h => c88 (Int.ofNat_le.mpr h))
          clear c88
          obtain rfl := Option.some.inj H
          have hnb145 := NB374_388.out
          have hnc145 := NB388_374.out
          have hnb146 := NB374_394.out
          have hnc146 := NB394_374.out
          have hnb147 := NB374_400.out
          have hnc147 := NB400_374.out
          have hcz148_0 : wc.cell? ⟨gb374, 0, none⟩ = some (.string t369) := (blk_cell BK374.out 0).trans rfl
          have hcz148_1 : wc.cell? ⟨gb374, 1, none⟩ = some (.string t370) := (blk_cell BK374.out 1).trans rfl
          have hcz148_2 : wc.cell? ⟨gb374, 2, none⟩ = some (.int .i64 t371) := (blk_cell BK374.out 2).trans rfl
          have hfz148_0 := blk_frozen BK374.out 0
          have hfz148_1 := blk_frozen BK374.out 1
          have hfz148_2 := blk_frozen BK374.out 2
          go_wp2_with (first | ((with_reducible refine gate_callee (f := 30) rfl ?_); refine goesL_ (some 115) rfl rfl Tryd.func30 (by kernel_rfl) rfl #[.agg #[.string t369, .string t370, .int .i64 t371]] rfl (by (try simp only [List.map_toArray, List.map_cons, List.map_nil]); first | done | rfl | (simp only [List.length_drop, List.length_take]; rfl)) ?_; (with_reducible refine (impl_LogRecords.calls kj51 t369 t370 t371 t402 t405 _ (by first | exact TabOK.below HG0.out (by repeat (first | (with_reducible first | exact HB.out | apply below_alloc | apply pw_below_drewN | apply below_drew1 | refine below_set ?_ GE374.out | refine below_set ?_ GE388.out | refine below_set ?_ GE394.out | refine below_set ?_ GE400.out) | exact HB.out)) | (repeat (first | exact HG0.out | apply TabOK.drew | apply TabOK.drewN)) | exact TabOK.drawn HG0.out (by assumption)) A86.out).mono ?_); rintro e w149 ⟨v403, rfl, ho0, hb⟩; refine ⟨_, rfl, ?_⟩; have n0_ := Aside0.mk (Kd.R_lower ho0 (below_size (by repeat (first | (with_reducible first | exact HB.out | apply below_alloc | apply pw_below_drewN | apply below_drew1 | refine below_set ?_ GE374.out | refine below_set ?_ GE388.out | refine below_set ?_ GE394.out | refine below_set ?_ GE400.out) | exact HB.out)))); have n1_ := Aside0.mk (blk_below (g := gb374) (o := .cells #[.string t369, .string t370, .int .i64 t371] 31 (0, 0)) (by (with_reducible repeat (first | refine blk_drewN ?_ _ | refine blk_drew ?_ | refine blk_alloc ?_ _)); exact BK374.out) hb); have n2_ := Aside0.mk (blk_below (g := gb388) (o := .cells #[.string t383, .string t384, .int .i64 t385] 31 (0, 0)) (by (with_reducible repeat (first | refine blk_drewN ?_ _ | refine blk_drew ?_ | refine blk_alloc ?_ _)); exact BK388.out) hb); have n3_ := Aside0.mk (blk_below (g := gb394) (o := .cells #[.string t389, .string t390, .int .i64 t391] 31 (0, 0)) (by (with_reducible repeat (first | refine blk_drewN ?_ _ | refine blk_drew ?_ | refine blk_alloc ?_ _)); exact BK394.out) hb); have n4_ := Aside0.mk (blk_below (g := gb400) (o := .cells #[.string t395, .string t396, .int .i64 t397] 31 (0, 0)) (by (with_reducible repeat (first | refine blk_drewN ?_ _ | refine blk_drew ?_ | refine blk_alloc ?_ _)); exact BK400.out) hb); have n5_ := Aside0.mk (below_step (by repeat (first | (with_reducible first | exact HB.out | apply below_alloc | apply pw_below_drewN | apply below_drew1 | refine below_set ?_ GE374.out | refine below_set ?_ GE388.out | refine below_set ?_ GE394.out | refine below_set ?_ GE400.out) | exact HB.out)) hb); clear BK374 BK388 BK394 BK400 HB; have HO404 := n0_; have BK374 := n1_; have BK388 := n2_; have BK394 := n3_; have BK400 := n4_; have HB := n5_; clear n0_ n1_ n2_ n3_ n4_ n5_; (try clear hb); (try clear hb2); (try clear hk); (try clear hi); (try clear ho0); have hnb150 := NB400_388.out; have hnc150 := NB388_400.out; have hnb151 := NB400_394.out; have hnc151 := NB394_400.out; have hcz152_0 : w149.cell? ⟨gb400, 0, none⟩ = some (.string t395) := (blk_cell BK400.out 0).trans rfl; have hcz152_1 : w149.cell? ⟨gb400, 1, none⟩ = some (.string t396) := (blk_cell BK400.out 1).trans rfl; have hcz152_2 : w149.cell? ⟨gb400, 2, none⟩ = some (.int .i64 t397) := (blk_cell BK400.out 2).trans rfl; have hfz152_0 := blk_frozen BK400.out 0; have hfz152_1 := blk_frozen BK400.out 1; have hfz152_2 := blk_frozen BK400.out 2) | ((with_reducible refine gate_callee (f := 30) rfl ?_); refine goesL_ (some 120) rfl rfl Tryd.func30 (by kernel_rfl) rfl #[.agg #[.string t395, .string t396, .int .i64 t397]] rfl (by (try simp only [List.map_toArray, List.map_cons, List.map_nil]); first | done | rfl | (simp only [List.length_drop, List.length_take]; rfl)) ?_; (with_reducible refine (impl_LogRecords.calls kj51 t395 t396 t397 t406 t409 _ (by first | exact TabOK.below HG0.out (by repeat (first | (with_reducible first | exact HB.out | apply below_alloc | apply pw_below_drewN | apply below_drew1 | refine below_set ?_ GE374.out | refine below_set ?_ GE388.out | refine below_set ?_ GE394.out | refine below_set ?_ GE400.out) | exact HB.out)) | (repeat (first | exact HG0.out | apply TabOK.drew | apply TabOK.drewN)) | exact TabOK.drawn HG0.out (by assumption)) A87.out).mono ?_); rintro e w153 ⟨v407, rfl, ho0, hb⟩; refine ⟨_, rfl, ?_⟩; have n0_ := Aside0.mk (Kd.R_elder' (by (with_reducible repeat (first | apply Kd.R_alloc | apply Kd.R_drewN | apply Kd.R_drew)); exact HO404.out) (Kd.R_base ho0) hb); have n1_ := Aside0.mk (Kd.R_lower (Kd.R_new' ho0 (Kd.R_lt (by (with_reducible repeat (first | apply Kd.R_alloc | apply Kd.R_drewN | apply Kd.R_drew)); exact HO404.out))) (below_size (by repeat (first | (with_reducible first | exact HB.out | apply below_alloc | apply pw_below_drewN | apply below_drew1 | refine below_set ?_ GE374.out | refine below_set ?_ GE388.out | refine below_set ?_ GE394.out | refine below_set ?_ GE400.out) | exact HB.out)))); have n2_ := Aside0.mk (blk_below (g := gb374) (o := .cells #[.string t369, .string t370, .int .i64 t371] 31 (0, 0)) (by (with_reducible repeat (first | refine blk_drewN ?_ _ | refine blk_drew ?_ | refine blk_alloc ?_ _)); exact BK374.out) hb); have n3_ := Aside0.mk (blk_below (g := gb388) (o := .cells #[.string t383, .string t384, .int .i64 t385] 31 (0, 0)) (by (with_reducible repeat (first | refine blk_drewN ?_ _ | refine blk_drew ?_ | refine blk_alloc ?_ _)); exact BK388.out) hb); have n4_ := Aside0.mk (blk_below (g := gb394) (o := .cells #[.string t389, .string t390, .int .i64 t391] 31 (0, 0)) (by (with_reducible repeat (first | refine blk_drewN ?_ _ | refine blk_drew ?_ | refine blk_alloc ?_ _)); exact BK394.out) hb); have n5_ := Aside0.mk (blk_below (g := gb400) (o := .cells #[.string t395, .string t396, .int .i64 t397] 31 (0, 0)) (by (with_reducible repeat (first | refine blk_drewN ?_ _ | refine blk_drew ?_ | refine blk_alloc ?_ _)); exact BK400.out) hb); have n6_ := Aside0.mk (below_step (by repeat (first | (with_reducible first | exact HB.out | apply below_alloc | apply pw_below_drewN | apply below_drew1 | refine below_set ?_ GE374.out | refine below_set ?_ GE388.out | refine below_set ?_ GE394.out | refine below_set ?_ GE400.out) | exact HB.out)) hb); clear HO404 BK374 BK388 BK394 BK400 HB; have HO404 := n0_; have HO408 := n1_; have BK374 := n2_; have BK388 := n3_; have BK394 := n4_; have BK400 := n5_; have HB := n6_; clear n0_ n1_ n2_ n3_ n4_ n5_ n6_; (try clear hb); (try clear hb2); (try clear hk); (try clear hi); (try clear ho0); obtain ⟨Ao154, co154, eo154⟩ := Kd.R_slice HO408.out; subst eo154; obtain ⟨Ao155, co155, eo155⟩ := Kd.R_slice HO404.out; subst eo155))
          go_ret
          exact ⟨by first | rfl | (simp [errW_none, errW_some] <;> rfl) | (simp [*, errW_none, errW_some] <;> rfl), by repeat (first | (with_reducible first | exact HB.out | apply below_alloc | apply pw_below_drewN | apply below_drew1 | refine below_set ?_ GE374.out | refine below_set ?_ GE388.out | refine below_set ?_ GE394.out | refine below_set ?_ GE400.out) | exact HB.out)⟩
     ·replace c50 := Bool.eq_false_iff.mpr c50
      subst c50
      have H1 : (some true) = some r := by rw [if_neg (show ¬ (false = true) by decide)] at H; exact H
      clear H
      have H := H1
      clear H1
      obtain rfl := Option.some.inj H
      go_wp2
      go_ret
      exact ⟨by first | rfl | (simp [errW_none, errW_some] <;> rfl) | (simp [*, errW_none, errW_some] <;> rfl), by repeat (first | (with_reducible first | exact HB.out | apply below_alloc | apply pw_below_drewN | apply below_drew1 | refine below_set ?_ GE374.out | refine below_set ?_ GE388.out | refine below_set ?_ GE394.out) | exact HB.out)⟩

/-- THE ONE PURE STATEMENT of laws_FnCrashes: yours. -/
def laws_FnCrashes.Pure : Prop := ∀ (l0 : List Int), l0.length ≤ maxLen → l0.length * 1 ≤ 140737488351232 → (∀ x ∈ l0, (Lit.int .u8 x).wf = true) → ∃ k, laws_FnCrashes.f k l0 = some true
theorem laws_FnCrashes.walk (P : laws_FnCrashes.Pure) (a0 : Option Addr) (len0 cap0 : Nat) (z0 : List Int) (w : World) (hG : TabOK w) (w0 : (a0 = none ∧ len0 = 0 ∧ cap0 = 0 ∧ z0 = []) ∨ ∃ x, a0 = some x ∧ len0 ≤ cap0 ∧ cap0 ≤ maxLen ∧ z0.length = cap0 ∧ (∀ i, i < z0.length → w.cell? (x.add i) = some (.int .u8 (z0.getD i 0))) ∧ ∀ n ∈ z0, (Lit.int .u8 n).wf = true) (y0 : len0 * 1 ≤ 140737488351232) :
  Calls Tryd.prog 11 #[.slice a0 len0 cap0] w fun e w' => e = .returned (.bool true) ∧ Below w.heap.size w w' := by
 obtain ⟨l0, rfl, hr0, hm0, hw0, hc0⟩ := ReadsInt.ofRowC w0
 obtain ⟨k, h⟩ := P l0 hm0 y0 hw0
 refine (laws_FnCrashes.calls k _ _ l0 true w (Kd.C_of_reads (d := (0 : Int)) (h1 := fun _ => rfl) hr0) hc0 hG h).mono ?_
 rintro e w' ⟨rfl, hd⟩
 exact ⟨rfl, hd⟩

end Go.Proofs.YtphcagjmpaajmaaDoor.QFnCrashes
-- squeezed
