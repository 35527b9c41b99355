-- Written by px.py, a program of this session, over the kit's printer: some functions have a definition and a proof of this session's own.
import Derived.Test.YtohmonfaabofaaaQFnChangesx0
import Derived.Test.YtohmonfaabofaaaQFnChangesx1
import Derived.Test.YtohmonfaabofaaaQFnChangesx2
import Derived.Test.YtohmonfaabofaaaQFnChangesx3
import Derived.Test.YtohmonfaabofaaaQFnChangesx4
import Derived.Test.YtohmonfaabofaaaQFnChangesx5
import Derived.Test.YtohmonfaabofaaaQFnChangesx6
import Derived.Test.YtohmonfaabofaaaQFnChangesx7
import Derived.Test.YtohmonfaabofaaaQFnChangesx8
import Derived.Test.YtohmonfaabofaaaQFnChangesx9
import Derived.Test.YtohmonfaabofaaaQFnChangesx10
namespace Go.Proofs.Ytohmonfaabofaaa.QFnChanges
open Go.RowKit Go.Proofs.YtohmonfaabofaaaW.PrintWords Go.Proofs.YtohmonfaabofaaaW.PrintLast Go.Proofs.YtohmonfaabofaaaW.PrintMore
attribute [local go_sem] max2_int min2_int max_two min_two max_three min_three max_four min_four   -- for this text's walks alone
set_option linter.unusedVariables false
set_option linter.unusedSimpArgs false

/-! ### laws_FnChanges: function 3 -/
mutual
def laws_FnChanges.j0 : Nat → List Int → List Int → Int → Bool → Bool → Option (Bool)
 | 0, _, _, _, _, _ => none
 | k + 1, x0, x3, x4, x5, x67 => if x67 = true then (some false) else ((impl_FreeSwaps.f k x3).bind fun bt334 => ((spec_FreeSwaps.f k x3).bind fun bt336 => (if bt334.1 = bt336.1 then (if (bt334.2 != bt336.2) = true then (laws_FnChanges.j1 k x0 x3 x4 x5 bt334.1 true) else (if (bt334.2 != x5) = true then (laws_FnChanges.j1 k x0 x3 x4 x5 bt334.1 true) else (laws_FnChanges.j1 k x0 x3 x4 x5 bt334.1 (decide (bt334.1 > x4))))) else (laws_FnChanges.j1 k x0 x3 x4 x5 bt334.1 true))))
def laws_FnChanges.j1 : Nat → List Int → List Int → Int → Bool → Int → Bool → Option (Bool)
 | 0, _, _, _, _, _, _ => none
 | k + 1, x0, x3, x4, x5, x8, x95 => if x95 = true then (some false) else ((impl_HoleMoves.f k x3).bind fun bt338 => ((spec_HoleMoves.f k x3).bind fun bt340 => (if bt338.1 = bt340.1 then (if (bt338.2 != bt340.2) = true then (laws_FnChanges.j2 k x0 x3 x4 x5 x8 true) else (if (bt338.2 != x5) = true then (laws_FnChanges.j2 k x0 x3 x4 x5 x8 true) else (laws_FnChanges.j2 k x0 x3 x4 x5 x8 (decide (bt338.1 > (wrap64 (3 * x8))))))) else (laws_FnChanges.j2 k x0 x3 x4 x5 x8 true))))
def laws_FnChanges.j2 : Nat → List Int → List Int → Int → Bool → Int → Bool → Option (Bool)
 | 0, _, _, _, _, _, _ => none
 | k + 1, x0, x3, x4, x5, x8, x124 => if x124 = true then (some false) else ((impl_FirstSideSwaps.f k x3).bind fun bt342 => ((spec_FirstSideSwaps.f k x3).bind fun bt346 => (if (bt342.2 != bt346.2) = true then (laws_FnChanges.j3 k x0 x3 x4 x5 x8 bt342.1 true) else (if (bt342.2 != x5) = true then (laws_FnChanges.j3 k x0 x3 x4 x5 x8 bt342.1 true) else ((laws_rInts.f k bt342.1 bt346.1).bind fun t350 => (laws_FnChanges.j3 k x0 x3 x4 x5 x8 bt342.1 (!t350)))))))
def laws_FnChanges.j3 : Nat → List Int → List Int → Int → Bool → Int → List Int → Bool → Option (Bool)
 | 0, _, _, _, _, _, _, _ => none
 | k + 1, x0, x3, x4, x5, x8, x16, x148 => if x148 = true then (some false) else ((impl_BackChange.f k x3).bind fun bt351 => ((spec_BackChange.f k x3).bind fun bt355 => (if (bt351.2 != bt355.2) = true then (laws_FnChanges.j4 k x0 x3 x4 x5 x8 x16 bt351.1 true) else (if (bt351.2 != x5) = true then (laws_FnChanges.j4 k x0 x3 x4 x5 x8 x16 bt351.1 true) else ((laws_rInts.f k bt351.1 bt355.1).bind fun t359 => (laws_FnChanges.j4 k x0 x3 x4 x5 x8 x16 bt351.1 (!t359)))))))
def laws_FnChanges.j4 : Nat → List Int → List Int → Int → Bool → Int → List Int → List Int → Bool → Option (Bool)
 | 0, _, _, _, _, _, _, _, _ => none
 | k + 1, x0, x3, x4, x5, x8, x16, x20, x172 => if x172 = true then (some false) else ((spec_DrawAfterSwaps.f k x0).bind fun bt360 => ((impl_AfterSwaps.f k bt360.1 bt360.2).bind fun bt366 => ((spec_AfterSwaps.f k bt360.1 bt360.2).bind fun bt370 => (if (bt366.2 != bt370.2) = true then (laws_FnChanges.j5 k x0 x3 x4 x5 x8 x16 x20 true) else ((laws_rInts.f k bt366.1 bt370.1).bind fun t374 => (laws_FnChanges.j5 k x0 x3 x4 x5 x8 x16 x20 (!t374)))))))
def laws_FnChanges.j5 : Nat → List Int → List Int → Int → Bool → Int → List Int → List Int → Bool → Option (Bool)
 | 0, _, _, _, _, _, _, _, _ => none
 | k + 1, x0, x3, x4, x5, x8, x16, x20, x198 => if x198 = true then (some false) else ((spec_DrawChangeCounts.f x0).bind fun t375 => ((impl_ChangeCounts.f k t375).bind fun bt376 => ((spec_ChangeCounts.f k t375).bind fun bt380 => (if (bt376.2 != bt380.2) = true then (laws_FnChanges.j6 k x3 x4 x5 x8 x16 x20 t375 bt376.1 bt376.2 true) else ((laws_rInts.f k bt376.1 bt380.1).bind fun t384 => (laws_FnChanges.j6 k x3 x4 x5 x8 x16 x20 t375 bt376.1 bt376.2 (!t384)))))))
def laws_FnChanges.j6 : Nat → List Int → Int → Bool → Int → List Int → List Int → Int → List Int → Bool → Bool → Option (Bool)
 | 0, _, _, _, _, _, _, _, _, _, _ => none
 | k + 1, x3, x4, x5, x8, x16, x20, x30, x31, x32, x219 => if x219 = true then (some false) else (if x32 = true then (laws_FnChanges.l0 k x3 x4 x5 x8 x16 x20 x30 x31 1 2) else (laws_FnChanges.j8 k x3 x4 x5 x8 x16 x20))
def laws_FnChanges.j8 : Nat → List Int → Int → Bool → Int → List Int → List Int → Option (Bool)
 | 0, _, _, _, _, _, _ => none
 | k + 1, x3, x4, x5, x8, x16, x20 => if x5 = true then ((impl_AfterSwaps.f k x3 x16).bind fun bt387 => (if bt387.2 = true then (laws_FnChanges.j9 k x3 x4 x8 x20 bt387.1 ((x16.length : Int) != x4)) else (laws_FnChanges.j9 k x3 x4 x8 x20 bt387.1 true))) else (some true)
def laws_FnChanges.j9 : Nat → List Int → Int → Int → List Int → List Int → Bool → Option (Bool)
 | 0, _, _, _, _, _, _ => none
 | k + 1, x3, x4, x8, x20, x37, x260 => if x260 = true then (some false) else (laws_FnChanges.l1 k x3 x4 x8 x20 x37 0)
def laws_FnChanges.l1 : Nat → List Int → Int → Int → List Int → List Int → Int → Option (Bool)
 | 0, _, _, _, _, _, _ => none
 | k + 1, x3, x4, x8, x20, x37, x39 => if x39 < (x37.length : Int) then (if 0 ≤ x39 then (if (rd x37 x39) = x39 then (laws_FnChanges.l1 k x3 x4 x8 x20 x37 (wrap64 (x39 + 1))) else (some false)) else (none)) else ((impl_SideSwaps.f k x20).bind fun bt392 => ((impl_FreeSwaps.f k x20).bind fun bt394 => ((impl_BackChange.f k x20).bind fun bt396 => (if bt392.2 = true then (if bt394.2 = true then (if bt396.2 = true then (if bt392.1 = x4 then (if bt394.1 = x8 then ((laws_rInts.f k bt396.1 x3).bind fun t400 => (some t400)) else (some false)) else (some false)) else (some false)) else (some false)) else (some false)))))
def laws_FnChanges.l0 : Nat → List Int → Int → Bool → Int → List Int → List Int → Int → List Int → Int → Int → Option (Bool)
 | 0, _, _, _, _, _, _, _, _, _, _ => none
 | k + 1, x3, x4, x5, x8, x16, x20, x30, x31, x35, x36 => if x36 ≤ x30 then (laws_FnChanges.l0 k x3 x4 x5 x8 x16 x20 x30 x31 (wrap64 (x35 * x36)) (wrap64 (x36 + 1))) else ((laws_rSum.f k x31).bind fun t385 => (if t385 = x35 then (if (x31.length : Int) = x30 then (if 0 < (x31.length : Int) then (if (rd x31 0) = 1 then (laws_FnChanges.j8 k x3 x4 x5 x8 x16 x20) else (some false)) else (none)) else (some false)) else (some false)))
end
def laws_FnChanges.f (k : Nat) (l0 : List Int) : Option (Bool) := (laws_rBig.f l0).bind fun t326 => (if t326 = true then (some true) else ((spec_DrawSideSwaps.f k l0).bind fun t327 => ((impl_SideSwaps.f k t327).bind fun bt330 => ((spec_SideSwaps.f k t327).bind fun bt332 => (if bt330.1 = bt332.1 then (laws_FnChanges.j0 k l0 t327 bt330.1 bt330.2 (bt330.2 != bt332.2)) else (laws_FnChanges.j0 k l0 t327 bt330.1 bt330.2 true))))))
theorem laws_FnChanges.mono_l : ∀ k, (∀ y0 y1 y2 y3 y4, LeO (laws_FnChanges.j0 k y0 y1 y2 y3 y4) (laws_FnChanges.j0 (k + 1) y0 y1 y2 y3 y4)) ∧ (∀ y0 y1 y2 y3 y4 y5, LeO (laws_FnChanges.j1 k y0 y1 y2 y3 y4 y5) (laws_FnChanges.j1 (k + 1) y0 y1 y2 y3 y4 y5)) ∧ (∀ y0 y1 y2 y3 y4 y5, LeO (laws_FnChanges.j2 k y0 y1 y2 y3 y4 y5) (laws_FnChanges.j2 (k + 1) y0 y1 y2 y3 y4 y5)) ∧ (∀ y0 y1 y2 y3 y4 y5 y6, LeO (laws_FnChanges.j3 k y0 y1 y2 y3 y4 y5 y6) (laws_FnChanges.j3 (k + 1) y0 y1 y2 y3 y4 y5 y6)) ∧ (∀ y0 y1 y2 y3 y4 y5 y6 y7, LeO (laws_FnChanges.j4 k y0 y1 y2 y3 y4 y5 y6 y7) (laws_FnChanges.j4 (k + 1) y0 y1 y2 y3 y4 y5 y6 y7)) ∧ (∀ y0 y1 y2 y3 y4 y5 y6 y7, LeO (laws_FnChanges.j5 k y0 y1 y2 y3 y4 y5 y6 y7) (laws_FnChanges.j5 (k + 1) y0 y1 y2 y3 y4 y5 y6 y7)) ∧ (∀ y0 y1 y2 y3 y4 y5 y6 y7 y8 y9, LeO (laws_FnChanges.j6 k y0 y1 y2 y3 y4 y5 y6 y7 y8 y9) (laws_FnChanges.j6 (k + 1) y0 y1 y2 y3 y4 y5 y6 y7 y8 y9)) ∧ (∀ y0 y1 y2 y3 y4 y5, LeO (laws_FnChanges.j8 k y0 y1 y2 y3 y4 y5) (laws_FnChanges.j8 (k + 1) y0 y1 y2 y3 y4 y5)) ∧ (∀ y0 y1 y2 y3 y4 y5, LeO (laws_FnChanges.j9 k y0 y1 y2 y3 y4 y5) (laws_FnChanges.j9 (k + 1) y0 y1 y2 y3 y4 y5)) ∧ (∀ y0 y1 y2 y3 y4 y5, LeO (laws_FnChanges.l1 k y0 y1 y2 y3 y4 y5) (laws_FnChanges.l1 (k + 1) y0 y1 y2 y3 y4 y5)) ∧ (∀ y0 y1 y2 y3 y4 y5 y6 y7 y8 y9, LeO (laws_FnChanges.l0 k y0 y1 y2 y3 y4 y5 y6 y7 y8 y9) (laws_FnChanges.l0 (k + 1) y0 y1 y2 y3 y4 y5 y6 y7 y8 y9))
 | 0 => ⟨fun _ _ _ _ _ r h => by simp [laws_FnChanges.j0] at h, fun _ _ _ _ _ _ r h => by simp [laws_FnChanges.j1] at h, fun _ _ _ _ _ _ r h => by simp [laws_FnChanges.j2] at h, fun _ _ _ _ _ _ _ r h => by simp [laws_FnChanges.j3] at h, fun _ _ _ _ _ _ _ _ r h => by simp [laws_FnChanges.j4] at h, fun _ _ _ _ _ _ _ _ r h => by simp [laws_FnChanges.j5] at h, fun _ _ _ _ _ _ _ _ _ _ r h => by simp [laws_FnChanges.j6] at h, fun _ _ _ _ _ _ r h => by simp [laws_FnChanges.j8] at h, fun _ _ _ _ _ _ r h => by simp [laws_FnChanges.j9] at h, fun _ _ _ _ _ _ r h => by simp [laws_FnChanges.l1] at h, fun _ _ _ _ _ _ _ _ _ _ r h => by simp [laws_FnChanges.l0] at h⟩
 | k + 1 => by
  obtain ⟨ih0, ih1, ih2, ih3, ih4, ih5, ih6, ih7, ih8, ih9, ih10⟩ := laws_FnChanges.mono_l k
  refine ⟨?_, ?_, ?_, ?_, ?_, ?_, ?_, ?_, ?_, ?_, ?_⟩
  ·intro y0 y1 y2 y3 y4
   unfold laws_FnChanges.j0
   repeat' first
   | (with_reducible exact ih0 _ _ _ _ _)
   | (with_reducible exact ih1 _ _ _ _ _ _)
   | (with_reducible exact ih2 _ _ _ _ _ _)
   | (with_reducible exact ih3 _ _ _ _ _ _ _)
   | (with_reducible exact ih4 _ _ _ _ _ _ _ _)
   | (with_reducible exact ih5 _ _ _ _ _ _ _ _)
   | (with_reducible exact ih6 _ _ _ _ _ _ _ _ _ _)
   | (with_reducible exact ih7 _ _ _ _ _ _)
   | (with_reducible exact ih8 _ _ _ _ _ _)
   | (with_reducible exact ih9 _ _ _ _ _ _)
   | (with_reducible exact ih10 _ _ _ _ _ _ _ _ _ _)
   | (with_reducible exact impl_AfterSwaps.mono _ _ _)
   | (with_reducible exact impl_BackChange.mono _ _)
   | (with_reducible exact impl_ChangeCounts.mono _ _)
   | (with_reducible exact impl_FirstSideSwaps.mono _ _)
   | (with_reducible exact impl_FreeSwaps.mono _ _)
   | (with_reducible exact impl_HoleMoves.mono _ _)
   | (with_reducible exact impl_SideSwaps.mono _ _)
   | (with_reducible exact laws_rInts.mono _ _ _)
   | (with_reducible exact laws_rSum.mono _ _)
   | (with_reducible exact spec_AfterSwaps.mono _ _ _)
   | (with_reducible exact spec_BackChange.mono _ _)
   | (with_reducible exact spec_ChangeCounts.mono _ _)
   | (with_reducible exact spec_DrawAfterSwaps.mono _ _)
   | (with_reducible exact spec_DrawSideSwaps.mono _ _)
   | (with_reducible exact spec_FirstSideSwaps.mono _ _)
   | (with_reducible exact spec_FreeSwaps.mono _ _)
   | (with_reducible exact spec_HoleMoves.mono _ _)
   | (with_reducible exact spec_SideSwaps.mono _ _)
   | (with_reducible exact LeO.refl _)
   | (with_reducible exact LeO.none _)
   | (with_reducible refine LeO.ite ?_ ?_)
   | (with_reducible refine LeO.bind ?_ (fun _ => ?_))
   | exact ih0 _ _ _ _ _
   | exact ih1 _ _ _ _ _ _
   | exact ih2 _ _ _ _ _ _
   | exact ih3 _ _ _ _ _ _ _
   | exact ih4 _ _ _ _ _ _ _ _
   | exact ih5 _ _ _ _ _ _ _ _
   | exact ih6 _ _ _ _ _ _ _ _ _ _
   | exact ih7 _ _ _ _ _ _
   | exact ih8 _ _ _ _ _ _
   | exact ih9 _ _ _ _ _ _
   | exact ih10 _ _ _ _ _ _ _ _ _ _
   | exact impl_AfterSwaps.mono _ _ _
   | exact impl_BackChange.mono _ _
   | exact impl_ChangeCounts.mono _ _
   | exact impl_FirstSideSwaps.mono _ _
   | exact impl_FreeSwaps.mono _ _
   | exact impl_HoleMoves.mono _ _
   | exact impl_SideSwaps.mono _ _
   | exact laws_rInts.mono _ _ _
   | exact laws_rSum.mono _ _
   | exact spec_AfterSwaps.mono _ _ _
   | exact spec_BackChange.mono _ _
   | exact spec_ChangeCounts.mono _ _
   | exact spec_DrawAfterSwaps.mono _ _
   | exact spec_DrawSideSwaps.mono _ _
   | exact spec_FirstSideSwaps.mono _ _
   | exact spec_FreeSwaps.mono _ _
   | exact spec_HoleMoves.mono _ _
   | exact spec_SideSwaps.mono _ _
   | exact LeO.none _
   | refine LeO.ite ?_ ?_
   | refine LeO.bind ?_ (fun _ => ?_)
  ·intro y0 y1 y2 y3 y4 y5
   unfold laws_FnChanges.j1
   repeat' first
   | (with_reducible exact ih0 _ _ _ _ _)
   | (with_reducible exact ih1 _ _ _ _ _ _)
   | (with_reducible exact ih2 _ _ _ _ _ _)
   | (with_reducible exact ih3 _ _ _ _ _ _ _)
   | (with_reducible exact ih4 _ _ _ _ _ _ _ _)
   | (with_reducible exact ih5 _ _ _ _ _ _ _ _)
   | (with_reducible exact ih6 _ _ _ _ _ _ _ _ _ _)
   | (with_reducible exact ih7 _ _ _ _ _ _)
   | (with_reducible exact ih8 _ _ _ _ _ _)
   | (with_reducible exact ih9 _ _ _ _ _ _)
   | (with_reducible exact ih10 _ _ _ _ _ _ _ _ _ _)
   | (with_reducible exact impl_AfterSwaps.mono _ _ _)
   | (with_reducible exact impl_BackChange.mono _ _)
   | (with_reducible exact impl_ChangeCounts.mono _ _)
   | (with_reducible exact impl_FirstSideSwaps.mono _ _)
   | (with_reducible exact impl_FreeSwaps.mono _ _)
   | (with_reducible exact impl_HoleMoves.mono _ _)
   | (with_reducible exact impl_SideSwaps.mono _ _)
   | (with_reducible exact laws_rInts.mono _ _ _)
   | (with_reducible exact laws_rSum.mono _ _)
   | (with_reducible exact spec_AfterSwaps.mono _ _ _)
   | (with_reducible exact spec_BackChange.mono _ _)
   | (with_reducible exact spec_ChangeCounts.mono _ _)
   | (with_reducible exact spec_DrawAfterSwaps.mono _ _)
   | (with_reducible exact spec_DrawSideSwaps.mono _ _)
   | (with_reducible exact spec_FirstSideSwaps.mono _ _)
   | (with_reducible exact spec_FreeSwaps.mono _ _)
   | (with_reducible exact spec_HoleMoves.mono _ _)
   | (with_reducible exact spec_SideSwaps.mono _ _)
   | (with_reducible exact LeO.refl _)
   | (with_reducible exact LeO.none _)
   | (with_reducible refine LeO.ite ?_ ?_)
   | (with_reducible refine LeO.bind ?_ (fun _ => ?_))
   | exact ih0 _ _ _ _ _
   | exact ih1 _ _ _ _ _ _
   | exact ih2 _ _ _ _ _ _
   | exact ih3 _ _ _ _ _ _ _
   | exact ih4 _ _ _ _ _ _ _ _
   | exact ih5 _ _ _ _ _ _ _ _
   | exact ih6 _ _ _ _ _ _ _ _ _ _
   | exact ih7 _ _ _ _ _ _
   | exact ih8 _ _ _ _ _ _
   | exact ih9 _ _ _ _ _ _
   | exact ih10 _ _ _ _ _ _ _ _ _ _
   | exact impl_AfterSwaps.mono _ _ _
   | exact impl_BackChange.mono _ _
   | exact impl_ChangeCounts.mono _ _
   | exact impl_FirstSideSwaps.mono _ _
   | exact impl_FreeSwaps.mono _ _
   | exact impl_HoleMoves.mono _ _
   | exact impl_SideSwaps.mono _ _
   | exact laws_rInts.mono _ _ _
   | exact laws_rSum.mono _ _
   | exact spec_AfterSwaps.mono _ _ _
   | exact spec_BackChange.mono _ _
   | exact spec_ChangeCounts.mono _ _
   | exact spec_DrawAfterSwaps.mono _ _
   | exact spec_DrawSideSwaps.mono _ _
   | exact spec_FirstSideSwaps.mono _ _
   | exact spec_FreeSwaps.mono _ _
   | exact spec_HoleMoves.mono _ _
   | exact spec_SideSwaps.mono _ _
   | exact LeO.none _
   | refine LeO.ite ?_ ?_
   | refine LeO.bind ?_ (fun _ => ?_)
  ·intro y0 y1 y2 y3 y4 y5
   unfold laws_FnChanges.j2
   repeat' first
   | (with_reducible exact ih0 _ _ _ _ _)
   | (with_reducible exact ih1 _ _ _ _ _ _)
   | (with_reducible exact ih2 _ _ _ _ _ _)
   | (with_reducible exact ih3 _ _ _ _ _ _ _)
   | (with_reducible exact ih4 _ _ _ _ _ _ _ _)
   | (with_reducible exact ih5 _ _ _ _ _ _ _ _)
   | (with_reducible exact ih6 _ _ _ _ _ _ _ _ _ _)
   | (with_reducible exact ih7 _ _ _ _ _ _)
   | (with_reducible exact ih8 _ _ _ _ _ _)
   | (with_reducible exact ih9 _ _ _ _ _ _)
   | (with_reducible exact ih10 _ _ _ _ _ _ _ _ _ _)
   | (with_reducible exact impl_AfterSwaps.mono _ _ _)
   | (with_reducible exact impl_BackChange.mono _ _)
   | (with_reducible exact impl_ChangeCounts.mono _ _)
   | (with_reducible exact impl_FirstSideSwaps.mono _ _)
   | (with_reducible exact impl_FreeSwaps.mono _ _)
   | (with_reducible exact impl_HoleMoves.mono _ _)
   | (with_reducible exact impl_SideSwaps.mono _ _)
   | (with_reducible exact laws_rInts.mono _ _ _)
   | (with_reducible exact laws_rSum.mono _ _)
   | (with_reducible exact spec_AfterSwaps.mono _ _ _)
   | (with_reducible exact spec_BackChange.mono _ _)
   | (with_reducible exact spec_ChangeCounts.mono _ _)
   | (with_reducible exact spec_DrawAfterSwaps.mono _ _)
   | (with_reducible exact spec_DrawSideSwaps.mono _ _)
   | (with_reducible exact spec_FirstSideSwaps.mono _ _)
   | (with_reducible exact spec_FreeSwaps.mono _ _)
   | (with_reducible exact spec_HoleMoves.mono _ _)
   | (with_reducible exact spec_SideSwaps.mono _ _)
   | (with_reducible exact LeO.refl _)
   | (with_reducible exact LeO.none _)
   | (with_reducible refine LeO.ite ?_ ?_)
   | (with_reducible refine LeO.bind ?_ (fun _ => ?_))
   | exact ih0 _ _ _ _ _
   | exact ih1 _ _ _ _ _ _
   | exact ih2 _ _ _ _ _ _
   | exact ih3 _ _ _ _ _ _ _
   | exact ih4 _ _ _ _ _ _ _ _
   | exact ih5 _ _ _ _ _ _ _ _
   | exact ih6 _ _ _ _ _ _ _ _ _ _
   | exact ih7 _ _ _ _ _ _
   | exact ih8 _ _ _ _ _ _
   | exact ih9 _ _ _ _ _ _
   | exact ih10 _ _ _ _ _ _ _ _ _ _
   | exact impl_AfterSwaps.mono _ _ _
   | exact impl_BackChange.mono _ _
   | exact impl_ChangeCounts.mono _ _
   | exact impl_FirstSideSwaps.mono _ _
   | exact impl_FreeSwaps.mono _ _
   | exact impl_HoleMoves.mono _ _
   | exact impl_SideSwaps.mono _ _
   | exact laws_rInts.mono _ _ _
   | exact laws_rSum.mono _ _
   | exact spec_AfterSwaps.mono _ _ _
   | exact spec_BackChange.mono _ _
   | exact spec_ChangeCounts.mono _ _
   | exact spec_DrawAfterSwaps.mono _ _
   | exact spec_DrawSideSwaps.mono _ _
   | exact spec_FirstSideSwaps.mono _ _
   | exact spec_FreeSwaps.mono _ _
   | exact spec_HoleMoves.mono _ _
   | exact spec_SideSwaps.mono _ _
   | exact LeO.none _
   | refine LeO.ite ?_ ?_
   | refine LeO.bind ?_ (fun _ => ?_)
  ·intro y0 y1 y2 y3 y4 y5 y6
   unfold laws_FnChanges.j3
   repeat' first
   | (with_reducible exact ih0 _ _ _ _ _)
   | (with_reducible exact ih1 _ _ _ _ _ _)
   | (with_reducible exact ih2 _ _ _ _ _ _)
   | (with_reducible exact ih3 _ _ _ _ _ _ _)
   | (with_reducible exact ih4 _ _ _ _ _ _ _ _)
   | (with_reducible exact ih5 _ _ _ _ _ _ _ _)
   | (with_reducible exact ih6 _ _ _ _ _ _ _ _ _ _)
   | (with_reducible exact ih7 _ _ _ _ _ _)
   | (with_reducible exact ih8 _ _ _ _ _ _)
   | (with_reducible exact ih9 _ _ _ _ _ _)
   | (with_reducible exact ih10 _ _ _ _ _ _ _ _ _ _)
   | (with_reducible exact impl_AfterSwaps.mono _ _ _)
   | (with_reducible exact impl_BackChange.mono _ _)
   | (with_reducible exact impl_ChangeCounts.mono _ _)
   | (with_reducible exact impl_FirstSideSwaps.mono _ _)
   | (with_reducible exact impl_FreeSwaps.mono _ _)
   | (with_reducible exact impl_HoleMoves.mono _ _)
   | (with_reducible exact impl_SideSwaps.mono _ _)
   | (with_reducible exact laws_rInts.mono _ _ _)
   | (with_reducible exact laws_rSum.mono _ _)
   | (with_reducible exact spec_AfterSwaps.mono _ _ _)
   | (with_reducible exact spec_BackChange.mono _ _)
   | (with_reducible exact spec_ChangeCounts.mono _ _)
   | (with_reducible exact spec_DrawAfterSwaps.mono _ _)
   | (with_reducible exact spec_DrawSideSwaps.mono _ _)
   | (with_reducible exact spec_FirstSideSwaps.mono _ _)
   | (with_reducible exact spec_FreeSwaps.mono _ _)
   | (with_reducible exact spec_HoleMoves.mono _ _)
   | (with_reducible exact spec_SideSwaps.mono _ _)
   | (with_reducible exact LeO.refl _)
   | (with_reducible exact LeO.none _)
   | (with_reducible refine LeO.ite ?_ ?_)
   | (with_reducible refine LeO.bind ?_ (fun _ => ?_))
   | exact ih0 _ _ _ _ _
   | exact ih1 _ _ _ _ _ _
   | exact ih2 _ _ _ _ _ _
   | exact ih3 _ _ _ _ _ _ _
   | exact ih4 _ _ _ _ _ _ _ _
   | exact ih5 _ _ _ _ _ _ _ _
   | exact ih6 _ _ _ _ _ _ _ _ _ _
   | exact ih7 _ _ _ _ _ _
   | exact ih8 _ _ _ _ _ _
   | exact ih9 _ _ _ _ _ _
   | exact ih10 _ _ _ _ _ _ _ _ _ _
   | exact impl_AfterSwaps.mono _ _ _
   | exact impl_BackChange.mono _ _
   | exact impl_ChangeCounts.mono _ _
   | exact impl_FirstSideSwaps.mono _ _
   | exact impl_FreeSwaps.mono _ _
   | exact impl_HoleMoves.mono _ _
   | exact impl_SideSwaps.mono _ _
   | exact laws_rInts.mono _ _ _
   | exact laws_rSum.mono _ _
   | exact spec_AfterSwaps.mono _ _ _
   | exact spec_BackChange.mono _ _
   | exact spec_ChangeCounts.mono _ _
   | exact spec_DrawAfterSwaps.mono _ _
   | exact spec_DrawSideSwaps.mono _ _
   | exact spec_FirstSideSwaps.mono _ _
   | exact spec_FreeSwaps.mono _ _
   | exact spec_HoleMoves.mono _ _
   | exact spec_SideSwaps.mono _ _
   | exact LeO.none _
   | refine LeO.ite ?_ ?_
   | refine LeO.bind ?_ (fun _ => ?_)
  ·intro y0 y1 y2 y3 y4 y5 y6 y7
   unfold laws_FnChanges.j4
   repeat' first
   | (with_reducible exact ih0 _ _ _ _ _)
   | (with_reducible exact ih1 _ _ _ _ _ _)
   | (with_reducible exact ih2 _ _ _ _ _ _)
   | (with_reducible exact ih3 _ _ _ _ _ _ _)
   | (with_reducible exact ih4 _ _ _ _ _ _ _ _)
   | (with_reducible exact ih5 _ _ _ _ _ _ _ _)
   | (with_reducible exact ih6 _ _ _ _ _ _ _ _ _ _)
   | (with_reducible exact ih7 _ _ _ _ _ _)
   | (with_reducible exact ih8 _ _ _ _ _ _)
   | (with_reducible exact ih9 _ _ _ _ _ _)
   | (with_reducible exact ih10 _ _ _ _ _ _ _ _ _ _)
   | (with_reducible exact impl_AfterSwaps.mono _ _ _)
   | (with_reducible exact impl_BackChange.mono _ _)
   | (with_reducible exact impl_ChangeCounts.mono _ _)
   | (with_reducible exact impl_FirstSideSwaps.mono _ _)
   | (with_reducible exact impl_FreeSwaps.mono _ _)
   | (with_reducible exact impl_HoleMoves.mono _ _)
   | (with_reducible exact impl_SideSwaps.mono _ _)
   | (with_reducible exact laws_rInts.mono _ _ _)
   | (with_reducible exact laws_rSum.mono _ _)
   | (with_reducible exact spec_AfterSwaps.mono _ _ _)
   | (with_reducible exact spec_BackChange.mono _ _)
   | (with_reducible exact spec_ChangeCounts.mono _ _)
   | (with_reducible exact spec_DrawAfterSwaps.mono _ _)
   | (with_reducible exact spec_DrawSideSwaps.mono _ _)
   | (with_reducible exact spec_FirstSideSwaps.mono _ _)
   | (with_reducible exact spec_FreeSwaps.mono _ _)
   | (with_reducible exact spec_HoleMoves.mono _ _)
   | (with_reducible exact spec_SideSwaps.mono _ _)
   | (with_reducible exact LeO.refl _)
   | (with_reducible exact LeO.none _)
   | (with_reducible refine LeO.ite ?_ ?_)
   | (with_reducible refine LeO.bind ?_ (fun _ => ?_))
   | exact ih0 _ _ _ _ _
   | exact ih1 _ _ _ _ _ _
   | exact ih2 _ _ _ _ _ _
   | exact ih3 _ _ _ _ _ _ _
   | exact ih4 _ _ _ _ _ _ _ _
   | exact ih5 _ _ _ _ _ _ _ _
   | exact ih6 _ _ _ _ _ _ _ _ _ _
   | exact ih7 _ _ _ _ _ _
   | exact ih8 _ _ _ _ _ _
   | exact ih9 _ _ _ _ _ _
   | exact ih10 _ _ _ _ _ _ _ _ _ _
   | exact impl_AfterSwaps.mono _ _ _
   | exact impl_BackChange.mono _ _
   | exact impl_ChangeCounts.mono _ _
   | exact impl_FirstSideSwaps.mono _ _
   | exact impl_FreeSwaps.mono _ _
   | exact impl_HoleMoves.mono _ _
   | exact impl_SideSwaps.mono _ _
   | exact laws_rInts.mono _ _ _
   | exact laws_rSum.mono _ _
   | exact spec_AfterSwaps.mono _ _ _
   | exact spec_BackChange.mono _ _
   | exact spec_ChangeCounts.mono _ _
   | exact spec_DrawAfterSwaps.mono _ _
   | exact spec_DrawSideSwaps.mono _ _
   | exact spec_FirstSideSwaps.mono _ _
   | exact spec_FreeSwaps.mono _ _
   | exact spec_HoleMoves.mono _ _
   | exact spec_SideSwaps.mono _ _
   | exact LeO.none _
   | refine LeO.ite ?_ ?_
   | refine LeO.bind ?_ (fun _ => ?_)
  ·intro y0 y1 y2 y3 y4 y5 y6 y7
   unfold laws_FnChanges.j5
   repeat' first
   | (with_reducible exact ih0 _ _ _ _ _)
   | (with_reducible exact ih1 _ _ _ _ _ _)
   | (with_reducible exact ih2 _ _ _ _ _ _)
   | (with_reducible exact ih3 _ _ _ _ _ _ _)
   | (with_reducible exact ih4 _ _ _ _ _ _ _ _)
   | (with_reducible exact ih5 _ _ _ _ _ _ _ _)
   | (with_reducible exact ih6 _ _ _ _ _ _ _ _ _ _)
   | (with_reducible exact ih7 _ _ _ _ _ _)
   | (with_reducible exact ih8 _ _ _ _ _ _)
   | (with_reducible exact ih9 _ _ _ _ _ _)
   | (with_reducible exact ih10 _ _ _ _ _ _ _ _ _ _)
   | (with_reducible exact impl_AfterSwaps.mono _ _ _)
   | (with_reducible exact impl_BackChange.mono _ _)
   | (with_reducible exact impl_ChangeCounts.mono _ _)
   | (with_reducible exact impl_FirstSideSwaps.mono _ _)
   | (with_reducible exact impl_FreeSwaps.mono _ _)
   | (with_reducible exact impl_HoleMoves.mono _ _)
   | (with_reducible exact impl_SideSwaps.mono _ _)
   | (with_reducible exact laws_rInts.mono _ _ _)
   | (with_reducible exact laws_rSum.mono _ _)
   | (with_reducible exact spec_AfterSwaps.mono _ _ _)
   | (with_reducible exact spec_BackChange.mono _ _)
   | (with_reducible exact spec_ChangeCounts.mono _ _)
   | (with_reducible exact spec_DrawAfterSwaps.mono _ _)
   | (with_reducible exact spec_DrawSideSwaps.mono _ _)
   | (with_reducible exact spec_FirstSideSwaps.mono _ _)
   | (with_reducible exact spec_FreeSwaps.mono _ _)
   | (with_reducible exact spec_HoleMoves.mono _ _)
   | (with_reducible exact spec_SideSwaps.mono _ _)
   | (with_reducible exact LeO.refl _)
   | (with_reducible exact LeO.none _)
   | (with_reducible refine LeO.ite ?_ ?_)
   | (with_reducible refine LeO.bind ?_ (fun _ => ?_))
   | exact ih0 _ _ _ _ _
   | exact ih1 _ _ _ _ _ _
   | exact ih2 _ _ _ _ _ _
   | exact ih3 _ _ _ _ _ _ _
   | exact ih4 _ _ _ _ _ _ _ _
   | exact ih5 _ _ _ _ _ _ _ _
   | exact ih6 _ _ _ _ _ _ _ _ _ _
   | exact ih7 _ _ _ _ _ _
   | exact ih8 _ _ _ _ _ _
   | exact ih9 _ _ _ _ _ _
   | exact ih10 _ _ _ _ _ _ _ _ _ _
   | exact impl_AfterSwaps.mono _ _ _
   | exact impl_BackChange.mono _ _
   | exact impl_ChangeCounts.mono _ _
   | exact impl_FirstSideSwaps.mono _ _
   | exact impl_FreeSwaps.mono _ _
   | exact impl_HoleMoves.mono _ _
   | exact impl_SideSwaps.mono _ _
   | exact laws_rInts.mono _ _ _
   | exact laws_rSum.mono _ _
   | exact spec_AfterSwaps.mono _ _ _
   | exact spec_BackChange.mono _ _
   | exact spec_ChangeCounts.mono _ _
   | exact spec_DrawAfterSwaps.mono _ _
   | exact spec_DrawSideSwaps.mono _ _
   | exact spec_FirstSideSwaps.mono _ _
   | exact spec_FreeSwaps.mono _ _
   | exact spec_HoleMoves.mono _ _
   | exact spec_SideSwaps.mono _ _
   | exact LeO.none _
   | refine LeO.ite ?_ ?_
   | refine LeO.bind ?_ (fun _ => ?_)
  ·intro y0 y1 y2 y3 y4 y5 y6 y7 y8 y9
   unfold laws_FnChanges.j6
   repeat' first
   | (with_reducible exact ih0 _ _ _ _ _)
   | (with_reducible exact ih1 _ _ _ _ _ _)
   | (with_reducible exact ih2 _ _ _ _ _ _)
   | (with_reducible exact ih3 _ _ _ _ _ _ _)
   | (with_reducible exact ih4 _ _ _ _ _ _ _ _)
   | (with_reducible exact ih5 _ _ _ _ _ _ _ _)
   | (with_reducible exact ih6 _ _ _ _ _ _ _ _ _ _)
   | (with_reducible exact ih7 _ _ _ _ _ _)
   | (with_reducible exact ih8 _ _ _ _ _ _)
   | (with_reducible exact ih9 _ _ _ _ _ _)
   | (with_reducible exact ih10 _ _ _ _ _ _ _ _ _ _)
   | (with_reducible exact impl_AfterSwaps.mono _ _ _)
   | (with_reducible exact impl_BackChange.mono _ _)
   | (with_reducible exact impl_ChangeCounts.mono _ _)
   | (with_reducible exact impl_FirstSideSwaps.mono _ _)
   | (with_reducible exact impl_FreeSwaps.mono _ _)
   | (with_reducible exact impl_HoleMoves.mono _ _)
   | (with_reducible exact impl_SideSwaps.mono _ _)
   | (with_reducible exact laws_rInts.mono _ _ _)
   | (with_reducible exact laws_rSum.mono _ _)
   | (with_reducible exact spec_AfterSwaps.mono _ _ _)
   | (with_reducible exact spec_BackChange.mono _ _)
   | (with_reducible exact spec_ChangeCounts.mono _ _)
   | (with_reducible exact spec_DrawAfterSwaps.mono _ _)
   | (with_reducible exact spec_DrawSideSwaps.mono _ _)
   | (with_reducible exact spec_FirstSideSwaps.mono _ _)
   | (with_reducible exact spec_FreeSwaps.mono _ _)
   | (with_reducible exact spec_HoleMoves.mono _ _)
   | (with_reducible exact spec_SideSwaps.mono _ _)
   | (with_reducible exact LeO.refl _)
   | (with_reducible exact LeO.none _)
   | (with_reducible refine LeO.ite ?_ ?_)
   | (with_reducible refine LeO.bind ?_ (fun _ => ?_))
   | exact ih0 _ _ _ _ _
   | exact ih1 _ _ _ _ _ _
   | exact ih2 _ _ _ _ _ _
   | exact ih3 _ _ _ _ _ _ _
   | exact ih4 _ _ _ _ _ _ _ _
   | exact ih5 _ _ _ _ _ _ _ _
   | exact ih6 _ _ _ _ _ _ _ _ _ _
   | exact ih7 _ _ _ _ _ _
   | exact ih8 _ _ _ _ _ _
   | exact ih9 _ _ _ _ _ _
   | exact ih10 _ _ _ _ _ _ _ _ _ _
   | exact impl_AfterSwaps.mono _ _ _
   | exact impl_BackChange.mono _ _
   | exact impl_ChangeCounts.mono _ _
   | exact impl_FirstSideSwaps.mono _ _
   | exact impl_FreeSwaps.mono _ _
   | exact impl_HoleMoves.mono _ _
   | exact impl_SideSwaps.mono _ _
   | exact laws_rInts.mono _ _ _
   | exact laws_rSum.mono _ _
   | exact spec_AfterSwaps.mono _ _ _
   | exact spec_BackChange.mono _ _
   | exact spec_ChangeCounts.mono _ _
   | exact spec_DrawAfterSwaps.mono _ _
   | exact spec_DrawSideSwaps.mono _ _
   | exact spec_FirstSideSwaps.mono _ _
   | exact spec_FreeSwaps.mono _ _
   | exact spec_HoleMoves.mono _ _
   | exact spec_SideSwaps.mono _ _
   | exact LeO.none _
   | refine LeO.ite ?_ ?_
   | refine LeO.bind ?_ (fun _ => ?_)
  ·intro y0 y1 y2 y3 y4 y5
   unfold laws_FnChanges.j8
   repeat' first
   | (with_reducible exact ih0 _ _ _ _ _)
   | (with_reducible exact ih1 _ _ _ _ _ _)
   | (with_reducible exact ih2 _ _ _ _ _ _)
   | (with_reducible exact ih3 _ _ _ _ _ _ _)
   | (with_reducible exact ih4 _ _ _ _ _ _ _ _)
   | (with_reducible exact ih5 _ _ _ _ _ _ _ _)
   | (with_reducible exact ih6 _ _ _ _ _ _ _ _ _ _)
   | (with_reducible exact ih7 _ _ _ _ _ _)
   | (with_reducible exact ih8 _ _ _ _ _ _)
   | (with_reducible exact ih9 _ _ _ _ _ _)
   | (with_reducible exact ih10 _ _ _ _ _ _ _ _ _ _)
   | (with_reducible exact impl_AfterSwaps.mono _ _ _)
   | (with_reducible exact impl_BackChange.mono _ _)
   | (with_reducible exact impl_ChangeCounts.mono _ _)
   | (with_reducible exact impl_FirstSideSwaps.mono _ _)
   | (with_reducible exact impl_FreeSwaps.mono _ _)
   | (with_reducible exact impl_HoleMoves.mono _ _)
   | (with_reducible exact impl_SideSwaps.mono _ _)
   | (with_reducible exact laws_rInts.mono _ _ _)
   | (with_reducible exact laws_rSum.mono _ _)
   | (with_reducible exact spec_AfterSwaps.mono _ _ _)
   | (with_reducible exact spec_BackChange.mono _ _)
   | (with_reducible exact spec_ChangeCounts.mono _ _)
   | (with_reducible exact spec_DrawAfterSwaps.mono _ _)
   | (with_reducible exact spec_DrawSideSwaps.mono _ _)
   | (with_reducible exact spec_FirstSideSwaps.mono _ _)
   | (with_reducible exact spec_FreeSwaps.mono _ _)
   | (with_reducible exact spec_HoleMoves.mono _ _)
   | (with_reducible exact spec_SideSwaps.mono _ _)
   | (with_reducible exact LeO.refl _)
   | (with_reducible exact LeO.none _)
   | (with_reducible refine LeO.ite ?_ ?_)
   | (with_reducible refine LeO.bind ?_ (fun _ => ?_))
   | exact ih0 _ _ _ _ _
   | exact ih1 _ _ _ _ _ _
   | exact ih2 _ _ _ _ _ _
   | exact ih3 _ _ _ _ _ _ _
   | exact ih4 _ _ _ _ _ _ _ _
   | exact ih5 _ _ _ _ _ _ _ _
   | exact ih6 _ _ _ _ _ _ _ _ _ _
   | exact ih7 _ _ _ _ _ _
   | exact ih8 _ _ _ _ _ _
   | exact ih9 _ _ _ _ _ _
   | exact ih10 _ _ _ _ _ _ _ _ _ _
   | exact impl_AfterSwaps.mono _ _ _
   | exact impl_BackChange.mono _ _
   | exact impl_ChangeCounts.mono _ _
   | exact impl_FirstSideSwaps.mono _ _
   | exact impl_FreeSwaps.mono _ _
   | exact impl_HoleMoves.mono _ _
   | exact impl_SideSwaps.mono _ _
   | exact laws_rInts.mono _ _ _
   | exact laws_rSum.mono _ _
   | exact spec_AfterSwaps.mono _ _ _
   | exact spec_BackChange.mono _ _
   | exact spec_ChangeCounts.mono _ _
   | exact spec_DrawAfterSwaps.mono _ _
   | exact spec_DrawSideSwaps.mono _ _
   | exact spec_FirstSideSwaps.mono _ _
   | exact spec_FreeSwaps.mono _ _
   | exact spec_HoleMoves.mono _ _
   | exact spec_SideSwaps.mono _ _
   | exact LeO.none _
   | refine LeO.ite ?_ ?_
   | refine LeO.bind ?_ (fun _ => ?_)
  ·intro y0 y1 y2 y3 y4 y5
   unfold laws_FnChanges.j9
   repeat' first
   | (with_reducible exact ih0 _ _ _ _ _)
   | (with_reducible exact ih1 _ _ _ _ _ _)
   | (with_reducible exact ih2 _ _ _ _ _ _)
   | (with_reducible exact ih3 _ _ _ _ _ _ _)
   | (with_reducible exact ih4 _ _ _ _ _ _ _ _)
   | (with_reducible exact ih5 _ _ _ _ _ _ _ _)
   | (with_reducible exact ih6 _ _ _ _ _ _ _ _ _ _)
   | (with_reducible exact ih7 _ _ _ _ _ _)
   | (with_reducible exact ih8 _ _ _ _ _ _)
   | (with_reducible exact ih9 _ _ _ _ _ _)
   | (with_reducible exact ih10 _ _ _ _ _ _ _ _ _ _)
   | (with_reducible exact impl_AfterSwaps.mono _ _ _)
   | (with_reducible exact impl_BackChange.mono _ _)
   | (with_reducible exact impl_ChangeCounts.mono _ _)
   | (with_reducible exact impl_FirstSideSwaps.mono _ _)
   | (with_reducible exact impl_FreeSwaps.mono _ _)
   | (with_reducible exact impl_HoleMoves.mono _ _)
   | (with_reducible exact impl_SideSwaps.mono _ _)
   | (with_reducible exact laws_rInts.mono _ _ _)
   | (with_reducible exact laws_rSum.mono _ _)
   | (with_reducible exact spec_AfterSwaps.mono _ _ _)
   | (with_reducible exact spec_BackChange.mono _ _)
   | (with_reducible exact spec_ChangeCounts.mono _ _)
   | (with_reducible exact spec_DrawAfterSwaps.mono _ _)
   | (with_reducible exact spec_DrawSideSwaps.mono _ _)
   | (with_reducible exact spec_FirstSideSwaps.mono _ _)
   | (with_reducible exact spec_FreeSwaps.mono _ _)
   | (with_reducible exact spec_HoleMoves.mono _ _)
   | (with_reducible exact spec_SideSwaps.mono _ _)
   | (with_reducible exact LeO.refl _)
   | (with_reducible exact LeO.none _)
   | (with_reducible refine LeO.ite ?_ ?_)
   | (with_reducible refine LeO.bind ?_ (fun _ => ?_))
   | exact ih0 _ _ _ _ _
   | exact ih1 _ _ _ _ _ _
   | exact ih2 _ _ _ _ _ _
   | exact ih3 _ _ _ _ _ _ _
   | exact ih4 _ _ _ _ _ _ _ _
   | exact ih5 _ _ _ _ _ _ _ _
   | exact ih6 _ _ _ _ _ _ _ _ _ _
   | exact ih7 _ _ _ _ _ _
   | exact ih8 _ _ _ _ _ _
   | exact ih9 _ _ _ _ _ _
   | exact ih10 _ _ _ _ _ _ _ _ _ _
   | exact impl_AfterSwaps.mono _ _ _
   | exact impl_BackChange.mono _ _
   | exact impl_ChangeCounts.mono _ _
   | exact impl_FirstSideSwaps.mono _ _
   | exact impl_FreeSwaps.mono _ _
   | exact impl_HoleMoves.mono _ _
   | exact impl_SideSwaps.mono _ _
   | exact laws_rInts.mono _ _ _
   | exact laws_rSum.mono _ _
   | exact spec_AfterSwaps.mono _ _ _
   | exact spec_BackChange.mono _ _
   | exact spec_ChangeCounts.mono _ _
   | exact spec_DrawAfterSwaps.mono _ _
   | exact spec_DrawSideSwaps.mono _ _
   | exact spec_FirstSideSwaps.mono _ _
   | exact spec_FreeSwaps.mono _ _
   | exact spec_HoleMoves.mono _ _
   | exact spec_SideSwaps.mono _ _
   | exact LeO.none _
   | refine LeO.ite ?_ ?_
   | refine LeO.bind ?_ (fun _ => ?_)
  ·intro y0 y1 y2 y3 y4 y5
   unfold laws_FnChanges.l1
   repeat' first
   | (with_reducible exact ih0 _ _ _ _ _)
   | (with_reducible exact ih1 _ _ _ _ _ _)
   | (with_reducible exact ih2 _ _ _ _ _ _)
   | (with_reducible exact ih3 _ _ _ _ _ _ _)
   | (with_reducible exact ih4 _ _ _ _ _ _ _ _)
   | (with_reducible exact ih5 _ _ _ _ _ _ _ _)
   | (with_reducible exact ih6 _ _ _ _ _ _ _ _ _ _)
   | (with_reducible exact ih7 _ _ _ _ _ _)
   | (with_reducible exact ih8 _ _ _ _ _ _)
   | (with_reducible exact ih9 _ _ _ _ _ _)
   | (with_reducible exact ih10 _ _ _ _ _ _ _ _ _ _)
   | (with_reducible exact impl_AfterSwaps.mono _ _ _)
   | (with_reducible exact impl_BackChange.mono _ _)
   | (with_reducible exact impl_ChangeCounts.mono _ _)
   | (with_reducible exact impl_FirstSideSwaps.mono _ _)
   | (with_reducible exact impl_FreeSwaps.mono _ _)
   | (with_reducible exact impl_HoleMoves.mono _ _)
   | (with_reducible exact impl_SideSwaps.mono _ _)
   | (with_reducible exact laws_rInts.mono _ _ _)
   | (with_reducible exact laws_rSum.mono _ _)
   | (with_reducible exact spec_AfterSwaps.mono _ _ _)
   | (with_reducible exact spec_BackChange.mono _ _)
   | (with_reducible exact spec_ChangeCounts.mono _ _)
   | (with_reducible exact spec_DrawAfterSwaps.mono _ _)
   | (with_reducible exact spec_DrawSideSwaps.mono _ _)
   | (with_reducible exact spec_FirstSideSwaps.mono _ _)
   | (with_reducible exact spec_FreeSwaps.mono _ _)
   | (with_reducible exact spec_HoleMoves.mono _ _)
   | (with_reducible exact spec_SideSwaps.mono _ _)
   | (with_reducible exact LeO.refl _)
   | (with_reducible exact LeO.none _)
   | (with_reducible refine LeO.ite ?_ ?_)
   | (with_reducible refine LeO.bind ?_ (fun _ => ?_))
   | exact ih0 _ _ _ _ _
   | exact ih1 _ _ _ _ _ _
   | exact ih2 _ _ _ _ _ _
   | exact ih3 _ _ _ _ _ _ _
   | exact ih4 _ _ _ _ _ _ _ _
   | exact ih5 _ _ _ _ _ _ _ _
   | exact ih6 _ _ _ _ _ _ _ _ _ _
   | exact ih7 _ _ _ _ _ _
   | exact ih8 _ _ _ _ _ _
   | exact ih9 _ _ _ _ _ _
   | exact ih10 _ _ _ _ _ _ _ _ _ _
   | exact impl_AfterSwaps.mono _ _ _
   | exact impl_BackChange.mono _ _
   | exact impl_ChangeCounts.mono _ _
   | exact impl_FirstSideSwaps.mono _ _
   | exact impl_FreeSwaps.mono _ _
   | exact impl_HoleMoves.mono _ _
   | exact impl_SideSwaps.mono _ _
   | exact laws_rInts.mono _ _ _
   | exact laws_rSum.mono _ _
   | exact spec_AfterSwaps.mono _ _ _
   | exact spec_BackChange.mono _ _
   | exact spec_ChangeCounts.mono _ _
   | exact spec_DrawAfterSwaps.mono _ _
   | exact spec_DrawSideSwaps.mono _ _
   | exact spec_FirstSideSwaps.mono _ _
   | exact spec_FreeSwaps.mono _ _
   | exact spec_HoleMoves.mono _ _
   | exact spec_SideSwaps.mono _ _
   | exact LeO.none _
   | refine LeO.ite ?_ ?_
   | refine LeO.bind ?_ (fun _ => ?_)
  ·intro y0 y1 y2 y3 y4 y5 y6 y7 y8 y9
   unfold laws_FnChanges.l0
   repeat' first
   | (with_reducible exact ih0 _ _ _ _ _)
   | (with_reducible exact ih1 _ _ _ _ _ _)
   | (with_reducible exact ih2 _ _ _ _ _ _)
   | (with_reducible exact ih3 _ _ _ _ _ _ _)
   | (with_reducible exact ih4 _ _ _ _ _ _ _ _)
   | (with_reducible exact ih5 _ _ _ _ _ _ _ _)
   | (with_reducible exact ih6 _ _ _ _ _ _ _ _ _ _)
   | (with_reducible exact ih7 _ _ _ _ _ _)
   | (with_reducible exact ih8 _ _ _ _ _ _)
   | (with_reducible exact ih9 _ _ _ _ _ _)
   | (with_reducible exact ih10 _ _ _ _ _ _ _ _ _ _)
   | (with_reducible exact impl_AfterSwaps.mono _ _ _)
   | (with_reducible exact impl_BackChange.mono _ _)
   | (with_reducible exact impl_ChangeCounts.mono _ _)
   | (with_reducible exact impl_FirstSideSwaps.mono _ _)
   | (with_reducible exact impl_FreeSwaps.mono _ _)
   | (with_reducible exact impl_HoleMoves.mono _ _)
   | (with_reducible exact impl_SideSwaps.mono _ _)
   | (with_reducible exact laws_rInts.mono _ _ _)
   | (with_reducible exact laws_rSum.mono _ _)
   | (with_reducible exact spec_AfterSwaps.mono _ _ _)
   | (with_reducible exact spec_BackChange.mono _ _)
   | (with_reducible exact spec_ChangeCounts.mono _ _)
   | (with_reducible exact spec_DrawAfterSwaps.mono _ _)
   | (with_reducible exact spec_DrawSideSwaps.mono _ _)
   | (with_reducible exact spec_FirstSideSwaps.mono _ _)
   | (with_reducible exact spec_FreeSwaps.mono _ _)
   | (with_reducible exact spec_HoleMoves.mono _ _)
   | (with_reducible exact spec_SideSwaps.mono _ _)
   | (with_reducible exact LeO.refl _)
   | (with_reducible exact LeO.none _)
   | (with_reducible refine LeO.ite ?_ ?_)
   | (with_reducible refine LeO.bind ?_ (fun _ => ?_))
   | exact ih0 _ _ _ _ _
   | exact ih1 _ _ _ _ _ _
   | exact ih2 _ _ _ _ _ _
   | exact ih3 _ _ _ _ _ _ _
   | exact ih4 _ _ _ _ _ _ _ _
   | exact ih5 _ _ _ _ _ _ _ _
   | exact ih6 _ _ _ _ _ _ _ _ _ _
   | exact ih7 _ _ _ _ _ _
   | exact ih8 _ _ _ _ _ _
   | exact ih9 _ _ _ _ _ _
   | exact ih10 _ _ _ _ _ _ _ _ _ _
   | exact impl_AfterSwaps.mono _ _ _
   | exact impl_BackChange.mono _ _
   | exact impl_ChangeCounts.mono _ _
   | exact impl_FirstSideSwaps.mono _ _
   | exact impl_FreeSwaps.mono _ _
   | exact impl_HoleMoves.mono _ _
   | exact impl_SideSwaps.mono _ _
   | exact laws_rInts.mono _ _ _
   | exact laws_rSum.mono _ _
   | exact spec_AfterSwaps.mono _ _ _
   | exact spec_BackChange.mono _ _
   | exact spec_ChangeCounts.mono _ _
   | exact spec_DrawAfterSwaps.mono _ _
   | exact spec_DrawSideSwaps.mono _ _
   | exact spec_FirstSideSwaps.mono _ _
   | exact spec_FreeSwaps.mono _ _
   | exact spec_HoleMoves.mono _ _
   | exact spec_SideSwaps.mono _ _
   | exact LeO.none _
   | refine LeO.ite ?_ ?_
   | refine LeO.bind ?_ (fun _ => ?_)
theorem laws_FnChanges.mono : ∀ a0 k, LeO (laws_FnChanges.f k a0) (laws_FnChanges.f (k + 1) a0) := by
 intro a0 k
 obtain ⟨ih0, ih1, ih2, ih3, ih4, ih5, ih6, ih7, ih8, ih9, ih10⟩ := laws_FnChanges.mono_l k
 unfold laws_FnChanges.f
 repeat' first
   | (with_reducible exact ih0 _ _ _ _ _)
   | (with_reducible exact ih1 _ _ _ _ _ _)
   | (with_reducible exact ih2 _ _ _ _ _ _)
   | (with_reducible exact ih3 _ _ _ _ _ _ _)
   | (with_reducible exact ih4 _ _ _ _ _ _ _ _)
   | (with_reducible exact ih5 _ _ _ _ _ _ _ _)
   | (with_reducible exact ih6 _ _ _ _ _ _ _ _ _ _)
   | (with_reducible exact ih7 _ _ _ _ _ _)
   | (with_reducible exact ih8 _ _ _ _ _ _)
   | (with_reducible exact ih9 _ _ _ _ _ _)
   | (with_reducible exact ih10 _ _ _ _ _ _ _ _ _ _)
   | (with_reducible exact impl_AfterSwaps.mono _ _ _)
   | (with_reducible exact impl_BackChange.mono _ _)
   | (with_reducible exact impl_ChangeCounts.mono _ _)
   | (with_reducible exact impl_FirstSideSwaps.mono _ _)
   | (with_reducible exact impl_FreeSwaps.mono _ _)
   | (with_reducible exact impl_HoleMoves.mono _ _)
   | (with_reducible exact impl_SideSwaps.mono _ _)
   | (with_reducible exact laws_rInts.mono _ _ _)
   | (with_reducible exact laws_rSum.mono _ _)
   | (with_reducible exact spec_AfterSwaps.mono _ _ _)
   | (with_reducible exact spec_BackChange.mono _ _)
   | (with_reducible exact spec_ChangeCounts.mono _ _)
   | (with_reducible exact spec_DrawAfterSwaps.mono _ _)
   | (with_reducible exact spec_DrawSideSwaps.mono _ _)
   | (with_reducible exact spec_FirstSideSwaps.mono _ _)
   | (with_reducible exact spec_FreeSwaps.mono _ _)
   | (with_reducible exact spec_HoleMoves.mono _ _)
   | (with_reducible exact spec_SideSwaps.mono _ _)
   | (with_reducible exact LeO.refl _)
   | (with_reducible exact LeO.none _)
   | (with_reducible refine LeO.ite ?_ ?_)
   | (with_reducible refine LeO.bind ?_ (fun _ => ?_))
   | exact ih0 _ _ _ _ _
   | exact ih1 _ _ _ _ _ _
   | exact ih2 _ _ _ _ _ _
   | exact ih3 _ _ _ _ _ _ _
   | exact ih4 _ _ _ _ _ _ _ _
   | exact ih5 _ _ _ _ _ _ _ _
   | exact ih6 _ _ _ _ _ _ _ _ _ _
   | exact ih7 _ _ _ _ _ _
   | exact ih8 _ _ _ _ _ _
   | exact ih9 _ _ _ _ _ _
   | exact ih10 _ _ _ _ _ _ _ _ _ _
   | exact impl_AfterSwaps.mono _ _ _
   | exact impl_BackChange.mono _ _
   | exact impl_ChangeCounts.mono _ _
   | exact impl_FirstSideSwaps.mono _ _
   | exact impl_FreeSwaps.mono _ _
   | exact impl_HoleMoves.mono _ _
   | exact impl_SideSwaps.mono _ _
   | exact laws_rInts.mono _ _ _
   | exact laws_rSum.mono _ _
   | exact spec_AfterSwaps.mono _ _ _
   | exact spec_BackChange.mono _ _
   | exact spec_ChangeCounts.mono _ _
   | exact spec_DrawAfterSwaps.mono _ _
   | exact spec_DrawSideSwaps.mono _ _
   | exact spec_FirstSideSwaps.mono _ _
   | exact spec_FreeSwaps.mono _ _
   | exact spec_HoleMoves.mono _ _
   | exact spec_SideSwaps.mono _ _
   | exact LeO.none _
   | refine LeO.ite ?_ ?_
   | refine LeO.bind ?_ (fun _ => ?_)
set_option maxHeartbeats 8000000 in
set_option maxRecDepth 100000 in
theorem laws_FnChanges.calls (k : Nat) (A0 : Option Addr) (c0 : Nat) (l0 : List Int) (r : Bool) (w : World) (hr0 : Kd.C (Kd.int .u8) w A0 l0.length l0) (hc0 : l0.length ≤ c0) (h : laws_FnChanges.f k l0 = some r) :
  Calls Try.prog 3 #[.slice A0 l0.length c0] w fun e w' => e = .returned (.bool r) ∧ Below w.heap.size w w' := by
 have HR0 := Aside0.mk hr0
 have HC0 := Aside0.mk hc0
 clear hr0 hc0
 have HB := Aside0.mk (Below.refl w.heap.size w)
 have H : ((laws_rBig.f l0).bind fun t326 => (if t326 = true then (some true) else ((spec_DrawSideSwaps.f k l0).bind fun t327 => ((impl_SideSwaps.f k t327).bind fun bt330 => ((spec_SideSwaps.f k t327).bind fun bt332 => (if bt330.1 = bt332.1 then (laws_FnChanges.j0 k l0 t327 bt330.1 bt330.2 (bt330.2 != bt332.2)) else (laws_FnChanges.j0 k l0 t327 bt330.1 bt330.2 true))))))) = some r := h
 clear h
 replace H := Option.bind_eq_some_iff.mp H
 obtain ⟨t326, A20, H⟩ := H
 replace H : (if t326 = true then (some true) else ((spec_DrawSideSwaps.f k l0).bind fun t327 => ((impl_SideSwaps.f k t327).bind fun bt330 => ((spec_SideSwaps.f k t327).bind fun bt332 => (if bt330.1 = bt332.1 then (laws_FnChanges.j0 k l0 t327 bt330.1 bt330.2 (bt330.2 != bt332.2)) else (laws_FnChanges.j0 k l0 t327 bt330.1 bt330.2 true)))))) = some r := H
 have A2 := Aside0.mk A20
 clear A20
 by_cases c3 : t326 = true
 ·as_aux_lemma =>
  subst c3
  have H1 : (some true) = some r := by rw [if_pos rfl] at H; exact H
  clear H
  have H := H1
  clear H1
  as_aux_lemma =>
   obtain rfl := Option.some.inj H
   go_enter Try.func3, Try.ntmps3
   go_wp2_with (first | ((with_reducible refine gate_callee (f := 4) rfl ?_); refine goesL_ (some 47) rfl rfl Try.func4 (by kernel_rfl) rfl #[.slice A0 l0.length c0] rfl (by (try simp only [List.map_toArray, List.map_cons, List.map_nil]); first | done | rfl | (simp only [List.length_drop, List.length_take]; rfl)) ?_; (with_reducible refine (laws_rBig.calls _ _ l0 true _ ?side1 ?side2 A2.out).mono ?_); (case side1 => repeat (first | exact HR0.out | (with_reducible refine Kd.C_alloc ?_ _) | (with_reducible refine Kd.C_drewN ?_ _) | (with_reducible refine Kd.C_drew ?_))); (case side2 => exact HC0.out); rintro e w' ⟨rfl, ⟨nd, rfl⟩⟩; refine ⟨_, rfl, ?_⟩))
   go_ret
   exact ⟨by first | rfl | (simp [errW_none, errW_some] <;> rfl) | (simp [*, errW_none, errW_some] <;> rfl), by repeat (first | (with_reducible first | exact HB.out | apply below_alloc | apply pw_below_drewN | apply below_drew1) | exact HB.out)⟩
 ·as_aux_lemma =>
  replace c3 := Bool.eq_false_iff.mpr c3
  subst c3
  have H1 : ((spec_DrawSideSwaps.f k l0).bind fun t327 => ((impl_SideSwaps.f k t327).bind fun bt330 => ((spec_SideSwaps.f k t327).bind fun bt332 => (if bt330.1 = bt332.1 then (laws_FnChanges.j0 k l0 t327 bt330.1 bt330.2 (bt330.2 != bt332.2)) else (laws_FnChanges.j0 k l0 t327 bt330.1 bt330.2 true))))) = some r := by rw [if_neg (show ¬ (false = true) by decide)] at H; exact H
  clear H
  have H := H1
  clear H1
  replace H := Option.bind_eq_some_iff.mp H
  obtain ⟨t327, A40, H⟩ := H
  replace H : ((impl_SideSwaps.f k t327).bind fun bt330 => ((spec_SideSwaps.f k t327).bind fun bt332 => (if bt330.1 = bt332.1 then (laws_FnChanges.j0 k l0 t327 bt330.1 bt330.2 (bt330.2 != bt332.2)) else (laws_FnChanges.j0 k l0 t327 bt330.1 bt330.2 true)))) = some r := H
  have A4 := Aside0.mk A40
  clear A40
  replace H := Option.bind_eq_some_iff.mp H
  obtain ⟨⟨t330, t331⟩, A50, H⟩ := H
  replace H : ((spec_SideSwaps.f k t327).bind fun bt332 => (if t330 = bt332.1 then (laws_FnChanges.j0 k l0 t327 t330 t331 (t331 != bt332.2)) else (laws_FnChanges.j0 k l0 t327 t330 t331 true))) = some r := H
  have A5 := Aside0.mk A50
  clear A50
  replace H := Option.bind_eq_some_iff.mp H
  obtain ⟨⟨t332, t333⟩, A60, H⟩ := H
  replace H : (if t330 = t332 then (laws_FnChanges.j0 k l0 t327 t330 t331 (t331 != t333)) else (laws_FnChanges.j0 k l0 t327 t330 t331 true)) = some r := H
  have A6 := Aside0.mk A60
  clear A60
  have HC7 := Aside0.mk H
  clear H
  go_enter Try.func3, Try.ntmps3
  go_upto_region 6 with (first | ((with_reducible refine gate_callee (f := 4) rfl ?_); refine goesL_ (some 47) rfl rfl Try.func4 (by kernel_rfl) rfl #[.slice A0 l0.length c0] rfl (by (try simp only [List.map_toArray, List.map_cons, List.map_nil]); first | done | rfl | (simp only [List.length_drop, List.length_take]; rfl)) ?_; (with_reducible refine (laws_rBig.calls _ _ l0 false _ ?side1 ?side2 A2.out).mono ?_); (case side1 => repeat (first | exact HR0.out | (with_reducible refine Kd.C_alloc ?_ _) | (with_reducible refine Kd.C_drewN ?_ _) | (with_reducible refine Kd.C_drew ?_))); (case side2 => exact HC0.out); rintro e w' ⟨rfl, ⟨nd, rfl⟩⟩; refine ⟨_, rfl, ?_⟩) | ((with_reducible refine gate_callee (f := 5) rfl ?_); refine goesL_ (some 49) rfl rfl Try.func5 (by kernel_rfl) rfl #[.slice A0 l0.length c0] rfl (by (try simp only [List.map_toArray, List.map_cons, List.map_nil]); first | done | rfl | (simp only [List.length_drop, List.length_take]; rfl)) ?_; (with_reducible refine (spec_DrawSideSwaps.calls k _ _ l0 t327 _ ?side1 ?side2 A4.out).mono ?_); (case side1 => repeat (first | exact HR0.out | (with_reducible refine Kd.C_alloc ?_ _) | (with_reducible refine Kd.C_drewN ?_ _) | (with_reducible refine Kd.C_drew ?_))); (case side2 => exact HC0.out); rintro e w8 ⟨v328, rfl, ho0, hb⟩; refine ⟨_, rfl, ?_⟩; have n0_ := Aside0.mk (Kd.R_lower ho0 (below_size (by repeat (first | (with_reducible first | exact HB.out | apply below_alloc | apply pw_below_drewN | apply below_drew1) | exact HB.out)))); have n1_ := Aside0.mk (below_step (by repeat (first | (with_reducible first | exact HB.out | apply below_alloc | apply pw_below_drewN | apply below_drew1) | exact HB.out)) hb); clear HB; have HO329 := n0_; have HB := n1_; clear n0_ n1_; (try clear hb); (try clear hb2); (try clear hk); (try clear hi); (try clear ho0); obtain ⟨Ao9, co9, eo9⟩ := Kd.R_slice HO329.out; subst eo9) | ((with_reducible refine gate_callee (f := 6) rfl ?_); refine goesL_ (some 52) rfl rfl Try.func6 (by kernel_rfl) rfl #[.slice Ao9 t327.length co9] rfl (by (try simp only [List.map_toArray, List.map_cons, List.map_nil]); first | done | rfl | (simp only [List.length_drop, List.length_take]; rfl)) ?_; (with_reducible refine (impl_SideSwaps.calls k _ _ t327 t330 t331 _ ?side1 ?side2 A5.out).mono ?_); (case side1 => repeat (first | exact (Kd.R_reads' HO329.out).2.2 | (with_reducible refine Kd.C_alloc ?_ _) | (with_reducible refine Kd.C_drewN ?_ _) | (with_reducible refine Kd.C_drew ?_))); (case side2 => exact (Kd.R_reads' HO329.out).2.1); rintro e w' ⟨rfl, ⟨nd, rfl⟩⟩; refine ⟨_, rfl, ?_⟩) | ((with_reducible refine gate_callee (f := 7) rfl ?_); refine goesL_ (some 57) rfl rfl Try.func7 (by kernel_rfl) rfl #[.slice Ao9 t327.length co9] rfl (by (try simp only [List.map_toArray, List.map_cons, List.map_nil]); first | done | rfl | (simp only [List.length_drop, List.length_take]; rfl)) ?_; (with_reducible refine (spec_SideSwaps.calls k _ _ t327 t332 t333 _ ?side1 ?side2 A6.out).mono ?_); (case side1 => repeat (first | exact (Kd.R_reads' HO329.out).2.2 | (with_reducible refine Kd.C_alloc ?_ _) | (with_reducible refine Kd.C_drewN ?_ _) | (with_reducible refine Kd.C_drew ?_))); (case side2 => exact (Kd.R_reads' HO329.out).2.1); rintro e w' ⟨rfl, ⟨nd, rfl⟩⟩; refine ⟨_, rfl, ?_⟩))
  (try simp only [Act.put, List.setIfInBounds_toArray, List.set_cons_zero, List.set_cons_succ])
  go_cut [67] (fun v67 wc => ∃ (kq : Nat) (x67_6 : Bool), v67 = .bool x67_6 ∧ Aside0 (laws_FnChanges.j0 kq l0 t327 t330 t331 x67_6 = some r) ∧ Aside0 (kq ≤ k) ∧ Aside0 (Kd.R (Kd.int .i64) 3 wc w.heap.size (fun _ => True) (.slice Ao9 t327.length co9) t327) ∧ Aside0 (Below w.heap.size w wc))
  case first =>
   have H := HC7.out
   clear HC7
   by_cases c10 : t330 = t332
   ·as_aux_lemma =>
    rw [if_pos c10] at H
    have c10b0 : (t330 == t332) = true := beq_iff_eq.mpr c10
    have c10b1 : (t330 != t332) = false := bne_eq_false_iff_eq.mpr c10
    clear c10
    (first | rw [c10b0] | (simp only [i64_w, i32_w]; rw [c10b0]) | skip)
    as_aux_lemma =>
     have H' := Aside0.mk H
     clear H
     go_wp2
     go_meet
     case rel => exact ⟨_, ((t331 != t333)), (by first | rfl | (simp; done) | (simp [*]; done)), H', ⟨by first | omega | exact Nat.le_refl _⟩, ⟨by (with_reducible repeat (first | apply Kd.R_alloc | apply Kd.R_drewN | apply Kd.R_drew)); exact HO329.out⟩, ⟨by repeat (first | (with_reducible first | exact HB.out | apply below_alloc | apply pw_below_drewN | apply below_drew1) | exact HB.out)⟩⟩
   ·as_aux_lemma =>
    rw [if_neg c10] at H
    have c10b0 : (t330 == t332) = false := beq_eq_false_iff_ne.mpr c10
    have c10b1 : (t330 != t332) = true := bne_iff_ne.mpr c10
    (first | rw [c10b0] | (simp only [i64_w, i32_w]; rw [c10b0]) | skip)
    as_aux_lemma =>
     have H' := Aside0.mk H
     clear H
     go_wp2
     go_meet
     case rel => exact ⟨_, (true), (by first | rfl | (simp; done) | (simp [*]; done)), H', ⟨by first | omega | exact Nat.le_refl _⟩, ⟨by (with_reducible repeat (first | apply Kd.R_alloc | apply Kd.R_drewN | apply Kd.R_drew)); exact HO329.out⟩, ⟨by repeat (first | (with_reducible first | exact HB.out | apply below_alloc | apply pw_below_drewN | apply below_drew1) | exact HB.out)⟩⟩
  case rest =>
   clear HC7
   try clear c1
   try clear p2
   try clear c3
   try clear c4
   try clear c5
   try clear c6
   try clear c7
   try clear c10
   try clear c10b0
   try clear c10b1
   obtain ⟨kq, x67_6, rfl, HA, HJ6, HO_3, HB⟩ := hcut
   cases kq with
   | zero => exact absurd HA.out (by simp [laws_FnChanges.j0])
   | succ kj6 =>
    have H := HA.out
    clear HA
    simp only [laws_FnChanges.j0] at H
    by_cases c11 : x67_6 = true
    ·as_aux_lemma =>
     subst c11
     have H1 : (some false) = some r := by rw [if_pos rfl] at H; exact H
     clear H
     have H := H1
     clear H1
     as_aux_lemma =>
      obtain rfl := Option.some.inj H
      go_wp2
      go_ret
      exact ⟨by first | rfl | (simp [errW_none, errW_some] <;> rfl) | (simp [*, errW_none, errW_some] <;> rfl), by repeat (first | (with_reducible first | exact HB.out | apply below_alloc | apply pw_below_drewN | apply below_drew1) | exact HB.out)⟩
    ·as_aux_lemma =>
     replace c11 := Bool.eq_false_iff.mpr c11
     subst c11
     have H1 : ((impl_FreeSwaps.f kj6 t327).bind fun bt334 => ((spec_FreeSwaps.f kj6 t327).bind fun bt336 => (if bt334.1 = bt336.1 then (if (bt334.2 != bt336.2) = true then (laws_FnChanges.j1 kj6 l0 t327 t330 t331 bt334.1 true) else (if (bt334.2 != t331) = true then (laws_FnChanges.j1 kj6 l0 t327 t330 t331 bt334.1 true) else (laws_FnChanges.j1 kj6 l0 t327 t330 t331 bt334.1 (decide (bt334.1 > t330))))) else (laws_FnChanges.j1 kj6 l0 t327 t330 t331 bt334.1 true)))) = some r := by rw [if_neg (show ¬ (false = true) by decide)] at H; exact H
     clear H
     have H := H1
     clear H1
     replace H := Option.bind_eq_some_iff.mp H
     obtain ⟨⟨t334, t335⟩, A120, H⟩ := H
     replace H : ((spec_FreeSwaps.f kj6 t327).bind fun bt336 => (if t334 = bt336.1 then (if (t335 != bt336.2) = true then (laws_FnChanges.j1 kj6 l0 t327 t330 t331 t334 true) else (if (t335 != t331) = true then (laws_FnChanges.j1 kj6 l0 t327 t330 t331 t334 true) else (laws_FnChanges.j1 kj6 l0 t327 t330 t331 t334 (decide (t334 > t330))))) else (laws_FnChanges.j1 kj6 l0 t327 t330 t331 t334 true))) = some r := H
     have A12 := Aside0.mk A120
     clear A120
     replace H := Option.bind_eq_some_iff.mp H
     obtain ⟨⟨t336, t337⟩, A130, H⟩ := H
     replace H : (if t334 = t336 then (if (t335 != t337) = true then (laws_FnChanges.j1 kj6 l0 t327 t330 t331 t334 true) else (if (t335 != t331) = true then (laws_FnChanges.j1 kj6 l0 t327 t330 t331 t334 true) else (laws_FnChanges.j1 kj6 l0 t327 t330 t331 t334 (decide (t334 > t330))))) else (laws_FnChanges.j1 kj6 l0 t327 t330 t331 t334 true)) = some r := H
     have A13 := Aside0.mk A130
     clear A130
     have HC14 := Aside0.mk H
     clear H
     go_upto_region 10 with (first | ((with_reducible refine gate_callee (f := 8) rfl ?_); refine goesL_ (some 70) rfl rfl Try.func8 (by kernel_rfl) rfl #[.slice Ao9 t327.length co9] rfl (by (try simp only [List.map_toArray, List.map_cons, List.map_nil]); first | done | rfl | (simp only [List.length_drop, List.length_take]; rfl)) ?_; (with_reducible refine (impl_FreeSwaps.calls kj6 _ _ t327 t334 t335 _ ?side1 ?side2 A12.out).mono ?_); (case side1 => repeat (first | exact (Kd.R_reads' HO_3.out).2.2 | (with_reducible refine Kd.C_alloc ?_ _) | (with_reducible refine Kd.C_drewN ?_ _) | (with_reducible refine Kd.C_drew ?_))); (case side2 => exact (Kd.R_reads' HO_3.out).2.1); rintro e w15 ⟨rfl, hb⟩; refine ⟨_, rfl, ?_⟩; have n0_ := Aside0.mk (Kd.R_below (by (with_reducible repeat (first | apply Kd.R_alloc | apply Kd.R_drewN | apply Kd.R_drew)); exact HO_3.out) hb); have n1_ := Aside0.mk (below_step (by repeat (first | (with_reducible first | exact HB.out | apply below_alloc | apply pw_below_drewN | apply below_drew1) | exact HB.out)) hb); clear HO_3 HB; have HO_3 := n0_; have HB := n1_; clear n0_ n1_; (try clear hb); (try clear hb2); (try clear hk); (try clear hi)) | ((with_reducible refine gate_callee (f := 9) rfl ?_); refine goesL_ (some 75) rfl rfl Try.func9 (by kernel_rfl) rfl #[.slice Ao9 t327.length co9] rfl (by (try simp only [List.map_toArray, List.map_cons, List.map_nil]); first | done | rfl | (simp only [List.length_drop, List.length_take]; rfl)) ?_; (with_reducible refine (spec_FreeSwaps.calls kj6 _ _ t327 t336 t337 _ ?side1 ?side2 A13.out).mono ?_); (case side1 => repeat (first | exact (Kd.R_reads' HO_3.out).2.2 | (with_reducible refine Kd.C_alloc ?_ _) | (with_reducible refine Kd.C_drewN ?_ _) | (with_reducible refine Kd.C_drew ?_))); (case side2 => exact (Kd.R_reads' HO_3.out).2.1); rintro e w16 ⟨rfl, hb⟩; refine ⟨_, rfl, ?_⟩; have n0_ := Aside0.mk (Kd.R_below (by (with_reducible repeat (first | apply Kd.R_alloc | apply Kd.R_drewN | apply Kd.R_drew)); exact HO_3.out) hb); have n1_ := Aside0.mk (below_step (by repeat (first | (with_reducible first | exact HB.out | apply below_alloc | apply pw_below_drewN | apply below_drew1) | exact HB.out)) hb); clear HO_3 HB; have HO_3 := n0_; have HB := n1_; clear n0_ n1_; (try clear hb); (try clear hb2); (try clear hk); (try clear hi)))
     (try simp only [Act.put, List.setIfInBounds_toArray, List.set_cons_zero, List.set_cons_succ])
     go_cut [95] (fun v95 wc => ∃ (kq : Nat) (x95_13 : Bool), v95 = .bool x95_13 ∧ Aside0 (laws_FnChanges.j1 kq l0 t327 t330 t331 t334 x95_13 = some r) ∧ Aside0 (kq ≤ kj6) ∧ Aside0 (Kd.R (Kd.int .i64) 3 wc w.heap.size (fun _ => True) (.slice Ao9 t327.length co9) t327) ∧ Aside0 (Below w.heap.size w wc))
     case first =>
      have H := HC14.out
      clear HC14
      by_cases c17 : t334 = t336
      ·as_aux_lemma =>
       rw [if_pos c17] at H
       have c17b0 : (t334 == t336) = true := beq_iff_eq.mpr c17
       have c17b1 : (t334 != t336) = false := bne_eq_false_iff_eq.mpr c17
       clear c17
       (first | rw [c17b0] | (simp only [i64_w, i32_w]; rw [c17b0]) | skip)
       by_cases c18 : (t335 != t337) = true
       ·as_aux_lemma =>
        rw [if_pos c18] at H
        have c18b0 : (t335 != t337) = true := c18
        (try (have c18b1 : decide (t335 = t337) = false := by simpa using c18))
        (try (have c18b2 : (t335 == t337) = false := by simpa using c18))
        (try (have c18b3 : ¬ (t335 = t337) := by simpa using c18))
        clear c18
        as_aux_lemma =>
         have H' := Aside0.mk H
         clear H
         go_wp2
         go_meet
         case rel => exact ⟨_, (true), (by first | rfl | (simp; done) | (simp [*]; done)), H', ⟨by have := HJ6.out; first | omega | exact Nat.le_refl _⟩, ⟨by (with_reducible repeat (first | apply Kd.R_alloc | apply Kd.R_drewN | apply Kd.R_drew)); exact HO_3.out⟩, ⟨by repeat (first | (with_reducible first | exact HB.out | apply below_alloc | apply pw_below_drewN | apply below_drew1) | exact HB.out)⟩⟩
       ·as_aux_lemma =>
        rw [if_neg c18] at H
        have c18b0 : (t335 != t337) = false := by simpa using c18
        (try (have c18b1 : decide (t335 = t337) = true := by simpa using c18))
        (try (have c18b2 : (t335 == t337) = true := by simpa using c18))
        clear c18
        by_cases c19 : (t335 != t331) = true
        ·as_aux_lemma =>
         rw [if_pos c19] at H
         have c19b0 : (t335 != t331) = true := c19
         (try (have c19b1 : decide (t335 = t331) = false := by simpa using c19))
         (try (have c19b2 : (t335 == t331) = false := by simpa using c19))
         (try (have c19b3 : ¬ (t335 = t331) := by simpa using c19))
         clear c19
         as_aux_lemma =>
          have H' := Aside0.mk H
          clear H
          go_wp2
          go_meet
          case rel => exact ⟨_, (true), (by first | rfl | (simp; done) | (simp [*]; done)), H', ⟨by have := HJ6.out; first | omega | exact Nat.le_refl _⟩, ⟨by (with_reducible repeat (first | apply Kd.R_alloc | apply Kd.R_drewN | apply Kd.R_drew)); exact HO_3.out⟩, ⟨by repeat (first | (with_reducible first | exact HB.out | apply below_alloc | apply pw_below_drewN | apply below_drew1) | exact HB.out)⟩⟩
        ·as_aux_lemma =>
         rw [if_neg c19] at H
         have c19b0 : (t335 != t331) = false := by simpa using c19
         (try (have c19b1 : decide (t335 = t331) = true := by simpa using c19))
         (try (have c19b2 : (t335 == t331) = true := by simpa using c19))
         clear c19
         as_aux_lemma =>
          have H' := Aside0.mk H
          clear H
          go_wp2
          go_meet
          case rel => exact ⟨_, (decide (t334 > t330)), (by first | rfl | (simp; done) | (simp [*]; done)), H', ⟨by have := HJ6.out; first | omega | exact Nat.le_refl _⟩, ⟨by (with_reducible repeat (first | apply Kd.R_alloc | apply Kd.R_drewN | apply Kd.R_drew)); exact HO_3.out⟩, ⟨by repeat (first | (with_reducible first | exact HB.out | apply below_alloc | apply pw_below_drewN | apply below_drew1) | exact HB.out)⟩⟩
      ·as_aux_lemma =>
       rw [if_neg c17] at H
       have c17b0 : (t334 == t336) = false := beq_eq_false_iff_ne.mpr c17
       have c17b1 : (t334 != t336) = true := bne_iff_ne.mpr c17
       (first | rw [c17b0] | (simp only [i64_w, i32_w]; rw [c17b0]) | skip)
       as_aux_lemma =>
        have H' := Aside0.mk H
        clear H
        go_wp2
        go_meet
        case rel => exact ⟨_, (true), (by first | rfl | (simp; done) | (simp [*]; done)), H', ⟨by have := HJ6.out; first | omega | exact Nat.le_refl _⟩, ⟨by (with_reducible repeat (first | apply Kd.R_alloc | apply Kd.R_drewN | apply Kd.R_drew)); exact HO_3.out⟩, ⟨by repeat (first | (with_reducible first | exact HB.out | apply below_alloc | apply pw_below_drewN | apply below_drew1) | exact HB.out)⟩⟩
     case rest =>
      clear HC14
      try clear c1
      try clear p2
      try clear c3
      try clear c4
      try clear c5
      try clear c6
      try clear c7
      try clear c8
      try clear c9
      try clear c10
      try clear c10b0
      try clear c10b1
      try clear c11
      try clear c17
      try clear c17b0
      try clear c17b1
      try clear c18
      try clear c18b0
      try clear c18b1
      try clear c18b2
      try clear c19
      try clear c19b0
      try clear c19b1
      try clear c19b2
      try clear p2
      obtain ⟨kq, x95_13, rfl, HA, HJ13, HO_3, HB⟩ := hcut
      cases kq with
      | zero => exact absurd HA.out (by simp [laws_FnChanges.j1])
      | succ kj13 =>
       have H := HA.out
       clear HA
       simp only [laws_FnChanges.j1] at H
       by_cases c20 : x95_13 = true
       ·as_aux_lemma =>
        subst c20
        have H1 : (some false) = some r := by rw [if_pos rfl] at H; exact H
        clear H
        have H := H1
        clear H1
        as_aux_lemma =>
         obtain rfl := Option.some.inj H
         go_wp2
         go_ret
         exact ⟨by first | rfl | (simp [errW_none, errW_some] <;> rfl) | (simp [*, errW_none, errW_some] <;> rfl), by repeat (first | (with_reducible first | exact HB.out | apply below_alloc | apply pw_below_drewN | apply below_drew1) | exact HB.out)⟩
       ·as_aux_lemma =>
        replace c20 := Bool.eq_false_iff.mpr c20
        subst c20
        have H1 : ((impl_HoleMoves.f kj13 t327).bind fun bt338 => ((spec_HoleMoves.f kj13 t327).bind fun bt340 => (if bt338.1 = bt340.1 then (if (bt338.2 != bt340.2) = true then (laws_FnChanges.j2 kj13 l0 t327 t330 t331 t334 true) else (if (bt338.2 != t331) = true then (laws_FnChanges.j2 kj13 l0 t327 t330 t331 t334 true) else (laws_FnChanges.j2 kj13 l0 t327 t330 t331 t334 (decide (bt338.1 > (wrap64 (3 * t334))))))) else (laws_FnChanges.j2 kj13 l0 t327 t330 t331 t334 true)))) = some r := by rw [if_neg (show ¬ (false = true) by decide)] at H; exact H
        clear H
        have H := H1
        clear H1
        replace H := Option.bind_eq_some_iff.mp H
        obtain ⟨⟨t338, t339⟩, A210, H⟩ := H
        replace H : ((spec_HoleMoves.f kj13 t327).bind fun bt340 => (if t338 = bt340.1 then (if (t339 != bt340.2) = true then (laws_FnChanges.j2 kj13 l0 t327 t330 t331 t334 true) else (if (t339 != t331) = true then (laws_FnChanges.j2 kj13 l0 t327 t330 t331 t334 true) else (laws_FnChanges.j2 kj13 l0 t327 t330 t331 t334 (decide (t338 > (wrap64 (3 * t334))))))) else (laws_FnChanges.j2 kj13 l0 t327 t330 t331 t334 true))) = some r := H
        have A21 := Aside0.mk A210
        clear A210
        replace H := Option.bind_eq_some_iff.mp H
        obtain ⟨⟨t340, t341⟩, A220, H⟩ := H
        replace H : (if t338 = t340 then (if (t339 != t341) = true then (laws_FnChanges.j2 kj13 l0 t327 t330 t331 t334 true) else (if (t339 != t331) = true then (laws_FnChanges.j2 kj13 l0 t327 t330 t331 t334 true) else (laws_FnChanges.j2 kj13 l0 t327 t330 t331 t334 (decide (t338 > (wrap64 (3 * t334))))))) else (laws_FnChanges.j2 kj13 l0 t327 t330 t331 t334 true)) = some r := H
        have A22 := Aside0.mk A220
        clear A220
        have HC23 := Aside0.mk H
        clear H
        go_upto_region 14 with (first | ((with_reducible refine gate_callee (f := 10) rfl ?_); refine goesL_ (some 98) rfl rfl Try.func10 (by kernel_rfl) rfl #[.slice Ao9 t327.length co9] rfl (by (try simp only [List.map_toArray, List.map_cons, List.map_nil]); first | done | rfl | (simp only [List.length_drop, List.length_take]; rfl)) ?_; (with_reducible refine (impl_HoleMoves.calls kj13 _ _ t327 t338 t339 _ ?side1 ?side2 A21.out).mono ?_); (case side1 => repeat (first | exact (Kd.R_reads' HO_3.out).2.2 | (with_reducible refine Kd.C_alloc ?_ _) | (with_reducible refine Kd.C_drewN ?_ _) | (with_reducible refine Kd.C_drew ?_))); (case side2 => exact (Kd.R_reads' HO_3.out).2.1); rintro e w24 ⟨rfl, hb⟩; refine ⟨_, rfl, ?_⟩; have n0_ := Aside0.mk (Kd.R_below (by (with_reducible repeat (first | apply Kd.R_alloc | apply Kd.R_drewN | apply Kd.R_drew)); exact HO_3.out) hb); have n1_ := Aside0.mk (below_step (by repeat (first | (with_reducible first | exact HB.out | apply below_alloc | apply pw_below_drewN | apply below_drew1) | exact HB.out)) hb); clear HO_3 HB; have HO_3 := n0_; have HB := n1_; clear n0_ n1_; (try clear hb); (try clear hb2); (try clear hk); (try clear hi)) | ((with_reducible refine gate_callee (f := 11) rfl ?_); refine goesL_ (some 103) rfl rfl Try.func11 (by kernel_rfl) rfl #[.slice Ao9 t327.length co9] rfl (by (try simp only [List.map_toArray, List.map_cons, List.map_nil]); first | done | rfl | (simp only [List.length_drop, List.length_take]; rfl)) ?_; (with_reducible refine (spec_HoleMoves.calls kj13 _ _ t327 t340 t341 _ ?side1 ?side2 A22.out).mono ?_); (case side1 => repeat (first | exact (Kd.R_reads' HO_3.out).2.2 | (with_reducible refine Kd.C_alloc ?_ _) | (with_reducible refine Kd.C_drewN ?_ _) | (with_reducible refine Kd.C_drew ?_))); (case side2 => exact (Kd.R_reads' HO_3.out).2.1); rintro e w25 ⟨rfl, hb⟩; refine ⟨_, rfl, ?_⟩; have n0_ := Aside0.mk (Kd.R_below (by (with_reducible repeat (first | apply Kd.R_alloc | apply Kd.R_drewN | apply Kd.R_drew)); exact HO_3.out) hb); have n1_ := Aside0.mk (below_step (by repeat (first | (with_reducible first | exact HB.out | apply below_alloc | apply pw_below_drewN | apply below_drew1) | exact HB.out)) hb); clear HO_3 HB; have HO_3 := n0_; have HB := n1_; clear n0_ n1_; (try clear hb); (try clear hb2); (try clear hk); (try clear hi)))
        (try simp only [Act.put, List.setIfInBounds_toArray, List.set_cons_zero, List.set_cons_succ])
        go_cut [124] (fun v124 wc => ∃ (kq : Nat) (x124_22 : Bool), v124 = .bool x124_22 ∧ Aside0 (laws_FnChanges.j2 kq l0 t327 t330 t331 t334 x124_22 = some r) ∧ Aside0 (kq ≤ kj13) ∧ Aside0 (Kd.R (Kd.int .i64) 3 wc w.heap.size (fun _ => True) (.slice Ao9 t327.length co9) t327) ∧ Aside0 (Below w.heap.size w wc))
        case first =>
         have H := HC23.out
         clear HC23
         by_cases c26 : t338 = t340
         ·as_aux_lemma =>
          rw [if_pos c26] at H
          have c26b0 : (t338 == t340) = true := beq_iff_eq.mpr c26
          have c26b1 : (t338 != t340) = false := bne_eq_false_iff_eq.mpr c26
          clear c26
          (first | rw [c26b0] | (simp only [i64_w, i32_w]; rw [c26b0]) | skip)
          by_cases c27 : (t339 != t341) = true
          ·as_aux_lemma =>
           rw [if_pos c27] at H
           have c27b0 : (t339 != t341) = true := c27
           (try (have c27b1 : decide (t339 = t341) = false := by simpa using c27))
           (try (have c27b2 : (t339 == t341) = false := by simpa using c27))
           (try (have c27b3 : ¬ (t339 = t341) := by simpa using c27))
           clear c27
           as_aux_lemma =>
            have H' := Aside0.mk H
            clear H
            go_wp2
            go_meet
            case rel => exact ⟨_, (true), (by first | rfl | (simp; done) | (simp [*]; done)), H', ⟨by have := HJ6.out; have := HJ13.out; first | omega | exact Nat.le_refl _⟩, ⟨by (with_reducible repeat (first | apply Kd.R_alloc | apply Kd.R_drewN | apply Kd.R_drew)); exact HO_3.out⟩, ⟨by repeat (first | (with_reducible first | exact HB.out | apply below_alloc | apply pw_below_drewN | apply below_drew1) | exact HB.out)⟩⟩
          ·as_aux_lemma =>
           rw [if_neg c27] at H
           have c27b0 : (t339 != t341) = false := by simpa using c27
           (try (have c27b1 : decide (t339 = t341) = true := by simpa using c27))
           (try (have c27b2 : (t339 == t341) = true := by simpa using c27))
           clear c27
           by_cases c28 : (t339 != t331) = true
           ·as_aux_lemma =>
            rw [if_pos c28] at H
            have c28b0 : (t339 != t331) = true := c28
            (try (have c28b1 : decide (t339 = t331) = false := by simpa using c28))
            (try (have c28b2 : (t339 == t331) = false := by simpa using c28))
            (try (have c28b3 : ¬ (t339 = t331) := by simpa using c28))
            clear c28
            as_aux_lemma =>
             have H' := Aside0.mk H
             clear H
             go_wp2
             go_meet
             case rel => exact ⟨_, (true), (by first | rfl | (simp; done) | (simp [*]; done)), H', ⟨by have := HJ6.out; have := HJ13.out; first | omega | exact Nat.le_refl _⟩, ⟨by (with_reducible repeat (first | apply Kd.R_alloc | apply Kd.R_drewN | apply Kd.R_drew)); exact HO_3.out⟩, ⟨by repeat (first | (with_reducible first | exact HB.out | apply below_alloc | apply pw_below_drewN | apply below_drew1) | exact HB.out)⟩⟩
           ·as_aux_lemma =>
            rw [if_neg c28] at H
            have c28b0 : (t339 != t331) = false := by simpa using c28
            (try (have c28b1 : decide (t339 = t331) = true := by simpa using c28))
            (try (have c28b2 : (t339 == t331) = true := by simpa using c28))
            clear c28
            as_aux_lemma =>
             have H' := Aside0.mk H
             clear H
             go_wp2
             go_meet
             case rel => exact ⟨_, (decide (t338 > (wrap64 (3 * t334)))), (by first | rfl | (simp; done) | (simp [*]; done)), H', ⟨by have := HJ6.out; have := HJ13.out; first | omega | exact Nat.le_refl _⟩, ⟨by (with_reducible repeat (first | apply Kd.R_alloc | apply Kd.R_drewN | apply Kd.R_drew)); exact HO_3.out⟩, ⟨by repeat (first | (with_reducible first | exact HB.out | apply below_alloc | apply pw_below_drewN | apply below_drew1) | exact HB.out)⟩⟩
         ·as_aux_lemma =>
          rw [if_neg c26] at H
          have c26b0 : (t338 == t340) = false := beq_eq_false_iff_ne.mpr c26
          have c26b1 : (t338 != t340) = true := bne_iff_ne.mpr c26
          (first | rw [c26b0] | (simp only [i64_w, i32_w]; rw [c26b0]) | skip)
          as_aux_lemma =>
           have H' := Aside0.mk H
           clear H
           go_wp2
           go_meet
           case rel => exact ⟨_, (true), (by first | rfl | (simp; done) | (simp [*]; done)), H', ⟨by have := HJ6.out; have := HJ13.out; first | omega | exact Nat.le_refl _⟩, ⟨by (with_reducible repeat (first | apply Kd.R_alloc | apply Kd.R_drewN | apply Kd.R_drew)); exact HO_3.out⟩, ⟨by repeat (first | (with_reducible first | exact HB.out | apply below_alloc | apply pw_below_drewN | apply below_drew1) | exact HB.out)⟩⟩
        case rest =>
         clear HC23
         try clear c1
         try clear c2
         try clear p2
         try clear c3
         try clear c4
         try clear c5
         try clear c6
         try clear p6
         try clear c7
         try clear c8
         try clear c9
         try clear c10
         try clear c10b0
         try clear c10b1
         try clear c11
         try clear c17
         try clear c17b0
         try clear c17b1
         try clear c18
         try clear c18b0
         try clear c18b1
         try clear c18b2
         try clear c19
         try clear c19b0
         try clear c19b1
         try clear c19b2
         try clear c20
         try clear c26
         try clear c26b0
         try clear c26b1
         try clear c27
         try clear c27b0
         try clear c27b1
         try clear c27b2
         try clear c28
         try clear c28b0
         try clear c28b1
         try clear c28b2
         try clear p2
         obtain ⟨kq, x124_22, rfl, HA, HJ22, HO_3, HB⟩ := hcut
         cases kq with
         | zero => exact absurd HA.out (by simp [laws_FnChanges.j2])
         | succ kj22 =>
          have H := HA.out
          clear HA
          simp only [laws_FnChanges.j2] at H
          by_cases c29 : x124_22 = true
          ·as_aux_lemma =>
           subst c29
           have H1 : (some false) = some r := by rw [if_pos rfl] at H; exact H
           clear H
           have H := H1
           clear H1
           as_aux_lemma =>
            obtain rfl := Option.some.inj H
            go_wp2
            go_ret
            exact ⟨by first | rfl | (simp [errW_none, errW_some] <;> rfl) | (simp [*, errW_none, errW_some] <;> rfl), by repeat (first | (with_reducible first | exact HB.out | apply below_alloc | apply pw_below_drewN | apply below_drew1) | exact HB.out)⟩
          ·as_aux_lemma =>
           replace c29 := Bool.eq_false_iff.mpr c29
           subst c29
           have H1 : ((impl_FirstSideSwaps.f kj22 t327).bind fun bt342 => ((spec_FirstSideSwaps.f kj22 t327).bind fun bt346 => (if (bt342.2 != bt346.2) = true then (laws_FnChanges.j3 kj22 l0 t327 t330 t331 t334 bt342.1 true) else (if (bt342.2 != t331) = true then (laws_FnChanges.j3 kj22 l0 t327 t330 t331 t334 bt342.1 true) else ((laws_rInts.f kj22 bt342.1 bt346.1).bind fun t350 => (laws_FnChanges.j3 kj22 l0 t327 t330 t331 t334 bt342.1 (!t350))))))) = some r := by rw [if_neg (show ¬ (false = true) by decide)] at H; exact H
           clear H
           have H := H1
           clear H1
           replace H := Option.bind_eq_some_iff.mp H
           obtain ⟨⟨t342, t343⟩, A300, H⟩ := H
           replace H : ((spec_FirstSideSwaps.f kj22 t327).bind fun bt346 => (if (t343 != bt346.2) = true then (laws_FnChanges.j3 kj22 l0 t327 t330 t331 t334 t342 true) else (if (t343 != t331) = true then (laws_FnChanges.j3 kj22 l0 t327 t330 t331 t334 t342 true) else ((laws_rInts.f kj22 t342 bt346.1).bind fun t350 => (laws_FnChanges.j3 kj22 l0 t327 t330 t331 t334 t342 (!t350)))))) = some r := H
           have A30 := Aside0.mk A300
           clear A300
           replace H := Option.bind_eq_some_iff.mp H
           obtain ⟨⟨t346, t347⟩, A310, H⟩ := H
           replace H : (if (t343 != t347) = true then (laws_FnChanges.j3 kj22 l0 t327 t330 t331 t334 t342 true) else (if (t343 != t331) = true then (laws_FnChanges.j3 kj22 l0 t327 t330 t331 t334 t342 true) else ((laws_rInts.f kj22 t342 t346).bind fun t350 => (laws_FnChanges.j3 kj22 l0 t327 t330 t331 t334 t342 (!t350))))) = some r := H
           have A31 := Aside0.mk A310
           clear A310
           have HC32 := Aside0.mk H
           clear H
           go_upto_region 18 with (first | ((with_reducible refine gate_callee (f := 12) rfl ?_); refine goesL_ (some 127) rfl rfl Try.func12 (by kernel_rfl) rfl #[.slice Ao9 t327.length co9] rfl (by (try simp only [List.map_toArray, List.map_cons, List.map_nil]); first | done | rfl | (simp only [List.length_drop, List.length_take]; rfl)) ?_; (with_reducible refine (impl_FirstSideSwaps.calls kj22 _ _ t327 t342 t343 _ ?side1 ?side2 A30.out).mono ?_); (case side1 => repeat (first | exact (Kd.R_reads' HO_3.out).2.2 | (with_reducible refine Kd.C_alloc ?_ _) | (with_reducible refine Kd.C_drewN ?_ _) | (with_reducible refine Kd.C_drew ?_))); (case side2 => exact (Kd.R_reads' HO_3.out).2.1); rintro e w33 ⟨v344, rfl, ho0, hb⟩; refine ⟨_, rfl, ?_⟩; have n0_ := Aside0.mk (Kd.R_elder' (by (with_reducible repeat (first | apply Kd.R_alloc | apply Kd.R_drewN | apply Kd.R_drew)); exact HO_3.out) (Kd.R_base ho0) hb); have n1_ := Aside0.mk (Kd.R_lower (Kd.R_new' ho0 (Kd.R_lt (by (with_reducible repeat (first | apply Kd.R_alloc | apply Kd.R_drewN | apply Kd.R_drew)); exact HO_3.out))) (below_size (by repeat (first | (with_reducible first | exact HB.out | apply below_alloc | apply pw_below_drewN | apply below_drew1) | exact HB.out)))); have n2_ := Aside0.mk (below_step (by repeat (first | (with_reducible first | exact HB.out | apply below_alloc | apply pw_below_drewN | apply below_drew1) | exact HB.out)) hb); clear HO_3 HB; have HO_3 := n0_; have HO345 := n1_; have HB := n2_; clear n0_ n1_ n2_; (try clear hb); (try clear hb2); (try clear hk); (try clear hi); (try clear ho0)) | ((with_reducible refine gate_callee (f := 13) rfl ?_); refine goesL_ (some 132) rfl rfl Try.func13 (by kernel_rfl) rfl #[.slice Ao9 t327.length co9] rfl (by (try simp only [List.map_toArray, List.map_cons, List.map_nil]); first | done | rfl | (simp only [List.length_drop, List.length_take]; rfl)) ?_; (with_reducible refine (spec_FirstSideSwaps.calls kj22 _ _ t327 t346 t347 _ ?side1 ?side2 A31.out).mono ?_); (case side1 => repeat (first | exact (Kd.R_reads' HO_3.out).2.2 | (with_reducible refine Kd.C_alloc ?_ _) | (with_reducible refine Kd.C_drewN ?_ _) | (with_reducible refine Kd.C_drew ?_))); (case side2 => exact (Kd.R_reads' HO_3.out).2.1); rintro e w34 ⟨v348, rfl, ho0, hb⟩; refine ⟨_, rfl, ?_⟩; have n0_ := Aside0.mk (Kd.R_elder' (by (with_reducible repeat (first | apply Kd.R_alloc | apply Kd.R_drewN | apply Kd.R_drew)); exact HO_3.out) (Kd.R_base ho0) hb); have n1_ := Aside0.mk (Kd.R_elder' (by (with_reducible repeat (first | apply Kd.R_alloc | apply Kd.R_drewN | apply Kd.R_drew)); exact HO345.out) (Kd.R_base ho0) hb); have n2_ := Aside0.mk (Kd.R_lower (Kd.R_new' (Kd.R_new' ho0 (Kd.R_lt (by (with_reducible repeat (first | apply Kd.R_alloc | apply Kd.R_drewN | apply Kd.R_drew)); exact HO_3.out))) (Kd.R_lt (by (with_reducible repeat (first | apply Kd.R_alloc | apply Kd.R_drewN | apply Kd.R_drew)); exact HO345.out))) (below_size (by repeat (first | (with_reducible first | exact HB.out | apply below_alloc | apply pw_below_drewN | apply below_drew1) | exact HB.out)))); have n3_ := Aside0.mk (below_step (by repeat (first | (with_reducible first | exact HB.out | apply below_alloc | apply pw_below_drewN | apply below_drew1) | exact HB.out)) hb); clear HO_3 HO345 HB; have HO_3 := n0_; have HO345 := n1_; have HO349 := n2_; have HB := n3_; clear n0_ n1_ n2_ n3_; (try clear hb); (try clear hb2); (try clear hk); (try clear hi); (try clear ho0)))
           (try simp only [Act.put, List.setIfInBounds_toArray, List.set_cons_zero, List.set_cons_succ])
           go_cut [148] (fun v148 wc => ∃ (kq : Nat) (x148_31 : Bool), v148 = .bool x148_31 ∧ Aside0 (laws_FnChanges.j3 kq l0 t327 t330 t331 t334 t342 x148_31 = some r) ∧ Aside0 (kq ≤ kj22) ∧ Aside0 (Kd.R (Kd.int .i64) 3 wc w.heap.size (fun k_ => some k_ ≠ (v344 : Value).ownBlock) (.slice Ao9 t327.length co9) t327) ∧ Aside0 (Kd.R (Kd.int .i64) 3 wc w.heap.size (fun k_ => some k_ ≠ ((.slice Ao9 t327.length co9) : Value).ownBlock) v344 t342) ∧ Aside0 (Below w.heap.size w wc))
           case first =>
            have H := HC32.out
            clear HC32
            by_cases c35 : (t343 != t347) = true
            ·as_aux_lemma =>
             rw [if_pos c35] at H
             have c35b0 : (t343 != t347) = true := c35
             (try (have c35b1 : decide (t343 = t347) = false := by simpa using c35))
             (try (have c35b2 : (t343 == t347) = false := by simpa using c35))
             (try (have c35b3 : ¬ (t343 = t347) := by simpa using c35))
             clear c35
             (first | rw [c35b0] | (simp only [i64_w, i32_w]; rw [c35b0]) | skip)
             as_aux_lemma =>
              have H' := Aside0.mk H
              clear H
              go_wp2
              go_meet
              case rel => exact ⟨_, (true), (by first | rfl | (simp; done) | (simp [*]; done)), H', ⟨by have := HJ6.out; have := HJ13.out; have := HJ22.out; first | omega | exact Nat.le_refl _⟩, ⟨by (with_reducible repeat (first | apply Kd.R_alloc | apply Kd.R_drewN | apply Kd.R_drew)); exact Kd.R_mono HO_3.out (fun _ hk => hk.1.2)⟩, ⟨by (with_reducible repeat (first | apply Kd.R_alloc | apply Kd.R_drewN | apply Kd.R_drew)); exact Kd.R_mono HO345.out (fun _ hk => hk.1.2)⟩, ⟨by repeat (first | (with_reducible first | exact HB.out | apply below_alloc | apply pw_below_drewN | apply below_drew1) | exact HB.out)⟩⟩
            ·as_aux_lemma =>
             rw [if_neg c35] at H
             have c35b0 : (t343 != t347) = false := by simpa using c35
             (try (have c35b1 : decide (t343 = t347) = true := by simpa using c35))
             (try (have c35b2 : (t343 == t347) = true := by simpa using c35))
             clear c35
             (first | rw [c35b0] | (simp only [i64_w, i32_w]; rw [c35b0]) | skip)
             by_cases c36 : (t343 != t331) = true
             ·as_aux_lemma =>
              rw [if_pos c36] at H
              have c36b0 : (t343 != t331) = true := c36
              (try (have c36b1 : decide (t343 = t331) = false := by simpa using c36))
              (try (have c36b2 : (t343 == t331) = false := by simpa using c36))
              (try (have c36b3 : ¬ (t343 = t331) := by simpa using c36))
              clear c36
              as_aux_lemma =>
               have H' := Aside0.mk H
               clear H
               go_wp2
               go_meet
               case rel => exact ⟨_, (true), (by first | rfl | (simp; done) | (simp [*]; done)), H', ⟨by have := HJ6.out; have := HJ13.out; have := HJ22.out; first | omega | exact Nat.le_refl _⟩, ⟨by (with_reducible repeat (first | apply Kd.R_alloc | apply Kd.R_drewN | apply Kd.R_drew)); exact Kd.R_mono HO_3.out (fun _ hk => hk.1.2)⟩, ⟨by (with_reducible repeat (first | apply Kd.R_alloc | apply Kd.R_drewN | apply Kd.R_drew)); exact Kd.R_mono HO345.out (fun _ hk => hk.1.2)⟩, ⟨by repeat (first | (with_reducible first | exact HB.out | apply below_alloc | apply pw_below_drewN | apply below_drew1) | exact HB.out)⟩⟩
             ·as_aux_lemma =>
              rw [if_neg c36] at H
              have c36b0 : (t343 != t331) = false := by simpa using c36
              (try (have c36b1 : decide (t343 = t331) = true := by simpa using c36))
              (try (have c36b2 : (t343 == t331) = true := by simpa using c36))
              clear c36
              replace H := Option.bind_eq_some_iff.mp H
              obtain ⟨t350, A370, H⟩ := H
              replace H : (laws_FnChanges.j3 kj22 l0 t327 t330 t331 t334 t342 (!t350)) = some r := H
              have A37 := Aside0.mk A370
              clear A370
              as_aux_lemma =>
               have H' := Aside0.mk H
               clear H
               obtain ⟨Ao38, co38, eo38⟩ := Kd.R_slice HO345.out
               subst eo38
               obtain ⟨Ao39, co39, eo39⟩ := Kd.R_slice HO349.out
               subst eo39
               go_wp2_with (first | (go_at_call 14; (with_reducible refine (laws_rInts.calls kj22 _ _ t342 _ _ t346 t350 _ ?side1 ?side2 ?side3 ?side4 A37.out).mono ?_); (case side1 => repeat (first | exact (Kd.R_reads' HO345.out).2.2 | (with_reducible refine Kd.C_alloc ?_ _) | (with_reducible refine Kd.C_drewN ?_ _) | (with_reducible refine Kd.C_drew ?_))); (case side2 => exact (Kd.R_reads' HO345.out).2.1); (case side3 => repeat (first | exact (Kd.R_reads' HO349.out).2.2 | (with_reducible refine Kd.C_alloc ?_ _) | (with_reducible refine Kd.C_drewN ?_ _) | (with_reducible refine Kd.C_drew ?_))); (case side4 => exact (Kd.R_reads' HO349.out).2.1); rintro e w' ⟨rfl, ⟨nd, rfl⟩⟩))
               go_meet
               case rel => exact ⟨_, (!t350), (by first | rfl | (simp; done) | (simp [*]; done)), H', ⟨by have := HJ6.out; have := HJ13.out; have := HJ22.out; first | omega | exact Nat.le_refl _⟩, ⟨by (with_reducible repeat (first | apply Kd.R_alloc | apply Kd.R_drewN | apply Kd.R_drew)); exact Kd.R_mono HO_3.out (fun _ hk => hk.1.2)⟩, ⟨by (with_reducible repeat (first | apply Kd.R_alloc | apply Kd.R_drewN | apply Kd.R_drew)); exact Kd.R_mono HO345.out (fun _ hk => hk.1.2)⟩, ⟨by repeat (first | (with_reducible first | exact HB.out | apply below_alloc | apply pw_below_drewN | apply below_drew1) | exact HB.out)⟩⟩
           case rest =>
            clear HC32
            try clear c1
            try clear c2
            try clear p2
            try clear c3
            try clear c4
            try clear c5
            try clear c6
            try clear p6
            try clear c7
            try clear c8
            try clear c9
            try clear c10
            try clear c10b0
            try clear c10b1
            try clear c11
            try clear c12
            try clear c13
            try clear c17
            try clear c17b0
            try clear c17b1
            try clear c18
            try clear c18b0
            try clear c18b1
            try clear c18b2
            try clear c19
            try clear c19b0
            try clear c19b1
            try clear c19b2
            try clear c20
            try clear c26
            try clear c26b0
            try clear c26b1
            try clear c27
            try clear c27b0
            try clear c27b1
            try clear c27b2
            try clear c28
            try clear c28b0
            try clear c28b1
            try clear c28b2
            try clear c29
            try clear c35
            try clear c35b0
            try clear c35b1
            try clear c35b2
            try clear c36
            try clear c36b0
            try clear c36b1
            try clear c36b2
            try clear p2
            try clear p6
            obtain ⟨kq, x148_31, rfl, HA, HJ31, HO_3, HO_16, HB⟩ := hcut
            cases kq with
            | zero => exact absurd HA.out (by simp [laws_FnChanges.j3])
            | succ kj31 =>
             have H := HA.out
             clear HA
             simp only [laws_FnChanges.j3] at H
             by_cases c40 : x148_31 = true
             ·as_aux_lemma =>
              subst c40
              have H1 : (some false) = some r := by rw [if_pos rfl] at H; exact H
              clear H
              have H := H1
              clear H1
              as_aux_lemma =>
               obtain rfl := Option.some.inj H
               go_wp2
               go_ret
               exact ⟨by first | rfl | (simp [errW_none, errW_some] <;> rfl) | (simp [*, errW_none, errW_some] <;> rfl), by repeat (first | (with_reducible first | exact HB.out | apply below_alloc | apply pw_below_drewN | apply below_drew1) | exact HB.out)⟩
             ·as_aux_lemma =>
              replace c40 := Bool.eq_false_iff.mpr c40
              subst c40
              have H1 : ((impl_BackChange.f kj31 t327).bind fun bt351 => ((spec_BackChange.f kj31 t327).bind fun bt355 => (if (bt351.2 != bt355.2) = true then (laws_FnChanges.j4 kj31 l0 t327 t330 t331 t334 t342 bt351.1 true) else (if (bt351.2 != t331) = true then (laws_FnChanges.j4 kj31 l0 t327 t330 t331 t334 t342 bt351.1 true) else ((laws_rInts.f kj31 bt351.1 bt355.1).bind fun t359 => (laws_FnChanges.j4 kj31 l0 t327 t330 t331 t334 t342 bt351.1 (!t359))))))) = some r := by rw [if_neg (show ¬ (false = true) by decide)] at H; exact H
              clear H
              have H := H1
              clear H1
              replace H := Option.bind_eq_some_iff.mp H
              obtain ⟨⟨t351, t352⟩, A410, H⟩ := H
              replace H : ((spec_BackChange.f kj31 t327).bind fun bt355 => (if (t352 != bt355.2) = true then (laws_FnChanges.j4 kj31 l0 t327 t330 t331 t334 t342 t351 true) else (if (t352 != t331) = true then (laws_FnChanges.j4 kj31 l0 t327 t330 t331 t334 t342 t351 true) else ((laws_rInts.f kj31 t351 bt355.1).bind fun t359 => (laws_FnChanges.j4 kj31 l0 t327 t330 t331 t334 t342 t351 (!t359)))))) = some r := H
              have A41 := Aside0.mk A410
              clear A410
              replace H := Option.bind_eq_some_iff.mp H
              obtain ⟨⟨t355, t356⟩, A420, H⟩ := H
              replace H : (if (t352 != t356) = true then (laws_FnChanges.j4 kj31 l0 t327 t330 t331 t334 t342 t351 true) else (if (t352 != t331) = true then (laws_FnChanges.j4 kj31 l0 t327 t330 t331 t334 t342 t351 true) else ((laws_rInts.f kj31 t351 t355).bind fun t359 => (laws_FnChanges.j4 kj31 l0 t327 t330 t331 t334 t342 t351 (!t359))))) = some r := H
              have A42 := Aside0.mk A420
              clear A420
              have HC43 := Aside0.mk H
              clear H
              go_upto_region 22 with (first | ((with_reducible refine gate_callee (f := 15) rfl ?_); refine goesL_ (some 151) rfl rfl Try.func15 (by kernel_rfl) rfl #[.slice Ao9 t327.length co9] rfl (by (try simp only [List.map_toArray, List.map_cons, List.map_nil]); first | done | rfl | (simp only [List.length_drop, List.length_take]; rfl)) ?_; (with_reducible refine (impl_BackChange.calls kj31 _ _ t327 t351 t352 _ ?side1 ?side2 A41.out).mono ?_); (case side1 => repeat (first | exact (Kd.R_reads' HO_3.out).2.2 | (with_reducible refine Kd.C_alloc ?_ _) | (with_reducible refine Kd.C_drewN ?_ _) | (with_reducible refine Kd.C_drew ?_))); (case side2 => exact (Kd.R_reads' HO_3.out).2.1); rintro e w44 ⟨v353, rfl, ho0, hb⟩; refine ⟨_, rfl, ?_⟩; have n0_ := Aside0.mk (Kd.R_elder' (by (with_reducible repeat (first | apply Kd.R_alloc | apply Kd.R_drewN | apply Kd.R_drew)); exact HO_3.out) (Kd.R_base ho0) hb); have n1_ := Aside0.mk (Kd.R_elder' (by (with_reducible repeat (first | apply Kd.R_alloc | apply Kd.R_drewN | apply Kd.R_drew)); exact HO_16.out) (Kd.R_base ho0) hb); have n2_ := Aside0.mk (Kd.R_lower (Kd.R_new' (Kd.R_new' ho0 (Kd.R_lt (by (with_reducible repeat (first | apply Kd.R_alloc | apply Kd.R_drewN | apply Kd.R_drew)); exact HO_3.out))) (Kd.R_lt (by (with_reducible repeat (first | apply Kd.R_alloc | apply Kd.R_drewN | apply Kd.R_drew)); exact HO_16.out))) (below_size (by repeat (first | (with_reducible first | exact HB.out | apply below_alloc | apply pw_below_drewN | apply below_drew1) | exact HB.out)))); have n3_ := Aside0.mk (below_step (by repeat (first | (with_reducible first | exact HB.out | apply below_alloc | apply pw_below_drewN | apply below_drew1) | exact HB.out)) hb); clear HO_3 HO_16 HB; have HO_3 := n0_; have HO_16 := n1_; have HO354 := n2_; have HB := n3_; clear n0_ n1_ n2_ n3_; (try clear hb); (try clear hb2); (try clear hk); (try clear hi); (try clear ho0)) | ((with_reducible refine gate_callee (f := 16) rfl ?_); refine goesL_ (some 156) rfl rfl Try.func16 (by kernel_rfl) rfl #[.slice Ao9 t327.length co9] rfl (by (try simp only [List.map_toArray, List.map_cons, List.map_nil]); first | done | rfl | (simp only [List.length_drop, List.length_take]; rfl)) ?_; (with_reducible refine (spec_BackChange.calls kj31 _ _ t327 t355 t356 _ ?side1 ?side2 A42.out).mono ?_); (case side1 => repeat (first | exact (Kd.R_reads' HO_3.out).2.2 | (with_reducible refine Kd.C_alloc ?_ _) | (with_reducible refine Kd.C_drewN ?_ _) | (with_reducible refine Kd.C_drew ?_))); (case side2 => exact (Kd.R_reads' HO_3.out).2.1); rintro e w45 ⟨v357, rfl, ho0, hb⟩; refine ⟨_, rfl, ?_⟩; have n0_ := Aside0.mk (Kd.R_elder' (by (with_reducible repeat (first | apply Kd.R_alloc | apply Kd.R_drewN | apply Kd.R_drew)); exact HO_3.out) (Kd.R_base ho0) hb); have n1_ := Aside0.mk (Kd.R_elder' (by (with_reducible repeat (first | apply Kd.R_alloc | apply Kd.R_drewN | apply Kd.R_drew)); exact HO_16.out) (Kd.R_base ho0) hb); have n2_ := Aside0.mk (Kd.R_elder' (by (with_reducible repeat (first | apply Kd.R_alloc | apply Kd.R_drewN | apply Kd.R_drew)); exact HO354.out) (Kd.R_base ho0) hb); have n3_ := Aside0.mk (Kd.R_lower (Kd.R_new' (Kd.R_new' (Kd.R_new' ho0 (Kd.R_lt (by (with_reducible repeat (first | apply Kd.R_alloc | apply Kd.R_drewN | apply Kd.R_drew)); exact HO_3.out))) (Kd.R_lt (by (with_reducible repeat (first | apply Kd.R_alloc | apply Kd.R_drewN | apply Kd.R_drew)); exact HO_16.out))) (Kd.R_lt (by (with_reducible repeat (first | apply Kd.R_alloc | apply Kd.R_drewN | apply Kd.R_drew)); exact HO354.out))) (below_size (by repeat (first | (with_reducible first | exact HB.out | apply below_alloc | apply pw_below_drewN | apply below_drew1) | exact HB.out)))); have n4_ := Aside0.mk (below_step (by repeat (first | (with_reducible first | exact HB.out | apply below_alloc | apply pw_below_drewN | apply below_drew1) | exact HB.out)) hb); clear HO_3 HO_16 HO354 HB; have HO_3 := n0_; have HO_16 := n1_; have HO354 := n2_; have HO358 := n3_; have HB := n4_; clear n0_ n1_ n2_ n3_ n4_; (try clear hb); (try clear hb2); (try clear hk); (try clear hi); (try clear ho0)))
              (try simp only [Act.put, List.setIfInBounds_toArray, List.set_cons_zero, List.set_cons_succ])
              go_cut [172] (fun v172 wc => ∃ (kq : Nat) (x172_42 : Bool), v172 = .bool x172_42 ∧ Aside0 (laws_FnChanges.j4 kq l0 t327 t330 t331 t334 t342 t351 x172_42 = some r) ∧ Aside0 (kq ≤ kj31) ∧ Aside0 (Kd.R (Kd.int .i64) 3 wc w.heap.size (fun k_ => some k_ ≠ (v344 : Value).ownBlock ∧ some k_ ≠ (v353 : Value).ownBlock) (.slice Ao9 t327.length co9) t327) ∧ Aside0 (Kd.R (Kd.int .i64) 3 wc w.heap.size (fun k_ => some k_ ≠ ((.slice Ao9 t327.length co9) : Value).ownBlock ∧ some k_ ≠ (v353 : Value).ownBlock) v344 t342) ∧ Aside0 (Kd.R (Kd.int .i64) 3 wc w.heap.size (fun k_ => some k_ ≠ ((.slice Ao9 t327.length co9) : Value).ownBlock ∧ some k_ ≠ (v344 : Value).ownBlock) v353 t351) ∧ Aside0 (Below w.heap.size w wc))
              case first =>
               have H := HC43.out
               clear HC43
               by_cases c46 : (t352 != t356) = true
               ·as_aux_lemma =>
                rw [if_pos c46] at H
                have c46b0 : (t352 != t356) = true := c46
                (try (have c46b1 : decide (t352 = t356) = false := by simpa using c46))
                (try (have c46b2 : (t352 == t356) = false := by simpa using c46))
                (try (have c46b3 : ¬ (t352 = t356) := by simpa using c46))
                clear c46
                (first | rw [c46b0] | (simp only [i64_w, i32_w]; rw [c46b0]) | skip)
                as_aux_lemma =>
                 have H' := Aside0.mk H
                 clear H
                 go_wp2
                 go_meet
                 case rel => exact ⟨_, (true), (by first | rfl | (simp; done) | (simp [*]; done)), H', ⟨by have := HJ6.out; have := HJ13.out; have := HJ22.out; have := HJ31.out; first | omega | exact Nat.le_refl _⟩, ⟨by (with_reducible repeat (first | apply Kd.R_alloc | apply Kd.R_drewN | apply Kd.R_drew)); exact Kd.R_mono HO_3.out (fun _ hk => ⟨hk.1.1, hk.1.2⟩)⟩, ⟨by (with_reducible repeat (first | apply Kd.R_alloc | apply Kd.R_drewN | apply Kd.R_drew)); exact Kd.R_mono HO_16.out (fun _ hk => ⟨hk.1.1, hk.1.2⟩)⟩, ⟨by (with_reducible repeat (first | apply Kd.R_alloc | apply Kd.R_drewN | apply Kd.R_drew)); exact Kd.R_mono HO354.out (fun _ hk => ⟨hk.1.1.2, hk.1.2⟩)⟩, ⟨by repeat (first | (with_reducible first | exact HB.out | apply below_alloc | apply pw_below_drewN | apply below_drew1) | exact HB.out)⟩⟩
               ·as_aux_lemma =>
                rw [if_neg c46] at H
                have c46b0 : (t352 != t356) = false := by simpa using c46
                (try (have c46b1 : decide (t352 = t356) = true := by simpa using c46))
                (try (have c46b2 : (t352 == t356) = true := by simpa using c46))
                clear c46
                (first | rw [c46b0] | (simp only [i64_w, i32_w]; rw [c46b0]) | skip)
                by_cases c47 : (t352 != t331) = true
                ·as_aux_lemma =>
                 rw [if_pos c47] at H
                 have c47b0 : (t352 != t331) = true := c47
                 (try (have c47b1 : decide (t352 = t331) = false := by simpa using c47))
                 (try (have c47b2 : (t352 == t331) = false := by simpa using c47))
                 (try (have c47b3 : ¬ (t352 = t331) := by simpa using c47))
                 clear c47
                 as_aux_lemma =>
                  have H' := Aside0.mk H
                  clear H
                  go_wp2
                  go_meet
                  case rel => exact ⟨_, (true), (by first | rfl | (simp; done) | (simp [*]; done)), H', ⟨by have := HJ6.out; have := HJ13.out; have := HJ22.out; have := HJ31.out; first | omega | exact Nat.le_refl _⟩, ⟨by (with_reducible repeat (first | apply Kd.R_alloc | apply Kd.R_drewN | apply Kd.R_drew)); exact Kd.R_mono HO_3.out (fun _ hk => ⟨hk.1.1, hk.1.2⟩)⟩, ⟨by (with_reducible repeat (first | apply Kd.R_alloc | apply Kd.R_drewN | apply Kd.R_drew)); exact Kd.R_mono HO_16.out (fun _ hk => ⟨hk.1.1, hk.1.2⟩)⟩, ⟨by (with_reducible repeat (first | apply Kd.R_alloc | apply Kd.R_drewN | apply Kd.R_drew)); exact Kd.R_mono HO354.out (fun _ hk => ⟨hk.1.1.2, hk.1.2⟩)⟩, ⟨by repeat (first | (with_reducible first | exact HB.out | apply below_alloc | apply pw_below_drewN | apply below_drew1) | exact HB.out)⟩⟩
                ·as_aux_lemma =>
                 rw [if_neg c47] at H
                 have c47b0 : (t352 != t331) = false := by simpa using c47
                 (try (have c47b1 : decide (t352 = t331) = true := by simpa using c47))
                 (try (have c47b2 : (t352 == t331) = true := by simpa using c47))
                 clear c47
                 replace H := Option.bind_eq_some_iff.mp H
                 obtain ⟨t359, A480, H⟩ := H
                 replace H : (laws_FnChanges.j4 kj31 l0 t327 t330 t331 t334 t342 t351 (!t359)) = some r := H
                 have A48 := Aside0.mk A480
                 clear A480
                 as_aux_lemma =>
                  have H' := Aside0.mk H
                  clear H
                  obtain ⟨Ao49, co49, eo49⟩ := Kd.R_slice HO354.out
                  subst eo49
                  obtain ⟨Ao50, co50, eo50⟩ := Kd.R_slice HO358.out
                  subst eo50
                  go_wp2_with (first | (go_at_call 14; (with_reducible refine (laws_rInts.calls kj31 _ _ t351 _ _ t355 t359 _ ?side1 ?side2 ?side3 ?side4 A48.out).mono ?_); (case side1 => repeat (first | exact (Kd.R_reads' HO354.out).2.2 | (with_reducible refine Kd.C_alloc ?_ _) | (with_reducible refine Kd.C_drewN ?_ _) | (with_reducible refine Kd.C_drew ?_))); (case side2 => exact (Kd.R_reads' HO354.out).2.1); (case side3 => repeat (first | exact (Kd.R_reads' HO358.out).2.2 | (with_reducible refine Kd.C_alloc ?_ _) | (with_reducible refine Kd.C_drewN ?_ _) | (with_reducible refine Kd.C_drew ?_))); (case side4 => exact (Kd.R_reads' HO358.out).2.1); rintro e w' ⟨rfl, ⟨nd, rfl⟩⟩))
                  go_meet
                  case rel => exact ⟨_, (!t359), (by first | rfl | (simp; done) | (simp [*]; done)), H', ⟨by have := HJ6.out; have := HJ13.out; have := HJ22.out; have := HJ31.out; first | omega | exact Nat.le_refl _⟩, ⟨by (with_reducible repeat (first | apply Kd.R_alloc | apply Kd.R_drewN | apply Kd.R_drew)); exact Kd.R_mono HO_3.out (fun _ hk => ⟨hk.1.1, hk.1.2⟩)⟩, ⟨by (with_reducible repeat (first | apply Kd.R_alloc | apply Kd.R_drewN | apply Kd.R_drew)); exact Kd.R_mono HO_16.out (fun _ hk => ⟨hk.1.1, hk.1.2⟩)⟩, ⟨by (with_reducible repeat (first | apply Kd.R_alloc | apply Kd.R_drewN | apply Kd.R_drew)); exact Kd.R_mono HO354.out (fun _ hk => ⟨hk.1.1.2, hk.1.2⟩)⟩, ⟨by repeat (first | (with_reducible first | exact HB.out | apply below_alloc | apply pw_below_drewN | apply below_drew1) | exact HB.out)⟩⟩
              case rest =>
               clear HC43
               try clear c1
               try clear c2
               try clear p2
               try clear c3
               try clear c4
               try clear c5
               try clear c6
               try clear p6
               try clear c7
               try clear c8
               try clear c9
               try clear c10
               try clear c10b0
               try clear c10b1
               try clear c11
               try clear c12
               try clear c13
               try clear c15
               try clear c16
               try clear c17
               try clear c17b0
               try clear c17b1
               try clear c18
               try clear c18b0
               try clear c18b1
               try clear c18b2
               try clear c19
               try clear c19b0
               try clear c19b1
               try clear c19b2
               try clear c20
               try clear c26
               try clear c26b0
               try clear c26b1
               try clear c27
               try clear c27b0
               try clear c27b1
               try clear c27b2
               try clear c28
               try clear c28b0
               try clear c28b1
               try clear c28b2
               try clear c29
               try clear c35
               try clear c35b0
               try clear c35b1
               try clear c35b2
               try clear c36
               try clear c36b0
               try clear c36b1
               try clear c36b2
               try clear c40
               try clear c46
               try clear c46b0
               try clear c46b1
               try clear c46b2
               try clear c47
               try clear c47b0
               try clear c47b1
               try clear c47b2
               try clear p2
               try clear p6
               obtain ⟨kq, x172_42, rfl, HA, HJ42, HO_3, HO_16, HO_20, HB⟩ := hcut
               cases kq with
               | zero => exact absurd HA.out (by simp [laws_FnChanges.j4])
               | succ kj42 =>
                have H := HA.out
                clear HA
                simp only [laws_FnChanges.j4] at H
                by_cases c51 : x172_42 = true
                ·as_aux_lemma =>
                 subst c51
                 have H1 : (some false) = some r := by rw [if_pos rfl] at H; exact H
                 clear H
                 have H := H1
                 clear H1
                 as_aux_lemma =>
                  obtain rfl := Option.some.inj H
                  go_wp2
                  go_ret
                  exact ⟨by first | rfl | (simp [errW_none, errW_some] <;> rfl) | (simp [*, errW_none, errW_some] <;> rfl), by repeat (first | (with_reducible first | exact HB.out | apply below_alloc | apply pw_below_drewN | apply below_drew1) | exact HB.out)⟩
                ·as_aux_lemma =>
                 replace c51 := Bool.eq_false_iff.mpr c51
                 subst c51
                 have H1 : ((spec_DrawAfterSwaps.f kj42 l0).bind fun bt360 => ((impl_AfterSwaps.f kj42 bt360.1 bt360.2).bind fun bt366 => ((spec_AfterSwaps.f kj42 bt360.1 bt360.2).bind fun bt370 => (if (bt366.2 != bt370.2) = true then (laws_FnChanges.j5 kj42 l0 t327 t330 t331 t334 t342 t351 true) else ((laws_rInts.f kj42 bt366.1 bt370.1).bind fun t374 => (laws_FnChanges.j5 kj42 l0 t327 t330 t331 t334 t342 t351 (!t374))))))) = some r := by rw [if_neg (show ¬ (false = true) by decide)] at H; exact H
                 clear H
                 have H := H1
                 clear H1
                 replace H := Option.bind_eq_some_iff.mp H
                 obtain ⟨⟨t360, t361⟩, A520, H⟩ := H
                 replace H : ((impl_AfterSwaps.f kj42 t360 t361).bind fun bt366 => ((spec_AfterSwaps.f kj42 t360 t361).bind fun bt370 => (if (bt366.2 != bt370.2) = true then (laws_FnChanges.j5 kj42 l0 t327 t330 t331 t334 t342 t351 true) else ((laws_rInts.f kj42 bt366.1 bt370.1).bind fun t374 => (laws_FnChanges.j5 kj42 l0 t327 t330 t331 t334 t342 t351 (!t374)))))) = some r := H
                 have A52 := Aside0.mk A520
                 clear A520
                 replace H := Option.bind_eq_some_iff.mp H
                 obtain ⟨⟨t366, t367⟩, A530, H⟩ := H
                 replace H : ((spec_AfterSwaps.f kj42 t360 t361).bind fun bt370 => (if (t367 != bt370.2) = true then (laws_FnChanges.j5 kj42 l0 t327 t330 t331 t334 t342 t351 true) else ((laws_rInts.f kj42 t366 bt370.1).bind fun t374 => (laws_FnChanges.j5 kj42 l0 t327 t330 t331 t334 t342 t351 (!t374))))) = some r := H
                 have A53 := Aside0.mk A530
                 clear A530
                 replace H := Option.bind_eq_some_iff.mp H
                 obtain ⟨⟨t370, t371⟩, A540, H⟩ := H
                 replace H : (if (t367 != t371) = true then (laws_FnChanges.j5 kj42 l0 t327 t330 t331 t334 t342 t351 true) else ((laws_rInts.f kj42 t366 t370).bind fun t374 => (laws_FnChanges.j5 kj42 l0 t327 t330 t331 t334 t342 t351 (!t374)))) = some r := H
                 have A54 := Aside0.mk A540
                 clear A540
                 have HC55 := Aside0.mk H
                 clear H
                 go_upto_region 27 with (first | ((with_reducible refine gate_callee (f := 17) rfl ?_); refine goesL_ (some 175) rfl rfl Try.func17 (by kernel_rfl) rfl #[.slice A0 l0.length c0] rfl (by (try simp only [List.map_toArray, List.map_cons, List.map_nil]); first | done | rfl | (simp only [List.length_drop, List.length_take]; rfl)) ?_; (with_reducible refine (spec_DrawAfterSwaps.calls kj42 _ _ l0 t360 t361 _ ?side1 ?side2 A52.out).mono ?_); (case side1 => repeat (first | exact (Kd.C_below HR0.out HB.out) | (with_reducible refine Kd.C_alloc ?_ _) | (with_reducible refine Kd.C_drewN ?_ _) | (with_reducible refine Kd.C_drew ?_))); (case side2 => exact HC0.out); rintro e w56 ⟨v362, v364, rfl, ho0, ho1, hb⟩; refine ⟨_, rfl, ?_⟩; have n0_ := Aside0.mk (Kd.R_mono (Kd.R_told (Kd.R_told (Kd.R_old (by (with_reducible repeat (first | apply Kd.R_alloc | apply Kd.R_drewN | apply Kd.R_drew)); exact HO_3.out) hb) (Kd.R_base ho0)) (Kd.R_base ho1)) (fun _ h_ => h_.1)); have n1_ := Aside0.mk (Kd.R_mono (Kd.R_told (Kd.R_told (Kd.R_old (by (with_reducible repeat (first | apply Kd.R_alloc | apply Kd.R_drewN | apply Kd.R_drew)); exact HO_16.out) hb) (Kd.R_base ho0)) (Kd.R_base ho1)) (fun _ h_ => h_.1)); have n2_ := Aside0.mk (Kd.R_mono (Kd.R_told (Kd.R_told (Kd.R_old (by (with_reducible repeat (first | apply Kd.R_alloc | apply Kd.R_drewN | apply Kd.R_drew)); exact HO_20.out) hb) (Kd.R_base ho0)) (Kd.R_base ho1)) (fun _ h_ => h_.1)); have n3_ := Aside0.mk (Kd.R_lower (Kd.R_new' (Kd.R_new' (Kd.R_new' ho0 (Kd.R_lt (by (with_reducible repeat (first | apply Kd.R_alloc | apply Kd.R_drewN | apply Kd.R_drew)); exact HO_3.out))) (Kd.R_lt (by (with_reducible repeat (first | apply Kd.R_alloc | apply Kd.R_drewN | apply Kd.R_drew)); exact HO_16.out))) (Kd.R_lt (by (with_reducible repeat (first | apply Kd.R_alloc | apply Kd.R_drewN | apply Kd.R_drew)); exact HO_20.out))) (below_size (by repeat (first | (with_reducible first | exact HB.out | apply below_alloc | apply pw_below_drewN | apply below_drew1) | exact HB.out)))); have n4_ := Aside0.mk (Kd.R_lower (Kd.R_new' (Kd.R_new' (Kd.R_new' ho1 (Kd.R_lt (by (with_reducible repeat (first | apply Kd.R_alloc | apply Kd.R_drewN | apply Kd.R_drew)); exact HO_3.out))) (Kd.R_lt (by (with_reducible repeat (first | apply Kd.R_alloc | apply Kd.R_drewN | apply Kd.R_drew)); exact HO_16.out))) (Kd.R_lt (by (with_reducible repeat (first | apply Kd.R_alloc | apply Kd.R_drewN | apply Kd.R_drew)); exact HO_20.out))) (below_size (by repeat (first | (with_reducible first | exact HB.out | apply below_alloc | apply pw_below_drewN | apply below_drew1) | exact HB.out)))); have n5_ := Aside0.mk (below_step (by repeat (first | (with_reducible first | exact HB.out | apply below_alloc | apply pw_below_drewN | apply below_drew1) | exact HB.out)) hb); clear HO_3 HO_16 HO_20 HB; have HO_3 := n0_; have HO_16 := n1_; have HO_20 := n2_; have HO363 := n3_; have HO365 := n4_; have HB := n5_; clear n0_ n1_ n2_ n3_ n4_ n5_; (try clear hb); (try clear hb2); (try clear hk); (try clear hi); (try clear ho0); (try clear ho1); obtain ⟨Ao57, co57, eo57⟩ := Kd.R_slice HO363.out; subst eo57; obtain ⟨Ao58, co58, eo58⟩ := Kd.R_slice HO365.out; subst eo58) | ((with_reducible refine gate_callee (f := 18) rfl ?_); refine goesL_ (some 181) rfl rfl Try.func18 (by kernel_rfl) rfl #[.slice Ao57 t360.length co57, .slice Ao58 t361.length co58] rfl (by (try simp only [List.map_toArray, List.map_cons, List.map_nil]); first | done | rfl | (simp only [List.length_drop, List.length_take]; rfl)) ?_; (with_reducible refine (impl_AfterSwaps.calls kj42 _ _ t360 _ _ t361 t366 t367 _ ?side1 ?side2 ?side3 ?side4 A53.out).mono ?_); (case side1 => repeat (first | exact (Kd.R_reads' HO363.out).2.2 | (with_reducible refine Kd.C_alloc ?_ _) | (with_reducible refine Kd.C_drewN ?_ _) | (with_reducible refine Kd.C_drew ?_))); (case side2 => exact (Kd.R_reads' HO363.out).2.1); (case side3 => repeat (first | exact (Kd.R_reads' HO365.out).2.2 | (with_reducible refine Kd.C_alloc ?_ _) | (with_reducible refine Kd.C_drewN ?_ _) | (with_reducible refine Kd.C_drew ?_))); (case side4 => exact (Kd.R_reads' HO365.out).2.1); rintro e w59 ⟨v368, rfl, ho0, hb⟩; refine ⟨_, rfl, ?_⟩; have n0_ := Aside0.mk (Kd.R_elder' (by (with_reducible repeat (first | apply Kd.R_alloc | apply Kd.R_drewN | apply Kd.R_drew)); exact HO_3.out) (Kd.R_base ho0) hb); have n1_ := Aside0.mk (Kd.R_elder' (by (with_reducible repeat (first | apply Kd.R_alloc | apply Kd.R_drewN | apply Kd.R_drew)); exact HO_16.out) (Kd.R_base ho0) hb); have n2_ := Aside0.mk (Kd.R_elder' (by (with_reducible repeat (first | apply Kd.R_alloc | apply Kd.R_drewN | apply Kd.R_drew)); exact HO_20.out) (Kd.R_base ho0) hb); have n3_ := Aside0.mk (Kd.R_elder' (by (with_reducible repeat (first | apply Kd.R_alloc | apply Kd.R_drewN | apply Kd.R_drew)); exact HO363.out) (Kd.R_base ho0) hb); have n4_ := Aside0.mk (Kd.R_elder' (by (with_reducible repeat (first | apply Kd.R_alloc | apply Kd.R_drewN | apply Kd.R_drew)); exact HO365.out) (Kd.R_base ho0) hb); have n5_ := Aside0.mk (Kd.R_lower (Kd.R_new' (Kd.R_new' (Kd.R_new' (Kd.R_new' (Kd.R_new' ho0 (Kd.R_lt (by (with_reducible repeat (first | apply Kd.R_alloc | apply Kd.R_drewN | apply Kd.R_drew)); exact HO_3.out))) (Kd.R_lt (by (with_reducible repeat (first | apply Kd.R_alloc | apply Kd.R_drewN | apply Kd.R_drew)); exact HO_16.out))) (Kd.R_lt (by (with_reducible repeat (first | apply Kd.R_alloc | apply Kd.R_drewN | apply Kd.R_drew)); exact HO_20.out))) (Kd.R_lt (by (with_reducible repeat (first | apply Kd.R_alloc | apply Kd.R_drewN | apply Kd.R_drew)); exact HO363.out))) (Kd.R_lt (by (with_reducible repeat (first | apply Kd.R_alloc | apply Kd.R_drewN | apply Kd.R_drew)); exact HO365.out))) (below_size (by repeat (first | (with_reducible first | exact HB.out | apply below_alloc | apply pw_below_drewN | apply below_drew1) | exact HB.out)))); have n6_ := Aside0.mk (below_step (by repeat (first | (with_reducible first | exact HB.out | apply below_alloc | apply pw_below_drewN | apply below_drew1) | exact HB.out)) hb); clear HO_3 HO_16 HO_20 HO363 HO365 HB; have HO_3 := n0_; have HO_16 := n1_; have HO_20 := n2_; have HO363 := n3_; have HO365 := n4_; have HO369 := n5_; have HB := n6_; clear n0_ n1_ n2_ n3_ n4_ n5_ n6_; (try clear hb); (try clear hb2); (try clear hk); (try clear hi); (try clear ho0)) | ((with_reducible refine gate_callee (f := 19) rfl ?_); refine goesL_ (some 187) rfl rfl Try.func19 (by kernel_rfl) rfl #[.slice Ao57 t360.length co57, .slice Ao58 t361.length co58] rfl (by (try simp only [List.map_toArray, List.map_cons, List.map_nil]); first | done | rfl | (simp only [List.length_drop, List.length_take]; rfl)) ?_; (with_reducible refine (spec_AfterSwaps.calls kj42 _ _ t360 _ _ t361 t370 t371 _ ?side1 ?side2 ?side3 ?side4 A54.out).mono ?_); (case side1 => repeat (first | exact (Kd.R_reads' HO363.out).2.2 | (with_reducible refine Kd.C_alloc ?_ _) | (with_reducible refine Kd.C_drewN ?_ _) | (with_reducible refine Kd.C_drew ?_))); (case side2 => exact (Kd.R_reads' HO363.out).2.1); (case side3 => repeat (first | exact (Kd.R_reads' HO365.out).2.2 | (with_reducible refine Kd.C_alloc ?_ _) | (with_reducible refine Kd.C_drewN ?_ _) | (with_reducible refine Kd.C_drew ?_))); (case side4 => exact (Kd.R_reads' HO365.out).2.1); rintro e w60 ⟨v372, rfl, ho0, hb⟩; refine ⟨_, rfl, ?_⟩; have n0_ := Aside0.mk (Kd.R_elder' (by (with_reducible repeat (first | apply Kd.R_alloc | apply Kd.R_drewN | apply Kd.R_drew)); exact HO_3.out) (Kd.R_base ho0) hb); have n1_ := Aside0.mk (Kd.R_elder' (by (with_reducible repeat (first | apply Kd.R_alloc | apply Kd.R_drewN | apply Kd.R_drew)); exact HO_16.out) (Kd.R_base ho0) hb); have n2_ := Aside0.mk (Kd.R_elder' (by (with_reducible repeat (first | apply Kd.R_alloc | apply Kd.R_drewN | apply Kd.R_drew)); exact HO_20.out) (Kd.R_base ho0) hb); have n3_ := Aside0.mk (Kd.R_elder' (by (with_reducible repeat (first | apply Kd.R_alloc | apply Kd.R_drewN | apply Kd.R_drew)); exact HO363.out) (Kd.R_base ho0) hb); have n4_ := Aside0.mk (Kd.R_elder' (by (with_reducible repeat (first | apply Kd.R_alloc | apply Kd.R_drewN | apply Kd.R_drew)); exact HO365.out) (Kd.R_base ho0) hb); have n5_ := Aside0.mk (Kd.R_elder' (by (with_reducible repeat (first | apply Kd.R_alloc | apply Kd.R_drewN | apply Kd.R_drew)); exact HO369.out) (Kd.R_base ho0) hb); have n6_ := Aside0.mk (Kd.R_lower (Kd.R_new' (Kd.R_new' (Kd.R_new' (Kd.R_new' (Kd.R_new' (Kd.R_new' ho0 (Kd.R_lt (by (with_reducible repeat (first | apply Kd.R_alloc | apply Kd.R_drewN | apply Kd.R_drew)); exact HO_3.out))) (Kd.R_lt (by (with_reducible repeat (first | apply Kd.R_alloc | apply Kd.R_drewN | apply Kd.R_drew)); exact HO_16.out))) (Kd.R_lt (by (with_reducible repeat (first | apply Kd.R_alloc | apply Kd.R_drewN | apply Kd.R_drew)); exact HO_20.out))) (Kd.R_lt (by (with_reducible repeat (first | apply Kd.R_alloc | apply Kd.R_drewN | apply Kd.R_drew)); exact HO363.out))) (Kd.R_lt (by (with_reducible repeat (first | apply Kd.R_alloc | apply Kd.R_drewN | apply Kd.R_drew)); exact HO365.out))) (Kd.R_lt (by (with_reducible repeat (first | apply Kd.R_alloc | apply Kd.R_drewN | apply Kd.R_drew)); exact HO369.out))) (below_size (by repeat (first | (with_reducible first | exact HB.out | apply below_alloc | apply pw_below_drewN | apply below_drew1) | exact HB.out)))); have n7_ := Aside0.mk (below_step (by repeat (first | (with_reducible first | exact HB.out | apply below_alloc | apply pw_below_drewN | apply below_drew1) | exact HB.out)) hb); clear HO_3 HO_16 HO_20 HO363 HO365 HO369 HB; have HO_3 := n0_; have HO_16 := n1_; have HO_20 := n2_; have HO363 := n3_; have HO365 := n4_; have HO369 := n5_; have HO373 := n6_; have HB := n7_; clear n0_ n1_ n2_ n3_ n4_ n5_ n6_ n7_; (try clear hb); (try clear hb2); (try clear hk); (try clear hi); (try clear ho0)))
                 (try simp only [Act.put, List.setIfInBounds_toArray, List.set_cons_zero, List.set_cons_succ])
                 go_cut [198] (fun v198 wc => ∃ (kq : Nat) (x198_54 : Bool), v198 = .bool x198_54 ∧ Aside0 (laws_FnChanges.j5 kq l0 t327 t330 t331 t334 t342 t351 x198_54 = some r) ∧ Aside0 (kq ≤ kj42) ∧ Aside0 (Kd.R (Kd.int .i64) 3 wc w.heap.size (fun k_ => some k_ ≠ (v344 : Value).ownBlock ∧ some k_ ≠ (v353 : Value).ownBlock) (.slice Ao9 t327.length co9) t327) ∧ Aside0 (Kd.R (Kd.int .i64) 3 wc w.heap.size (fun k_ => some k_ ≠ ((.slice Ao9 t327.length co9) : Value).ownBlock ∧ some k_ ≠ (v353 : Value).ownBlock) v344 t342) ∧ Aside0 (Kd.R (Kd.int .i64) 3 wc w.heap.size (fun k_ => some k_ ≠ ((.slice Ao9 t327.length co9) : Value).ownBlock ∧ some k_ ≠ (v344 : Value).ownBlock) v353 t351) ∧ Aside0 (Below w.heap.size w wc))
                 case first =>
                  have H := HC55.out
                  clear HC55
                  by_cases c61 : (t367 != t371) = true
                  ·as_aux_lemma =>
                   rw [if_pos c61] at H
                   have c61b0 : (t367 != t371) = true := c61
                   (try (have c61b1 : decide (t367 = t371) = false := by simpa using c61))
                   (try (have c61b2 : (t367 == t371) = false := by simpa using c61))
                   (try (have c61b3 : ¬ (t367 = t371) := by simpa using c61))
                   clear c61
                   (first | rw [c61b0] | (simp only [i64_w, i32_w]; rw [c61b0]) | skip)
                   as_aux_lemma =>
                    have H' := Aside0.mk H
                    clear H
                    go_wp2
                    go_meet
                    case rel => exact ⟨_, (true), (by first | rfl | (simp; done) | (simp [*]; done)), H', ⟨by have := HJ6.out; have := HJ13.out; have := HJ22.out; have := HJ31.out; have := HJ42.out; first | omega | exact Nat.le_refl _⟩, ⟨by (with_reducible repeat (first | apply Kd.R_alloc | apply Kd.R_drewN | apply Kd.R_drew)); exact Kd.R_mono HO_3.out (fun _ hk => ⟨hk.1.1.1.1.1, hk.1.1.1.1.2⟩)⟩, ⟨by (with_reducible repeat (first | apply Kd.R_alloc | apply Kd.R_drewN | apply Kd.R_drew)); exact Kd.R_mono HO_16.out (fun _ hk => ⟨hk.1.1.1.1.1, hk.1.1.1.1.2⟩)⟩, ⟨by (with_reducible repeat (first | apply Kd.R_alloc | apply Kd.R_drewN | apply Kd.R_drew)); exact Kd.R_mono HO_20.out (fun _ hk => ⟨hk.1.1.1.1.1, hk.1.1.1.1.2⟩)⟩, ⟨by repeat (first | (with_reducible first | exact HB.out | apply below_alloc | apply pw_below_drewN | apply below_drew1) | exact HB.out)⟩⟩
                  ·as_aux_lemma =>
                   rw [if_neg c61] at H
                   have c61b0 : (t367 != t371) = false := by simpa using c61
                   (try (have c61b1 : decide (t367 = t371) = true := by simpa using c61))
                   (try (have c61b2 : (t367 == t371) = true := by simpa using c61))
                   clear c61
                   (first | rw [c61b0] | (simp only [i64_w, i32_w]; rw [c61b0]) | skip)
                   replace H := Option.bind_eq_some_iff.mp H
                   obtain ⟨t374, A620, H⟩ := H
                   replace H : (laws_FnChanges.j5 kj42 l0 t327 t330 t331 t334 t342 t351 (!t374)) = some r := H
                   have A62 := Aside0.mk A620
                   clear A620
                   as_aux_lemma =>
                    have H' := Aside0.mk H
                    clear H
                    obtain ⟨Ao63, co63, eo63⟩ := Kd.R_slice HO369.out
                    subst eo63
                    obtain ⟨Ao64, co64, eo64⟩ := Kd.R_slice HO373.out
                    subst eo64
                    go_wp2_with (first | (go_at_call 14; (with_reducible refine (laws_rInts.calls kj42 _ _ t366 _ _ t370 t374 _ ?side1 ?side2 ?side3 ?side4 A62.out).mono ?_); (case side1 => repeat (first | exact (Kd.R_reads' HO369.out).2.2 | (with_reducible refine Kd.C_alloc ?_ _) | (with_reducible refine Kd.C_drewN ?_ _) | (with_reducible refine Kd.C_drew ?_))); (case side2 => exact (Kd.R_reads' HO369.out).2.1); (case side3 => repeat (first | exact (Kd.R_reads' HO373.out).2.2 | (with_reducible refine Kd.C_alloc ?_ _) | (with_reducible refine Kd.C_drewN ?_ _) | (with_reducible refine Kd.C_drew ?_))); (case side4 => exact (Kd.R_reads' HO373.out).2.1); rintro e w' ⟨rfl, ⟨nd, rfl⟩⟩))
                    go_meet
                    case rel => exact ⟨_, (!t374), (by first | rfl | (simp; done) | (simp [*]; done)), H', ⟨by have := HJ6.out; have := HJ13.out; have := HJ22.out; have := HJ31.out; have := HJ42.out; first | omega | exact Nat.le_refl _⟩, ⟨by (with_reducible repeat (first | apply Kd.R_alloc | apply Kd.R_drewN | apply Kd.R_drew)); exact Kd.R_mono HO_3.out (fun _ hk => ⟨hk.1.1.1.1.1, hk.1.1.1.1.2⟩)⟩, ⟨by (with_reducible repeat (first | apply Kd.R_alloc | apply Kd.R_drewN | apply Kd.R_drew)); exact Kd.R_mono HO_16.out (fun _ hk => ⟨hk.1.1.1.1.1, hk.1.1.1.1.2⟩)⟩, ⟨by (with_reducible repeat (first | apply Kd.R_alloc | apply Kd.R_drewN | apply Kd.R_drew)); exact Kd.R_mono HO_20.out (fun _ hk => ⟨hk.1.1.1.1.1, hk.1.1.1.1.2⟩)⟩, ⟨by repeat (first | (with_reducible first | exact HB.out | apply below_alloc | apply pw_below_drewN | apply below_drew1) | exact HB.out)⟩⟩
                 case rest =>
                  clear HC55
                  try clear c1
                  try clear c2
                  try clear p2
                  try clear c3
                  try clear c4
                  try clear c5
                  try clear c6
                  try clear p6
                  try clear c7
                  try clear c8
                  try clear c9
                  try clear c10
                  try clear c10b0
                  try clear c10b1
                  try clear c11
                  try clear c12
                  try clear c13
                  try clear c15
                  try clear c16
                  try clear c17
                  try clear c17b0
                  try clear c17b1
                  try clear c18
                  try clear c18b0
                  try clear c18b1
                  try clear c18b2
                  try clear c19
                  try clear c19b0
                  try clear c19b1
                  try clear c19b2
                  try clear c20
                  try clear c26
                  try clear c26b0
                  try clear c26b1
                  try clear c27
                  try clear c27b0
                  try clear c27b1
                  try clear c27b2
                  try clear c28
                  try clear c28b0
                  try clear c28b1
                  try clear c28b2
                  try clear c29
                  try clear c35
                  try clear c35b0
                  try clear c35b1
                  try clear c35b2
                  try clear c36
                  try clear c36b0
                  try clear c36b1
                  try clear c36b2
                  try clear c40
                  try clear c46
                  try clear c46b0
                  try clear c46b1
                  try clear c46b2
                  try clear c47
                  try clear c47b0
                  try clear c47b1
                  try clear c47b2
                  try clear c51
                  try clear c61
                  try clear c61b0
                  try clear c61b1
                  try clear c61b2
                  try clear p64
                  try clear p2
                  try clear p6
                  obtain ⟨kq, x198_54, rfl, HA, HJ54, HO_3, HO_16, HO_20, HB⟩ := hcut
                  cases kq with
                  | zero => exact absurd HA.out (by simp [laws_FnChanges.j5])
                  | succ kj54 =>
                   have H := HA.out
                   clear HA
                   simp only [laws_FnChanges.j5] at H
                   by_cases c65 : x198_54 = true
                   ·as_aux_lemma =>
                    subst c65
                    have H1 : (some false) = some r := by rw [if_pos rfl] at H; exact H
                    clear H
                    have H := H1
                    clear H1
                    as_aux_lemma =>
                     obtain rfl := Option.some.inj H
                     go_wp2
                     go_ret
                     exact ⟨by first | rfl | (simp [errW_none, errW_some] <;> rfl) | (simp [*, errW_none, errW_some] <;> rfl), by repeat (first | (with_reducible first | exact HB.out | apply below_alloc | apply pw_below_drewN | apply below_drew1) | exact HB.out)⟩
                   ·as_aux_lemma =>
                    replace c65 := Bool.eq_false_iff.mpr c65
                    subst c65
                    have H1 : ((spec_DrawChangeCounts.f l0).bind fun t375 => ((impl_ChangeCounts.f kj54 t375).bind fun bt376 => ((spec_ChangeCounts.f kj54 t375).bind fun bt380 => (if (bt376.2 != bt380.2) = true then (laws_FnChanges.j6 kj54 t327 t330 t331 t334 t342 t351 t375 bt376.1 bt376.2 true) else ((laws_rInts.f kj54 bt376.1 bt380.1).bind fun t384 => (laws_FnChanges.j6 kj54 t327 t330 t331 t334 t342 t351 t375 bt376.1 bt376.2 (!t384))))))) = some r := by rw [if_neg (show ¬ (false = true) by decide)] at H; exact H
                    clear H
                    have H := H1
                    clear H1
                    replace H := Option.bind_eq_some_iff.mp H
                    obtain ⟨t375, A660, H⟩ := H
                    replace H : ((impl_ChangeCounts.f kj54 t375).bind fun bt376 => ((spec_ChangeCounts.f kj54 t375).bind fun bt380 => (if (bt376.2 != bt380.2) = true then (laws_FnChanges.j6 kj54 t327 t330 t331 t334 t342 t351 t375 bt376.1 bt376.2 true) else ((laws_rInts.f kj54 bt376.1 bt380.1).bind fun t384 => (laws_FnChanges.j6 kj54 t327 t330 t331 t334 t342 t351 t375 bt376.1 bt376.2 (!t384)))))) = some r := H
                    have A66 := Aside0.mk A660
                    clear A660
                    replace H := Option.bind_eq_some_iff.mp H
                    obtain ⟨⟨t376, t377⟩, A670, H⟩ := H
                    replace H : ((spec_ChangeCounts.f kj54 t375).bind fun bt380 => (if (t377 != bt380.2) = true then (laws_FnChanges.j6 kj54 t327 t330 t331 t334 t342 t351 t375 t376 t377 true) else ((laws_rInts.f kj54 t376 bt380.1).bind fun t384 => (laws_FnChanges.j6 kj54 t327 t330 t331 t334 t342 t351 t375 t376 t377 (!t384))))) = some r := H
                    have A67 := Aside0.mk A670
                    clear A670
                    replace H := Option.bind_eq_some_iff.mp H
                    obtain ⟨⟨t380, t381⟩, A680, H⟩ := H
                    replace H : (if (t377 != t381) = true then (laws_FnChanges.j6 kj54 t327 t330 t331 t334 t342 t351 t375 t376 t377 true) else ((laws_rInts.f kj54 t376 t380).bind fun t384 => (laws_FnChanges.j6 kj54 t327 t330 t331 t334 t342 t351 t375 t376 t377 (!t384)))) = some r := H
                    have A68 := Aside0.mk A680
                    clear A680
                    have HC69 := Aside0.mk H
                    clear H
                    go_upto_region 32 with (first | ((with_reducible refine gate_callee (f := 20) rfl ?_); refine goesL_ (some 200) rfl rfl Try.func20 (by kernel_rfl) rfl #[.slice A0 l0.length c0] rfl (by (try simp only [List.map_toArray, List.map_cons, List.map_nil]); first | done | rfl | (simp only [List.length_drop, List.length_take]; rfl)) ?_; (with_reducible refine (spec_DrawChangeCounts.calls _ _ l0 t375 _ ?side1 ?side2 A66.out).mono ?_); (case side1 => repeat (first | exact (Kd.C_below HR0.out HB.out) | (with_reducible refine Kd.C_alloc ?_ _) | (with_reducible refine Kd.C_drewN ?_ _) | (with_reducible refine Kd.C_drew ?_))); (case side2 => exact HC0.out); rintro e w70 ⟨rfl, hb⟩; refine ⟨_, rfl, ?_⟩; have n0_ := Aside0.mk (Kd.R_below (by (with_reducible repeat (first | apply Kd.R_alloc | apply Kd.R_drewN | apply Kd.R_drew)); exact HO_3.out) hb); have n1_ := Aside0.mk (Kd.R_below (by (with_reducible repeat (first | apply Kd.R_alloc | apply Kd.R_drewN | apply Kd.R_drew)); exact HO_16.out) hb); have n2_ := Aside0.mk (Kd.R_below (by (with_reducible repeat (first | apply Kd.R_alloc | apply Kd.R_drewN | apply Kd.R_drew)); exact HO_20.out) hb); have n3_ := Aside0.mk (below_step (by repeat (first | (with_reducible first | exact HB.out | apply below_alloc | apply pw_below_drewN | apply below_drew1) | exact HB.out)) hb); clear HO_3 HO_16 HO_20 HB; have HO_3 := n0_; have HO_16 := n1_; have HO_20 := n2_; have HB := n3_; clear n0_ n1_ n2_ n3_; (try clear hb); (try clear hb2); (try clear hk); (try clear hi)) | ((with_reducible refine gate_callee (f := 21) rfl ?_); refine goesL_ (some 203) rfl rfl Try.func21 (by kernel_rfl) rfl #[.int .i64 t375] rfl (by (try simp only [List.map_toArray, List.map_cons, List.map_nil]); first | done | rfl | (simp only [List.length_drop, List.length_take]; rfl)) ?_; (with_reducible refine (impl_ChangeCounts.calls kj54 t375 t376 t377 _ A67.out).mono ?_); rintro e w71 ⟨v378, rfl, ho0, hb⟩; refine ⟨_, rfl, ?_⟩; have n0_ := Aside0.mk (Kd.R_elder' (by (with_reducible repeat (first | apply Kd.R_alloc | apply Kd.R_drewN | apply Kd.R_drew)); exact HO_3.out) (Kd.R_base ho0) hb); have n1_ := Aside0.mk (Kd.R_elder' (by (with_reducible repeat (first | apply Kd.R_alloc | apply Kd.R_drewN | apply Kd.R_drew)); exact HO_16.out) (Kd.R_base ho0) hb); have n2_ := Aside0.mk (Kd.R_elder' (by (with_reducible repeat (first | apply Kd.R_alloc | apply Kd.R_drewN | apply Kd.R_drew)); exact HO_20.out) (Kd.R_base ho0) hb); have n3_ := Aside0.mk (Kd.R_lower (Kd.R_new' (Kd.R_new' (Kd.R_new' ho0 (Kd.R_lt (by (with_reducible repeat (first | apply Kd.R_alloc | apply Kd.R_drewN | apply Kd.R_drew)); exact HO_3.out))) (Kd.R_lt (by (with_reducible repeat (first | apply Kd.R_alloc | apply Kd.R_drewN | apply Kd.R_drew)); exact HO_16.out))) (Kd.R_lt (by (with_reducible repeat (first | apply Kd.R_alloc | apply Kd.R_drewN | apply Kd.R_drew)); exact HO_20.out))) (below_size (by repeat (first | (with_reducible first | exact HB.out | apply below_alloc | apply pw_below_drewN | apply below_drew1) | exact HB.out)))); have n4_ := Aside0.mk (below_step (by repeat (first | (with_reducible first | exact HB.out | apply below_alloc | apply pw_below_drewN | apply below_drew1) | exact HB.out)) hb); clear HO_3 HO_16 HO_20 HB; have HO_3 := n0_; have HO_16 := n1_; have HO_20 := n2_; have HO379 := n3_; have HB := n4_; clear n0_ n1_ n2_ n3_ n4_; (try clear hb); (try clear hb2); (try clear hk); (try clear hi); (try clear ho0)) | ((with_reducible refine gate_callee (f := 22) rfl ?_); refine goesL_ (some 208) rfl rfl Try.func22 (by kernel_rfl) rfl #[.int .i64 t375] rfl (by (try simp only [List.map_toArray, List.map_cons, List.map_nil]); first | done | rfl | (simp only [List.length_drop, List.length_take]; rfl)) ?_; (with_reducible refine (spec_ChangeCounts.calls kj54 t375 t380 t381 _ A68.out).mono ?_); rintro e w72 ⟨v382, rfl, ho0, hb⟩; refine ⟨_, rfl, ?_⟩; have n0_ := Aside0.mk (Kd.R_elder' (by (with_reducible repeat (first | apply Kd.R_alloc | apply Kd.R_drewN | apply Kd.R_drew)); exact HO_3.out) (Kd.R_base ho0) hb); have n1_ := Aside0.mk (Kd.R_elder' (by (with_reducible repeat (first | apply Kd.R_alloc | apply Kd.R_drewN | apply Kd.R_drew)); exact HO_16.out) (Kd.R_base ho0) hb); have n2_ := Aside0.mk (Kd.R_elder' (by (with_reducible repeat (first | apply Kd.R_alloc | apply Kd.R_drewN | apply Kd.R_drew)); exact HO_20.out) (Kd.R_base ho0) hb); have n3_ := Aside0.mk (Kd.R_elder' (by (with_reducible repeat (first | apply Kd.R_alloc | apply Kd.R_drewN | apply Kd.R_drew)); exact HO379.out) (Kd.R_base ho0) hb); have n4_ := Aside0.mk (Kd.R_lower (Kd.R_new' (Kd.R_new' (Kd.R_new' (Kd.R_new' ho0 (Kd.R_lt (by (with_reducible repeat (first | apply Kd.R_alloc | apply Kd.R_drewN | apply Kd.R_drew)); exact HO_3.out))) (Kd.R_lt (by (with_reducible repeat (first | apply Kd.R_alloc | apply Kd.R_drewN | apply Kd.R_drew)); exact HO_16.out))) (Kd.R_lt (by (with_reducible repeat (first | apply Kd.R_alloc | apply Kd.R_drewN | apply Kd.R_drew)); exact HO_20.out))) (Kd.R_lt (by (with_reducible repeat (first | apply Kd.R_alloc | apply Kd.R_drewN | apply Kd.R_drew)); exact HO379.out))) (below_size (by repeat (first | (with_reducible first | exact HB.out | apply below_alloc | apply pw_below_drewN | apply below_drew1) | exact HB.out)))); have n5_ := Aside0.mk (below_step (by repeat (first | (with_reducible first | exact HB.out | apply below_alloc | apply pw_below_drewN | apply below_drew1) | exact HB.out)) hb); clear HO_3 HO_16 HO_20 HO379 HB; have HO_3 := n0_; have HO_16 := n1_; have HO_20 := n2_; have HO379 := n3_; have HO383 := n4_; have HB := n5_; clear n0_ n1_ n2_ n3_ n4_ n5_; (try clear hb); (try clear hb2); (try clear hk); (try clear hi); (try clear ho0)))
                    (try simp only [Act.put, List.setIfInBounds_toArray, List.set_cons_zero, List.set_cons_succ])
                    go_cut [219] (fun v219 wc => ∃ (kq : Nat) (x219_68 : Bool), v219 = .bool x219_68 ∧ Aside0 (laws_FnChanges.j6 kq t327 t330 t331 t334 t342 t351 t375 t376 t377 x219_68 = some r) ∧ Aside0 (kq ≤ kj54) ∧ Aside0 (Kd.R (Kd.int .i64) 3 wc w.heap.size (fun k_ => some k_ ≠ (v344 : Value).ownBlock ∧ some k_ ≠ (v353 : Value).ownBlock ∧ some k_ ≠ (v378 : Value).ownBlock) (.slice Ao9 t327.length co9) t327) ∧ Aside0 (Kd.R (Kd.int .i64) 3 wc w.heap.size (fun k_ => some k_ ≠ ((.slice Ao9 t327.length co9) : Value).ownBlock ∧ some k_ ≠ (v353 : Value).ownBlock ∧ some k_ ≠ (v378 : Value).ownBlock) v344 t342) ∧ Aside0 (Kd.R (Kd.int .i64) 3 wc w.heap.size (fun k_ => some k_ ≠ ((.slice Ao9 t327.length co9) : Value).ownBlock ∧ some k_ ≠ (v344 : Value).ownBlock ∧ some k_ ≠ (v378 : Value).ownBlock) v353 t351) ∧ Aside0 (Kd.R (Kd.int .i64) 3 wc w.heap.size (fun k_ => some k_ ≠ ((.slice Ao9 t327.length co9) : Value).ownBlock ∧ some k_ ≠ (v344 : Value).ownBlock ∧ some k_ ≠ (v353 : Value).ownBlock) v378 t376) ∧ Aside0 (Below w.heap.size w wc))
                    case first =>
                     have H := HC69.out
                     clear HC69
                     by_cases c73 : (t377 != t381) = true
                     ·as_aux_lemma =>
                      rw [if_pos c73] at H
                      have c73b0 : (t377 != t381) = true := c73
                      (try (have c73b1 : decide (t377 = t381) = false := by simpa using c73))
                      (try (have c73b2 : (t377 == t381) = false := by simpa using c73))
                      (try (have c73b3 : ¬ (t377 = t381) := by simpa using c73))
                      clear c73
                      (first | rw [c73b0] | (simp only [i64_w, i32_w]; rw [c73b0]) | skip)
                      as_aux_lemma =>
                       have H' := Aside0.mk H
                       clear H
                       go_wp2
                       go_meet
                       case rel => exact ⟨_, (true), (by first | rfl | (simp; done) | (simp [*]; done)), H', ⟨by have := HJ6.out; have := HJ13.out; have := HJ22.out; have := HJ31.out; have := HJ42.out; have := HJ54.out; first | omega | exact Nat.le_refl _⟩, ⟨by (with_reducible repeat (first | apply Kd.R_alloc | apply Kd.R_drewN | apply Kd.R_drew)); exact Kd.R_mono HO_3.out (fun _ hk => ⟨hk.1.1.1, ⟨hk.1.1.2, hk.1.2⟩⟩)⟩, ⟨by (with_reducible repeat (first | apply Kd.R_alloc | apply Kd.R_drewN | apply Kd.R_drew)); exact Kd.R_mono HO_16.out (fun _ hk => ⟨hk.1.1.1, ⟨hk.1.1.2, hk.1.2⟩⟩)⟩, ⟨by (with_reducible repeat (first | apply Kd.R_alloc | apply Kd.R_drewN | apply Kd.R_drew)); exact Kd.R_mono HO_20.out (fun _ hk => ⟨hk.1.1.1, ⟨hk.1.1.2, hk.1.2⟩⟩)⟩, ⟨by (with_reducible repeat (first | apply Kd.R_alloc | apply Kd.R_drewN | apply Kd.R_drew)); exact Kd.R_mono HO379.out (fun _ hk => ⟨hk.1.1.1.2, ⟨hk.1.1.2, hk.1.2⟩⟩)⟩, ⟨by repeat (first | (with_reducible first | exact HB.out | apply below_alloc | apply pw_below_drewN | apply below_drew1) | exact HB.out)⟩⟩
                     ·as_aux_lemma =>
                      rw [if_neg c73] at H
                      have c73b0 : (t377 != t381) = false := by simpa using c73
                      (try (have c73b1 : decide (t377 = t381) = true := by simpa using c73))
                      (try (have c73b2 : (t377 == t381) = true := by simpa using c73))
                      clear c73
                      (first | rw [c73b0] | (simp only [i64_w, i32_w]; rw [c73b0]) | skip)
                      replace H := Option.bind_eq_some_iff.mp H
                      obtain ⟨t384, A740, H⟩ := H
                      replace H : (laws_FnChanges.j6 kj54 t327 t330 t331 t334 t342 t351 t375 t376 t377 (!t384)) = some r := H
                      have A74 := Aside0.mk A740
                      clear A740
                      as_aux_lemma =>
                       have H' := Aside0.mk H
                       clear H
                       obtain ⟨Ao75, co75, eo75⟩ := Kd.R_slice HO379.out
                       subst eo75
                       obtain ⟨Ao76, co76, eo76⟩ := Kd.R_slice HO383.out
                       subst eo76
                       go_wp2_with (first | (go_at_call 14; (with_reducible refine (laws_rInts.calls kj54 _ _ t376 _ _ t380 t384 _ ?side1 ?side2 ?side3 ?side4 A74.out).mono ?_); (case side1 => repeat (first | exact (Kd.R_reads' HO379.out).2.2 | (with_reducible refine Kd.C_alloc ?_ _) | (with_reducible refine Kd.C_drewN ?_ _) | (with_reducible refine Kd.C_drew ?_))); (case side2 => exact (Kd.R_reads' HO379.out).2.1); (case side3 => repeat (first | exact (Kd.R_reads' HO383.out).2.2 | (with_reducible refine Kd.C_alloc ?_ _) | (with_reducible refine Kd.C_drewN ?_ _) | (with_reducible refine Kd.C_drew ?_))); (case side4 => exact (Kd.R_reads' HO383.out).2.1); rintro e w' ⟨rfl, ⟨nd, rfl⟩⟩))
                       go_meet
                       case rel => exact ⟨_, (!t384), (by first | rfl | (simp; done) | (simp [*]; done)), H', ⟨by have := HJ6.out; have := HJ13.out; have := HJ22.out; have := HJ31.out; have := HJ42.out; have := HJ54.out; first | omega | exact Nat.le_refl _⟩, ⟨by (with_reducible repeat (first | apply Kd.R_alloc | apply Kd.R_drewN | apply Kd.R_drew)); exact Kd.R_mono HO_3.out (fun _ hk => ⟨hk.1.1.1, ⟨hk.1.1.2, hk.1.2⟩⟩)⟩, ⟨by (with_reducible repeat (first | apply Kd.R_alloc | apply Kd.R_drewN | apply Kd.R_drew)); exact Kd.R_mono HO_16.out (fun _ hk => ⟨hk.1.1.1, ⟨hk.1.1.2, hk.1.2⟩⟩)⟩, ⟨by (with_reducible repeat (first | apply Kd.R_alloc | apply Kd.R_drewN | apply Kd.R_drew)); exact Kd.R_mono HO_20.out (fun _ hk => ⟨hk.1.1.1, ⟨hk.1.1.2, hk.1.2⟩⟩)⟩, ⟨by (with_reducible repeat (first | apply Kd.R_alloc | apply Kd.R_drewN | apply Kd.R_drew)); exact Kd.R_mono HO379.out (fun _ hk => ⟨hk.1.1.1.2, ⟨hk.1.1.2, hk.1.2⟩⟩)⟩, ⟨by repeat (first | (with_reducible first | exact HB.out | apply below_alloc | apply pw_below_drewN | apply below_drew1) | exact HB.out)⟩⟩
                    case rest =>
                     clear HC69
                     try clear c1
                     try clear c2
                     try clear p2
                     try clear c3
                     try clear c4
                     try clear c5
                     try clear c6
                     try clear p6
                     try clear c7
                     try clear c8
                     try clear c9
                     try clear c10
                     try clear c10b0
                     try clear c10b1
                     try clear c11
                     try clear c12
                     try clear c13
                     try clear c15
                     try clear c16
                     try clear c17
                     try clear c17b0
                     try clear c17b1
                     try clear c18
                     try clear c18b0
                     try clear c18b1
                     try clear c18b2
                     try clear c19
                     try clear c19b0
                     try clear c19b1
                     try clear c19b2
                     try clear c20
                     try clear c21
                     try clear c22
                     try clear c26
                     try clear c26b0
                     try clear c26b1
                     try clear c27
                     try clear c27b0
                     try clear c27b1
                     try clear c27b2
                     try clear c28
                     try clear c28b0
                     try clear c28b1
                     try clear c28b2
                     try clear c29
                     try clear c35
                     try clear c35b0
                     try clear c35b1
                     try clear c35b2
                     try clear c36
                     try clear c36b0
                     try clear c36b1
                     try clear c36b2
                     try clear c40
                     try clear c46
                     try clear c46b0
                     try clear c46b1
                     try clear c46b2
                     try clear c47
                     try clear c47b0
                     try clear c47b1
                     try clear c47b2
                     try clear c51
                     try clear c61
                     try clear c61b0
                     try clear c61b1
                     try clear c61b2
                     try clear p64
                     try clear c65
                     try clear c73
                     try clear c73b0
                     try clear c73b1
                     try clear c73b2
                     try clear p2
                     try clear p6
                     try clear p64
                     obtain ⟨kq, x219_68, rfl, HA, HJ68, HO_3, HO_16, HO_20, HO_31, HB⟩ := hcut
                     cases kq with
                     | zero => exact absurd HA.out (by simp [laws_FnChanges.j6])
                     | succ kj68 =>
                      have H := HA.out
                      clear HA
                      simp only [laws_FnChanges.j6] at H
                      by_cases c77 : x219_68 = true
                      ·as_aux_lemma =>
                       subst c77
                       have H1 : (some false) = some r := by rw [if_pos rfl] at H; exact H
                       clear H
                       have H := H1
                       clear H1
                       as_aux_lemma =>
                        obtain rfl := Option.some.inj H
                        go_wp2
                        go_ret
                        exact ⟨by first | rfl | (simp [errW_none, errW_some] <;> rfl) | (simp [*, errW_none, errW_some] <;> rfl), by repeat (first | (with_reducible first | exact HB.out | apply below_alloc | apply pw_below_drewN | apply below_drew1) | exact HB.out)⟩
                      ·as_aux_lemma =>
                       replace c77 := Bool.eq_false_iff.mpr c77
                       subst c77
                       have H1 : (if t377 = true then (laws_FnChanges.l0 kj68 t327 t330 t331 t334 t342 t351 t375 t376 1 2) else (laws_FnChanges.j8 kj68 t327 t330 t331 t334 t342 t351)) = some r := by rw [if_neg (show ¬ (false = true) by decide)] at H; exact H
                       clear H
                       have H := H1
                       clear H1
                       have HC78 := Aside0.mk H
                       clear H
                       go_upto_if 220 with (fail)
                       go_cut [] (fun wc => ∃ (kq : Nat), Aside0 (laws_FnChanges.j8 kq t327 t330 t331 t334 t342 t351 = some r) ∧ Aside0 (kq ≤ kj68) ∧ Aside0 (Kd.R (Kd.int .i64) 3 wc w.heap.size (fun k_ => some k_ ≠ (v344 : Value).ownBlock ∧ some k_ ≠ (v353 : Value).ownBlock) (.slice Ao9 t327.length co9) t327) ∧ Aside0 (Kd.R (Kd.int .i64) 3 wc w.heap.size (fun k_ => some k_ ≠ ((.slice Ao9 t327.length co9) : Value).ownBlock ∧ some k_ ≠ (v353 : Value).ownBlock) v344 t342) ∧ Aside0 (Kd.R (Kd.int .i64) 3 wc w.heap.size (fun k_ => some k_ ≠ ((.slice Ao9 t327.length co9) : Value).ownBlock ∧ some k_ ≠ (v344 : Value).ownBlock) v353 t351) ∧ Aside0 (Below w.heap.size w wc))
                       case first =>
                        have H := HC78.out
                        clear HC78
                        by_cases c79 : t377 = true
                        ·as_aux_lemma =>
                         subst c79
                         have H1 : (laws_FnChanges.l0 kj68 t327 t330 t331 t334 t342 t351 t375 t376 1 2) = some r := by rw [if_pos rfl] at H; exact H
                         clear H
                         have H := H1
                         clear H1
                         have H' := Aside0.mk H
                         clear H
                         go_wp2
                         go_loopg [35, 36] kj68 (fun kq v35 v36 w' => ∃ (x35_8 : Int) (x36_8 : Int), v35 = .int .i64 x35_8 ∧ v36 = .int .i64 x36_8 ∧ Aside0 (laws_FnChanges.l0 kq t327 t330 t331 t334 t342 t351 t375 t376 x35_8 x36_8 = some r) ∧ Aside0 (kq ≤ kj68) ∧ Aside0 (Kd.R (Kd.int .i64) 3 w' w.heap.size (fun k_ => some k_ ≠ (v344 : Value).ownBlock ∧ some k_ ≠ (v353 : Value).ownBlock ∧ some k_ ≠ (v378 : Value).ownBlock) (.slice Ao9 t327.length co9) t327) ∧ Aside0 (Kd.R (Kd.int .i64) 3 w' w.heap.size (fun k_ => some k_ ≠ ((.slice Ao9 t327.length co9) : Value).ownBlock ∧ some k_ ≠ (v353 : Value).ownBlock ∧ some k_ ≠ (v378 : Value).ownBlock) v344 t342) ∧ Aside0 (Kd.R (Kd.int .i64) 3 w' w.heap.size (fun k_ => some k_ ≠ ((.slice Ao9 t327.length co9) : Value).ownBlock ∧ some k_ ≠ (v344 : Value).ownBlock ∧ some k_ ≠ (v378 : Value).ownBlock) v353 t351) ∧ Aside0 (Kd.R (Kd.int .i64) 3 w' w.heap.size (fun k_ => some k_ ≠ ((.slice Ao9 t327.length co9) : Value).ownBlock ∧ some k_ ≠ (v344 : Value).ownBlock ∧ some k_ ≠ (v353 : Value).ownBlock) v378 t376) ∧ Aside0 (Below w.heap.size w w'))
                         case atStart => exact ⟨(1), (2), (by first | rfl | (simp; done) | (simp [*]; done)), (by first | rfl | (simp; done) | (simp [*]; done)), H', ⟨Nat.le_refl _⟩, ⟨by (with_reducible repeat (first | apply Kd.R_alloc | apply Kd.R_drewN | apply Kd.R_drew)); exact HO_3.out⟩, ⟨by (with_reducible repeat (first | apply Kd.R_alloc | apply Kd.R_drewN | apply Kd.R_drew)); exact HO_16.out⟩, ⟨by (with_reducible repeat (first | apply Kd.R_alloc | apply Kd.R_drewN | apply Kd.R_drew)); exact HO_20.out⟩, ⟨by (with_reducible repeat (first | apply Kd.R_alloc | apply Kd.R_drewN | apply Kd.R_drew)); exact HO_31.out⟩, ⟨by repeat (first | (with_reducible first | exact HB.out | apply below_alloc | apply pw_below_drewN | apply below_drew1) | exact HB.out)⟩⟩
                         case round =>
                          as_aux_lemma =>
                          clear H'
                          try clear c1
                          try clear c2
                          try clear p2
                          try clear c3
                          try clear c4
                          try clear c5
                          try clear c6
                          try clear p6
                          try clear c7
                          try clear c8
                          try clear c9
                          try clear c10
                          try clear c10b0
                          try clear c10b1
                          try clear c11
                          try clear c12
                          try clear c13
                          try clear c15
                          try clear c16
                          try clear c17
                          try clear c17b0
                          try clear c17b1
                          try clear c18
                          try clear c18b0
                          try clear c18b1
                          try clear c18b2
                          try clear c19
                          try clear c19b0
                          try clear c19b1
                          try clear c19b2
                          try clear c20
                          try clear c21
                          try clear c22
                          try clear c26
                          try clear c26b0
                          try clear c26b1
                          try clear c27
                          try clear c27b0
                          try clear c27b1
                          try clear c27b2
                          try clear c28
                          try clear c28b0
                          try clear c28b1
                          try clear c28b2
                          try clear c29
                          try clear c35
                          try clear c35b0
                          try clear c35b1
                          try clear c35b2
                          try clear c36
                          try clear c36b0
                          try clear c36b1
                          try clear c36b2
                          try clear c40
                          try clear c46
                          try clear c46b0
                          try clear c46b1
                          try clear c46b2
                          try clear c47
                          try clear c47b0
                          try clear c47b1
                          try clear c47b2
                          try clear c51
                          try clear c61
                          try clear c61b0
                          try clear c61b1
                          try clear c61b2
                          try clear p64
                          try clear c65
                          try clear c73
                          try clear c73b0
                          try clear c73b1
                          try clear c73b2
                          try clear c77
                          try clear c79
                          try clear p2
                          try clear p6
                          try clear p64
                          obtain ⟨x35_8, x36_8, rfl, rfl, HA, HK8, HO_3, HO_16, HO_20, HO_31, HB⟩ := hrel
                          cases gk with
                          | zero => exact absurd HA.out (by simp [laws_FnChanges.l0])
                          | succ k8 =>
                           have H := HA.out
                           clear HA
                           simp only [laws_FnChanges.l0] at H
                           by_cases c80 : x36_8 ≤ t375
                           ·as_aux_lemma =>
                            rw [if_pos c80] at H
                            have c80b0 : decide (x36_8 ≤ t375) = true := decide_eq_true c80
                            clear c80
                            (first | rw [c80b0] | (simp only [i64_w, i32_w]; rw [c80b0]) | skip)
                            as_aux_lemma =>
                             have H' := Aside0.mk H
                             clear H
                             go_wp2
                             go_roundg k8
                             case measure => have := HJ6.out; have := HJ13.out; have := HJ22.out; have := HJ31.out; have := HJ42.out; have := HJ54.out; have := HJ68.out; have := HK8.out; omega
                             case rel => exact ⟨(wrap64 (x35_8 * x36_8)), (wrap64 (x36_8 + 1)), (by first | rfl | (simp; done) | (simp [*]; done)), (by first | rfl | (simp; done) | (simp [*]; done)), H', ⟨by have := HJ6.out; have := HJ13.out; have := HJ22.out; have := HJ31.out; have := HJ42.out; have := HJ54.out; have := HJ68.out; have := HK8.out; omega⟩, ⟨by (with_reducible repeat (first | apply Kd.R_alloc | apply Kd.R_drewN | apply Kd.R_drew)); exact HO_3.out⟩, ⟨by (with_reducible repeat (first | apply Kd.R_alloc | apply Kd.R_drewN | apply Kd.R_drew)); exact HO_16.out⟩, ⟨by (with_reducible repeat (first | apply Kd.R_alloc | apply Kd.R_drewN | apply Kd.R_drew)); exact HO_20.out⟩, ⟨by (with_reducible repeat (first | apply Kd.R_alloc | apply Kd.R_drewN | apply Kd.R_drew)); exact HO_31.out⟩, ⟨by repeat (first | (with_reducible first | exact HB.out | apply below_alloc | apply pw_below_drewN | apply below_drew1) | exact HB.out)⟩⟩
                           ·as_aux_lemma =>
                            rw [if_neg c80] at H
                            have c80b0 : decide (x36_8 ≤ t375) = false := decide_eq_false c80
                            clear c80
                            (first | rw [c80b0] | (simp only [i64_w, i32_w]; rw [c80b0]) | skip)
                            replace H := Option.bind_eq_some_iff.mp H
                            obtain ⟨t385, A810, H⟩ := H
                            replace H : (if t385 = x35_8 then (if (t376.length : Int) = t375 then (if 0 < (t376.length : Int) then (if (rd t376 0) = 1 then (laws_FnChanges.j8 k8 t327 t330 t331 t334 t342 t351) else (some false)) else (none)) else (some false)) else (some false)) = some r := H
                            have A81 := Aside0.mk A810
                            clear A810
                            by_cases c82 : t385 = x35_8
                            ·as_aux_lemma =>
                             rw [if_pos c82] at H
                             have c82b0 : (t385 == x35_8) = true := beq_iff_eq.mpr c82
                             have c82b1 : (t385 != x35_8) = false := bne_eq_false_iff_eq.mpr c82
                             clear c82
                             by_cases c83 : (t376.length : Int) = t375
                             ·as_aux_lemma =>
                              rw [if_pos c83] at H
                              have c83b0 : ((t376.length : Int) == t375) = true := beq_iff_eq.mpr c83
                              have c83b1 : ((t376.length : Int) != t375) = false := bne_eq_false_iff_eq.mpr c83
                              clear c83
                              by_cases c84 : 0 < (t376.length : Int)
                              ·as_aux_lemma =>
                               rw [if_pos c84] at H
                               have c84b0 : decide (0 < (t376.length : Int)) = true := decide_eq_true c84
                               have c84b1 : decide (0 < t376.length) = true := decide_eq_true (by omega)
                               clear c84
                               by_cases c85 : (rd t376 0) = 1
                               ·as_aux_lemma =>
                                rw [if_pos c85] at H
                                have c85b0 : ((rd t376 0) == 1) = true := beq_iff_eq.mpr c85
                                have c85b1 : ((rd t376 0) != 1) = false := bne_eq_false_iff_eq.mpr c85
                                clear c85
                                as_aux_lemma =>
                                 have H' := Aside0.mk H
                                 clear H
                                 obtain ⟨Ao86, co86, eo86⟩ := Kd.R_slice HO_31.out
                                 subst eo86
                                 go_wp2_with (first | ((with_reducible refine gate_callee (f := 23) rfl ?_); refine goesL_ (some 230) rfl rfl Try.func23 (by kernel_rfl) rfl #[.slice Ao86 t376.length co86] rfl (by (try simp only [List.map_toArray, List.map_cons, List.map_nil]); first | done | rfl | (simp only [List.length_drop, List.length_take]; rfl)) ?_; (with_reducible refine (laws_rSum.calls k8 _ _ t376 t385 _ ?side1 ?side2 A81.out).mono ?_); (case side1 => repeat (first | exact (Kd.R_reads' HO_31.out).2.2 | (with_reducible refine Kd.C_alloc ?_ _) | (with_reducible refine Kd.C_drewN ?_ _) | (with_reducible refine Kd.C_drew ?_))); (case side2 => exact (Kd.R_reads' HO_31.out).2.1); rintro e w' ⟨rfl, ⟨nd, rfl⟩⟩; refine ⟨_, rfl, ?_⟩; have p386 : 0 ≤ (0 : Int) := (by omega); have q386 : 0 < (t376.length : Int) := of_decide_eq_true (by first | (with_reducible assumption) | assumption); obtain ⟨ad386, e386, hx386_0⟩ := Kd.at_int (Kd.R_reads' HO_31.out).2.2 0 p386 q386; cases e386; have qi386 : (0 < t376.length) = True := eq_true (by omega); (try rw [show ((0 : Int)).toNat = 0 from rfl] at hx386_0); (try rw [Addr.add_zero'] at hx386_0); replace p386 := eq_true p386; replace q386 := eq_true q386))
                                 go_meet
                                 case rel => exact ⟨_, H', ⟨by have := HJ6.out; have := HJ13.out; have := HJ22.out; have := HJ31.out; have := HJ42.out; have := HJ54.out; have := HJ68.out; have := HK8.out; first | omega | exact Nat.le_refl _⟩, ⟨by (with_reducible repeat (first | apply Kd.R_alloc | apply Kd.R_drewN | apply Kd.R_drew)); exact Kd.R_mono HO_3.out (fun _ hk => ⟨hk.1, hk.2.1⟩)⟩, ⟨by (with_reducible repeat (first | apply Kd.R_alloc | apply Kd.R_drewN | apply Kd.R_drew)); exact Kd.R_mono HO_16.out (fun _ hk => ⟨hk.1, hk.2.1⟩)⟩, ⟨by (with_reducible repeat (first | apply Kd.R_alloc | apply Kd.R_drewN | apply Kd.R_drew)); exact Kd.R_mono HO_20.out (fun _ hk => ⟨hk.1, hk.2.1⟩)⟩, ⟨by repeat (first | (with_reducible first | exact HB.out | apply below_alloc | apply pw_below_drewN | apply below_drew1) | exact HB.out)⟩⟩
                               ·as_aux_lemma =>
                                rw [if_neg c85] at H
                                have c85b0 : ((rd t376 0) == 1) = false := beq_eq_false_iff_ne.mpr c85
                                have c85b1 : ((rd t376 0) != 1) = true := bne_iff_ne.mpr c85
                                as_aux_lemma =>
                                 obtain rfl := Option.some.inj H
                                 obtain ⟨Ao87, co87, eo87⟩ := Kd.R_slice HO_31.out
                                 subst eo87
                                 go_wp2_with (first | ((with_reducible refine gate_callee (f := 23) rfl ?_); refine goesL_ (some 230) rfl rfl Try.func23 (by kernel_rfl) rfl #[.slice Ao87 t376.length co87] rfl (by (try simp only [List.map_toArray, List.map_cons, List.map_nil]); first | done | rfl | (simp only [List.length_drop, List.length_take]; rfl)) ?_; (with_reducible refine (laws_rSum.calls k8 _ _ t376 t385 _ ?side1 ?side2 A81.out).mono ?_); (case side1 => repeat (first | exact (Kd.R_reads' HO_31.out).2.2 | (with_reducible refine Kd.C_alloc ?_ _) | (with_reducible refine Kd.C_drewN ?_ _) | (with_reducible refine Kd.C_drew ?_))); (case side2 => exact (Kd.R_reads' HO_31.out).2.1); rintro e w' ⟨rfl, ⟨nd, rfl⟩⟩; refine ⟨_, rfl, ?_⟩; have p386 : 0 ≤ (0 : Int) := (by omega); have q386 : 0 < (t376.length : Int) := of_decide_eq_true (by first | (with_reducible assumption) | assumption); obtain ⟨ad386, e386, hx386_0⟩ := Kd.at_int (Kd.R_reads' HO_31.out).2.2 0 p386 q386; cases e386; have qi386 : (0 < t376.length) = True := eq_true (by omega); (try rw [show ((0 : Int)).toNat = 0 from rfl] at hx386_0); (try rw [Addr.add_zero'] at hx386_0); replace p386 := eq_true p386; replace q386 := eq_true q386))
                                 go_ret
                                 exact ⟨by first | rfl | (simp [errW_none, errW_some] <;> rfl) | (simp [*, errW_none, errW_some] <;> rfl), by repeat (first | (with_reducible first | exact HB.out | apply below_alloc | apply pw_below_drewN | apply below_drew1) | exact HB.out)⟩
                              ·as_aux_lemma =>
                               rw [if_neg c84] at H
                               exact absurd H (by simp)
                             ·as_aux_lemma =>
                              rw [if_neg c83] at H
                              have c83b0 : ((t376.length : Int) == t375) = false := beq_eq_false_iff_ne.mpr c83
                              have c83b1 : ((t376.length : Int) != t375) = true := bne_iff_ne.mpr c83
                              as_aux_lemma =>
                               obtain rfl := Option.some.inj H
                               obtain ⟨Ao88, co88, eo88⟩ := Kd.R_slice HO_31.out
                               subst eo88
                               go_wp2_with (first | ((with_reducible refine gate_callee (f := 23) rfl ?_); refine goesL_ (some 230) rfl rfl Try.func23 (by kernel_rfl) rfl #[.slice Ao88 t376.length co88] rfl (by (try simp only [List.map_toArray, List.map_cons, List.map_nil]); first | done | rfl | (simp only [List.length_drop, List.length_take]; rfl)) ?_; (with_reducible refine (laws_rSum.calls k8 _ _ t376 t385 _ ?side1 ?side2 A81.out).mono ?_); (case side1 => repeat (first | exact (Kd.R_reads' HO_31.out).2.2 | (with_reducible refine Kd.C_alloc ?_ _) | (with_reducible refine Kd.C_drewN ?_ _) | (with_reducible refine Kd.C_drew ?_))); (case side2 => exact (Kd.R_reads' HO_31.out).2.1); rintro e w' ⟨rfl, ⟨nd, rfl⟩⟩; refine ⟨_, rfl, ?_⟩))
                               go_ret
                               exact ⟨by first | rfl | (simp [errW_none, errW_some] <;> rfl) | (simp [*, errW_none, errW_some] <;> rfl), by repeat (first | (with_reducible first | exact HB.out | apply below_alloc | apply pw_below_drewN | apply below_drew1) | exact HB.out)⟩
                            ·as_aux_lemma =>
                             rw [if_neg c82] at H
                             have c82b0 : (t385 == x35_8) = false := beq_eq_false_iff_ne.mpr c82
                             have c82b1 : (t385 != x35_8) = true := bne_iff_ne.mpr c82
                             as_aux_lemma =>
                              obtain rfl := Option.some.inj H
                              obtain ⟨Ao89, co89, eo89⟩ := Kd.R_slice HO_31.out
                              subst eo89
                              go_wp2_with (first | ((with_reducible refine gate_callee (f := 23) rfl ?_); refine goesL_ (some 230) rfl rfl Try.func23 (by kernel_rfl) rfl #[.slice Ao89 t376.length co89] rfl (by (try simp only [List.map_toArray, List.map_cons, List.map_nil]); first | done | rfl | (simp only [List.length_drop, List.length_take]; rfl)) ?_; (with_reducible refine (laws_rSum.calls k8 _ _ t376 t385 _ ?side1 ?side2 A81.out).mono ?_); (case side1 => repeat (first | exact (Kd.R_reads' HO_31.out).2.2 | (with_reducible refine Kd.C_alloc ?_ _) | (with_reducible refine Kd.C_drewN ?_ _) | (with_reducible refine Kd.C_drew ?_))); (case side2 => exact (Kd.R_reads' HO_31.out).2.1); rintro e w' ⟨rfl, ⟨nd, rfl⟩⟩; refine ⟨_, rfl, ?_⟩))
                              go_ret
                              exact ⟨by first | rfl | (simp [errW_none, errW_some] <;> rfl) | (simp [*, errW_none, errW_some] <;> rfl), by repeat (first | (with_reducible first | exact HB.out | apply below_alloc | apply pw_below_drewN | apply below_drew1) | exact HB.out)⟩
                        ·as_aux_lemma =>
                         replace c79 := Bool.eq_false_iff.mpr c79
                         subst c79
                         have H1 : (laws_FnChanges.j8 kj68 t327 t330 t331 t334 t342 t351) = some r := by rw [if_neg (show ¬ (false = true) by decide)] at H; exact H
                         clear H
                         have H := H1
                         clear H1
                         as_aux_lemma =>
                          have H' := Aside0.mk H
                          clear H
                          go_wp2
                          go_meet
                          case rel => exact ⟨_, H', ⟨by have := HJ6.out; have := HJ13.out; have := HJ22.out; have := HJ31.out; have := HJ42.out; have := HJ54.out; have := HJ68.out; first | omega | exact Nat.le_refl _⟩, ⟨by (with_reducible repeat (first | apply Kd.R_alloc | apply Kd.R_drewN | apply Kd.R_drew)); exact Kd.R_mono HO_3.out (fun _ hk => ⟨hk.1, hk.2.1⟩)⟩, ⟨by (with_reducible repeat (first | apply Kd.R_alloc | apply Kd.R_drewN | apply Kd.R_drew)); exact Kd.R_mono HO_16.out (fun _ hk => ⟨hk.1, hk.2.1⟩)⟩, ⟨by (with_reducible repeat (first | apply Kd.R_alloc | apply Kd.R_drewN | apply Kd.R_drew)); exact Kd.R_mono HO_20.out (fun _ hk => ⟨hk.1, hk.2.1⟩)⟩, ⟨by repeat (first | (with_reducible first | exact HB.out | apply below_alloc | apply pw_below_drewN | apply below_drew1) | exact HB.out)⟩⟩
                       case rest =>
                        clear HC78
                        try clear c1
                        try clear c2
                        try clear p2
                        try clear c3
                        try clear p3
                        try clear q3
                        try clear hx3
                        try clear qi3
                        try clear c4
                        try clear c5
                        try clear c6
                        try clear p6
                        try clear c7
                        try clear c8
                        try clear c9
                        try clear c10
                        try clear c10b0
                        try clear c10b1
                        try clear c11
                        try clear c12
                        try clear c13
                        try clear c15
                        try clear c16
                        try clear c17
                        try clear c17b0
                        try clear c17b1
                        try clear c18
                        try clear c18b0
                        try clear c18b1
                        try clear c18b2
                        try clear c19
                        try clear c19b0
                        try clear c19b1
                        try clear c19b2
                        try clear c20
                        try clear c21
                        try clear c22
                        try clear c23
                        try clear c26
                        try clear c26b0
                        try clear c26b1
                        try clear c27
                        try clear c27b0
                        try clear c27b1
                        try clear c27b2
                        try clear c28
                        try clear c28b0
                        try clear c28b1
                        try clear c28b2
                        try clear c29
                        try clear c35
                        try clear c35b0
                        try clear c35b1
                        try clear c35b2
                        try clear c36
                        try clear c36b0
                        try clear c36b1
                        try clear c36b2
                        try clear p38
                        try clear q38
                        try clear hx38
                        try clear qi38
                        try clear c40
                        try clear c46
                        try clear c46b0
                        try clear c46b1
                        try clear c46b2
                        try clear c47
                        try clear c47b0
                        try clear c47b1
                        try clear c47b2
                        try clear c51
                        try clear c61
                        try clear c61b0
                        try clear c61b1
                        try clear c61b2
                        try clear p64
                        try clear c65
                        try clear c73
                        try clear c73b0
                        try clear c73b1
                        try clear c73b2
                        try clear c77
                        try clear c79
                        try clear c80
                        try clear c80b0
                        try clear c82
                        try clear c82b0
                        try clear c82b1
                        try clear c83
                        try clear c83b0
                        try clear c83b1
                        try clear c84
                        try clear c84b0
                        try clear c84b1
                        try clear c85
                        try clear c85b0
                        try clear c85b1
                        try clear hx386_0
                        try clear p2
                        try clear p386
                        try clear p6
                        try clear p64
                        try clear q386
                        obtain ⟨kq, HA, HJ77, HO_3, HO_16, HO_20, HB⟩ := hcut
                        cases kq with
                        | zero => exact absurd HA.out (by simp [laws_FnChanges.j8])
                        | succ kj77 =>
                         have H := HA.out
                         clear HA
                         simp only [laws_FnChanges.j8] at H
                         by_cases c90 : t331 = true
                         ·as_aux_lemma =>
                          subst c90
                          have H1 : ((impl_AfterSwaps.f kj77 t327 t342).bind fun bt387 => (if bt387.2 = true then (laws_FnChanges.j9 kj77 t327 t330 t334 t351 bt387.1 ((t342.length : Int) != t330)) else (laws_FnChanges.j9 kj77 t327 t330 t334 t351 bt387.1 true))) = some r := by rw [if_pos rfl] at H; exact H
                          clear H
                          have H := H1
                          clear H1
                          replace H := Option.bind_eq_some_iff.mp H
                          obtain ⟨⟨t387, t388⟩, A910, H⟩ := H
                          replace H : (if t388 = true then (laws_FnChanges.j9 kj77 t327 t330 t334 t351 t387 ((t342.length : Int) != t330)) else (laws_FnChanges.j9 kj77 t327 t330 t334 t351 t387 true)) = some r := H
                          have A91 := Aside0.mk A910
                          clear A910
                          have HC92 := Aside0.mk H
                          clear H
                          obtain ⟨Ao93, co93, eo93⟩ := Kd.R_slice HO_16.out
                          subst eo93
                          go_upto_region 45 with (first | ((with_reducible refine gate_callee (f := 18) rfl ?_); refine goesL_ (some 250) rfl rfl Try.func18 (by kernel_rfl) rfl #[.slice Ao9 t327.length co9, .slice Ao93 t342.length co93] rfl (by (try simp only [List.map_toArray, List.map_cons, List.map_nil]); first | done | rfl | (simp only [List.length_drop, List.length_take]; rfl)) ?_; (with_reducible refine (impl_AfterSwaps.calls kj77 _ _ t327 _ _ t342 t387 t388 _ ?side1 ?side2 ?side3 ?side4 A91.out).mono ?_); (case side1 => repeat (first | exact (Kd.R_reads' HO_3.out).2.2 | (with_reducible refine Kd.C_alloc ?_ _) | (with_reducible refine Kd.C_drewN ?_ _) | (with_reducible refine Kd.C_drew ?_))); (case side2 => exact (Kd.R_reads' HO_3.out).2.1); (case side3 => repeat (first | exact (Kd.R_reads' HO_16.out).2.2 | (with_reducible refine Kd.C_alloc ?_ _) | (with_reducible refine Kd.C_drewN ?_ _) | (with_reducible refine Kd.C_drew ?_))); (case side4 => exact (Kd.R_reads' HO_16.out).2.1); rintro e w94 ⟨v389, rfl, ho0, hb⟩; refine ⟨_, rfl, ?_⟩; have n0_ := Aside0.mk (Kd.R_elder' (by (with_reducible repeat (first | apply Kd.R_alloc | apply Kd.R_drewN | apply Kd.R_drew)); exact HO_3.out) (Kd.R_base ho0) hb); have n1_ := Aside0.mk (Kd.R_elder' (by (with_reducible repeat (first | apply Kd.R_alloc | apply Kd.R_drewN | apply Kd.R_drew)); exact HO_16.out) (Kd.R_base ho0) hb); have n2_ := Aside0.mk (Kd.R_elder' (by (with_reducible repeat (first | apply Kd.R_alloc | apply Kd.R_drewN | apply Kd.R_drew)); exact HO_20.out) (Kd.R_base ho0) hb); have n3_ := Aside0.mk (Kd.R_lower (Kd.R_new' (Kd.R_new' (Kd.R_new' ho0 (Kd.R_lt (by (with_reducible repeat (first | apply Kd.R_alloc | apply Kd.R_drewN | apply Kd.R_drew)); exact HO_3.out))) (Kd.R_lt (by (with_reducible repeat (first | apply Kd.R_alloc | apply Kd.R_drewN | apply Kd.R_drew)); exact HO_16.out))) (Kd.R_lt (by (with_reducible repeat (first | apply Kd.R_alloc | apply Kd.R_drewN | apply Kd.R_drew)); exact HO_20.out))) (below_size (by repeat (first | (with_reducible first | exact HB.out | apply below_alloc | apply pw_below_drewN | apply below_drew1) | exact HB.out)))); have n4_ := Aside0.mk (below_step (by repeat (first | (with_reducible first | exact HB.out | apply below_alloc | apply pw_below_drewN | apply below_drew1) | exact HB.out)) hb); clear HO_3 HO_16 HO_20 HB; have HO_3 := n0_; have HO_16 := n1_; have HO_20 := n2_; have HO390 := n3_; have HB := n4_; clear n0_ n1_ n2_ n3_ n4_; (try clear hb); (try clear hb2); (try clear hk); (try clear hi); (try clear ho0)))
                          (try simp only [Act.put, List.setIfInBounds_toArray, List.set_cons_zero, List.set_cons_succ])
                          go_cut [260] (fun v260 wc => ∃ (kq : Nat) (x260_91 : Bool), v260 = .bool x260_91 ∧ Aside0 (laws_FnChanges.j9 kq t327 t330 t334 t351 t387 x260_91 = some r) ∧ Aside0 (kq ≤ kj77) ∧ Aside0 (Kd.R (Kd.int .i64) 3 wc w.heap.size (fun k_ => some k_ ≠ (v353 : Value).ownBlock ∧ some k_ ≠ (v389 : Value).ownBlock) (.slice Ao9 t327.length co9) t327) ∧ Aside0 (Kd.R (Kd.int .i64) 3 wc w.heap.size (fun k_ => some k_ ≠ ((.slice Ao9 t327.length co9) : Value).ownBlock ∧ some k_ ≠ (v389 : Value).ownBlock) v353 t351) ∧ Aside0 (Kd.R (Kd.int .i64) 3 wc w.heap.size (fun k_ => some k_ ≠ ((.slice Ao9 t327.length co9) : Value).ownBlock ∧ some k_ ≠ (v353 : Value).ownBlock) v389 t387) ∧ Aside0 (Below w.heap.size w wc))
                          case first =>
                           have H := HC92.out
                           clear HC92
                           by_cases c95 : t388 = true
                           ·as_aux_lemma =>
                            subst c95
                            have H1 : (laws_FnChanges.j9 kj77 t327 t330 t334 t351 t387 ((t342.length : Int) != t330)) = some r := by rw [if_pos rfl] at H; exact H
                            clear H
                            have H := H1
                            clear H1
                            as_aux_lemma =>
                             have H' := Aside0.mk H
                             clear H
                             go_wp2
                             go_meet
                             case rel => exact ⟨_, (((t342.length : Int) != t330)), (by first | rfl | (simp; done) | (simp [*]; done)), H', ⟨by have := HJ6.out; have := HJ13.out; have := HJ22.out; have := HJ31.out; have := HJ42.out; have := HJ54.out; have := HJ68.out; have := HJ77.out; first | omega | exact Nat.le_refl _⟩, ⟨by (with_reducible repeat (first | apply Kd.R_alloc | apply Kd.R_drewN | apply Kd.R_drew)); exact Kd.R_mono HO_3.out (fun _ hk => ⟨hk.1.2, hk.2⟩)⟩, ⟨by (with_reducible repeat (first | apply Kd.R_alloc | apply Kd.R_drewN | apply Kd.R_drew)); exact Kd.R_mono HO_20.out (fun _ hk => ⟨hk.1.1, hk.2⟩)⟩, ⟨by (with_reducible repeat (first | apply Kd.R_alloc | apply Kd.R_drewN | apply Kd.R_drew)); exact Kd.R_mono HO390.out (fun _ hk => ⟨hk.1.1.2, hk.2⟩)⟩, ⟨by repeat (first | (with_reducible first | exact HB.out | apply below_alloc | apply pw_below_drewN | apply below_drew1) | exact HB.out)⟩⟩
                           ·as_aux_lemma =>
                            replace c95 := Bool.eq_false_iff.mpr c95
                            subst c95
                            have H1 : (laws_FnChanges.j9 kj77 t327 t330 t334 t351 t387 true) = some r := by rw [if_neg (show ¬ (false = true) by decide)] at H; exact H
                            clear H
                            have H := H1
                            clear H1
                            as_aux_lemma =>
                             have H' := Aside0.mk H
                             clear H
                             go_wp2
                             go_meet
                             case rel => exact ⟨_, (true), (by first | rfl | (simp; done) | (simp [*]; done)), H', ⟨by have := HJ6.out; have := HJ13.out; have := HJ22.out; have := HJ31.out; have := HJ42.out; have := HJ54.out; have := HJ68.out; have := HJ77.out; first | omega | exact Nat.le_refl _⟩, ⟨by (with_reducible repeat (first | apply Kd.R_alloc | apply Kd.R_drewN | apply Kd.R_drew)); exact Kd.R_mono HO_3.out (fun _ hk => ⟨hk.1.2, hk.2⟩)⟩, ⟨by (with_reducible repeat (first | apply Kd.R_alloc | apply Kd.R_drewN | apply Kd.R_drew)); exact Kd.R_mono HO_20.out (fun _ hk => ⟨hk.1.1, hk.2⟩)⟩, ⟨by (with_reducible repeat (first | apply Kd.R_alloc | apply Kd.R_drewN | apply Kd.R_drew)); exact Kd.R_mono HO390.out (fun _ hk => ⟨hk.1.1.2, hk.2⟩)⟩, ⟨by repeat (first | (with_reducible first | exact HB.out | apply below_alloc | apply pw_below_drewN | apply below_drew1) | exact HB.out)⟩⟩
                          case rest =>
                           clear HC92
                           try clear c1
                           try clear c2
                           try clear p2
                           try clear c3
                           try clear p3
                           try clear q3
                           try clear hx3
                           try clear qi3
                           try clear c4
                           try clear c5
                           try clear c6
                           try clear p6
                           try clear c7
                           try clear c8
                           try clear c9
                           try clear c10
                           try clear c10b0
                           try clear c10b1
                           try clear c11
                           try clear c12
                           try clear c13
                           try clear c15
                           try clear c16
                           try clear c17
                           try clear c17b0
                           try clear c17b1
                           try clear c18
                           try clear c18b0
                           try clear c18b1
                           try clear c18b2
                           try clear c19
                           try clear c19b0
                           try clear c19b1
                           try clear c19b2
                           try clear c20
                           try clear c21
                           try clear c22
                           try clear c23
                           try clear c26
                           try clear c26b0
                           try clear c26b1
                           try clear c27
                           try clear c27b0
                           try clear c27b1
                           try clear c27b2
                           try clear c28
                           try clear c28b0
                           try clear c28b1
                           try clear c28b2
                           try clear c29
                           try clear c35
                           try clear c35b0
                           try clear c35b1
                           try clear c35b2
                           try clear c36
                           try clear c36b0
                           try clear c36b1
                           try clear c36b2
                           try clear p38
                           try clear q38
                           try clear hx38
                           try clear qi38
                           try clear c40
                           try clear c46
                           try clear c46b0
                           try clear c46b1
                           try clear c46b2
                           try clear c47
                           try clear c47b0
                           try clear c47b1
                           try clear c47b2
                           try clear c51
                           try clear c61
                           try clear c61b0
                           try clear c61b1
                           try clear c61b2
                           try clear p64
                           try clear c65
                           try clear c73
                           try clear c73b0
                           try clear c73b1
                           try clear c73b2
                           try clear c77
                           try clear c79
                           try clear c80
                           try clear c80b0
                           try clear c82
                           try clear c82b0
                           try clear c82b1
                           try clear c83
                           try clear c83b0
                           try clear c83b1
                           try clear c84
                           try clear c84b0
                           try clear c84b1
                           try clear c85
                           try clear c85b0
                           try clear c85b1
                           try clear c90
                           try clear c95
                           try clear hx386_0
                           try clear p2
                           try clear p3
                           try clear p38
                           try clear p386
                           try clear p6
                           try clear p64
                           try clear q3
                           try clear q38
                           try clear q386
                           obtain ⟨kq, x260_91, rfl, HA, HJ91, HO_3, HO_20, HO_37, HB⟩ := hcut
                           cases kq with
                           | zero => exact absurd HA.out (by simp [laws_FnChanges.j9])
                           | succ kj91 =>
                            have H := HA.out
                            clear HA
                            simp only [laws_FnChanges.j9] at H
                            by_cases c96 : x260_91 = true
                            ·as_aux_lemma =>
                             subst c96
                             have H1 : (some false) = some r := by rw [if_pos rfl] at H; exact H
                             clear H
                             have H := H1
                             clear H1
                             as_aux_lemma =>
                              obtain rfl := Option.some.inj H
                              go_wp2
                              go_ret
                              exact ⟨by first | rfl | (simp [errW_none, errW_some] <;> rfl) | (simp [*, errW_none, errW_some] <;> rfl), by repeat (first | (with_reducible first | exact HB.out | apply below_alloc | apply pw_below_drewN | apply below_drew1) | exact HB.out)⟩
                            ·as_aux_lemma =>
                             replace c96 := Bool.eq_false_iff.mpr c96
                             subst c96
                             have H1 : (laws_FnChanges.l1 kj91 t327 t330 t334 t351 t387 0) = some r := by rw [if_neg (show ¬ (false = true) by decide)] at H; exact H
                             clear H
                             have H := H1
                             clear H1
                             have H' := Aside0.mk H
                             clear H
                             go_wp2
                             go_loopg [39] kj91 (fun kq v39 w' => ∃ (x39_10 : Int), v39 = .int .i64 x39_10 ∧ Aside0 (laws_FnChanges.l1 kq t327 t330 t334 t351 t387 x39_10 = some r) ∧ Aside0 (kq ≤ kj91) ∧ Aside0 (Kd.R (Kd.int .i64) 3 w' w.heap.size (fun k_ => some k_ ≠ (v353 : Value).ownBlock ∧ some k_ ≠ (v389 : Value).ownBlock) (.slice Ao9 t327.length co9) t327) ∧ Aside0 (Kd.R (Kd.int .i64) 3 w' w.heap.size (fun k_ => some k_ ≠ ((.slice Ao9 t327.length co9) : Value).ownBlock ∧ some k_ ≠ (v389 : Value).ownBlock) v353 t351) ∧ Aside0 (Kd.R (Kd.int .i64) 3 w' w.heap.size (fun k_ => some k_ ≠ ((.slice Ao9 t327.length co9) : Value).ownBlock ∧ some k_ ≠ (v353 : Value).ownBlock) v389 t387) ∧ Aside0 (Below w.heap.size w w'))
                             case atStart => exact ⟨(0), (by first | rfl | (simp; done) | (simp [*]; done)), H', ⟨Nat.le_refl _⟩, ⟨by (with_reducible repeat (first | apply Kd.R_alloc | apply Kd.R_drewN | apply Kd.R_drew)); exact HO_3.out⟩, ⟨by (with_reducible repeat (first | apply Kd.R_alloc | apply Kd.R_drewN | apply Kd.R_drew)); exact HO_20.out⟩, ⟨by (with_reducible repeat (first | apply Kd.R_alloc | apply Kd.R_drewN | apply Kd.R_drew)); exact HO_37.out⟩, ⟨by repeat (first | (with_reducible first | exact HB.out | apply below_alloc | apply pw_below_drewN | apply below_drew1) | exact HB.out)⟩⟩
                             case round =>
                              as_aux_lemma =>
                              clear H'
                              try clear c1
                              try clear c2
                              try clear p2
                              try clear c3
                              try clear p3
                              try clear q3
                              try clear hx3
                              try clear qi3
                              try clear c4
                              try clear c5
                              try clear c6
                              try clear p6
                              try clear c7
                              try clear c8
                              try clear c9
                              try clear c10
                              try clear c10b0
                              try clear c10b1
                              try clear c11
                              try clear c12
                              try clear c13
                              try clear c15
                              try clear c16
                              try clear c17
                              try clear c17b0
                              try clear c17b1
                              try clear c18
                              try clear c18b0
                              try clear c18b1
                              try clear c18b2
                              try clear c19
                              try clear c19b0
                              try clear c19b1
                              try clear c19b2
                              try clear c20
                              try clear c21
                              try clear c22
                              try clear c23
                              try clear c26
                              try clear c26b0
                              try clear c26b1
                              try clear c27
                              try clear c27b0
                              try clear c27b1
                              try clear c27b2
                              try clear c28
                              try clear c28b0
                              try clear c28b1
                              try clear c28b2
                              try clear c29
                              try clear c35
                              try clear c35b0
                              try clear c35b1
                              try clear c35b2
                              try clear c36
                              try clear c36b0
                              try clear c36b1
                              try clear c36b2
                              try clear p38
                              try clear q38
                              try clear hx38
                              try clear qi38
                              try clear c40
                              try clear c46
                              try clear c46b0
                              try clear c46b1
                              try clear c46b2
                              try clear c47
                              try clear c47b0
                              try clear c47b1
                              try clear c47b2
                              try clear c51
                              try clear c61
                              try clear c61b0
                              try clear c61b1
                              try clear c61b2
                              try clear p64
                              try clear c65
                              try clear c73
                              try clear c73b0
                              try clear c73b1
                              try clear c73b2
                              try clear c77
                              try clear c79
                              try clear c80
                              try clear c80b0
                              try clear c82
                              try clear c82b0
                              try clear c82b1
                              try clear c83
                              try clear c83b0
                              try clear c83b1
                              try clear c84
                              try clear c84b0
                              try clear c84b1
                              try clear c85
                              try clear c85b0
                              try clear c85b1
                              try clear c90
                              try clear c95
                              try clear c96
                              try clear hx386_0
                              try clear p2
                              try clear p3
                              try clear p38
                              try clear p386
                              try clear p6
                              try clear p64
                              try clear q3
                              try clear q38
                              try clear q386
                              obtain ⟨x39_10, rfl, HA, HK10, HO_3, HO_20, HO_37, HB⟩ := hrel
                              cases gk with
                              | zero => exact absurd HA.out (by simp [laws_FnChanges.l1])
                              | succ k10 =>
                               have H := HA.out
                               clear HA
                               simp only [laws_FnChanges.l1] at H
                               by_cases c97 : x39_10 < (t387.length : Int)
                               ·as_aux_lemma =>
                                rw [if_pos c97] at H
                                have c97b0 : decide (x39_10 < (t387.length : Int)) = true := decide_eq_true c97
                                clear c97
                                by_cases c98 : 0 ≤ x39_10
                                ·as_aux_lemma =>
                                 rw [if_pos c98] at H
                                 have c98b0 : decide (0 ≤ x39_10) = true := decide_eq_true c98
                                 clear c98
                                 by_cases c99 : (rd t387 x39_10) = x39_10
                                 ·as_aux_lemma =>
                                  rw [if_pos c99] at H
                                  have c99b0 : ((rd t387 x39_10) == x39_10) = true := beq_iff_eq.mpr c99
                                  have c99b1 : ((rd t387 x39_10) != x39_10) = false := bne_eq_false_iff_eq.mpr c99
                                  clear c99
                                  as_aux_lemma =>
                                   have H' := Aside0.mk H
                                   clear H
                                   obtain ⟨Ao100, co100, eo100⟩ := Kd.R_slice HO_37.out
                                   subst eo100
                                   have p391 : 0 ≤ (x39_10 : Int) := of_decide_eq_true (by first | (with_reducible assumption) | assumption)
                                   have q391 : x39_10 < (t387.length : Int) := of_decide_eq_true (by first | (with_reducible assumption) | assumption)
                                   obtain ⟨ad391, e391, hx391_0⟩ := Kd.at_int (Kd.R_reads' HO_37.out).2.2 x39_10 p391 q391
                                   cases e391
                                   replace p391 := eq_true p391
                                   replace q391 := eq_true q391
                                   go_wp2
                                   go_roundg k10
                                   case measure => have := HJ6.out; have := HJ13.out; have := HJ22.out; have := HJ31.out; have := HJ42.out; have := HJ54.out; have := HJ68.out; have := HJ77.out; have := HJ91.out; have := HK10.out; omega
                                   case rel => exact ⟨(wrap64 (x39_10 + 1)), (by first | rfl | (simp; done) | (simp [*]; done)), H', ⟨by have := HJ6.out; have := HJ13.out; have := HJ22.out; have := HJ31.out; have := HJ42.out; have := HJ54.out; have := HJ68.out; have := HJ77.out; have := HJ91.out; have := HK10.out; omega⟩, ⟨by (with_reducible repeat (first | apply Kd.R_alloc | apply Kd.R_drewN | apply Kd.R_drew)); exact HO_3.out⟩, ⟨by (with_reducible repeat (first | apply Kd.R_alloc | apply Kd.R_drewN | apply Kd.R_drew)); exact HO_20.out⟩, ⟨by (with_reducible repeat (first | apply Kd.R_alloc | apply Kd.R_drewN | apply Kd.R_drew)); exact HO_37.out⟩, ⟨by repeat (first | (with_reducible first | exact HB.out | apply below_alloc | apply pw_below_drewN | apply below_drew1) | exact HB.out)⟩⟩
                                 ·as_aux_lemma =>
                                  rw [if_neg c99] at H
                                  have c99b0 : ((rd t387 x39_10) == x39_10) = false := beq_eq_false_iff_ne.mpr c99
                                  have c99b1 : ((rd t387 x39_10) != x39_10) = true := bne_iff_ne.mpr c99
                                  as_aux_lemma =>
                                   obtain rfl := Option.some.inj H
                                   obtain ⟨Ao101, co101, eo101⟩ := Kd.R_slice HO_37.out
                                   subst eo101
                                   have p391 : 0 ≤ (x39_10 : Int) := of_decide_eq_true (by first | (with_reducible assumption) | assumption)
                                   have q391 : x39_10 < (t387.length : Int) := of_decide_eq_true (by first | (with_reducible assumption) | assumption)
                                   obtain ⟨ad391, e391, hx391_0⟩ := Kd.at_int (Kd.R_reads' HO_37.out).2.2 x39_10 p391 q391
                                   cases e391
                                   replace p391 := eq_true p391
                                   replace q391 := eq_true q391
                                   go_wp2
                                   go_ret
                                   exact ⟨by first | rfl | (simp [errW_none, errW_some] <;> rfl) | (simp [*, errW_none, errW_some] <;> rfl), by repeat (first | (with_reducible first | exact HB.out | apply below_alloc | apply pw_below_drewN | apply below_drew1) | exact HB.out)⟩
                                ·as_aux_lemma =>
                                 rw [if_neg c98] at H
                                 exact absurd H (by simp)
                               ·as_aux_lemma =>
                                rw [if_neg c97] at H
                                have c97b0 : decide (x39_10 < (t387.length : Int)) = false := decide_eq_false c97
                                clear c97
                                replace H := Option.bind_eq_some_iff.mp H
                                obtain ⟨⟨t392, t393⟩, A1020, H⟩ := H
                                replace H : ((impl_FreeSwaps.f k10 t351).bind fun bt394 => ((impl_BackChange.f k10 t351).bind fun bt396 => (if t393 = true then (if bt394.2 = true then (if bt396.2 = true then (if t392 = t330 then (if bt394.1 = t334 then ((laws_rInts.f k10 bt396.1 t327).bind fun t400 => (some t400)) else (some false)) else (some false)) else (some false)) else (some false)) else (some false)))) = some r := H
                                have A102 := Aside0.mk A1020
                                clear A1020
                                replace H := Option.bind_eq_some_iff.mp H
                                obtain ⟨⟨t394, t395⟩, A1030, H⟩ := H
                                replace H : ((impl_BackChange.f k10 t351).bind fun bt396 => (if t393 = true then (if t395 = true then (if bt396.2 = true then (if t392 = t330 then (if t394 = t334 then ((laws_rInts.f k10 bt396.1 t327).bind fun t400 => (some t400)) else (some false)) else (some false)) else (some false)) else (some false)) else (some false))) = some r := H
                                have A103 := Aside0.mk A1030
                                clear A1030
                                replace H := Option.bind_eq_some_iff.mp H
                                obtain ⟨⟨t396, t397⟩, A1040, H⟩ := H
                                replace H : (if t393 = true then (if t395 = true then (if t397 = true then (if t392 = t330 then (if t394 = t334 then ((laws_rInts.f k10 t396 t327).bind fun t400 => (some t400)) else (some false)) else (some false)) else (some false)) else (some false)) else (some false)) = some r := H
                                have A104 := Aside0.mk A1040
                                clear A1040
                                by_cases c105 : t393 = true
                                ·as_aux_lemma =>
                                 subst c105
                                 have H1 : (if t395 = true then (if t397 = true then (if t392 = t330 then (if t394 = t334 then ((laws_rInts.f k10 t396 t327).bind fun t400 => (some t400)) else (some false)) else (some false)) else (some false)) else (some false)) = some r := by rw [if_pos rfl] at H; exact H
                                 clear H
                                 have H := H1
                                 clear H1
                                 by_cases c106 : t395 = true
                                 ·as_aux_lemma =>
                                  subst c106
                                  have H1 : (if t397 = true then (if t392 = t330 then (if t394 = t334 then ((laws_rInts.f k10 t396 t327).bind fun t400 => (some t400)) else (some false)) else (some false)) else (some false)) = some r := by rw [if_pos rfl] at H; exact H
                                  clear H
                                  have H := H1
                                  clear H1
                                  by_cases c107 : t397 = true
                                  ·as_aux_lemma =>
                                   subst c107
                                   have H1 : (if t392 = t330 then (if t394 = t334 then ((laws_rInts.f k10 t396 t327).bind fun t400 => (some t400)) else (some false)) else (some false)) = some r := by rw [if_pos rfl] at H; exact H
                                   clear H
                                   have H := H1
                                   clear H1
                                   by_cases c108 : t392 = t330
                                   ·as_aux_lemma =>
                                    rw [if_pos c108] at H
                                    have c108b0 : (t392 == t330) = true := beq_iff_eq.mpr c108
                                    have c108b1 : (t392 != t330) = false := bne_eq_false_iff_eq.mpr c108
                                    clear c108
                                    by_cases c109 : t394 = t334
                                    ·as_aux_lemma =>
                                     rw [if_pos c109] at H
                                     have c109b0 : (t394 == t334) = true := beq_iff_eq.mpr c109
                                     have c109b1 : (t394 != t334) = false := bne_eq_false_iff_eq.mpr c109
                                     clear c109
                                     replace H := Option.bind_eq_some_iff.mp H
                                     obtain ⟨t400, A1100, H⟩ := H
                                     replace H : (some t400) = some r := H
                                     have A110 := Aside0.mk A1100
                                     clear A1100
                                     as_aux_lemma =>
                                      obtain rfl := Option.some.inj H
                                      obtain ⟨Ao111, co111, eo111⟩ := Kd.R_slice HO_37.out
                                      subst eo111
                                      obtain ⟨Ao112, co112, eo112⟩ := Kd.R_slice HO_20.out
                                      subst eo112
                                      go_wp2_with (first | ((with_reducible refine gate_callee (f := 6) rfl ?_); refine goesL_ (some 275) rfl rfl Try.func6 (by kernel_rfl) rfl #[.slice Ao112 t351.length co112] rfl (by (try simp only [List.map_toArray, List.map_cons, List.map_nil]); first | done | rfl | (simp only [List.length_drop, List.length_take]; rfl)) ?_; (with_reducible refine (impl_SideSwaps.calls k10 _ _ t351 t392 true _ ?side1 ?side2 A102.out).mono ?_); (case side1 => repeat (first | exact (Kd.R_reads' HO_20.out).2.2 | (with_reducible refine Kd.C_alloc ?_ _) | (with_reducible refine Kd.C_drewN ?_ _) | (with_reducible refine Kd.C_drew ?_))); (case side2 => exact (Kd.R_reads' HO_20.out).2.1); rintro e w' ⟨rfl, ⟨nd, rfl⟩⟩; refine ⟨_, rfl, ?_⟩) | ((with_reducible refine gate_callee (f := 8) rfl ?_); refine goesL_ (some 280) rfl rfl Try.func8 (by kernel_rfl) rfl #[.slice Ao112 t351.length co112] rfl (by (try simp only [List.map_toArray, List.map_cons, List.map_nil]); first | done | rfl | (simp only [List.length_drop, List.length_take]; rfl)) ?_; (with_reducible refine (impl_FreeSwaps.calls k10 _ _ t351 t394 true _ ?side1 ?side2 A103.out).mono ?_); (case side1 => repeat (first | exact (Kd.R_reads' HO_20.out).2.2 | (with_reducible refine Kd.C_alloc ?_ _) | (with_reducible refine Kd.C_drewN ?_ _) | (with_reducible refine Kd.C_drew ?_))); (case side2 => exact (Kd.R_reads' HO_20.out).2.1); rintro e w113 ⟨rfl, hb⟩; refine ⟨_, rfl, ?_⟩; have n0_ := Aside0.mk (Kd.R_below (by (with_reducible repeat (first | apply Kd.R_alloc | apply Kd.R_drewN | apply Kd.R_drew)); exact HO_3.out) hb); have n1_ := Aside0.mk (Kd.R_below (by (with_reducible repeat (first | apply Kd.R_alloc | apply Kd.R_drewN | apply Kd.R_drew)); exact HO_20.out) hb); have n2_ := Aside0.mk (Kd.R_below (by (with_reducible repeat (first | apply Kd.R_alloc | apply Kd.R_drewN | apply Kd.R_drew)); exact HO_37.out) hb); have n3_ := Aside0.mk (below_step (by repeat (first | (with_reducible first | exact HB.out | apply below_alloc | apply pw_below_drewN | apply below_drew1) | exact HB.out)) hb); clear HO_3 HO_20 HO_37 HB; have HO_3 := n0_; have HO_20 := n1_; have HO_37 := n2_; have HB := n3_; clear n0_ n1_ n2_ n3_; (try clear hb); (try clear hb2); (try clear hk); (try clear hi)) | ((with_reducible refine gate_callee (f := 15) rfl ?_); refine goesL_ (some 285) rfl rfl Try.func15 (by kernel_rfl) rfl #[.slice Ao112 t351.length co112] rfl (by (try simp only [List.map_toArray, List.map_cons, List.map_nil]); first | done | rfl | (simp only [List.length_drop, List.length_take]; rfl)) ?_; (with_reducible refine (impl_BackChange.calls k10 _ _ t351 t396 true _ ?side1 ?side2 A104.out).mono ?_); (case side1 => repeat (first | exact (Kd.R_reads' HO_20.out).2.2 | (with_reducible refine Kd.C_alloc ?_ _) | (with_reducible refine Kd.C_drewN ?_ _) | (with_reducible refine Kd.C_drew ?_))); (case side2 => exact (Kd.R_reads' HO_20.out).2.1); rintro e w114 ⟨v398, rfl, ho0, hb⟩; refine ⟨_, rfl, ?_⟩; have n0_ := Aside0.mk (Kd.R_elder' (by (with_reducible repeat (first | apply Kd.R_alloc | apply Kd.R_drewN | apply Kd.R_drew)); exact HO_3.out) (Kd.R_base ho0) hb); have n1_ := Aside0.mk (Kd.R_elder' (by (with_reducible repeat (first | apply Kd.R_alloc | apply Kd.R_drewN | apply Kd.R_drew)); exact HO_20.out) (Kd.R_base ho0) hb); have n2_ := Aside0.mk (Kd.R_elder' (by (with_reducible repeat (first | apply Kd.R_alloc | apply Kd.R_drewN | apply Kd.R_drew)); exact HO_37.out) (Kd.R_base ho0) hb); have n3_ := Aside0.mk (Kd.R_lower (Kd.R_new' (Kd.R_new' (Kd.R_new' ho0 (Kd.R_lt (by (with_reducible repeat (first | apply Kd.R_alloc | apply Kd.R_drewN | apply Kd.R_drew)); exact HO_3.out))) (Kd.R_lt (by (with_reducible repeat (first | apply Kd.R_alloc | apply Kd.R_drewN | apply Kd.R_drew)); exact HO_20.out))) (Kd.R_lt (by (with_reducible repeat (first | apply Kd.R_alloc | apply Kd.R_drewN | apply Kd.R_drew)); exact HO_37.out))) (below_size (by repeat (first | (with_reducible first | exact HB.out | apply below_alloc | apply pw_below_drewN | apply below_drew1) | exact HB.out)))); have n4_ := Aside0.mk (below_step (by repeat (first | (with_reducible first | exact HB.out | apply below_alloc | apply pw_below_drewN | apply below_drew1) | exact HB.out)) hb); clear HO_3 HO_20 HO_37 HB; have HO_3 := n0_; have HO_20 := n1_; have HO_37 := n2_; have HO399 := n3_; have HB := n4_; clear n0_ n1_ n2_ n3_ n4_; (try clear hb); (try clear hb2); (try clear hk); (try clear hi); (try clear ho0); obtain ⟨Ao115, co115, eo115⟩ := Kd.R_slice HO399.out; subst eo115) | (go_at_call 14; (with_reducible refine (laws_rInts.calls k10 _ _ t396 _ _ t327 t400 _ ?side1 ?side2 ?side3 ?side4 A110.out).mono ?_); (case side1 => repeat (first | exact (Kd.R_reads' HO399.out).2.2 | (with_reducible refine Kd.C_alloc ?_ _) | (with_reducible refine Kd.C_drewN ?_ _) | (with_reducible refine Kd.C_drew ?_))); (case side2 => exact (Kd.R_reads' HO399.out).2.1); (case side3 => repeat (first | exact (Kd.R_reads' HO_3.out).2.2 | (with_reducible refine Kd.C_alloc ?_ _) | (with_reducible refine Kd.C_drewN ?_ _) | (with_reducible refine Kd.C_drew ?_))); (case side4 => exact (Kd.R_reads' HO_3.out).2.1); rintro e w' ⟨rfl, ⟨nd, rfl⟩⟩))
                                      go_ret
                                      exact ⟨by first | rfl | (simp [errW_none, errW_some] <;> rfl) | (simp [*, errW_none, errW_some] <;> rfl), by repeat (first | (with_reducible first | exact HB.out | apply below_alloc | apply pw_below_drewN | apply below_drew1) | exact HB.out)⟩
                                    ·as_aux_lemma =>
                                     rw [if_neg c109] at H
                                     have c109b0 : (t394 == t334) = false := beq_eq_false_iff_ne.mpr c109
                                     have c109b1 : (t394 != t334) = true := bne_iff_ne.mpr c109
                                     as_aux_lemma =>
                                      obtain rfl := Option.some.inj H
                                      obtain ⟨Ao116, co116, eo116⟩ := Kd.R_slice HO_37.out
                                      subst eo116
                                      obtain ⟨Ao117, co117, eo117⟩ := Kd.R_slice HO_20.out
                                      subst eo117
                                      go_wp2_with (first | ((with_reducible refine gate_callee (f := 6) rfl ?_); refine goesL_ (some 275) rfl rfl Try.func6 (by kernel_rfl) rfl #[.slice Ao117 t351.length co117] rfl (by (try simp only [List.map_toArray, List.map_cons, List.map_nil]); first | done | rfl | (simp only [List.length_drop, List.length_take]; rfl)) ?_; (with_reducible refine (impl_SideSwaps.calls k10 _ _ t351 t392 true _ ?side1 ?side2 A102.out).mono ?_); (case side1 => repeat (first | exact (Kd.R_reads' HO_20.out).2.2 | (with_reducible refine Kd.C_alloc ?_ _) | (with_reducible refine Kd.C_drewN ?_ _) | (with_reducible refine Kd.C_drew ?_))); (case side2 => exact (Kd.R_reads' HO_20.out).2.1); rintro e w' ⟨rfl, ⟨nd, rfl⟩⟩; refine ⟨_, rfl, ?_⟩) | ((with_reducible refine gate_callee (f := 8) rfl ?_); refine goesL_ (some 280) rfl rfl Try.func8 (by kernel_rfl) rfl #[.slice Ao117 t351.length co117] rfl (by (try simp only [List.map_toArray, List.map_cons, List.map_nil]); first | done | rfl | (simp only [List.length_drop, List.length_take]; rfl)) ?_; (with_reducible refine (impl_FreeSwaps.calls k10 _ _ t351 t394 true _ ?side1 ?side2 A103.out).mono ?_); (case side1 => repeat (first | exact (Kd.R_reads' HO_20.out).2.2 | (with_reducible refine Kd.C_alloc ?_ _) | (with_reducible refine Kd.C_drewN ?_ _) | (with_reducible refine Kd.C_drew ?_))); (case side2 => exact (Kd.R_reads' HO_20.out).2.1); rintro e w118 ⟨rfl, hb⟩; refine ⟨_, rfl, ?_⟩; have n0_ := Aside0.mk (Kd.R_below (by (with_reducible repeat (first | apply Kd.R_alloc | apply Kd.R_drewN | apply Kd.R_drew)); exact HO_3.out) hb); have n1_ := Aside0.mk (Kd.R_below (by (with_reducible repeat (first | apply Kd.R_alloc | apply Kd.R_drewN | apply Kd.R_drew)); exact HO_20.out) hb); have n2_ := Aside0.mk (Kd.R_below (by (with_reducible repeat (first | apply Kd.R_alloc | apply Kd.R_drewN | apply Kd.R_drew)); exact HO_37.out) hb); have n3_ := Aside0.mk (below_step (by repeat (first | (with_reducible first | exact HB.out | apply below_alloc | apply pw_below_drewN | apply below_drew1) | exact HB.out)) hb); clear HO_3 HO_20 HO_37 HB; have HO_3 := n0_; have HO_20 := n1_; have HO_37 := n2_; have HB := n3_; clear n0_ n1_ n2_ n3_; (try clear hb); (try clear hb2); (try clear hk); (try clear hi)) | ((with_reducible refine gate_callee (f := 15) rfl ?_); refine goesL_ (some 285) rfl rfl Try.func15 (by kernel_rfl) rfl #[.slice Ao117 t351.length co117] rfl (by (try simp only [List.map_toArray, List.map_cons, List.map_nil]); first | done | rfl | (simp only [List.length_drop, List.length_take]; rfl)) ?_; (with_reducible refine (impl_BackChange.calls k10 _ _ t351 t396 true _ ?side1 ?side2 A104.out).mono ?_); (case side1 => repeat (first | exact (Kd.R_reads' HO_20.out).2.2 | (with_reducible refine Kd.C_alloc ?_ _) | (with_reducible refine Kd.C_drewN ?_ _) | (with_reducible refine Kd.C_drew ?_))); (case side2 => exact (Kd.R_reads' HO_20.out).2.1); rintro e w119 ⟨v398, rfl, ho0, hb⟩; refine ⟨_, rfl, ?_⟩; have n0_ := Aside0.mk (Kd.R_elder' (by (with_reducible repeat (first | apply Kd.R_alloc | apply Kd.R_drewN | apply Kd.R_drew)); exact HO_3.out) (Kd.R_base ho0) hb); have n1_ := Aside0.mk (Kd.R_elder' (by (with_reducible repeat (first | apply Kd.R_alloc | apply Kd.R_drewN | apply Kd.R_drew)); exact HO_20.out) (Kd.R_base ho0) hb); have n2_ := Aside0.mk (Kd.R_elder' (by (with_reducible repeat (first | apply Kd.R_alloc | apply Kd.R_drewN | apply Kd.R_drew)); exact HO_37.out) (Kd.R_base ho0) hb); have n3_ := Aside0.mk (Kd.R_lower (Kd.R_new' (Kd.R_new' (Kd.R_new' ho0 (Kd.R_lt (by (with_reducible repeat (first | apply Kd.R_alloc | apply Kd.R_drewN | apply Kd.R_drew)); exact HO_3.out))) (Kd.R_lt (by (with_reducible repeat (first | apply Kd.R_alloc | apply Kd.R_drewN | apply Kd.R_drew)); exact HO_20.out))) (Kd.R_lt (by (with_reducible repeat (first | apply Kd.R_alloc | apply Kd.R_drewN | apply Kd.R_drew)); exact HO_37.out))) (below_size (by repeat (first | (with_reducible first | exact HB.out | apply below_alloc | apply pw_below_drewN | apply below_drew1) | exact HB.out)))); have n4_ := Aside0.mk (below_step (by repeat (first | (with_reducible first | exact HB.out | apply below_alloc | apply pw_below_drewN | apply below_drew1) | exact HB.out)) hb); clear HO_3 HO_20 HO_37 HB; have HO_3 := n0_; have HO_20 := n1_; have HO_37 := n2_; have HO399 := n3_; have HB := n4_; clear n0_ n1_ n2_ n3_ n4_; (try clear hb); (try clear hb2); (try clear hk); (try clear hi); (try clear ho0)))
                                      go_ret
                                      exact ⟨by first | rfl | (simp [errW_none, errW_some] <;> rfl) | (simp [*, errW_none, errW_some] <;> rfl), by repeat (first | (with_reducible first | exact HB.out | apply below_alloc | apply pw_below_drewN | apply below_drew1) | exact HB.out)⟩
                                   ·as_aux_lemma =>
                                    rw [if_neg c108] at H
                                    have c108b0 : (t392 == t330) = false := beq_eq_false_iff_ne.mpr c108
                                    have c108b1 : (t392 != t330) = true := bne_iff_ne.mpr c108
                                    as_aux_lemma =>
                                     obtain rfl := Option.some.inj H
                                     obtain ⟨Ao120, co120, eo120⟩ := Kd.R_slice HO_37.out
                                     subst eo120
                                     obtain ⟨Ao121, co121, eo121⟩ := Kd.R_slice HO_20.out
                                     subst eo121
                                     go_wp2_with (first | ((with_reducible refine gate_callee (f := 6) rfl ?_); refine goesL_ (some 275) rfl rfl Try.func6 (by kernel_rfl) rfl #[.slice Ao121 t351.length co121] rfl (by (try simp only [List.map_toArray, List.map_cons, List.map_nil]); first | done | rfl | (simp only [List.length_drop, List.length_take]; rfl)) ?_; (with_reducible refine (impl_SideSwaps.calls k10 _ _ t351 t392 true _ ?side1 ?side2 A102.out).mono ?_); (case side1 => repeat (first | exact (Kd.R_reads' HO_20.out).2.2 | (with_reducible refine Kd.C_alloc ?_ _) | (with_reducible refine Kd.C_drewN ?_ _) | (with_reducible refine Kd.C_drew ?_))); (case side2 => exact (Kd.R_reads' HO_20.out).2.1); rintro e w' ⟨rfl, ⟨nd, rfl⟩⟩; refine ⟨_, rfl, ?_⟩) | ((with_reducible refine gate_callee (f := 8) rfl ?_); refine goesL_ (some 280) rfl rfl Try.func8 (by kernel_rfl) rfl #[.slice Ao121 t351.length co121] rfl (by (try simp only [List.map_toArray, List.map_cons, List.map_nil]); first | done | rfl | (simp only [List.length_drop, List.length_take]; rfl)) ?_; (with_reducible refine (impl_FreeSwaps.calls k10 _ _ t351 t394 true _ ?side1 ?side2 A103.out).mono ?_); (case side1 => repeat (first | exact (Kd.R_reads' HO_20.out).2.2 | (with_reducible refine Kd.C_alloc ?_ _) | (with_reducible refine Kd.C_drewN ?_ _) | (with_reducible refine Kd.C_drew ?_))); (case side2 => exact (Kd.R_reads' HO_20.out).2.1); rintro e w122 ⟨rfl, hb⟩; refine ⟨_, rfl, ?_⟩; have n0_ := Aside0.mk (Kd.R_below (by (with_reducible repeat (first | apply Kd.R_alloc | apply Kd.R_drewN | apply Kd.R_drew)); exact HO_3.out) hb); have n1_ := Aside0.mk (Kd.R_below (by (with_reducible repeat (first | apply Kd.R_alloc | apply Kd.R_drewN | apply Kd.R_drew)); exact HO_20.out) hb); have n2_ := Aside0.mk (Kd.R_below (by (with_reducible repeat (first | apply Kd.R_alloc | apply Kd.R_drewN | apply Kd.R_drew)); exact HO_37.out) hb); have n3_ := Aside0.mk (below_step (by repeat (first | (with_reducible first | exact HB.out | apply below_alloc | apply pw_below_drewN | apply below_drew1) | exact HB.out)) hb); clear HO_3 HO_20 HO_37 HB; have HO_3 := n0_; have HO_20 := n1_; have HO_37 := n2_; have HB := n3_; clear n0_ n1_ n2_ n3_; (try clear hb); (try clear hb2); (try clear hk); (try clear hi)) | ((with_reducible refine gate_callee (f := 15) rfl ?_); refine goesL_ (some 285) rfl rfl Try.func15 (by kernel_rfl) rfl #[.slice Ao121 t351.length co121] rfl (by (try simp only [List.map_toArray, List.map_cons, List.map_nil]); first | done | rfl | (simp only [List.length_drop, List.length_take]; rfl)) ?_; (with_reducible refine (impl_BackChange.calls k10 _ _ t351 t396 true _ ?side1 ?side2 A104.out).mono ?_); (case side1 => repeat (first | exact (Kd.R_reads' HO_20.out).2.2 | (with_reducible refine Kd.C_alloc ?_ _) | (with_reducible refine Kd.C_drewN ?_ _) | (with_reducible refine Kd.C_drew ?_))); (case side2 => exact (Kd.R_reads' HO_20.out).2.1); rintro e w123 ⟨v398, rfl, ho0, hb⟩; refine ⟨_, rfl, ?_⟩; have n0_ := Aside0.mk (Kd.R_elder' (by (with_reducible repeat (first | apply Kd.R_alloc | apply Kd.R_drewN | apply Kd.R_drew)); exact HO_3.out) (Kd.R_base ho0) hb); have n1_ := Aside0.mk (Kd.R_elder' (by (with_reducible repeat (first | apply Kd.R_alloc | apply Kd.R_drewN | apply Kd.R_drew)); exact HO_20.out) (Kd.R_base ho0) hb); have n2_ := Aside0.mk (Kd.R_elder' (by (with_reducible repeat (first | apply Kd.R_alloc | apply Kd.R_drewN | apply Kd.R_drew)); exact HO_37.out) (Kd.R_base ho0) hb); have n3_ := Aside0.mk (Kd.R_lower (Kd.R_new' (Kd.R_new' (Kd.R_new' ho0 (Kd.R_lt (by (with_reducible repeat (first | apply Kd.R_alloc | apply Kd.R_drewN | apply Kd.R_drew)); exact HO_3.out))) (Kd.R_lt (by (with_reducible repeat (first | apply Kd.R_alloc | apply Kd.R_drewN | apply Kd.R_drew)); exact HO_20.out))) (Kd.R_lt (by (with_reducible repeat (first | apply Kd.R_alloc | apply Kd.R_drewN | apply Kd.R_drew)); exact HO_37.out))) (below_size (by repeat (first | (with_reducible first | exact HB.out | apply below_alloc | apply pw_below_drewN | apply below_drew1) | exact HB.out)))); have n4_ := Aside0.mk (below_step (by repeat (first | (with_reducible first | exact HB.out | apply below_alloc | apply pw_below_drewN | apply below_drew1) | exact HB.out)) hb); clear HO_3 HO_20 HO_37 HB; have HO_3 := n0_; have HO_20 := n1_; have HO_37 := n2_; have HO399 := n3_; have HB := n4_; clear n0_ n1_ n2_ n3_ n4_; (try clear hb); (try clear hb2); (try clear hk); (try clear hi); (try clear ho0)))
                                     go_ret
                                     exact ⟨by first | rfl | (simp [errW_none, errW_some] <;> rfl) | (simp [*, errW_none, errW_some] <;> rfl), by repeat (first | (with_reducible first | exact HB.out | apply below_alloc | apply pw_below_drewN | apply below_drew1) | exact HB.out)⟩
                                  ·as_aux_lemma =>
                                   replace c107 := Bool.eq_false_iff.mpr c107
                                   subst c107
                                   have H1 : (some false) = some r := by rw [if_neg (show ¬ (false = true) by decide)] at H; exact H
                                   clear H
                                   have H := H1
                                   clear H1
                                   as_aux_lemma =>
                                    obtain rfl := Option.some.inj H
                                    obtain ⟨Ao124, co124, eo124⟩ := Kd.R_slice HO_37.out
                                    subst eo124
                                    obtain ⟨Ao125, co125, eo125⟩ := Kd.R_slice HO_20.out
                                    subst eo125
                                    go_wp2_with (first | ((with_reducible refine gate_callee (f := 6) rfl ?_); refine goesL_ (some 275) rfl rfl Try.func6 (by kernel_rfl) rfl #[.slice Ao125 t351.length co125] rfl (by (try simp only [List.map_toArray, List.map_cons, List.map_nil]); first | done | rfl | (simp only [List.length_drop, List.length_take]; rfl)) ?_; (with_reducible refine (impl_SideSwaps.calls k10 _ _ t351 t392 true _ ?side1 ?side2 A102.out).mono ?_); (case side1 => repeat (first | exact (Kd.R_reads' HO_20.out).2.2 | (with_reducible refine Kd.C_alloc ?_ _) | (with_reducible refine Kd.C_drewN ?_ _) | (with_reducible refine Kd.C_drew ?_))); (case side2 => exact (Kd.R_reads' HO_20.out).2.1); rintro e w' ⟨rfl, ⟨nd, rfl⟩⟩; refine ⟨_, rfl, ?_⟩) | ((with_reducible refine gate_callee (f := 8) rfl ?_); refine goesL_ (some 280) rfl rfl Try.func8 (by kernel_rfl) rfl #[.slice Ao125 t351.length co125] rfl (by (try simp only [List.map_toArray, List.map_cons, List.map_nil]); first | done | rfl | (simp only [List.length_drop, List.length_take]; rfl)) ?_; (with_reducible refine (impl_FreeSwaps.calls k10 _ _ t351 t394 true _ ?side1 ?side2 A103.out).mono ?_); (case side1 => repeat (first | exact (Kd.R_reads' HO_20.out).2.2 | (with_reducible refine Kd.C_alloc ?_ _) | (with_reducible refine Kd.C_drewN ?_ _) | (with_reducible refine Kd.C_drew ?_))); (case side2 => exact (Kd.R_reads' HO_20.out).2.1); rintro e w126 ⟨rfl, hb⟩; refine ⟨_, rfl, ?_⟩; have n0_ := Aside0.mk (Kd.R_below (by (with_reducible repeat (first | apply Kd.R_alloc | apply Kd.R_drewN | apply Kd.R_drew)); exact HO_3.out) hb); have n1_ := Aside0.mk (Kd.R_below (by (with_reducible repeat (first | apply Kd.R_alloc | apply Kd.R_drewN | apply Kd.R_drew)); exact HO_20.out) hb); have n2_ := Aside0.mk (Kd.R_below (by (with_reducible repeat (first | apply Kd.R_alloc | apply Kd.R_drewN | apply Kd.R_drew)); exact HO_37.out) hb); have n3_ := Aside0.mk (below_step (by repeat (first | (with_reducible first | exact HB.out | apply below_alloc | apply pw_below_drewN | apply below_drew1) | exact HB.out)) hb); clear HO_3 HO_20 HO_37 HB; have HO_3 := n0_; have HO_20 := n1_; have HO_37 := n2_; have HB := n3_; clear n0_ n1_ n2_ n3_; (try clear hb); (try clear hb2); (try clear hk); (try clear hi)) | ((with_reducible refine gate_callee (f := 15) rfl ?_); refine goesL_ (some 285) rfl rfl Try.func15 (by kernel_rfl) rfl #[.slice Ao125 t351.length co125] rfl (by (try simp only [List.map_toArray, List.map_cons, List.map_nil]); first | done | rfl | (simp only [List.length_drop, List.length_take]; rfl)) ?_; (with_reducible refine (impl_BackChange.calls k10 _ _ t351 t396 false _ ?side1 ?side2 A104.out).mono ?_); (case side1 => repeat (first | exact (Kd.R_reads' HO_20.out).2.2 | (with_reducible refine Kd.C_alloc ?_ _) | (with_reducible refine Kd.C_drewN ?_ _) | (with_reducible refine Kd.C_drew ?_))); (case side2 => exact (Kd.R_reads' HO_20.out).2.1); rintro e w127 ⟨v398, rfl, ho0, hb⟩; refine ⟨_, rfl, ?_⟩; have n0_ := Aside0.mk (Kd.R_elder' (by (with_reducible repeat (first | apply Kd.R_alloc | apply Kd.R_drewN | apply Kd.R_drew)); exact HO_3.out) (Kd.R_base ho0) hb); have n1_ := Aside0.mk (Kd.R_elder' (by (with_reducible repeat (first | apply Kd.R_alloc | apply Kd.R_drewN | apply Kd.R_drew)); exact HO_20.out) (Kd.R_base ho0) hb); have n2_ := Aside0.mk (Kd.R_elder' (by (with_reducible repeat (first | apply Kd.R_alloc | apply Kd.R_drewN | apply Kd.R_drew)); exact HO_37.out) (Kd.R_base ho0) hb); have n3_ := Aside0.mk (Kd.R_lower (Kd.R_new' (Kd.R_new' (Kd.R_new' ho0 (Kd.R_lt (by (with_reducible repeat (first | apply Kd.R_alloc | apply Kd.R_drewN | apply Kd.R_drew)); exact HO_3.out))) (Kd.R_lt (by (with_reducible repeat (first | apply Kd.R_alloc | apply Kd.R_drewN | apply Kd.R_drew)); exact HO_20.out))) (Kd.R_lt (by (with_reducible repeat (first | apply Kd.R_alloc | apply Kd.R_drewN | apply Kd.R_drew)); exact HO_37.out))) (below_size (by repeat (first | (with_reducible first | exact HB.out | apply below_alloc | apply pw_below_drewN | apply below_drew1) | exact HB.out)))); have n4_ := Aside0.mk (below_step (by repeat (first | (with_reducible first | exact HB.out | apply below_alloc | apply pw_below_drewN | apply below_drew1) | exact HB.out)) hb); clear HO_3 HO_20 HO_37 HB; have HO_3 := n0_; have HO_20 := n1_; have HO_37 := n2_; have HO399 := n3_; have HB := n4_; clear n0_ n1_ n2_ n3_ n4_; (try clear hb); (try clear hb2); (try clear hk); (try clear hi); (try clear ho0)))
                                    go_ret
                                    exact ⟨by first | rfl | (simp [errW_none, errW_some] <;> rfl) | (simp [*, errW_none, errW_some] <;> rfl), by repeat (first | (with_reducible first | exact HB.out | apply below_alloc | apply pw_below_drewN | apply below_drew1) | exact HB.out)⟩
                                 ·as_aux_lemma =>
                                  replace c106 := Bool.eq_false_iff.mpr c106
                                  subst c106
                                  have H1 : (some false) = some r := by rw [if_neg (show ¬ (false = true) by decide)] at H; exact H
                                  clear H
                                  have H := H1
                                  clear H1
                                  as_aux_lemma =>
                                   obtain rfl := Option.some.inj H
                                   obtain ⟨Ao128, co128, eo128⟩ := Kd.R_slice HO_37.out
                                   subst eo128
                                   obtain ⟨Ao129, co129, eo129⟩ := Kd.R_slice HO_20.out
                                   subst eo129
                                   go_wp2_with (first | ((with_reducible refine gate_callee (f := 6) rfl ?_); refine goesL_ (some 275) rfl rfl Try.func6 (by kernel_rfl) rfl #[.slice Ao129 t351.length co129] rfl (by (try simp only [List.map_toArray, List.map_cons, List.map_nil]); first | done | rfl | (simp only [List.length_drop, List.length_take]; rfl)) ?_; (with_reducible refine (impl_SideSwaps.calls k10 _ _ t351 t392 true _ ?side1 ?side2 A102.out).mono ?_); (case side1 => repeat (first | exact (Kd.R_reads' HO_20.out).2.2 | (with_reducible refine Kd.C_alloc ?_ _) | (with_reducible refine Kd.C_drewN ?_ _) | (with_reducible refine Kd.C_drew ?_))); (case side2 => exact (Kd.R_reads' HO_20.out).2.1); rintro e w' ⟨rfl, ⟨nd, rfl⟩⟩; refine ⟨_, rfl, ?_⟩) | ((with_reducible refine gate_callee (f := 8) rfl ?_); refine goesL_ (some 280) rfl rfl Try.func8 (by kernel_rfl) rfl #[.slice Ao129 t351.length co129] rfl (by (try simp only [List.map_toArray, List.map_cons, List.map_nil]); first | done | rfl | (simp only [List.length_drop, List.length_take]; rfl)) ?_; (with_reducible refine (impl_FreeSwaps.calls k10 _ _ t351 t394 false _ ?side1 ?side2 A103.out).mono ?_); (case side1 => repeat (first | exact (Kd.R_reads' HO_20.out).2.2 | (with_reducible refine Kd.C_alloc ?_ _) | (with_reducible refine Kd.C_drewN ?_ _) | (with_reducible refine Kd.C_drew ?_))); (case side2 => exact (Kd.R_reads' HO_20.out).2.1); rintro e w130 ⟨rfl, hb⟩; refine ⟨_, rfl, ?_⟩; have n0_ := Aside0.mk (Kd.R_below (by (with_reducible repeat (first | apply Kd.R_alloc | apply Kd.R_drewN | apply Kd.R_drew)); exact HO_3.out) hb); have n1_ := Aside0.mk (Kd.R_below (by (with_reducible repeat (first | apply Kd.R_alloc | apply Kd.R_drewN | apply Kd.R_drew)); exact HO_20.out) hb); have n2_ := Aside0.mk (Kd.R_below (by (with_reducible repeat (first | apply Kd.R_alloc | apply Kd.R_drewN | apply Kd.R_drew)); exact HO_37.out) hb); have n3_ := Aside0.mk (below_step (by repeat (first | (with_reducible first | exact HB.out | apply below_alloc | apply pw_below_drewN | apply below_drew1) | exact HB.out)) hb); clear HO_3 HO_20 HO_37 HB; have HO_3 := n0_; have HO_20 := n1_; have HO_37 := n2_; have HB := n3_; clear n0_ n1_ n2_ n3_; (try clear hb); (try clear hb2); (try clear hk); (try clear hi)) | ((with_reducible refine gate_callee (f := 15) rfl ?_); refine goesL_ (some 285) rfl rfl Try.func15 (by kernel_rfl) rfl #[.slice Ao129 t351.length co129] rfl (by (try simp only [List.map_toArray, List.map_cons, List.map_nil]); first | done | rfl | (simp only [List.length_drop, List.length_take]; rfl)) ?_; (with_reducible refine (impl_BackChange.calls k10 _ _ t351 t396 t397 _ ?side1 ?side2 A104.out).mono ?_); (case side1 => repeat (first | exact (Kd.R_reads' HO_20.out).2.2 | (with_reducible refine Kd.C_alloc ?_ _) | (with_reducible refine Kd.C_drewN ?_ _) | (with_reducible refine Kd.C_drew ?_))); (case side2 => exact (Kd.R_reads' HO_20.out).2.1); rintro e w131 ⟨v398, rfl, ho0, hb⟩; refine ⟨_, rfl, ?_⟩; have n0_ := Aside0.mk (Kd.R_elder' (by (with_reducible repeat (first | apply Kd.R_alloc | apply Kd.R_drewN | apply Kd.R_drew)); exact HO_3.out) (Kd.R_base ho0) hb); have n1_ := Aside0.mk (Kd.R_elder' (by (with_reducible repeat (first | apply Kd.R_alloc | apply Kd.R_drewN | apply Kd.R_drew)); exact HO_20.out) (Kd.R_base ho0) hb); have n2_ := Aside0.mk (Kd.R_elder' (by (with_reducible repeat (first | apply Kd.R_alloc | apply Kd.R_drewN | apply Kd.R_drew)); exact HO_37.out) (Kd.R_base ho0) hb); have n3_ := Aside0.mk (Kd.R_lower (Kd.R_new' (Kd.R_new' (Kd.R_new' ho0 (Kd.R_lt (by (with_reducible repeat (first | apply Kd.R_alloc | apply Kd.R_drewN | apply Kd.R_drew)); exact HO_3.out))) (Kd.R_lt (by (with_reducible repeat (first | apply Kd.R_alloc | apply Kd.R_drewN | apply Kd.R_drew)); exact HO_20.out))) (Kd.R_lt (by (with_reducible repeat (first | apply Kd.R_alloc | apply Kd.R_drewN | apply Kd.R_drew)); exact HO_37.out))) (below_size (by repeat (first | (with_reducible first | exact HB.out | apply below_alloc | apply pw_below_drewN | apply below_drew1) | exact HB.out)))); have n4_ := Aside0.mk (below_step (by repeat (first | (with_reducible first | exact HB.out | apply below_alloc | apply pw_below_drewN | apply below_drew1) | exact HB.out)) hb); clear HO_3 HO_20 HO_37 HB; have HO_3 := n0_; have HO_20 := n1_; have HO_37 := n2_; have HO399 := n3_; have HB := n4_; clear n0_ n1_ n2_ n3_ n4_; (try clear hb); (try clear hb2); (try clear hk); (try clear hi); (try clear ho0)))
                                   go_ret
                                   exact ⟨by first | rfl | (simp [errW_none, errW_some] <;> rfl) | (simp [*, errW_none, errW_some] <;> rfl), by repeat (first | (with_reducible first | exact HB.out | apply below_alloc | apply pw_below_drewN | apply below_drew1) | exact HB.out)⟩
                                ·as_aux_lemma =>
                                 replace c105 := Bool.eq_false_iff.mpr c105
                                 subst c105
                                 have H1 : (some false) = some r := by rw [if_neg (show ¬ (false = true) by decide)] at H; exact H
                                 clear H
                                 have H := H1
                                 clear H1
                                 as_aux_lemma =>
                                  obtain rfl := Option.some.inj H
                                  obtain ⟨Ao132, co132, eo132⟩ := Kd.R_slice HO_37.out
                                  subst eo132
                                  obtain ⟨Ao133, co133, eo133⟩ := Kd.R_slice HO_20.out
                                  subst eo133
                                  go_wp2_with (first | ((with_reducible refine gate_callee (f := 6) rfl ?_); refine goesL_ (some 275) rfl rfl Try.func6 (by kernel_rfl) rfl #[.slice Ao133 t351.length co133] rfl (by (try simp only [List.map_toArray, List.map_cons, List.map_nil]); first | done | rfl | (simp only [List.length_drop, List.length_take]; rfl)) ?_; (with_reducible refine (impl_SideSwaps.calls k10 _ _ t351 t392 false _ ?side1 ?side2 A102.out).mono ?_); (case side1 => repeat (first | exact (Kd.R_reads' HO_20.out).2.2 | (with_reducible refine Kd.C_alloc ?_ _) | (with_reducible refine Kd.C_drewN ?_ _) | (with_reducible refine Kd.C_drew ?_))); (case side2 => exact (Kd.R_reads' HO_20.out).2.1); rintro e w' ⟨rfl, ⟨nd, rfl⟩⟩; refine ⟨_, rfl, ?_⟩) | ((with_reducible refine gate_callee (f := 8) rfl ?_); refine goesL_ (some 280) rfl rfl Try.func8 (by kernel_rfl) rfl #[.slice Ao133 t351.length co133] rfl (by (try simp only [List.map_toArray, List.map_cons, List.map_nil]); first | done | rfl | (simp only [List.length_drop, List.length_take]; rfl)) ?_; (with_reducible refine (impl_FreeSwaps.calls k10 _ _ t351 t394 t395 _ ?side1 ?side2 A103.out).mono ?_); (case side1 => repeat (first | exact (Kd.R_reads' HO_20.out).2.2 | (with_reducible refine Kd.C_alloc ?_ _) | (with_reducible refine Kd.C_drewN ?_ _) | (with_reducible refine Kd.C_drew ?_))); (case side2 => exact (Kd.R_reads' HO_20.out).2.1); rintro e w134 ⟨rfl, hb⟩; refine ⟨_, rfl, ?_⟩; have n0_ := Aside0.mk (Kd.R_below (by (with_reducible repeat (first | apply Kd.R_alloc | apply Kd.R_drewN | apply Kd.R_drew)); exact HO_3.out) hb); have n1_ := Aside0.mk (Kd.R_below (by (with_reducible repeat (first | apply Kd.R_alloc | apply Kd.R_drewN | apply Kd.R_drew)); exact HO_20.out) hb); have n2_ := Aside0.mk (Kd.R_below (by (with_reducible repeat (first | apply Kd.R_alloc | apply Kd.R_drewN | apply Kd.R_drew)); exact HO_37.out) hb); have n3_ := Aside0.mk (below_step (by repeat (first | (with_reducible first | exact HB.out | apply below_alloc | apply pw_below_drewN | apply below_drew1) | exact HB.out)) hb); clear HO_3 HO_20 HO_37 HB; have HO_3 := n0_; have HO_20 := n1_; have HO_37 := n2_; have HB := n3_; clear n0_ n1_ n2_ n3_; (try clear hb); (try clear hb2); (try clear hk); (try clear hi)) | ((with_reducible refine gate_callee (f := 15) rfl ?_); refine goesL_ (some 285) rfl rfl Try.func15 (by kernel_rfl) rfl #[.slice Ao133 t351.length co133] rfl (by (try simp only [List.map_toArray, List.map_cons, List.map_nil]); first | done | rfl | (simp only [List.length_drop, List.length_take]; rfl)) ?_; (with_reducible refine (impl_BackChange.calls k10 _ _ t351 t396 t397 _ ?side1 ?side2 A104.out).mono ?_); (case side1 => repeat (first | exact (Kd.R_reads' HO_20.out).2.2 | (with_reducible refine Kd.C_alloc ?_ _) | (with_reducible refine Kd.C_drewN ?_ _) | (with_reducible refine Kd.C_drew ?_))); (case side2 => exact (Kd.R_reads' HO_20.out).2.1); rintro e w135 ⟨v398, rfl, ho0, hb⟩; refine ⟨_, rfl, ?_⟩; have n0_ := Aside0.mk (Kd.R_elder' (by (with_reducible repeat (first | apply Kd.R_alloc | apply Kd.R_drewN | apply Kd.R_drew)); exact HO_3.out) (Kd.R_base ho0) hb); have n1_ := Aside0.mk (Kd.R_elder' (by (with_reducible repeat (first | apply Kd.R_alloc | apply Kd.R_drewN | apply Kd.R_drew)); exact HO_20.out) (Kd.R_base ho0) hb); have n2_ := Aside0.mk (Kd.R_elder' (by (with_reducible repeat (first | apply Kd.R_alloc | apply Kd.R_drewN | apply Kd.R_drew)); exact HO_37.out) (Kd.R_base ho0) hb); have n3_ := Aside0.mk (Kd.R_lower (Kd.R_new' (Kd.R_new' (Kd.R_new' ho0 (Kd.R_lt (by (with_reducible repeat (first | apply Kd.R_alloc | apply Kd.R_drewN | apply Kd.R_drew)); exact HO_3.out))) (Kd.R_lt (by (with_reducible repeat (first | apply Kd.R_alloc | apply Kd.R_drewN | apply Kd.R_drew)); exact HO_20.out))) (Kd.R_lt (by (with_reducible repeat (first | apply Kd.R_alloc | apply Kd.R_drewN | apply Kd.R_drew)); exact HO_37.out))) (below_size (by repeat (first | (with_reducible first | exact HB.out | apply below_alloc | apply pw_below_drewN | apply below_drew1) | exact HB.out)))); have n4_ := Aside0.mk (below_step (by repeat (first | (with_reducible first | exact HB.out | apply below_alloc | apply pw_below_drewN | apply below_drew1) | exact HB.out)) hb); clear HO_3 HO_20 HO_37 HB; have HO_3 := n0_; have HO_20 := n1_; have HO_37 := n2_; have HO399 := n3_; have HB := n4_; clear n0_ n1_ n2_ n3_ n4_; (try clear hb); (try clear hb2); (try clear hk); (try clear hi); (try clear ho0)))
                                  go_ret
                                  exact ⟨by first | rfl | (simp [errW_none, errW_some] <;> rfl) | (simp [*, errW_none, errW_some] <;> rfl), by repeat (first | (with_reducible first | exact HB.out | apply below_alloc | apply pw_below_drewN | apply below_drew1) | exact HB.out)⟩
                         ·as_aux_lemma =>
                          replace c90 := Bool.eq_false_iff.mpr c90
                          subst c90
                          have H1 : (some true) = some r := by rw [if_neg (show ¬ (false = true) by decide)] at H; exact H
                          clear H
                          have H := H1
                          clear H1
                          as_aux_lemma =>
                           obtain rfl := Option.some.inj H
                           go_wp2
                           go_ret
                           exact ⟨by first | rfl | (simp [errW_none, errW_some] <;> rfl) | (simp [*, errW_none, errW_some] <;> rfl), by repeat (first | (with_reducible first | exact HB.out | apply below_alloc | apply pw_below_drewN | apply below_drew1) | exact HB.out)⟩

/-- THE ONE PURE STATEMENT of laws_FnChanges: yours. -/
def laws_FnChanges.Pure : Prop := ∀ (l0 : List Int), l0.length ≤ maxLen → l0.length * 1 ≤ 140737488351232 → (∀ x ∈ l0, (Lit.int .u8 x).wf = true) → ∃ k, laws_FnChanges.f k l0 = some true
theorem laws_FnChanges.walk (P : laws_FnChanges.Pure) (a0 : Option Addr) (len0 cap0 : Nat) (z0 : List Int) (w : World) (w0 : (a0 = none ∧ len0 = 0 ∧ cap0 = 0 ∧ z0 = []) ∨ ∃ x, a0 = some x ∧ len0 ≤ cap0 ∧ cap0 ≤ maxLen ∧ z0.length = cap0 ∧ (∀ i, i < z0.length → w.cell? (x.add i) = some (.int .u8 (z0.getD i 0))) ∧ ∀ n ∈ z0, (Lit.int .u8 n).wf = true) (y0 : len0 * 1 ≤ 140737488351232) :
  Calls Try.prog 3 #[.slice a0 len0 cap0] w fun e w' => e = .returned (.bool true) ∧ Below w.heap.size w w' := by
 obtain ⟨l0, rfl, hr0, hm0, hw0, hc0⟩ := ReadsInt.ofRowC w0
 obtain ⟨k, h⟩ := P l0 hm0 y0 hw0
 refine (laws_FnChanges.calls k _ _ l0 true w (Kd.C_of_reads (d := (0 : Int)) (h1 := fun _ => rfl) hr0) hc0 h).mono ?_
 rintro e w' ⟨rfl, hd⟩
 exact ⟨rfl, hd⟩

end Go.Proofs.Ytohmonfaabofaaa.QFnChanges
-- squeezed
