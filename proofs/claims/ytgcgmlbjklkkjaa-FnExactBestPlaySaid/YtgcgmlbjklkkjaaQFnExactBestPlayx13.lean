-- Written by px.py, a program of this session, over the kit's printer: some functions have a definition and a proof of this session's own.
import Derived.Test.YtgcgmlbjklkkjaaQFnExactBestPlayx0
import Derived.Test.YtgcgmlbjklkkjaaQFnExactBestPlayx11
namespace Go.Proofs.Ytgcgmlbjklkkjaa.QFnExactBestPlay
open Go.RowKit Go.Proofs.YtgcgmlbjklkkjaaW.PrintWords Go.Proofs.YtgcgmlbjklkkjaaW.PrintLast Go.Proofs.YtgcgmlbjklkkjaaW.PrintMore
attribute [local go_sem] max2_int min2_int max_two min_two max_three min_three max_four min_four   -- for this text's walks alone
set_option linter.unusedVariables false
set_option linter.unusedSimpArgs false
set_option maxHeartbeats 8000000
set_option maxRecDepth 100000

mutual
def impl_lineNumbers.l0 : Nat → Int → List Int → Int → Option (List Int)
 | 0, _, _, _ => none
 | k + 1, x0, x3, x11 => if x11 < 25 then (impl_lineNumbers.l1 k x0 x3 x11 0 x11 x11 0) else (some x3)
def impl_lineNumbers.l1 : Nat → Int → List Int → Int → Int → Int → Int → Int → Option (List Int)
 | 0, _, _, _, _, _, _, _ => none
 | k + 1, x0, x3, x4, x5, x11, x14, x15 => if x15 < x14 then (if x0 = 1 then (if (mx 0 (wrap64 ((wrap64 (x4 - x15)) - 2))) ≥ 0 then (if 0 ≤ (mx 0 (wrap64 (x15 - 1))) then (if (mx 0 (wrap64 (x15 - 1))) < (x3.length : Int) then (if 0 ≤ (mx 0 (wrap64 ((wrap64 (x4 - x15)) - 2))) then (if (mx 0 (wrap64 ((wrap64 (x4 - x15)) - 2))) < (x3.length : Int) then (if 0 ≤ (Go.bits .xor .i64 (rd x3 (mx 0 (wrap64 (x15 - 1)))) (rd x3 (mx 0 (wrap64 ((wrap64 (x4 - x15)) - 2))))) then (impl_lineNumbers.l1 k x0 x3 x4 (Go.bits .or .u32 x5 (shl .u32 1 (Go.bits .xor .i64 (rd x3 (mx 0 (wrap64 (x15 - 1)))) (rd x3 (mx 0 (wrap64 ((wrap64 (x4 - x15)) - 2))))))) x11 x14 (wrap64 (x15 + 1))) else (none)) else (none)) else (none)) else (none)) else (none)) else (impl_lineNumbers.l1 k x0 x3 x4 x5 x11 x14 (wrap64 (x15 + 1)))) else (if (wrap64 ((wrap64 (x4 - x15)) - 2)) ≥ 0 then (if 0 ≤ x15 then (if x15 < (x3.length : Int) then (if 0 ≤ (wrap64 ((wrap64 (x4 - x15)) - 2)) then (if (wrap64 ((wrap64 (x4 - x15)) - 2)) < (x3.length : Int) then (if 0 ≤ (Go.bits .xor .i64 (rd x3 x15) (rd x3 (wrap64 ((wrap64 (x4 - x15)) - 2)))) then (impl_lineNumbers.l1 k x0 x3 x4 (Go.bits .or .u32 x5 (shl .u32 1 (Go.bits .xor .i64 (rd x3 x15) (rd x3 (wrap64 ((wrap64 (x4 - x15)) - 2)))))) x11 x14 (wrap64 (x15 + 1))) else (none)) else (none)) else (none)) else (none)) else (none)) else (impl_lineNumbers.l1 k x0 x3 x4 x5 x11 x14 (wrap64 (x15 + 1))))) else (impl_lineNumbers.l2 k x0 x3 x5 0 x11)
def impl_lineNumbers.l2 : Nat → Int → List Int → Int → Int → Int → Option (List Int)
 | 0, _, _, _, _, _ => none
 | k + 1, x0, x3, x5, x9, x11 => (impl_set_has.f x5 x9).bind fun t388 => (if t388 = true then (impl_lineNumbers.l2 k x0 x3 x5 (wrap64 (x9 + 1)) x11) else (if x3.length < 17592186044416 then (impl_lineNumbers.l0 k x0 (x3 ++ [x9]) (wrap64 (x11 + 1))) else (none)))
end
def impl_lineNumbers.f (k : Nat) (a0 : Int) : Option (List Int) := impl_lineNumbers.l0 k a0 (([] : List Int)) 0
theorem impl_lineNumbers.mono_l : ∀ k, (∀ y0 y1 y2, LeO (impl_lineNumbers.l0 k y0 y1 y2) (impl_lineNumbers.l0 (k + 1) y0 y1 y2)) ∧ (∀ y0 y1 y2 y3 y4 y5 y6, LeO (impl_lineNumbers.l1 k y0 y1 y2 y3 y4 y5 y6) (impl_lineNumbers.l1 (k + 1) y0 y1 y2 y3 y4 y5 y6)) ∧ (∀ y0 y1 y2 y3 y4, LeO (impl_lineNumbers.l2 k y0 y1 y2 y3 y4) (impl_lineNumbers.l2 (k + 1) y0 y1 y2 y3 y4))
 | 0 => ⟨fun _ _ _ r h => by simp [impl_lineNumbers.l0] at h, fun _ _ _ _ _ _ _ r h => by simp [impl_lineNumbers.l1] at h, fun _ _ _ _ _ r h => by simp [impl_lineNumbers.l2] at h⟩
 | k + 1 => by
  obtain ⟨ih0, ih1, ih2⟩ := impl_lineNumbers.mono_l k
  refine ⟨?_, ?_, ?_⟩
  ·intro y0 y1 y2
   unfold impl_lineNumbers.l0
   repeat' first
   | (with_reducible exact ih0 _ _ _)
   | (with_reducible exact ih1 _ _ _ _ _ _ _)
   | (with_reducible exact ih2 _ _ _ _ _)
   | (with_reducible exact LeO.refl _)
   | (with_reducible exact LeO.none _)
   | (with_reducible refine LeO.ite ?_ ?_)
   | (with_reducible refine LeO.bind ?_ (fun _ => ?_))
  ·intro y0 y1 y2 y3 y4 y5 y6
   unfold impl_lineNumbers.l1
   repeat' first
   | (with_reducible exact ih0 _ _ _)
   | (with_reducible exact ih1 _ _ _ _ _ _ _)
   | (with_reducible exact ih2 _ _ _ _ _)
   | (with_reducible exact LeO.refl _)
   | (with_reducible exact LeO.none _)
   | (with_reducible refine LeO.ite ?_ ?_)
   | (with_reducible refine LeO.bind ?_ (fun _ => ?_))
  ·intro y0 y1 y2 y3 y4
   unfold impl_lineNumbers.l2
   repeat' first
   | (with_reducible exact ih0 _ _ _)
   | (with_reducible exact ih1 _ _ _ _ _ _ _)
   | (with_reducible exact ih2 _ _ _ _ _)
   | (with_reducible exact LeO.refl _)
   | (with_reducible exact LeO.none _)
   | (with_reducible refine LeO.ite ?_ ?_)
   | (with_reducible refine LeO.bind ?_ (fun _ => ?_))
theorem impl_lineNumbers.mono : ∀ a0 k, LeO (impl_lineNumbers.f k a0) (impl_lineNumbers.f (k + 1) a0) := by
 intro a0 k
 obtain ⟨ih0, ih1, ih2⟩ := impl_lineNumbers.mono_l k
 unfold impl_lineNumbers.f
 repeat' first
   | (with_reducible exact ih0 _ _ _)
   | (with_reducible exact ih1 _ _ _ _ _ _ _)
   | (with_reducible exact ih2 _ _ _ _ _)
   | (with_reducible exact LeO.refl _)
   | (with_reducible exact LeO.none _)
   | (with_reducible refine LeO.ite ?_ ?_)
   | (with_reducible refine LeO.bind ?_ (fun _ => ?_))
theorem impl_lineNumbers.calls (k : Nat) (a0 : Int) (r : List Int) (w : World) (h : impl_lineNumbers.f k a0 = some r) :
  Calls Try.prog 45 #[.int .i64 a0] w fun e w' => ∃ v0_ : Value, e = .returned (v0_) ∧ Kd.R (Kd.int .i64) 3 w' w.heap.size (fun _ => True) v0_ r ∧ Below w.heap.size w w' := by
 have HB := A0_ (Below.refl w.heap.size w)
 have H : (impl_lineNumbers.l0 k a0 (([] : List Int)) 0) = some r := h
 clear h
 obtain ⟨y381, hy381⟩ : ∃ y_ : List Int, y_ = (([] : List Int)) := ⟨_, rfl⟩
 replace H : (impl_lineNumbers.l0 k a0 y381 0) = some r := by first | (rw [hy381]; with_reducible exact H) | (have H2_ := (Option.bind_some _ _).symm.trans H; rw [hy381]; with_reducible exact H2_) | (have H2_ := (Option.bind_some _ _).symm.trans H; with_reducible exact H2_) | with_reducible exact H | (rw [hy381]; exact H) | exact H
 have Ny381 := A0_ hy381
 clear hy381
 have H' := A0_ H
 clear H
 go_enter Try.func45, Try.ntmps45
 go_wp2_with (first | ((with_reducible refine gd_ (N := 10) rfl ?_); refine Kd.R_lit (Kd.int .i64) _ 3 ?hg (N := 10) ?hd (xs := ([] : List Int)) (inner := []) (ok := fun _ => True) (okp := fun _ => True) ?hr ?hp (fun _ hk => hk) trivial (Below.refl _ _) (Nat.le_refl _) (by simp) ?_; (case hd => rfl); (case hg => rfl); (case hr => go_simp; first | done | rfl); (case hp => exact (Reps.none _ _)); intro v382 w2 ho3 hb hg_ hnew_; clear hg_ hnew_; (first | rw [← Ny381.out] at ho3 | (simp only [Int.reduceToNat] at ho3; rw [← Ny381.out] at ho3)); have n0_ := A0_ (Kd.R_lower ho3 (bz_ (by repeat (first | exact HB.out | apply ba_ | apply bn_ | apply bd_)))); have n1_ := A0_ (bt_ (by repeat (first | exact HB.out | apply ba_ | apply bn_ | apply bd_)) hb); clear HB; have HO383 := n0_; have HB := n1_; clear n0_ n1_ hb ho3))
 repeat (go_quiet (first | ((with_reducible refine gd_ (N := 10) rfl ?_); refine Kd.R_lit (Kd.int .i64) _ 3 ?hg (N := 10) ?hd (xs := ([] : List Int)) (inner := []) (ok := fun _ => True) (okp := fun _ => True) ?hr ?hp (fun _ hk => hk) trivial (Below.refl _ _) (Nat.le_refl _) (by simp) ?_; (case hd => rfl); (case hg => rfl); (case hr => go_simp; first | done | rfl); (case hp => exact (Reps.none _ _)); intro v382 w2 ho3 hb hg_ hnew_; clear hg_ hnew_; (first | rw [← Ny381.out] at ho3 | (simp only [Int.reduceToNat] at ho3; rw [← Ny381.out] at ho3)); have n0_ := A0_ (Kd.R_lower ho3 (bz_ (by repeat (first | exact HB.out | apply ba_ | apply bn_ | apply bd_)))); have n1_ := A0_ (bt_ (by repeat (first | exact HB.out | apply ba_ | apply bn_ | apply bd_)) hb); clear HB; have HO383 := n0_; have HB := n1_; clear n0_ n1_ hb ho3)); try go_wp2_with (first | ((with_reducible refine gd_ (N := 10) rfl ?_); refine Kd.R_lit (Kd.int .i64) _ 3 ?hg (N := 10) ?hd (xs := ([] : List Int)) (inner := []) (ok := fun _ => True) (okp := fun _ => True) ?hr ?hp (fun _ hk => hk) trivial (Below.refl _ _) (Nat.le_refl _) (by simp) ?_; (case hd => rfl); (case hg => rfl); (case hr => go_simp; first | done | rfl); (case hp => exact (Reps.none _ _)); intro v382 w2 ho3 hb hg_ hnew_; clear hg_ hnew_; (first | rw [← Ny381.out] at ho3 | (simp only [Int.reduceToNat] at ho3; rw [← Ny381.out] at ho3)); have n0_ := A0_ (Kd.R_lower ho3 (bz_ (by repeat (first | exact HB.out | apply ba_ | apply bn_ | apply bd_)))); have n1_ := A0_ (bt_ (by repeat (first | exact HB.out | apply ba_ | apply bn_ | apply bd_)) hb); clear HB; have HO383 := n0_; have HB := n1_; clear n0_ n1_ hb ho3)))
 go_loopg [3, 11] k (fun kq v3 v11 w' => ∃ (x3_1 : List Int) (x11_1 : Int), v11 = .int .i64 x11_1 ∧ Aside0 (impl_lineNumbers.l0 kq a0 x3_1 x11_1 = some r) ∧ Aside0 (kq ≤ k) ∧ Aside0 (Kd.R (Kd.int .i64) 3 w' w.heap.size (fun _ => True) v3 x3_1) ∧ Aside0 (Below w.heap.size w w'))
 case atStart => exact ⟨(y381), (0), (by first | rfl | (simp [*]; done)), H', ⟨Nat.le_refl _⟩, ⟨by (with_reducible repeat (first | apply ra_ | apply rn_ | apply rd_)); exact HO383.out⟩, ⟨by repeat (first | exact HB.out | apply ba_ | apply bn_ | apply bd_)⟩⟩
 case round =>
  clear H'
  try clear p2
  obtain ⟨x3_1, x11_1, rfl, HA, HK1, HO_3, HB⟩ := hrel
  cases gk with
  | zero => exact absurd HA.out (by simp [impl_lineNumbers.l0])
  | succ k1 =>
   have H := HA.out
   clear HA
   simp only [impl_lineNumbers.l0] at H
   by_cases c4 : x11_1 < 25
   ·rw [if_pos c4] at H
    have c4b0 : decide (x11_1 < 25) = true := dt_ c4
    clear c4
    have H' := A0_ H
    clear H
    go_wp2
    repeat (go_quiet (fail); try go_wp2)
    go_loopg [5, 15] k1 (fun kq v5 v15 w' => ∃ (x5_2 : Int) (x15_2 : Int), v5 = .int .u32 x5_2 ∧ v15 = .int .i64 x15_2 ∧ Aside0 (impl_lineNumbers.l1 kq a0 x3_1 x11_1 x5_2 x11_1 x11_1 x15_2 = some r) ∧ Aside0 (kq ≤ k1) ∧ Aside0 (Kd.R (Kd.int .i64) 3 w' w.heap.size (fun _ => True) u3 x3_1) ∧ Aside0 (Below w.heap.size w w'))
    case atStart => exact ⟨(0), (0), (by first | rfl | (simp [*]; done)), (by first | rfl | (simp [*]; done)), H', ⟨Nat.le_refl _⟩, ⟨by (with_reducible repeat (first | apply ra_ | apply rn_ | apply rd_)); exact HO_3.out⟩, ⟨by repeat (first | exact HB.out | apply ba_ | apply bn_ | apply bd_)⟩⟩
    case round =>
     clear H'
     try clear p2
     try clear c4
     try clear c4b0
     try clear p2
     obtain ⟨x5_2, x15_2, rfl, rfl, HA, HK2, HO_3, HB⟩ := hrel
     cases gk with
     | zero => exact absurd HA.out (by simp [impl_lineNumbers.l1])
     | succ k2 =>
      have H := HA.out
      clear HA
      simp only [impl_lineNumbers.l1] at H
      by_cases c5 : x15_2 < x11_1
      ·rw [if_pos c5] at H
       have c5b0 : decide (x15_2 < x11_1) = true := dt_ c5
       clear c5
       by_cases c6 : a0 = 1
       ·rw [if_pos c6] at H
        have c6b0 : (a0 == 1) = true := beq_iff_eq.mpr c6
        have c6b1 : (a0 != 1) = false := bne_eq_false_iff_eq.mpr c6
        clear c6
        obtain ⟨ji7, hji7⟩ : ∃ j_ : Int, (mx 0 (wrap64 (x15_2 - 1))) = j_ := ⟨_, rfl⟩
        replace H : (if (mx 0 (wrap64 ((wrap64 (x11_1 - x15_2)) - 2))) ≥ 0 then (if 0 ≤ (ji7) then (if (ji7) < (x3_1.length : Int) then (if 0 ≤ (mx 0 (wrap64 ((wrap64 (x11_1 - x15_2)) - 2))) then (if (mx 0 (wrap64 ((wrap64 (x11_1 - x15_2)) - 2))) < (x3_1.length : Int) then (if 0 ≤ (Go.bits .xor .i64 (rd x3_1 (ji7)) (rd x3_1 (mx 0 (wrap64 ((wrap64 (x11_1 - x15_2)) - 2))))) then (impl_lineNumbers.l1 k2 a0 x3_1 x11_1 (Go.bits .or .u32 x5_2 (shl .u32 1 (Go.bits .xor .i64 (rd x3_1 (ji7)) (rd x3_1 (mx 0 (wrap64 ((wrap64 (x11_1 - x15_2)) - 2))))))) x11_1 x11_1 (wrap64 (x15_2 + 1))) else (none)) else (none)) else (none)) else (none)) else (none)) else (impl_lineNumbers.l1 k2 a0 x3_1 x11_1 x5_2 x11_1 x11_1 (wrap64 (x15_2 + 1)))) = some r := by first | (rw [hji7] at H; exact H) | (simp only [hji7] at H ⊢; exact H)
        have hji7_ : (if 0 < (wrap64 (x15_2 - 1)) then (wrap64 (x15_2 - 1)) else 0) = ji7 := hji7
        obtain ⟨ji8, hji8⟩ : ∃ j_ : Int, (mx 0 (wrap64 ((wrap64 (x11_1 - x15_2)) - 2))) = j_ := ⟨_, rfl⟩
        replace H : (if (ji8) ≥ 0 then (if 0 ≤ (ji7) then (if (ji7) < (x3_1.length : Int) then (if 0 ≤ (ji8) then (if (ji8) < (x3_1.length : Int) then (if 0 ≤ (Go.bits .xor .i64 (rd x3_1 (ji7)) (rd x3_1 (ji8))) then (impl_lineNumbers.l1 k2 a0 x3_1 x11_1 (Go.bits .or .u32 x5_2 (shl .u32 1 (Go.bits .xor .i64 (rd x3_1 (ji7)) (rd x3_1 (ji8))))) x11_1 x11_1 (wrap64 (x15_2 + 1))) else (none)) else (none)) else (none)) else (none)) else (none)) else (impl_lineNumbers.l1 k2 a0 x3_1 x11_1 x5_2 x11_1 x11_1 (wrap64 (x15_2 + 1)))) = some r := by first | (rw [hji8] at H; exact H) | (simp only [hji8] at H ⊢; exact H)
        have hji8_ : (if 0 < (wrap64 ((wrap64 (x11_1 - x15_2)) - 2)) then (wrap64 ((wrap64 (x11_1 - x15_2)) - 2)) else 0) = ji8 := hji8
        by_cases c9 : (ji8) ≥ 0
        ·rw [if_pos c9] at H
         have c9b0 : decide (0 ≤ (ji8)) = true := dt_ c9
         clear c9
         by_cases c10 : 0 ≤ (ji7)
         ·rw [if_pos c10] at H
          have c10b0 : decide (0 ≤ (ji7)) = true := dt_ c10
          clear c10
          by_cases c11 : (ji7) < (x3_1.length : Int)
          ·rw [if_pos c11] at H
           have c11b0 : decide ((ji7) < (x3_1.length : Int)) = true := dt_ c11
           clear c11
           by_cases c12 : 0 ≤ (ji8)
           ·rw [if_pos c12] at H
            have c12b0 : decide (0 ≤ (ji8)) = true := dt_ c12
            clear c12
            by_cases c13 : (ji8) < (x3_1.length : Int)
            ·rw [if_pos c13] at H
             have c13b0 : decide ((ji8) < (x3_1.length : Int)) = true := dt_ c13
             clear c13
             by_cases c14 : 0 ≤ (Go.bits .xor .i64 (rd x3_1 (ji7)) (rd x3_1 (ji8)))
             ·rw [if_pos c14] at H
              have c14b0 := eq_true c14
              have c14b1 : decide (0 ≤ (Go.bits .xor .i64 (rd x3_1 (ji7)) (rd x3_1 (ji8)))) = true := dt_ c14
              clear c14
              obtain ⟨ji15, hji15⟩ : ∃ j_ : Int, (shl .u32 1 (Go.bits .xor .i64 (rd x3_1 (ji7)) (rd x3_1 (ji8)))) = j_ := ⟨_, rfl⟩
              replace H : (impl_lineNumbers.l1 k2 a0 x3_1 x11_1 (Go.bits .or .u32 x5_2 (ji15)) x11_1 x11_1 (wrap64 (x15_2 + 1))) = some r := by first | (rw [hji15] at H; exact H) | (simp only [hji15] at H ⊢; exact H)
              have hji15_ : (IntKind.u32.wrap (1 * 2 ^ min (Go.bits .xor .i64 (rd x3_1 (ji7)) (rd x3_1 (ji8))).toNat 32)) = ji15 := hji15
              have hji15z : (Go.bits .xor .i64 (rd x3_1 (ji7)) (rd x3_1 (ji8))) ≤ 32 → (IntKind.u32.wrap (1 * 2 ^ (Go.bits .xor .i64 (rd x3_1 (ji7)) (rd x3_1 (ji8))).toNat)) = ji15 := shl_small hji15
              have hji15u : (IntKind.u32.wrap (2 ^ min (Go.bits .xor .i64 (rd x3_1 (ji7)) (rd x3_1 (ji8))).toNat 32)) = ji15 := by have h_ := hji15_; rw [Int.one_mul] at h_; exact h_
              have hji15v : (Go.bits .xor .i64 (rd x3_1 (ji7)) (rd x3_1 (ji8))) ≤ 32 → (IntKind.u32.wrap (2 ^ (Go.bits .xor .i64 (rd x3_1 (ji7)) (rd x3_1 (ji8))).toNat)) = ji15 := fun hle_ => by have h_ := hji15z hle_; rw [Int.one_mul] at h_; exact h_
              have H' := A0_ H
              clear H
              obtain ⟨Ao16, co16, eo16⟩ := Kd.R_slice HO_3.out
              subst eo16
              have p384 : 0 ≤ ((ji7) : Int) := od_ (by first | (with_reducible assumption) | assumption)
              have q384 : (ji7) < (x3_1.length : Int) := od_ (by first | (with_reducible assumption) | assumption)
              obtain ⟨ad384, e384, hx384_0⟩ := Kd.at_int (rr_ HO_3.out).2.2 (ji7) p384 q384
              cases e384
              replace p384 := eq_true p384
              replace q384 := eq_true q384
              have p385 : 0 ≤ ((ji8) : Int) := od_ (by first | (with_reducible assumption) | assumption)
              have q385 : (ji8) < (x3_1.length : Int) := od_ (by first | (with_reducible assumption) | assumption)
              obtain ⟨ad385, e385, hx385_0⟩ := Kd.at_int (rr_ HO_3.out).2.2 (ji8) p385 q385
              obtain rfl : ad384 = ad385 := (by injection e385)
              replace p385 := eq_true p385
              replace q385 := eq_true q385
              go_wp2
              repeat (go_quiet (fail); try go_wp2)
              go_roundg k2
              case measure => have := HK1.out; have := HK2.out; omega
              case rel => exact ⟨(Go.bits .or .u32 x5_2 (ji15)), (wrap64 (x15_2 + 1)), (by first | rfl | (simp; done) | (simp only [← hji15] <;> (first | rfl | simp)) | (simp [*]; done)), (by first | rfl | (simp [*]; done)), H', ⟨by have := HK1.out; have := HK2.out; omega⟩, ⟨by (with_reducible repeat (first | apply ra_ | apply rn_ | apply rd_)); exact HO_3.out⟩, ⟨by repeat (first | exact HB.out | apply ba_ | apply bn_ | apply bd_)⟩⟩
             ·rw [if_neg c14] at H
              exact absurd H (by simp)
            ·rw [if_neg c13] at H
             exact absurd H (by simp)
           ·rw [if_neg c12] at H
            exact absurd H (by simp)
          ·rw [if_neg c11] at H
           exact absurd H (by simp)
         ·rw [if_neg c10] at H
          exact absurd H (by simp)
        ·rw [if_neg c9] at H
         have c9b0 : decide (0 ≤ (ji8)) = false := decide_eq_false c9
         clear c9
         have H' := A0_ H
         clear H
         go_wp2
         repeat (go_quiet (fail); try go_wp2)
         go_roundg k2
         case measure => have := HK1.out; have := HK2.out; omega
         case rel => exact ⟨(x5_2), (wrap64 (x15_2 + 1)), (by first | rfl | (simp [*]; done)), (by first | rfl | (simp [*]; done)), H', ⟨by have := HK1.out; have := HK2.out; omega⟩, ⟨by (with_reducible repeat (first | apply ra_ | apply rn_ | apply rd_)); exact HO_3.out⟩, ⟨by repeat (first | exact HB.out | apply ba_ | apply bn_ | apply bd_)⟩⟩
       ·rw [if_neg c6] at H
        have c6b0 : (a0 == 1) = false := beq_eq_false_iff_ne.mpr c6
        have c6b1 : (a0 != 1) = true := bne_iff_ne.mpr c6
        by_cases c17 : (wrap64 ((wrap64 (x11_1 - x15_2)) - 2)) ≥ 0
        ·rw [if_pos c17] at H
         have c17b0 : decide (0 ≤ (wrap64 ((wrap64 (x11_1 - x15_2)) - 2))) = true := dt_ c17
         clear c17
         by_cases c18 : 0 ≤ x15_2
         ·rw [if_pos c18] at H
          have c18b0 : decide (0 ≤ x15_2) = true := dt_ c18
          clear c18
          by_cases c19 : x15_2 < (x3_1.length : Int)
          ·rw [if_pos c19] at H
           have c19b0 : decide (x15_2 < (x3_1.length : Int)) = true := dt_ c19
           clear c19
           obtain ⟨ji20, hji20⟩ : ∃ j_ : Int, (wrap64 ((wrap64 (x11_1 - x15_2)) - 2)) = j_ := ⟨_, rfl⟩
           replace H : (if 0 ≤ (ji20) then (if (ji20) < (x3_1.length : Int) then (if 0 ≤ (Go.bits .xor .i64 (rd x3_1 x15_2) (rd x3_1 (ji20))) then (impl_lineNumbers.l1 k2 a0 x3_1 x11_1 (Go.bits .or .u32 x5_2 (shl .u32 1 (Go.bits .xor .i64 (rd x3_1 x15_2) (rd x3_1 (ji20))))) x11_1 x11_1 (wrap64 (x15_2 + 1))) else (none)) else (none)) else (none)) = some r := by first | (rw [hji20] at H; exact H) | (simp only [hji20] at H ⊢; exact H)
           (try rw [hji20] at c17b0)
           have hji20w : (IntKind.i64.wrap ((wrap64 (x11_1 - x15_2)) - 2)) = ji20 := (i64_w _).trans hji20
           by_cases c21 : 0 ≤ (ji20)
           ·rw [if_pos c21] at H
            have c21b0 : decide (0 ≤ (ji20)) = true := dt_ c21
            clear c21
            by_cases c22 : (ji20) < (x3_1.length : Int)
            ·rw [if_pos c22] at H
             have c22b0 : decide ((ji20) < (x3_1.length : Int)) = true := dt_ c22
             clear c22
             by_cases c23 : 0 ≤ (Go.bits .xor .i64 (rd x3_1 x15_2) (rd x3_1 (ji20)))
             ·rw [if_pos c23] at H
              have c23b0 := eq_true c23
              have c23b1 : decide (0 ≤ (Go.bits .xor .i64 (rd x3_1 x15_2) (rd x3_1 (ji20)))) = true := dt_ c23
              clear c23
              obtain ⟨ji24, hji24⟩ : ∃ j_ : Int, (shl .u32 1 (Go.bits .xor .i64 (rd x3_1 x15_2) (rd x3_1 (ji20)))) = j_ := ⟨_, rfl⟩
              replace H : (impl_lineNumbers.l1 k2 a0 x3_1 x11_1 (Go.bits .or .u32 x5_2 (ji24)) x11_1 x11_1 (wrap64 (x15_2 + 1))) = some r := by first | (rw [hji24] at H; exact H) | (simp only [hji24] at H ⊢; exact H)
              have hji24_ : (IntKind.u32.wrap (1 * 2 ^ min (Go.bits .xor .i64 (rd x3_1 x15_2) (rd x3_1 (ji20))).toNat 32)) = ji24 := hji24
              have hji24z : (Go.bits .xor .i64 (rd x3_1 x15_2) (rd x3_1 (ji20))) ≤ 32 → (IntKind.u32.wrap (1 * 2 ^ (Go.bits .xor .i64 (rd x3_1 x15_2) (rd x3_1 (ji20))).toNat)) = ji24 := shl_small hji24
              have hji24u : (IntKind.u32.wrap (2 ^ min (Go.bits .xor .i64 (rd x3_1 x15_2) (rd x3_1 (ji20))).toNat 32)) = ji24 := by have h_ := hji24_; rw [Int.one_mul] at h_; exact h_
              have hji24v : (Go.bits .xor .i64 (rd x3_1 x15_2) (rd x3_1 (ji20))) ≤ 32 → (IntKind.u32.wrap (2 ^ (Go.bits .xor .i64 (rd x3_1 x15_2) (rd x3_1 (ji20))).toNat)) = ji24 := fun hle_ => by have h_ := hji24z hle_; rw [Int.one_mul] at h_; exact h_
              have H' := A0_ H
              clear H
              obtain ⟨Ao25, co25, eo25⟩ := Kd.R_slice HO_3.out
              subst eo25
              have p386 : 0 ≤ (x15_2 : Int) := od_ (by first | (with_reducible assumption) | assumption)
              have q386 : x15_2 < (x3_1.length : Int) := od_ (by first | (with_reducible assumption) | assumption)
              obtain ⟨ad386, e386, hx386_0⟩ := Kd.at_int (rr_ HO_3.out).2.2 x15_2 p386 q386
              cases e386
              replace p386 := eq_true p386
              replace q386 := eq_true q386
              have p387 : 0 ≤ ((ji20) : Int) := od_ (by first | (with_reducible assumption) | assumption)
              have q387 : (ji20) < (x3_1.length : Int) := od_ (by first | (with_reducible assumption) | assumption)
              obtain ⟨ad387, e387, hx387_0⟩ := Kd.at_int (rr_ HO_3.out).2.2 (ji20) p387 q387
              obtain rfl : ad386 = ad387 := (by injection e387)
              replace p387 := eq_true p387
              replace q387 := eq_true q387
              go_wp2
              repeat (go_quiet (fail); try go_wp2)
              go_roundg k2
              case measure => have := HK1.out; have := HK2.out; omega
              case rel => exact ⟨(Go.bits .or .u32 x5_2 (ji24)), (wrap64 (x15_2 + 1)), (by first | rfl | (simp; done) | (simp only [← hji24] <;> (first | rfl | simp)) | (simp [*]; done)), (by first | rfl | (simp [*]; done)), H', ⟨by have := HK1.out; have := HK2.out; omega⟩, ⟨by (with_reducible repeat (first | apply ra_ | apply rn_ | apply rd_)); exact HO_3.out⟩, ⟨by repeat (first | exact HB.out | apply ba_ | apply bn_ | apply bd_)⟩⟩
             ·rw [if_neg c23] at H
              exact absurd H (by simp)
            ·rw [if_neg c22] at H
             exact absurd H (by simp)
           ·rw [if_neg c21] at H
            exact absurd H (by simp)
          ·rw [if_neg c19] at H
           exact absurd H (by simp)
         ·rw [if_neg c18] at H
          exact absurd H (by simp)
        ·rw [if_neg c17] at H
         have c17b0 : decide (0 ≤ (wrap64 ((wrap64 (x11_1 - x15_2)) - 2))) = false := decide_eq_false c17
         clear c17
         have H' := A0_ H
         clear H
         go_wp2
         repeat (go_quiet (fail); try go_wp2)
         go_roundg k2
         case measure => have := HK1.out; have := HK2.out; omega
         case rel => exact ⟨(x5_2), (wrap64 (x15_2 + 1)), (by first | rfl | (simp [*]; done)), (by first | rfl | (simp [*]; done)), H', ⟨by have := HK1.out; have := HK2.out; omega⟩, ⟨by (with_reducible repeat (first | apply ra_ | apply rn_ | apply rd_)); exact HO_3.out⟩, ⟨by repeat (first | exact HB.out | apply ba_ | apply bn_ | apply bd_)⟩⟩
      ·rw [if_neg c5] at H
       have c5b0 : decide (x15_2 < x11_1) = false := decide_eq_false c5
       clear c5
       have H' := A0_ H
       clear H
       go_wp2
       repeat (go_quiet (fail); try go_wp2)
       go_loopg [9] k2 (fun kq v9 w' => ∃ (x9_3 : Int), v9 = .int .i64 x9_3 ∧ Aside0 (impl_lineNumbers.l2 kq a0 x3_1 x5_2 x9_3 x11_1 = some r) ∧ Aside0 (kq ≤ k2) ∧ Aside0 (Kd.R (Kd.int .i64) 3 w' w.heap.size (fun _ => True) u3 x3_1) ∧ Aside0 (Below w.heap.size w w'))
       case atStart => exact ⟨(0), (by first | rfl | (simp [*]; done)), H', ⟨Nat.le_refl _⟩, ⟨by (with_reducible repeat (first | apply ra_ | apply rn_ | apply rd_)); exact HO_3.out⟩, ⟨by repeat (first | exact HB.out | apply ba_ | apply bn_ | apply bd_)⟩⟩
       case round =>
        clear H'
        try clear c1
        try clear c2
        try clear p2
        try clear p3
        try clear q3
        try clear hx3
        try clear c4
        try clear c4b0
        try clear c5
        try clear c5b0
        try clear c6
        try clear c6b0
        try clear c6b1
        try clear p6
        try clear c9
        try clear c9b0
        try clear c10
        try clear c10b0
        try clear c11
        try clear c11b0
        try clear c12
        try clear c12b0
        try clear c13
        try clear c13b0
        try clear c14
        try clear c14b0
        try clear c14b1
        try clear c17
        try clear c17b0
        try clear c18
        try clear c18b0
        try clear c19
        try clear c19b0
        try clear c21
        try clear c21b0
        try clear c22
        try clear c22b0
        try clear c23
        try clear c23b0
        try clear c23b1
        try clear hx384_0
        try clear hx385_0
        try clear hx386_0
        try clear hx387_0
        try clear p2
        try clear p384
        try clear p385
        try clear p386
        try clear p387
        try clear q384
        try clear q385
        try clear q386
        try clear q387
        obtain ⟨x9_3, rfl, HA, HK3, HO_3, HB⟩ := hrel
        cases gk with
        | zero => exact absurd HA.out (by simp [impl_lineNumbers.l2])
        | succ k3 =>
         have H := HA.out
         clear HA
         simp only [impl_lineNumbers.l2] at H
         replace H := ob_.mp H
         obtain ⟨t388, A260, H⟩ := H
         have A26 := A0_ A260
         clear A260
         by_cases c27 : t388 = true
         ·subst c27
          rw [if_pos rfl] at H
          have H' := A0_ H
          clear H
          go_wp2_with (first | (go_at_call 73; (with_reducible refine (impl_set_has.calls x5_2 x9_3 true _ A26.out).mono ?_); rintro e w' ⟨rfl, ⟨nd, rfl⟩⟩; (try first | exact ⟨rfl, _, World.drewN_drewN _ _ _⟩ | exact ⟨rfl, _, Eq.trans (World.drewN_drewN _ _ _) (congrArg (World.drewN _) (Nat.add_assoc _ _ _))⟩)))
          repeat (go_quiet (first | (go_at_call 73; (with_reducible refine (impl_set_has.calls x5_2 x9_3 true _ A26.out).mono ?_); rintro e w' ⟨rfl, ⟨nd, rfl⟩⟩; (try first | exact ⟨rfl, _, World.drewN_drewN _ _ _⟩ | exact ⟨rfl, _, Eq.trans (World.drewN_drewN _ _ _) (congrArg (World.drewN _) (Nat.add_assoc _ _ _))⟩))); try go_wp2_with (first | (go_at_call 73; (with_reducible refine (impl_set_has.calls x5_2 x9_3 true _ A26.out).mono ?_); rintro e w' ⟨rfl, ⟨nd, rfl⟩⟩; (try first | exact ⟨rfl, _, World.drewN_drewN _ _ _⟩ | exact ⟨rfl, _, Eq.trans (World.drewN_drewN _ _ _) (congrArg (World.drewN _) (Nat.add_assoc _ _ _))⟩))))
          go_roundg k3
          case measure => have := HK1.out; have := HK2.out; have := HK3.out; omega
          case rel => exact ⟨(wrap64 (x9_3 + 1)), (by first | rfl | (simp [*]; done)), H', ⟨by have := HK1.out; have := HK2.out; have := HK3.out; omega⟩, ⟨by (with_reducible repeat (first | apply ra_ | apply rn_ | apply rd_)); exact HO_3.out⟩, ⟨by repeat (first | exact HB.out | apply ba_ | apply bn_ | apply bd_)⟩⟩
         ·replace c27 := bf_.mpr c27
          subst c27
          rw [if_neg (show ¬ (false = true) by decide)] at H
          by_cases c28 : x3_1.length < 17592186044416
          ·rw [if_pos c28] at H
           have LMc28 := A0_ c28
           clear c28
           obtain ⟨y389, hy389⟩ : ∃ y_ : List Int, y_ = (x3_1 ++ [x9_3]) := ⟨_, rfl⟩
           replace H : (impl_lineNumbers.l0 k3 a0 y389 (wrap64 (x11_1 + 1))) = some r := by first | (rw [hy389]; with_reducible exact H) | (have H2_ := (Option.bind_some _ _).symm.trans H; rw [hy389]; with_reducible exact H2_) | (have H2_ := (Option.bind_some _ _).symm.trans H; with_reducible exact H2_) | with_reducible exact H | (rw [hy389]; exact H) | exact H
           have Ny389 := A0_ hy389
           clear hy389
           have H' := A0_ H
           clear H
           go_wp2_with (first | (go_at_call 73; (with_reducible refine (impl_set_has.calls x5_2 x9_3 false _ A26.out).mono ?_); rintro e w' ⟨rfl, ⟨nd, rfl⟩⟩; (try first | exact ⟨rfl, _, World.drewN_drewN _ _ _⟩ | exact ⟨rfl, _, Eq.trans (World.drewN_drewN _ _ _) (congrArg (World.drewN _) (Nat.add_assoc _ _ _))⟩)) | ((with_reducible refine gate_builtin (b := .append) (xs := #[.tmp 53, .tmp 55]) rfl ?_); at_builtin; refine Kd.R_append (Kd.int .i64) (w0 := w) w.heap.size rfl (.tmp 53) (.tmp 55) 22 3 (.int .i64 0) 8 rfl Try.underlying22 info3 rfl (by decide) (by omega) u3 x3_1 x9_3 [.int .i64 x9_3] (fun _ => True) (fun _ => False) rfl rfl ?aP (fun _ hk => hk.elim) ?aF ?aO ?aB ?aS ?aL ?_; (case aP => exact rfl); (case aB => exact (by repeat (first | exact HB.out | apply ba_ | apply bn_ | apply bd_))); (case aF => exact (fun _ _ => trivial)); (case aO => exact (by (with_reducible repeat (first | apply ra_ | apply rn_ | apply rd_)); exact HO_3.out)); (case aS => exact (bz_ (by repeat (first | exact HB.out | apply ba_ | apply bn_ | apply bd_)))); (case aL => have := LMc28.out; omega); intro v390 w29 ho hb hg hat; rw [← Ny389.out] at ho; have n0_ := A0_ (hb); have n1_ := A0_ (ho); clear HB HO_3; have HB := n0_; have HO391 := n1_; clear n0_ n1_ ho hb hg hat))
           repeat (go_quiet (first | (go_at_call 73; (with_reducible refine (impl_set_has.calls x5_2 x9_3 false _ A26.out).mono ?_); rintro e w' ⟨rfl, ⟨nd, rfl⟩⟩; (try first | exact ⟨rfl, _, World.drewN_drewN _ _ _⟩ | exact ⟨rfl, _, Eq.trans (World.drewN_drewN _ _ _) (congrArg (World.drewN _) (Nat.add_assoc _ _ _))⟩)) | ((with_reducible refine gate_builtin (b := .append) (xs := #[.tmp 53, .tmp 55]) rfl ?_); at_builtin; refine Kd.R_append (Kd.int .i64) (w0 := w) w.heap.size rfl (.tmp 53) (.tmp 55) 22 3 (.int .i64 0) 8 rfl Try.underlying22 info3 rfl (by decide) (by omega) u3 x3_1 x9_3 [.int .i64 x9_3] (fun _ => True) (fun _ => False) rfl rfl ?aP (fun _ hk => hk.elim) ?aF ?aO ?aB ?aS ?aL ?_; (case aP => exact rfl); (case aB => exact (by repeat (first | exact HB.out | apply ba_ | apply bn_ | apply bd_))); (case aF => exact (fun _ _ => trivial)); (case aO => exact (by (with_reducible repeat (first | apply ra_ | apply rn_ | apply rd_)); exact HO_3.out)); (case aS => exact (bz_ (by repeat (first | exact HB.out | apply ba_ | apply bn_ | apply bd_)))); (case aL => have := LMc28.out; omega); intro v390 w29 ho hb hg hat; rw [← Ny389.out] at ho; have n0_ := A0_ (hb); have n1_ := A0_ (ho); clear HB HO_3; have HB := n0_; have HO391 := n1_; clear n0_ n1_ ho hb hg hat)); try go_wp2_with (first | (go_at_call 73; (with_reducible refine (impl_set_has.calls x5_2 x9_3 false _ A26.out).mono ?_); rintro e w' ⟨rfl, ⟨nd, rfl⟩⟩; (try first | exact ⟨rfl, _, World.drewN_drewN _ _ _⟩ | exact ⟨rfl, _, Eq.trans (World.drewN_drewN _ _ _) (congrArg (World.drewN _) (Nat.add_assoc _ _ _))⟩)) | ((with_reducible refine gate_builtin (b := .append) (xs := #[.tmp 53, .tmp 55]) rfl ?_); at_builtin; refine Kd.R_append (Kd.int .i64) (w0 := w) w.heap.size rfl (.tmp 53) (.tmp 55) 22 3 (.int .i64 0) 8 rfl Try.underlying22 info3 rfl (by decide) (by omega) u3 x3_1 x9_3 [.int .i64 x9_3] (fun _ => True) (fun _ => False) rfl rfl ?aP (fun _ hk => hk.elim) ?aF ?aO ?aB ?aS ?aL ?_; (case aP => exact rfl); (case aB => exact (by repeat (first | exact HB.out | apply ba_ | apply bn_ | apply bd_))); (case aF => exact (fun _ _ => trivial)); (case aO => exact (by (with_reducible repeat (first | apply ra_ | apply rn_ | apply rd_)); exact HO_3.out)); (case aS => exact (bz_ (by repeat (first | exact HB.out | apply ba_ | apply bn_ | apply bd_)))); (case aL => have := LMc28.out; omega); intro v390 w29 ho hb hg hat; rw [← Ny389.out] at ho; have n0_ := A0_ (hb); have n1_ := A0_ (ho); clear HB HO_3; have HB := n0_; have HO391 := n1_; clear n0_ n1_ ho hb hg hat)))
           go_roundg k3
           case measure => have := HK1.out; have := HK2.out; have := HK3.out; omega
           case rel => exact ⟨(y389), (wrap64 (x11_1 + 1)), (by first | rfl | (simp [*]; done)), H', ⟨by have := HK1.out; have := HK2.out; have := HK3.out; omega⟩, ⟨by (with_reducible repeat (first | apply ra_ | apply rn_ | apply rd_)); exact HO391.out⟩, ⟨by repeat (first | exact HB.out | apply ba_ | apply bn_ | apply bd_)⟩⟩
          ·rw [if_neg c28] at H
           exact absurd H (by simp)
   ·rw [if_neg c4] at H
    have c4b0 : decide (x11_1 < 25) = false := decide_eq_false c4
    clear c4
    obtain rfl := si_ H
    go_wp2
    repeat (go_quiet (fail); try go_wp2)
    go_ret
    exact ⟨_, by first | rfl | (simp [*, errW_none, errW_some] <;> rfl), by (with_reducible repeat (first | apply ra_ | apply rn_ | apply rd_)); exact HO_3.out, by repeat (first | exact HB.out | apply ba_ | apply bn_ | apply bd_)⟩

def impl_bench_all.f (a0_0 : Int) (a0_1 : Bool) : Option (Int) := if 0 ≤ a0_0 then (some (((shl .u32 1 a0_0) - 1) % 4294967296)) else (none)
theorem impl_bench_all.calls (a0_0 : Int) (a0_1 : Bool) (r : Int) (w : World) (h : impl_bench_all.f a0_0 a0_1 = some r) :
  Calls Try.prog 82 #[.agg #[.int .i64 a0_0, .bool a0_1]] w fun e w' => e = .returned (.int .u32 r) ∧ Below w.heap.size w w' := by
 have hu57 := Try.underlying57
 have HB := A0_ (Below.refl w.heap.size w)
 have H : (if 0 ≤ a0_0 then (some (((shl .u32 1 a0_0) - 1) % 4294967296)) else (none)) = some r := h
 clear h
 by_cases c2 : 0 ≤ a0_0
 ·rw [if_pos c2] at H
  have c2b0 := eq_true c2
  have c2b1 : decide (0 ≤ a0_0) = true := dt_ c2
  clear c2
  obtain ⟨ji3, hji3⟩ : ∃ j_ : Int, (shl .u32 1 a0_0) = j_ := ⟨_, rfl⟩
  replace H : (some (((ji3) - 1) % 4294967296)) = some r := by first | (rw [hji3] at H; exact H) | (simp only [hji3] at H ⊢; exact H)
  have hji3_ : (IntKind.u32.wrap (1 * 2 ^ min a0_0.toNat 32)) = ji3 := hji3
  have hji3z : a0_0 ≤ 32 → (IntKind.u32.wrap (1 * 2 ^ a0_0.toNat)) = ji3 := shl_small hji3
  have hji3u : (IntKind.u32.wrap (2 ^ min a0_0.toNat 32)) = ji3 := by have h_ := hji3_; rw [Int.one_mul] at h_; exact h_
  have hji3v : a0_0 ≤ 32 → (IntKind.u32.wrap (2 ^ a0_0.toNat)) = ji3 := fun hle_ => by have h_ := hji3z hle_; rw [Int.one_mul] at h_; exact h_
  obtain rfl := si_ H
  go_enter Try.func82, Try.ntmps82
  go_wp2_with (first | ((with_reducible refine gd_ (N := 1) rfl ?_); refine be_ ?hg (N := 1) ?hd (cs := #[.int .i64 a0_0, .bool a0_1]) (t := 57) ?hr ?_; (case hd => rfl); (case hg => rfl); (case hr => go_simp; first | done | rfl); intro gb392 hg w4 hbox hb; have n0_ := A0_ (bt_ (by repeat (first | exact HB.out | apply ba_ | apply bn_ | apply bd_)) hb); have n1_ := A0_ (hbox); have n2_ := A0_ ((by rw [hg]; exact (bz_ (by repeat (first | exact HB.out | apply ba_ | apply bn_ | apply bd_))) : w.heap.size ≤ gb392)); have n3_ := A0_ ((by rw [hg]; exact (bz_ (by repeat (first | exact HB.out | apply ba_ | apply bn_ | apply bd_))) : w.heap.size ≤ gb392)); clear HB; have HB := n0_; have BK392 := n1_; have GW392 := n2_; have GE392 := n3_; clear n0_ n1_ n2_ n3_ hb hbox hg; have hcz5_0 : w4.cell? ⟨gb392, 0, none⟩ = some (.int .i64 a0_0) := (kc_ BK392.out 0).trans rfl; have hcz5_1 : w4.cell? ⟨gb392, 1, none⟩ = some (.bool a0_1) := (kc_ BK392.out 1).trans rfl))
  go_ret
  exact ⟨by first | rfl | (simp [errW_none, errW_some] <;> rfl) | (simp only [← hji3]; first | rfl | (simp [errW_none, errW_some] <;> rfl)) | (simp [*, errW_none, errW_some] <;> rfl), by repeat (first | exact HB.out | apply ba_ | apply bn_ | apply bd_ | refine bs_ ?_ GE392.out)⟩
 ·rw [if_neg c2] at H
  exact absurd H (by simp)

end Go.Proofs.Ytgcgmlbjklkkjaa.QFnExactBestPlay
-- squeezed
