-- Written by px.py, a program of this session, over the kit's printer: some functions have a definition and a proof of this session's own.
import Derived.RangeFuncBox
import Derived.RangeFuncLeaves
import Derived.Shelf.Abstract
import Derived.OwnWalkIn
import Derived.TacticsInMore
import Derived.LoopNIn
import Derived.LoopIn
import Derived.Maps.AppendAt
import Derived.Sort.OwnSortedInts
import Derived.Shelf.Slices.In.SortNone
import Derived.Shelf.Sort.Plain
import Derived.KernelRfl
import Derived.Test.YtbohmfnjgjijdaaQFnExactNewConsolex0
namespace Go.Proofs.Ytbohmfnjgjijdaa.QFnExactNewConsole
open Go.RowKit Go.Proofs.YtbohmfnjgjijdaaW.PrintWords Go.Proofs.YtbohmfnjgjijdaaW.PrintLast Go.Proofs.YtbohmfnjgjijdaaW.PrintMore
attribute [local go_sem] max2_int min2_int max_two min_two max_three min_three max_four min_four   -- for this text's walks alone
set_option linter.unusedVariables false
set_option linter.unusedSimpArgs false

/-! ### slices_Sorted_int: function 29 -/
section
open Go.Shelf Go.Sort
attribute [local go_sem] Oper.semAt_some
theorem Sv.addb (a : Addr) (i : Nat) : (a.add i).block = a.block := by unfold Addr.add; split <;> rfl
def Sv.upto {α : Type} (f : Nat → α) (k : Nat) : List α := (List.range k).map f
theorem Sv.upto_succ {α : Type} (f : Nat → α) (k : Nat) : Sv.upto f (k + 1) = Sv.upto f k ++ [f k] := by simp [Sv.upto, List.range_succ]
theorem Sv.upto_length {α : Type} (f : Nat → α) (k : Nat) : (Sv.upto f k).length = k := by simp [Sv.upto]
theorem Sv.upto_all (zs : List Int) : Sv.upto (fun j => zs[j]?.getD 0) zs.length = zs := by
 apply List.ext_getElem
 ·simp [Sv.upto]
 ·intro i h1 h2
  simp [Sv.upto, h2]

set_option maxRecDepth 100000 in
set_option maxHeartbeats 2000000 in
theorem Sv.values1_in (F : Fence) (n : Nat) (h7 : F.fn 48) (hro : F.round = none) (hn : 1 ≤ n) (l Bs n₀ len cap : Nat) (ad : Addr) (zs : List Int) (hreach : len * 8 ≤ 140737488351232) (hb : ad.block < n₀) (J Jx : List Int → World → Prop)
  (hY : ∀ pre x W, J pre W → pre.length < len → YieldAt F (n - 1) Try.prog l #[.int .i64 x] W fun e W' =>
   (e = .returned (.bool true) ∧ J (pre ++ [x]) W' ∧ Below n₀ W W') ∨ (e = .returned (.bool false) ∧ Jx (pre ++ [x]) W'))
  (W : World) (hBs : W.cell? ⟨Bs, 0, none⟩ = some (.slice (some ad) len cap)) (hc : ∀ j, j < len → W.cell? (ad.add j) = some (.int .i64 (zs[j]?.getD 0))) (h0 : J [] W) :
  CallsIn F n Try.prog 48 #[.func (.yield l) #[] #[], .pointer (some ⟨Bs, 0, none⟩)] W fun e W' => (∃ v, e = .returned v) ∧
   ((∃ ys, ys = Sv.upto (fun j => zs[j]?.getD 0) len ∧ J ys W') ∨ (∃ pre, (∃ k, k ≤ len ∧ pre = Sv.upto (fun j => zs[j]?.getD 0) k) ∧ Jx pre W')) := by
 refine callsIn_of_wp Try.func48 rfl h7 ?_ hro
 simp only [Try.ntmps48, List.size_toArray, List.length_cons, List.length_nil, Nat.reduceAdd, Nat.reduceSub, Array.replicate_succ, Array.replicate_zero, List.push_toArray, List.append_toArray, List.nil_append, List.cons_append]
 gi_wp2
 gi_loopw [7] (fun i wr => ∃ k : Nat, k ≤ len ∧ i = .int .i64 k ∧ J (Sv.upto (fun j => zs[j]?.getD 0) k) wr ∧ Below n₀ W wr)
  (fun i _ => len - (intOf i).toNat)
 case atStart => exact ⟨0, Nat.zero_le _, rfl, h0, Below.refl _ _⟩
 case round =>
  obtain ⟨k, hk, rfl, hJs, hnx⟩ := hrel
  have hcx : k < len → wr.cell? (ad.add k) = some (.int .i64 (zs[k]?.getD 0)) := fun h => (hnx.cell (p := ad.add k) (by rw [Sv.addb]; exact hb)).trans (hc k h)
  by_cases hlt : k < len
  ·obtain ⟨fn, tmps, assign, body, hy, hR⟩ := hY _ (zs[k]?.getD 0) wr hJs (by rw [Sv.upto_length]; exact hlt)
   have hcx' := hcx hlt
   gi_wp2
   refine hR.mono ?_
   rintro e W3 (⟨rfl, hJ3, hk3⟩ | ⟨rfl, hJx3⟩)
   ·-- THE ROUND GOES ON
    gi_wp2
    go_roundw
    case rel => exact ⟨k + 1, by omega, by simp, by rw [Sv.upto_succ]; exact hJ3, hnx.trans hk3⟩
    case measure => simp [intOf]; omega
   ·gi_wp2
    refine bodyPost_ret (results_none rfl _ _ _) rfl ?_
    exact ⟨⟨_, rfl⟩, .inr ⟨_, ⟨k + 1, by omega, (Sv.upto_succ _ _).symm⟩, hJx3⟩⟩
  ·obtain rfl : k = len := by omega
   gi_wp2
   go_end0
   exact ⟨⟨_, rfl⟩, .inl ⟨_, rfl, hJs⟩⟩

theorem Sv.upto_take (zs : List Int) {k : Nat} (hk : k ≤ zs.length) : Sv.upto (fun j => zs[j]?.getD 0) k = zs.take k := by
 apply List.ext_getElem
 ·simp [Sv.upto, hk]
 ·intro i h1 h2
  have : i < zs.length := by simp [Sv.upto] at h1; omega
  simp [Sv.upto, this]

def Sv.Ints (n₀ : Nat) (W : World) (sv : Value) (zs : List Int) : Prop :=
 (zs = [] ∧ ∃ A cap, sv = .slice A 0 cap) ∨ ∃ ad cap, sv = .slice (some ad) zs.length cap ∧ ad.block < n₀ ∧ ∀ j, j < zs.length → W.cell? (ad.add j) = some (.int .i64 (zs[j]?.getD 0))
theorem Sv.Ints.below {n₀ : Nat} {A B : World} (h : Below n₀ A B) {sv : Value} {zs : List Int} : Sv.Ints n₀ A sv zs → Sv.Ints n₀ B sv zs
 | .inl e => .inl e
 | .inr ⟨ad, cap, e, hb, hc⟩ => .inr ⟨ad, cap, e, hb, fun j hj => (h.cell (p := ad.add j) (by rw [Sv.addb]; exact hb)).trans (hc j hj)⟩
set_option maxRecDepth 100000 in
set_option maxHeartbeats 1000000 in
theorem Sv.values1_nil_in (F : Fence) (n : Nat) (h7 : F.fn 48) (hro : F.round = none) (l Bs : Nat) (J : List Int → World → Prop) (W : World) (A0 : Option Addr) (cap0 : Nat) (hBs : W.cell? ⟨Bs, 0, none⟩ = some (.slice A0 0 cap0)) (h0 : J [] W) :
  CallsIn F n Try.prog 48 #[.func (.yield l) #[] #[], .pointer (some ⟨Bs, 0, none⟩)] W fun e W' => (∃ v, e = .returned v) ∧ J [] W' := by
 refine callsIn_of_wp Try.func48 rfl h7 ?_ hro
 simp only [Try.ntmps48, List.size_toArray, List.length_cons, List.length_nil, Nat.reduceAdd, Nat.reduceSub, Array.replicate_succ, Array.replicate_zero, List.push_toArray, List.append_toArray, List.nil_append, List.cons_append]
 gi_wp2
 gi_loopw [7] (fun i wr => i = .int .i64 0 ∧ J [] wr) (fun _ _ => 0)
 case atStart => exact ⟨rfl, h0⟩
 case round =>
  obtain ⟨rfl, hJs⟩ := hrel
  gi_wp2
  go_end0
  exact ⟨⟨_, rfl⟩, hJs⟩

set_option maxHeartbeats 1000000 in
theorem Sv.values_in (F : Fence) (n : Nat) (h5 : F.fn 30) (hro : F.round = none) (a : Option Addr) (len cap : Nat) (w : World) :
  CallsIn F n Try.prog 30 #[.slice a len cap] w fun e w' => e = .returned (.func (.func 48) #[] #[.pointer (some ⟨w.heap.size, 0, none⟩)]) ∧ w' = w.alloc (.cells #[.slice a len cap] 22) := by
 refine callsIn_of_wp Try.func30 rfl h5 ?_ hro
 simp only [Try.ntmps30, List.size_toArray, List.length_cons, List.length_nil, Nat.reduceAdd, Nat.reduceSub, Array.replicate_succ, Array.replicate_zero, List.push_toArray, List.append_toArray, List.nil_append, List.cons_append]
 gi_wp2
 go_ret
 exact ⟨rfl, rfl⟩

theorem Sv.values_stops (F : Fence) (n : Nat) (h7 : F.fn 48) (hro : F.round = none) (hn : 1 ≤ n) (Bs n₀ : Nat) (sv : Value) (zs : List Int) (hreach : zs.length * 8 ≤ 140737488351232) (w : World) (hBs : Bs < w.heap.size) (hn₀ : n₀ ≤ w.heap.size)
  (hc : w.cell? ⟨Bs, 0, none⟩ = some sv) (hI : Sv.Ints n₀ w sv zs) :
  SeqStopsK F n Try.prog 48 #[.pointer (some ⟨Bs, 0, none⟩)] (fun x : Int => #[Value.int .i64 x]) (Below n₀) (fun ys => ys = zs) (fun pre => pre <+: zs) zs.length w := fun l J Jx W hW _ _ hY h0 => by
 have hc' := (hW.cell (p := ⟨Bs, 0, none⟩) hBs).trans hc
 rcases hI.below (hW.mono hn₀) with ⟨rfl, A0, cap0, rfl⟩ | ⟨ad, cap, rfl, hb, hcs⟩
 ·exact (Sv.values1_nil_in F n h7 hro l Bs J W A0 cap0 hc' h0).mono fun e W' ⟨he, hj⟩ => ⟨he, .inl ⟨_, rfl, hj⟩⟩
 ·refine (Sv.values1_in F n h7 hro hn l Bs n₀ zs.length cap ad zs hreach hb J Jx hY W hc' hcs h0).mono ?_
  rintro e W' ⟨he, ⟨ys, rfl, hj⟩ | ⟨pre, ⟨k, hk, rfl⟩, hj⟩⟩
  ·exact ⟨he, .inl ⟨_, Sv.upto_all zs, hj⟩⟩
  ·exact ⟨he, .inr ⟨_, by rw [Sv.upto_take zs hk]; exact List.take_prefix _ _, hj⟩⟩

theorem Sv.infoI : (Try.prog.info? 3).map (fun i => (i.zero, i.size, i.bytes)) = some (some (.int .i64 0), 1, 8) := by kernel_rfl
set_option maxRecDepth 100000 in
set_option maxHeartbeats 2000000 in
/-- slices.AppendSeq(nil, slices.Values(zs)): a slice of the call's own that holds zs. -/
theorem Sv.appendSeq_in (F : Fence) (n : Nat) (h3 : F.fn 53) (h5 : F.fn 48) (hro : F.round = none) (hn : 3 ≤ n) (Bv : Nat) (sv : Value) (zs : List Int) (hlen : zs.length ≤ maxLen) (hreach : zs.length * 8 ≤ 140737488351232) (w : World) (hBv : Bv < w.heap.size) (hcv : w.cell? ⟨Bv, 0, none⟩ = some sv) (hI : Sv.Ints w.heap.size w sv zs) :
  CallsIn F n Try.prog 53 #[.slice none 0 0, .func (.func 48) #[] #[.pointer (some ⟨Bv, 0, none⟩)]] w fun e W' => ∃ v, e = .returned v ∧ W'.ownsRow w.heap.size 3 1 v zs.length (zs.map (Value.int .i64)) ∧ Below w.heap.size w W' := by
 have h1 : 1 ≤ n := by omega
 obtain ⟨i0, hi, hz0, hz1, hz2⟩ := info_parts Sv.infoI
 refine callsIn_of_wp_marks Try.func53 rfl h3 ?_ hro
 simp only [Try.ntmps53, List.size_toArray, List.length_cons, List.length_nil, Nat.reduceAdd, Nat.reduceSub, Array.replicate_succ, Array.replicate_zero, List.push_toArray, List.append_toArray, List.nil_append, List.cons_append]
 gi_wp2
 have bO := Boxed.new w 22 (.slice none 0 0)
 have hB0 : Below w.heap.size w (w.alloc (.cells #[.slice none 0 0] 22)) := (Below.refl _ w).alloc (Nat.le_refl _) _
 refine wpIn_rangeFunc_ownG hro h1 (gf := 48) (lb := #[.pointer (some ⟨Bv, 0, none⟩)]) rfl h5 (enters_of Try.func48 (by kernel_rfl) rfl)
  (Sv.values_stops F (n - 1) h5 hro (by omega) Bv w.heap.size sv zs hreach _ (by simp; omega) (by simp) ((hB0.cell (p := ⟨Bv, 0, none⟩) hBv).trans hcv) (hI.below hB0)) belowK_t (belowK_b (by simp)) (Below.refl _ _) (fun _ => rfl)
  (fun pre W => (∃ v, Boxed W w.heap.size 22 v ∧ W.ownsRow w.heap.size 3 1 v pre.length (pre.map (Value.int .i64)) ∧ (v = .slice none 0 0 ↔ pre = [])) ∧ Below w.heap.size w W)
  (fun _ _ _ => False)
  (OwnFrom.and (Own.from (holdsRow_own w.heap.size w.heap.size 22 3 1 (fun pre : List Int => pre.length) (fun pre => pre.map (Value.int .i64)) (fun pre v => v = .slice none 0 0 ↔ pre = [])) _) (ownFrom_below (Nat.le_refl _) (by simp)))
  (fun _ _ _ _ _ hs _ _ => hs)
  ⟨⟨_, bO, World.ownsRow_nil _ _ _ _, by simp⟩, hB0⟩
  (fun x => { tmps := #[.slice none 0 0, .func (.func 48) #[] #[.pointer (some ⟨Bv, 0, none⟩)], .pointer (some ⟨w.heap.size, 0, none⟩), undef, .slice none 0 0, .int .i64 x, .func (.func 48) #[] #[.pointer (some ⟨Bv, 0, none⟩)], .int .i64 x, undef, undef, undef, undef, undef], defers := [] }) ?assign ?body ?done ?stop
 case assign =>
  intro l x W K hK
  gi_wp2
  exact hK
 case body =>
  rintro l pre x W ⟨⟨v, hv, hrow, hnil⟩, hB⟩ hlt
  have hc := hv.cell
  gi_wp2_with (gi_at_builtin; refine wpListIn_append_own _ rfl _ _ 22 rfl w.heap.size 3 i0 (.int .i64 0) 1 8 Try.underlying22 hi hz0 hz1 hz2 rfl (by decide) _ _ _ rfl (hrow.alloc _) ⟨W.heap.size, 0, none⟩ 1 1 [.int .i64 x] rfl rfl (cell_one_new _ _ _) (by simp [Value.oneCell']) (by omega) (by omega) (by have := hB.size; simp; omega) ?_; intro v' w1 hown' hgrow _; obtain ⟨g', cap', rfl⟩ := ownsRow_succ hown'; obtain ⟨hv1, hv2, hr2, hk2, hb2⟩ := hv.appended (by decide) hrow hB.size (Nat.le_refl _) hown' hgrow; have hc1 := hv1.cell; have hf1 := hv1.frozen)
  exact ⟨hk2.from _, hb2, ⟨_, hv2, by simpa using hr2, by simp⟩, hB.trans hb2⟩
 case done =>
  rintro D ys W hD rfl ⟨⟨v, hv, hrow, hnil⟩, hB⟩ hK
  have hc := hv.cell
  gi_wp2
  refine ⟨by simp, .inl ⟨_, _, rfl, run_takeDeferred hK, ?_⟩⟩
  exact ⟨_, results_tmp rfl _ _ _, v, rfl, ownsRow_putObj hrow _ hK rfl, hB.trans (belowK_b (w := w) (Nat.le_refl _) W D _ _ (by simp at hD; omega) hK rfl rfl)⟩
 case stop =>
  rintro D c pre W _ _ h _
  exact h.elim
set_option maxHeartbeats 1000000 in
theorem Sv.collect_in (F : Fence) (n : Nat) (h0 : F.fn 46) (h3 : F.fn 53) (h5 : F.fn 48) (hro : F.round = none) (hn : 4 ≤ n) (Bv : Nat) (sv : Value) (zs : List Int) (hlen : zs.length ≤ maxLen) (hreach : zs.length * 8 ≤ 140737488351232) (w : World) (hBv : Bv < w.heap.size) (hcv : w.cell? ⟨Bv, 0, none⟩ = some sv) (hI : Sv.Ints w.heap.size w sv zs) :
  CallsIn F n Try.prog 46 #[.func (.func 48) #[] #[.pointer (some ⟨Bv, 0, none⟩)]] w fun e W' => ∃ v, e = .returned v ∧ W'.ownsRow w.heap.size 3 1 v zs.length (zs.map (Value.int .i64)) ∧ Below w.heap.size w W' := by
 have h1 : 1 ≤ n := by omega
 refine callsIn_of_wp Try.func46 rfl h0 ?_ hro
 simp only [Try.ntmps46, List.size_toArray, List.length_cons, List.length_nil, Nat.reduceAdd, Nat.reduceSub, Array.replicate_succ, Array.replicate_zero, List.push_toArray, List.append_toArray, List.nil_append, List.cons_append]
 gi_wp2_with (gi_at_call 53; refine (Sv.appendSeq_in F (n - 1) h3 h5 hro (by omega) Bv sv zs hlen hreach _ hBv hcv hI).mono ?_; rintro e w' ⟨v, rfl, hrow, hb⟩)
 go_ret
 exact ⟨v, rfl, hrow, hb⟩
def lays189_ren : Go.Shelf.Ren where
 f := fun x => match x with
  | 189 => 47
  | 125 => 55
  | 257 => 54
  | 128 => 65
  | 129 => 66
  | 294 => 56
  | 295 => 57
  | 296 => 58
  | 297 => 59
  | 298 => 60
  | 299 => 61
  | 216 => 62
  | 300 => 63
  | 301 => 64
  | 328 => 67
  | 329 => 68
  | 330 => 69
  | 331 => 70
  | 332 => 71
  | 215 => 72
  | 343 => 73
  | n => n
 t := fun x => match x with
  | 28 => 22
  | 3 => 3
  | 46 => 74
  | 0 => 0
  | 51 => 84
  | 53 => 86
  | 4 => 4
  | 183 => 77
  | 182 => 76
  | 131 => 81
  | 5 => 5
  | 9 => 9
  | 218 => 87
  | 222 => 91
  | 228 => 93
  | 229 => 94
  | n => n
 g := fun x => x
theorem lays189 : Lays.n189 Try.prog lays189_ren where
 mixed := by kernel_rfl
 f125 := Try.func55.trans (by kernel_rfl)
 f128 := Try.func65.trans (by kernel_rfl)
 f129 := Try.func66.trans (by kernel_rfl)
 f189 := Try.func47.trans (by kernel_rfl)
 f215 := Try.func72.trans (by kernel_rfl)
 f216 := Try.func62.trans (by kernel_rfl)
 f257 := Try.func54.trans (by kernel_rfl)
 f294 := Try.func56.trans (by kernel_rfl)
 f295 := Try.func57.trans (by kernel_rfl)
 f296 := Try.func58.trans (by kernel_rfl)
 f297 := Try.func59.trans (by kernel_rfl)
 f298 := Try.func60.trans (by kernel_rfl)
 f299 := Try.func61.trans (by kernel_rfl)
 f300 := Try.func63.trans (by kernel_rfl)
 f301 := Try.func64.trans (by kernel_rfl)
 f328 := Try.func67.trans (by kernel_rfl)
 f329 := Try.func68.trans (by kernel_rfl)
 f330 := Try.func69.trans (by kernel_rfl)
 f331 := Try.func70.trans (by kernel_rfl)
 f332 := Try.func71.trans (by kernel_rfl)
 f343 := Try.func73.trans (by kernel_rfl)
 t0 := Try.underlying0
 a0 := Try.isAgg0
 z0 := Try.sizeOf0
 v0 := Try.zeroValue0
 t3 := Try.underlying3
 a3 := Try.isAgg3
 z3 := Try.sizeOf3
 v3 := Try.zeroValue3
 t4 := Try.underlying4
 a4 := Try.isAgg4
 z4 := Try.sizeOf4
 v4 := Try.zeroValue4
 t5 := Try.underlying5
 a5 := Try.isAgg5
 z5 := Try.sizeOf5
 v5 := Try.zeroValue5
 t9 := Try.underlying9
 a9 := Try.isAgg9
 z9 := Try.sizeOf9
 v9 := Try.zeroValue9
 t28 := Try.underlying22
 a28 := Try.isAgg22
 z28 := Try.sizeOf22
 v28 := Try.zeroValue22
 t46 := Try.underlying74
 a46 := Try.isAgg74
 z46 := Try.sizeOf74
 v46 := Try.zeroValue74
 t51 := Try.underlying84
 a51 := Try.isAgg84
 z51 := Try.sizeOf84
 v51 := Try.zeroValue84
 t53 := Try.underlying86
 a53 := Try.isAgg86
 z53 := Try.sizeOf86
 v53 := Try.zeroValue86
 t131 := Try.underlying81
 a131 := Try.isAgg81
 z131 := Try.sizeOf81
 v131 := Try.zeroValue81
 t182 := Try.underlying76
 a182 := Try.isAgg76
 z182 := Try.sizeOf76
 v182 := Try.zeroValue76
 t183 := Try.underlying77
 a183 := Try.isAgg77
 z183 := Try.sizeOf77
 v183 := Try.zeroValue77
 t218 := Try.underlying87
 a218 := Try.isAgg87
 z218 := Try.sizeOf87
 v218 := Try.zeroValue87
 t222 := Try.underlying91
 a222 := Try.isAgg91
 z222 := Try.sizeOf91
 v222 := Try.zeroValue91
 t228 := Try.underlying93
 a228 := Try.isAgg93
 z228 := Try.sizeOf93
 v228 := Try.zeroValue93
 t229 := Try.underlying94
 a229 := Try.isAgg94
 z229 := Try.sizeOf94
 v229 := Try.zeroValue94
end
theorem Sv.rd_at (l : List Int) (j : Nat) : rd l (j : Int) = l[j]?.getD 0 := by unfold rd; simp [List.getD]
section
open Go.Shelf Go.Sort
theorem Sv.reps (w : World) (base : Nat) (ok : Nat → Prop) : ∀ zs : List Int, Reps ((Kd.int .i64).M w base ok) 1 zs (zs.map (Value.int .i64))
 | [] => Reps.none _ _
 | z :: zs => Reps.one (show (Kd.int .i64).M w base ok z [.int .i64 z] from rfl) (Sv.reps w base ok zs)
theorem slices_Values_int.calls (A : Option Addr) (n c : Nat) (w : World) :
  Calls Try.prog 30 #[.slice A n c] w fun e w' => ∃ g : Nat, e = .returned (.func (.func 48) #[] #[.pointer (some ⟨g, 0, none⟩)]) ∧ w'.cell? ⟨g, 0, none⟩ = some (.slice A n c) ∧ Below w.heap.size w w' := by
 refine (callsIn_wide.1 (Sv.values_in Fence.wide 2 trivial rfl A n c w)).mono ?_
 rintro e w' ⟨rfl, rfl⟩
 exact ⟨w.heap.size, rfl, (Boxed.new w 22 (.slice A n c)).cell, (Below.refl _ w).alloc (Nat.le_refl _) _⟩
def slices_Sorted_int.f (l0 : List Int) : Option (List Int) := if l0.length ≤ 1048576 then some (l0.mergeSort fun x y => decide (x ≤ y)) else none
set_option maxHeartbeats 1000000 in
set_option maxRecDepth 100000 in
theorem slices_Sorted_int.calls (g : Nat) (A0 : Option Addr) (c0 : Nat) (l0 r : List Int) (w : World) (hg : w.cell? ⟨g, 0, none⟩ = some (.slice A0 l0.length c0)) (hr0 : Kd.C (Kd.int .i64) w A0 l0.length l0) (hc0 : l0.length ≤ c0) (h : slices_Sorted_int.f l0 = some r) :
  Calls Try.prog 29 #[.func (.func 48) #[] #[.pointer (some ⟨g, 0, none⟩)]] w fun e w' => ∃ v0_ : Value, e = .returned (v0_) ∧ Kd.R (Kd.int .i64) 3 w' w.heap.size (fun _ => True) v0_ r ∧ Below w.heap.size w w' := by
 unfold slices_Sorted_int.f at h
 split at h
 ·rename_i hl
  obtain rfl := Option.some.inj h
  clear h
  have hgl : g < w.heap.size := World.block_lt_of_cell? w _ hg
  have hI : Sv.Ints w.heap.size w (.slice A0 l0.length c0) l0 := by
   by_cases e : l0.length = 0
   ·exact .inl ⟨List.eq_nil_of_length_eq_zero e, A0, c0, by rw [e]⟩
   ·obtain ⟨ad, rfl, hx⟩ := Kd.at_int hr0 0 (by omega) (by omega)
    refine .inr ⟨ad, c0, rfl, ?_, fun j hj => ?_⟩
    ·have := World.block_lt_of_cell? w _ hx
     rwa [Sv.addb] at this
    ·obtain ⟨ad', e', hx'⟩ := Kd.at_int hr0 (j : Int) (by omega) (by omega)
     obtain rfl := Option.some.inj e'
     rw [Int.toNat_natCast] at hx'
     rw [hx', Sv.rd_at]
  have cC := callsIn_wide.1 (Sv.collect_in Fence.wide 10 trivial trivial trivial rfl (by omega) g _ l0 (by show l0.length ≤ 9223372036854775807; omega) (by omega) w hgl hg hI)
  go_enter Try.func29, Try.ntmps29
  go_wp2_with (go_at_call 46; refine cC.mono ?_; rintro e w1 ⟨v, rfl, hrow, hb⟩)
  rcases hrow.2 with ⟨rfl, hz⟩ | ⟨gb, cap, cur, rfl, hbase, hgb, r1, r2, r3, r4⟩
  ·obtain rfl := List.eq_nil_of_length_eq_zero hz
   have cS := Any.slices_Sort_int_none (ρ := lays189_ren) lays189 none 0 w1
   go_wp2_with (go_at_call 47; refine cS.mono ?_; rintro e w' ⟨rfl, rfl⟩)
   go_ret
   exact ⟨.slice none 0 0, rfl, by simpa using Kd.R_nil _ _ _ _ _, hb⟩
  ·have hH : Holds (Value.int .i64) w1 gb 0 l0.toArray := holds_of_blockI hgb (by simpa using r4)
   have hgl1 : gb < w1.heap.size := (Array.getElem?_eq_some_iff.1 hgb).1
   have cS := Any.slices_Sort_int (ρ := lays189_ren) lays189 gb 0 cap l0 w1 hH hgl1 (by omega)
   go_wp2_with (go_at_call 47; refine cS.mono ?_; rintro e w' ⟨rfl, nn, os, rfl⟩)
   go_ret
   exact ⟨_, rfl, ⟨fun _ _ => trivial, _, by rw [List.length_mergeSort]; exact ownsRow_sortedI (ss := l0) (by simp) hbase hgb r1 r2 r3, Sv.reps _ _ _ _⟩, hb.grown (grownBy_sortedI _) hb.size (fun j hj => by cases hj; exact hbase)⟩
 ·cases h
end


end Go.Proofs.Ytbohmfnjgjijdaa.QFnExactNewConsole
-- squeezed
