-- Written by px.py, a program of this session, over the kit's printer: some functions have a definition and a proof of this session's own.
import Derived.Maps.Own
import Derived.Maps.OwnSet
import Derived.Maps.AppendAt
import Derived.Maps.RangeWalk
import Derived.Maps.OwnOps
import Derived.KernelRfl
import Derived.Laws.EntriesVeiled
import Derived.Test.YtohmonfaabofaaaDoorQFnExactBestArrivalx0
import Derived.Test.YtohmonfaabofaaaDoorQFnExactBestArrivalx7
import Derived.Test.YtohmonfaabofaaaDoorQFnExactBestArrivalx8
namespace Go.Proofs.YtohmonfaabofaaaDoor.QFnExactBestArrival
open Go.RowKit Go.Proofs.YtohmonfaabofaaaDoorW.PrintWords Go.Proofs.YtohmonfaabofaaaDoorW.PrintLast Go.Proofs.YtohmonfaabofaaaDoorW.PrintMore
attribute [local go_sem] max2_int min2_int max_two min_two max_three min_three max_four min_four   -- for this text's walks alone
set_option linter.unusedVariables false
set_option linter.unusedSimpArgs false

/-! ### impl_BestArrival: function 12 -/
def impl_BestArrival.lo (S : Int → Option Int) (t : Int) (both : Bool) : List Int → Int → Option Int
 | [], b => some b
 | p :: ps, b => if 0 ≤ p then (impl_stands.f t p both).bind fun s => (S (Go.bits .or .u32 t (shl .u32 1 p))).bind fun m => impl_BestArrival.lo S t both ps (if b < 0 then wrap64 (s.1 + m) else if wrap64 (s.1 + m) < b then wrap64 (s.1 + m) else b) else none
def impl_BestArrival.le (k : Nat) (A : Int) (both : Bool) : Nat → Int → Option Int
 | 0, _ => none
 | d + 1, t => if t = A then some 0 else (impl_set_list.f k (Go.bits .andNot .u32 A t)).bind fun ps => if ps.length ≤ 32 then impl_BestArrival.lo (impl_BestArrival.le k A both d) t both ps (-1) else none
theorem impl_BestArrival.lo_mono {S S' : Int → Option Int} (hS : ∀ t, LeO (S t) (S' t)) (t : Int) (both : Bool) : ∀ ps b, LeO (impl_BestArrival.lo S t both ps b) (impl_BestArrival.lo S' t both ps b)
 | [], _ => LeO.refl _
 | p :: ps, b => by
  simp only [impl_BestArrival.lo]
  exact LeO.ite (LeO.bind (LeO.refl _) (fun _ => LeO.bind (hS _) (fun _ => impl_BestArrival.lo_mono hS t both ps _))) (LeO.refl _)
theorem impl_BestArrival.le_mono (k : Nat) (A : Int) (both : Bool) : ∀ d t, LeO (impl_BestArrival.le k A both d t) (impl_BestArrival.le (k + 1) A both d t)
 | 0, _ => LeO.none _
 | d + 1, t => by
  simp only [impl_BestArrival.le]
  exact LeO.ite (LeO.refl _) (LeO.bind (impl_set_list.mono _ _) fun _ => LeO.ite (impl_BestArrival.lo_mono (impl_BestArrival.le_mono k A both d) _ _ _ _) (LeO.refl _))
theorem impl_BestArrival.le_up (k : Nat) (A : Int) (both : Bool) : ∀ d t, LeO (impl_BestArrival.le k A both d t) (impl_BestArrival.le k A both (d + 1) t)
 | 0, _ => LeO.none _
 | d + 1, t => by
  rw [impl_BestArrival.le, impl_BestArrival.le]
  exact LeO.ite (LeO.refl _) (LeO.bind (LeO.refl _) fun _ => LeO.ite (impl_BestArrival.lo_mono (impl_BestArrival.le_up k A both d) _ _ _ _) (LeO.refl _))
theorem impl_BestArrival.le_add {k : Nat} {A : Int} {both : Bool} {d : Nat} {t v : Int} (h : impl_BestArrival.le k A both d t = some v) : ∀ m, impl_BestArrival.le k A both (d + m) t = some v
 | 0 => h
 | m + 1 => impl_BestArrival.le_up k A both (d + m) t v (impl_BestArrival.le_add h m)
theorem impl_BestArrival.le_same {k : Nat} {A : Int} {both : Bool} {d d' : Nat} {t v v' : Int} (h : impl_BestArrival.le k A both d t = some v) (h' : impl_BestArrival.le k A both d' t = some v') : v = v' := by
 have h1 := impl_BestArrival.le_add h d'
 have h2 := impl_BestArrival.le_add h' d
 rw [Nat.add_comm] at h2
 exact Option.some.inj (h1.symm.trans h2)
def impl_BestArrival.U : Nat → Nat
 | 0 => 0
 | d + 1 => 32 * impl_BestArrival.U d + 1
theorem impl_BestArrival.law : Maps.Keyed Tryd.prog 61 := Maps.int_keyed Tryd.underlying61
theorem impl_BestArrival.zeroE (w : World) : (zeroValue 3).run Tryd.prog w = .ok (.int .i64 0) w := by rfl
theorem impl_BestArrival.grown {w w' : World} (h : Below w.heap.size w w') (row : Option Nat) : w.grownBy w' row := ⟨h.os, h.tape, h.output, h.size, fun k hk _ => h.block k hk⟩
theorem impl_BestArrival.gate_insert {P : Program} {ops : Array Oper} {rest : List Oper} {o : Oper} {a : Act} {W : World} {Q : Exit → Act → World → Prop} {t : TypeId} {m k v : Operand} (_ho : o.op = .insert t m k v) (h : wpList P ops Q (o :: rest) a W) : wpList P ops Q (o :: rest) a W := h
/-- A map literal's entry. -/
theorem impl_BestArrival.insert_own {H : Type} {P : Program} (w : World) {ops : Array Oper} {rest : List Oper} {o : Oper} {a : Act} {Q : Exit → Act → World → Prop}
  (hg : o.guard = none) (m x v : Operand) (t : TypeId) (hop : o.op = Op.insert t m x v)
  (k e : TypeId) (K : Maps.Keyed P k) (ht : P.underlying t = some (.map k e)) (R : Value → Option (DataW H × List MemPlace)) (b n : Nat) (D : DataW H)
  (hm : a.eval m = .map (some b)) (hown : w.ownsMap P k R b n D) (hn : n < maxLen) (key val : Value) (kl : Lit) (hx : a.eval x = key) (hv : a.eval v = val) (hkey : keyOf P k key = some kl)
  (d : DataW H) (ps : List MemPlace) (hval : R val = some (d, ps))
  (hK : ∀ w', w'.ownsMap P k R b (n + 1) (D.put kl d) → w.grownBy w' (some b) → wpList P ops Q rest (a.put o.dst undef) w') :
  wpList P ops Q (o :: rest) a w := by
 refine wpList_plain hg fun K' hK' => ?_
 obtain ⟨w', hrun, r1, r2⟩ := hown.update K ht hn hkey hval
 unfold Oper.wp
 simp [execOp, hop, hm, hx, hv, hrun, Result.andThen]
 exact hK' _ _ (hK w' r1 r2)
structure impl_BestArrival.Inv (k : Nat) (A : Int) (both : Bool) (a0 : Int) (a1 : Bool) (A0 : Option Addr) (c0 : Nat) (l : List Int) (bm bv br bb bl : Nat) (w0 : World) (n : Nat) (w : World) : Prop where
 below : Below w0.heap.size w0 w
 hm : w0.heap.size ≤ bm
 cv : w.heap[bv]? = some (.cells #[.map (some bm)] 85 (0, 0))
 cr : w.heap[br]? = some (.cells #[.int .i64 a0, .bool a1, .slice A0 l.length c0] 28 (0, 0))
 cb : w.heap[bb]? = some (.cells #[.bool both] 4 (0, 0))
 cl : w.heap[bl]? = some (.cells #[.func (.func 67) #[] #[.pointer (some ⟨bv, 0, none⟩), .pointer (some ⟨br, 0, none⟩), .pointer (some ⟨bb, 0, none⟩), .pointer (some ⟨bl, 0, none⟩)]] 58 (0, 0))
 map : ∃ D : DataW Unit, w.ownsMap Tryd.prog 61 (plainElem Tryd.prog 3) bm n D ∧ Maps.has D (.int .u32 A) = true ∧
  ∀ t c, Maps.has D (.int .u32 t) = true → D.atKey (.int .u32 t) (.lit (.int .i64 0)) = .lit (.int .i64 c) → ∃ d, impl_BestArrival.le k A both d t = some c
section
variable {k : Nat} {A : Int} {both : Bool} {a0 : Int} {a1 : Bool} {A0 : Option Addr} {c0 : Nat} {l : List Int} {bm bv br bb bl : Nat} {w0 : World} {n : Nat} {w w' : World}
theorem impl_BestArrival.ne_map {H : Type} {P : Program} {q : TypeId} {R : Value → Option (DataW H × List MemPlace)} {D : DataW H} {g : Nat} {cs : Array Value} {t : TypeId} (h : w.ownsMap P q R bm n D) (hc : w.heap[g]? = some (.cells cs t (0, 0))) : some g ≠ some bm := by
 rintro e
 obtain rfl := Option.some.inj e
 obtain ⟨es, clock, hb, _⟩ := h
 rw [hb] at hc
 cases hc
theorem impl_BestArrival.Inv.turn (h : impl_BestArrival.Inv k A both a0 a1 A0 c0 l bm bv br bb bl w0 n w) (hg : w.grownBy w' (some bm)) {n' : Nat}
  (hmap : ∃ D : DataW Unit, w'.ownsMap Tryd.prog 61 (plainElem Tryd.prog 3) bm n' D ∧ Maps.has D (.int .u32 A) = true ∧
   ∀ t c, Maps.has D (.int .u32 t) = true → D.atKey (.int .u32 t) (.lit (.int .i64 0)) = .lit (.int .i64 c) → ∃ d, impl_BestArrival.le k A both d t = some c) :
  impl_BestArrival.Inv k A both a0 a1 A0 c0 l bm bv br bb bl w0 n' w' := by
 obtain ⟨D, hown, _⟩ := h.map
 exact ⟨h.below.grown hg h.below.size (fun j hj => by cases hj; exact h.hm), h.hm, blk_grown h.cv hg (impl_BestArrival.ne_map hown h.cv), blk_grown h.cr hg (impl_BestArrival.ne_map hown h.cr), blk_grown h.cb hg (impl_BestArrival.ne_map hown h.cb), blk_grown h.cl hg (impl_BestArrival.ne_map hown h.cl), hmap⟩
theorem impl_BestArrival.Inv.step (h : impl_BestArrival.Inv k A both a0 a1 A0 c0 l bm bv br bb bl w0 n w) (hb : Below w.heap.size w w') : impl_BestArrival.Inv k A both a0 a1 A0 c0 l bm bv br bb bl w0 n w' := by
 obtain ⟨D, hown, h1, h2⟩ := h.map
 exact h.turn (impl_BestArrival.grown hb _) ⟨D, hown.kept (impl_BestArrival.grown hb none) (by simp), h1, h2⟩
theorem impl_BestArrival.Inv.up (h : impl_BestArrival.Inv k A both a0 a1 A0 c0 l bm bv br bb bl w0 n w) {n' : Nat} (hn : n ≤ n') : impl_BestArrival.Inv k A both a0 a1 A0 c0 l bm bv br bb bl w0 n' w := by
 obtain ⟨D, hown, h1, h2⟩ := h.map
 exact ⟨h.below, h.hm, h.cv, h.cr, h.cb, h.cl, D, hown.mono hn, h1, h2⟩
end
theorem impl_BestArrival.put_ok {D : DataW Unit} (hD : Maps.IsMap D) {t0 v : Int} (hkl : WideAt.IsKeyLit (.int .u32 t0)) {Pv : Int → Int → Prop}
  (h : ∀ t c, Maps.has D (.int .u32 t) = true → D.atKey (.int .u32 t) (.lit (.int .i64 0)) = .lit (.int .i64 c) → Pv t c) (hv : Pv t0 v) :
  ∀ t c, Maps.has (D.put (.int .u32 t0) (.lit (.int .i64 v))) (.int .u32 t) = true → (D.put (.int .u32 t0) (.lit (.int .i64 v))).atKey (.int .u32 t) (.lit (.int .i64 0)) = .lit (.int .i64 c) → Pv t c := by
 intro t c hh hat
 by_cases e : t = t0
 ·subst e
  rw [Maps.atKey_put_same hD hkl] at hat
  injection hat with hat
  injection hat with _ hat
  exact hat ▸ hv
 ·have hne : Lit.int .u32 t ≠ Lit.int .u32 t0 := fun h => e (by injection h)
  rw [Maps.has_put_other hne] at hh
  rw [Maps.atKey_put_other hne] at hat
  exact h t c hh hat
set_option maxHeartbeats 4000000 in
set_option maxRecDepth 100000 in
/-- The function that is made: its own memory holds, of every set that is known, the least sum. -/
theorem impl_BestArrival.made (k : Nat) (A : Int) (both : Bool) (a0 : Int) (a1 : Bool) (A0 : Option Addr) (c0 : Nat) (l : List Int) (w : World) (hR : Kd.C (Kd.int .i64) w A0 l.length l) (hc : l.length ≤ c0) (hA : impl_bench_all.f a0 a1 = some A) (hA0 : 0 ≤ A) (hA1 : A < 4294967296) :
  Calls Tryd.prog 40 #[.agg #[.int .i64 a0, .bool a1, .slice A0 l.length c0], .bool both] w fun e w' => ∃ bm bv br bb bl, e = .returned (.func (.func 67) #[] #[.pointer (some ⟨bv, 0, none⟩), .pointer (some ⟨br, 0, none⟩), .pointer (some ⟨bb, 0, none⟩), .pointer (some ⟨bl, 0, none⟩)]) ∧
   impl_BestArrival.Inv k A both a0 a1 A0 c0 l bm bv br bb bl w 1 w' := by
 have hmm := @run_makeMap Tryd.prog
 have hwfA : (Lit.int .u32 A).wf = true := by
  have hmin : IntKind.u32.min = 0 := rfl
  have hmax : IntKind.u32.max = 4294967295 := rfl
  simp only [Lit.wf, Bool.and_eq_true, decide_eq_true_eq]
  omega
 have hkey : keyOf Tryd.prog 61 (.int .u32 A) = some (.int .u32 A) := Maps.keyOf_int_mk Tryd.underlying61 hwfA
 have hB : Below w.heap.size w w := Below.refl _ _
 go_enter Tryd.func40, Tryd.ntmps40
 go_wp2_with (first
  | ((with_reducible refine gate_callee (f := 45) rfl ?_); refine goesL_ (some 9) rfl rfl Tryd.func45 (by kernel_rfl) rfl #[.agg #[.int .i64 a0, .bool a1, .slice A0 l.length c0]] rfl (by (try simp only [List.map_toArray, List.map_cons, List.map_nil]); first | done | rfl) ?_; refine (impl_Row_bench.calls a0 a1 _ _ l a0 a1 _ (by repeat (first | exact hR | refine Kd.C_alloc ?_ _ | refine Kd.C_drewN ?_ _ | refine Kd.C_drew ?_)) hc rfl).mono ?_; rintro e w3 ⟨rfl, hb3⟩; refine ⟨_, rfl, ?_⟩)
  | ((with_reducible refine gate_callee (f := 46) rfl ?_); refine goesL_ (some 10) rfl rfl Tryd.func46 (by kernel_rfl) rfl #[.agg #[.int .i64 a0, .bool a1]] rfl (by (try simp only [List.map_toArray, List.map_cons, List.map_nil]); first | done | rfl) ?_; refine (impl_bench_all.calls a0 a1 A _ hA).mono ?_; rintro e w4 ⟨rfl, hb4⟩; have hown : w4.ownsMap Tryd.prog 61 (plainElem Tryd.prog 3) (w.heap.size + 1 + 1) 0 (DataW.map [] : DataW Unit) := (by simpa using (((World.ownsMap_made (H := Unit) ((w.alloc (Obj.cells #[.int .i64 a0, .bool a1, .slice A0 l.length c0] 28)).alloc (Obj.cells #[.bool both] 4)) Tryd.prog 61 (plainElem Tryd.prog 3)).kept (impl_BestArrival.grown hb3 none) (by simp)).kept (impl_BestArrival.grown hb4 none) (by simp))); refine ⟨_, rfl, ?_⟩)
  | ((with_reducible refine impl_BestArrival.gate_insert rfl ?_); refine impl_BestArrival.insert_own _ rfl _ _ _ 85 rfl 61 3 impl_BestArrival.law Tryd.underlying85 _ (w.heap.size + 1 + 1) 0 _ (by rfl) hown (by unfold maxLen; omega) _ _ (.int .u32 A) (by rfl) (by rfl) hkey (.lit (.int .i64 0)) [] (plainElem_int Tryd.underlying3 (by decide)) ?_; intro w5 hown5 hg5; have hbw := ((((below_alloc (below_alloc (below_alloc (Below.refl w.heap.size w) (Obj.cells #[.int .i64 a0, .bool a1, .slice A0 l.length c0] 28)) (Obj.cells #[.bool both] 4)) (Obj.map #[] 0))))); have hbw4 := below_step (below_step hbw hb3) hb4; have hr5 := blk_grown (blk_below (blk_below (blk_alloc (blk_alloc (blk_new w (Obj.cells #[.int .i64 a0, .bool a1, .slice A0 l.length c0] 28)) (Obj.cells #[.bool both] 4)) (Obj.map #[] 0)) hb3) hb4) hg5 (by simp; omega); have hbb5 := blk_grown (blk_below (blk_below (blk_alloc (blk_new (w.alloc (Obj.cells #[.int .i64 a0, .bool a1, .slice A0 l.length c0] 28)) (Obj.cells #[.bool both] 4)) (Obj.map #[] 0)) hb3) hb4) hg5 (by simp); have hbw5 : Below w.heap.size w w5 := hbw4.grown hg5 hbw4.size (fun j hj => by cases hj; omega)))
 go_ret
 have hlt := hown5.lt
 have hs1 : (w5.alloc (Obj.cells #[.map (some (w.heap.size + 1 + 1))] 85)).heap.size = w5.heap.size + 1 := by simp
 refine ⟨w.heap.size + 1 + 1, w5.heap.size, w.heap.size, w.heap.size + 1, w5.heap.size + 1, rfl, below_alloc (below_alloc hbw5 _) _, by omega, blk_alloc (blk_new w5 _) _, blk_alloc (blk_alloc hr5 _) _, ?_, ?_, _, (hown5.alloc _).alloc _, Maps.has_put_same ⟨_, rfl⟩ (impl_BestArrival.law.key hkey) _, impl_BestArrival.put_ok ⟨_, rfl⟩ (impl_BestArrival.law.key hkey) (fun t c hh => by simp [Maps.has] at hh) ⟨1, by simp [impl_BestArrival.le]⟩⟩
 ·exact blk_alloc (blk_alloc (by simpa using hbb5) _) _
 ·rw [← hs1]; exact blk_new _ _
set_option maxHeartbeats 8000000 in
set_option maxRecDepth 100000 in
/-- The function that is made, called: the least sum of a set; what it knows grows by sums that are right. -/
theorem impl_BestArrival.least (k : Nat) (A : Int) (both : Bool) (a0 : Int) (a1 : Bool) (A0 : Option Addr) (c0 : Nat) (l : List Int) (bm bv br bb bl : Nat) (w0 : World) (hG : TabOK w0) (hR : Kd.C (Kd.int .i64) w0 A0 l.length l) (hc : l.length ≤ c0) (hA : impl_bench_all.f a0 a1 = some A) :
  ∀ (d : Nat) (t v : Int) (n : Nat) (w : World), impl_BestArrival.le k A both d t = some v → 0 ≤ t → t < 4294967296 → impl_BestArrival.Inv k A both a0 a1 A0 c0 l bm bv br bb bl w0 n w → n + impl_BestArrival.U d < maxLen →
   Calls Tryd.prog 67 #[.int .u32 t, .pointer (some ⟨bv, 0, none⟩), .pointer (some ⟨br, 0, none⟩), .pointer (some ⟨bb, 0, none⟩), .pointer (some ⟨bl, 0, none⟩)] w fun e w' => e = .returned (.int .i64 v) ∧ impl_BestArrival.Inv k A both a0 a1 A0 c0 l bm bv br bb bl w0 (n + impl_BestArrival.U d) w' ∧ w.grownBy w' (some bm) := by
 intro d
 induction d with
 | zero => intro t v n w h; exact absurd h (by simp [impl_BestArrival.le])
 | succ d ih =>
  intro t v n w h ht0 ht1 hi hn
  obtain ⟨D, hmap, hall, hval⟩ := hi.map
  have hwf : (Lit.int .u32 t).wf = true := by
   have hmin : IntKind.u32.min = 0 := rfl
   have hmax : IntKind.u32.max = 4294967295 := rfl
   simp only [Lit.wf, Bool.and_eq_true, decide_eq_true_eq]
   omega
  have hkey : keyOf Tryd.prog 61 (.int .u32 t) = some (.int .u32 t) := Maps.keyOf_int_mk Tryd.underlying61 hwf
  have cv : w.cell? ⟨bv, 0, none⟩ = some (.map (some bm)) := (blk_cell hi.cv 0).trans rfl
  by_cases hh : Maps.has D (.int .u32 t) = true
  ·go_enter Tryd.func67, Tryd.ntmps67
   go_wp2_with (at_lookup; refine wpList_lookup_own_ok_int _ rfl _ _ 85 rfl 61 3 .i64 impl_BestArrival.law Tryd.underlying85 Tryd.underlying3 (impl_BestArrival.zeroE _) bm n D rfl hmap _ _ rfl hkey ?_; intro c hat hwc)
   go_ret
   obtain ⟨d', hd'⟩ := hval t c hh hat
   exact ⟨by rw [impl_BestArrival.le_same h hd']; rfl, hi.up (Nat.le_add_right _ _), World.grownBy.refl _ _⟩
  ·have hA' : t ≠ A := by rintro rfl; exact hh hall
   have hh' : Maps.has D (.int .u32 t) = false := by simpa using hh
   clear hh
   have h0 := h
   simp only [impl_BestArrival.le, if_neg hA'] at h
   obtain ⟨ps, hps, h⟩ := Option.bind_eq_some_iff.mp h
   by_cases hl : ps.length ≤ 32
   ·rw [if_pos hl] at h
    have cr0 : w.cell? ⟨br, 0, none⟩ = some (.int .i64 a0) := (blk_cell hi.cr 0).trans rfl
    have cr1 : w.cell? ⟨br, 1, none⟩ = some (.bool a1) := (blk_cell hi.cr 1).trans rfl
    have cr2 : w.cell? ⟨br, 2, none⟩ = some (.slice A0 l.length c0) := (blk_cell hi.cr 2).trans rfl
    go_enter Tryd.func67, Tryd.ntmps67
    go_wp2_with (first
     | (at_lookup; refine wpList_lookup_own_ok_int _ rfl _ _ 85 rfl 61 3 .i64 impl_BestArrival.law Tryd.underlying85 Tryd.underlying3 (impl_BestArrival.zeroE _) bm n D rfl hmap _ _ rfl hkey ?_; intro c hat hwc)
     | ((with_reducible refine gate_callee (f := 45) rfl ?_); refine goesL_ (some 23) rfl rfl Tryd.func45 (by kernel_rfl) rfl #[.agg #[.int .i64 a0, .bool a1, .slice A0 l.length c0]] rfl (by (try simp only [List.map_toArray, List.map_cons, List.map_nil]); first | done | rfl) ?_; refine (impl_Row_bench.calls a0 a1 _ _ l a0 a1 _ (Kd.C_below hR hi.below) hc rfl).mono ?_; rintro e w3 ⟨rfl, hb3⟩; refine ⟨_, rfl, ?_⟩)
     | ((with_reducible refine gate_callee (f := 46) rfl ?_); refine goesL_ (some 24) rfl rfl Tryd.func46 (by kernel_rfl) rfl #[.agg #[.int .i64 a0, .bool a1]] rfl (by (try simp only [List.map_toArray, List.map_cons, List.map_nil]); first | done | rfl) ?_; refine (impl_bench_all.calls a0 a1 A _ hA).mono ?_; rintro e w4 ⟨rfl, hb4⟩; refine ⟨_, rfl, ?_⟩)
     | ((with_reducible refine gate_callee (f := 47) rfl ?_); refine goesL_ (some 27) rfl rfl Tryd.func47 (by kernel_rfl) rfl #[.int .u32 (Go.bits .andNot .u32 A t)] rfl (by (try simp only [List.map_toArray, List.map_cons, List.map_nil]); first | done | rfl) ?_; refine (impl_set_list.calls k _ ps _ (TabOK.below hG (below_step (below_step hi.below hb3) hb4)) hps).mono ?_; rintro e w5 ⟨v0, rfl, ho, hb5⟩; obtain ⟨Ao, co, rfl⟩ := Kd.R_slice ho; have hbw := below_step (below_step hb3 hb4) hb5; have hi5 := hi.step hbw; have hRo := Kd.R_mono (ok' := fun q => some q ≠ some bm) (Kd.R_bound ho) (fun q hq e => by have h1 := hmap.lt; have h2 := hb3.size; have h3 := hb4.size; have h4 := hq.2.1; have h5 := Option.some.inj e; omega); refine ⟨_, rfl, ?_⟩))
    go_loopw [9, 29] (fun v9 v29 wr => ∃ (j : Nat) (b : Int), v9 = .int .i64 b ∧ v29 = .int .i64 (j : Int) ∧ j ≤ ps.length ∧ impl_BestArrival.lo (impl_BestArrival.le k A both d) t both (ps.drop j) b = some v ∧ (Lit.int .i64 b).wf = true ∧ impl_BestArrival.Inv k A both a0 a1 A0 c0 l bm bv br bb bl w0 (n + j * impl_BestArrival.U d) wr ∧ Kd.R (Kd.int .i64) 3 wr w4.heap.size (fun q => some q ≠ some bm) (.slice Ao ps.length co) ps ∧ w5.grownBy wr (some bm)) (fun _ v29 _ => ps.length - (intOf v29).toNat)
    case atStart => exact ⟨0, -1, rfl, rfl, Nat.zero_le _, by rw [List.drop_zero]; exact h, by decide, by rw [Nat.zero_mul]; exact hi5, hRo, World.grownBy.refl _ _⟩
    case round =>
     obtain ⟨j, b, rfl, rfl, hj, hlo, hwb, hij, hRj, hgj⟩ := hrel
     by_cases hjl : j < ps.length
     ·have p1 : (0 : Int) ≤ (j : Int) := Int.natCast_nonneg _
      have q1 : (j : Int) < (ps.length : Int) := by omega
      obtain ⟨ad, e, hx⟩ := Kd.at_int (Kd.R_reads' hRj).2.2 (j : Int) p1 q1
      cases e
      have hrd : rd ps (j : Int) = ps[j] := by simp [rd, hjl]
      obtain ⟨p, hp⟩ : ∃ p, rd ps (j : Int) = p := ⟨_, rfl⟩
      rw [hp] at hx hrd
      rw [List.drop_eq_getElem_cons hjl, ← hrd] at hlo
      clear hrd hp
      have hx' : wr.cell? (ad.add j) = some (.int .i64 p) := by simpa using hx
      simp only [impl_BestArrival.lo] at hlo
      have p0 : 0 ≤ p := by
       by_cases p0 : 0 ≤ p
       ·exact p0
       ·rw [if_neg p0] at hlo
        cases hlo
      rw [if_pos p0] at hlo
      obtain ⟨⟨s1, s2⟩, hs, hlo1⟩ := Option.bind_eq_some_iff.mp hlo
      obtain ⟨m, hm, hlo2⟩ := Option.bind_eq_some_iff.mp hlo1
      clear hlo hlo1
      replace hlo := hlo2
      clear hlo2
      have cb : wr.cell? ⟨bb, 0, none⟩ = some (.bool both) := (blk_cell hij.cb 0).trans rfl
      replace p1 := eq_true p1
      have q1b := eq_true q1
      have p0b := eq_true p0
      go_wp2_with (first | ((with_reducible refine gate_callee (f := 48) rfl ?_); refine goesL_ (some 37) rfl rfl Tryd.func48 (by kernel_rfl) rfl #[.int .u32 t, .int .i64 p, .bool both] rfl (by (try simp only [List.map_toArray, List.map_cons, List.map_nil]); first | done | rfl) ?_; refine (impl_stands.calls t p both s1 s2 _ hs).mono ?_; rintro e w7 ⟨rfl, ⟨nd, rfl⟩⟩; refine ⟨_, rfl, ?_⟩))
      have hi8 := hij.step (Below.drew (pw_below_drewN (Below.refl wr.heap.size wr) nd))
      refine start_ (n := 9) (S := fun w' => w'.cell? ⟨bl, 0, none⟩ = some (.func (.func 67) #[] #[.pointer (some ⟨bv, 0, none⟩), .pointer (some ⟨br, 0, none⟩), .pointer (some ⟨bb, 0, none⟩), .pointer (some ⟨bl, 0, none⟩)])) (ds := []) #[false, false, false, false, false, false, false, false, false] (by kernel_rfl) rfl rfl ((blk_cell hi8.cl 0).trans rfl) (fun hHeld => ?_)
      refine pure_ (i := 0) (N := some 40) (v := ?_) (a' := ?_) #[true, false, false, false, false, false, false, false, false] rfl rfl (by kernel_rfl) (fun _ _ _ h => h) (Or.inl ⟨by rfl, ?_⟩) ?_ ?_
      rotate_left
      ·intro w'
       go_simp
       with_reducible rfl
      rotate_left
      ·simp only [Act.put, List.setIfInBounds_toArray, List.set_cons_zero, List.set_cons_succ, i64_w, i32_w]
       rfl
      refine pure_ (i := 2) (N := some 42) (v := ?_) (a' := ?_) #[true, false, true, false, false, false, false, false, false] rfl rfl (by kernel_rfl) (fun _ _ _ h => h) (Or.inl ⟨by rfl, ?_⟩) ?_ ?_
      rotate_left
      ·intro w'
       go_simp
       with_reducible rfl
      rotate_left
      ·simp only [Act.put, List.setIfInBounds_toArray, List.set_cons_zero, List.set_cons_succ, i64_w, i32_w]
       rfl
      refine pure_ (i := 3) (N := some 43) (v := ?_) (a' := ?_) #[true, false, true, true, false, false, false, false, false] rfl rfl (by kernel_rfl) (fun _ _ _ h => h) (Or.inl ⟨by rfl, ?_⟩) ?_ ?_
      rotate_left
      ·intro w'
       go_simp
       with_reducible rfl
      rotate_left
      ·simp only [Act.put, List.setIfInBounds_toArray, List.set_cons_zero, List.set_cons_succ, i64_w, i32_w]
       rfl
      refine take_ (i := 1) (N := some 41) (v := ?_) (a' := ?_) #[true, true, true, true, false, false, false, false, false] rfl rfl (by kernel_rfl) (fun _ _ _ h => h) (Or.inl ⟨by rfl, ?_⟩) hHeld ?_ ?_
      rotate_left
      ·intro w' s0
       go_simp
       with_reducible rfl
      rotate_left
      ·simp only [Act.put, List.setIfInBounds_toArray, List.set_cons_zero, List.set_cons_succ, i64_w, i32_w]
       rfl
      refine pure_ (i := 4) (N := some 44) (v := ?_) (a' := ?_) #[true, true, true, true, true, false, false, false, false] rfl rfl (by kernel_rfl) (fun _ _ _ h => h) (Or.inl ⟨by rfl, ?_⟩) ?_ ?_
      rotate_left
      ·intro w'
       go_simp
       with_reducible rfl
      rotate_left
      ·simp only [Act.put, List.setIfInBounds_toArray, List.set_cons_zero, List.set_cons_succ, i64_w, i32_w]
       rfl
      refine pure_ (i := 5) (N := some 45) (v := ?_) (a' := ?_) #[true, true, true, true, true, true, false, false, false] rfl rfl (by kernel_rfl) (fun _ _ _ h => h) (Or.inl ⟨by rfl, ?_⟩) ?_ ?_
      rotate_left
      ·intro w'
       go_simp
       with_reducible rfl
      rotate_left
      ·simp only [Act.put, List.setIfInBounds_toArray, List.set_cons_zero, List.set_cons_succ, i64_w, i32_w]
       rfl
      refine one_ (i := 6) (N := some 46) #[true, true, true, true, true, true, true, false, false] rfl rfl (by kernel_rfl) (by decide) (fun K hK => ?_)
      have hsh : shl .u32 1 p = IntKind.u32.wrap (2 ^ min p.toNat 32) := by
       unfold shl
       rw [Int.one_mul]
       rfl
      rw [hsh] at hm
      have hor : 0 ≤ Go.bits .or .u32 t (IntKind.u32.wrap (2 ^ min p.toNat 32)) ∧ Go.bits .or .u32 t (IntKind.u32.wrap (2 ^ min p.toNat 32)) < 4294967296 := by
       unfold Go.bits
       simp only [IntKind.wrap_u32]
       omega
      have hU : j * impl_BestArrival.U d + impl_BestArrival.U d ≤ 32 * impl_BestArrival.U d := by
       rw [← Nat.succ_mul]
       exact Nat.mul_le_mul_right _ (by omega)
      have hUd : impl_BestArrival.U (d + 1) = 32 * impl_BestArrival.U d + 1 := rfl
      refine call_ 67 #[.int .u32 (Go.bits .or .u32 t (IntKind.u32.wrap (2 ^ min p.toNat 32))), .pointer (some ⟨bv, 0, none⟩), .pointer (some ⟨br, 0, none⟩), .pointer (some ⟨bb, 0, none⟩), .pointer (some ⟨bl, 0, none⟩)] (by rfl) rfl ?_ ?_
      ·have he := enters_ (P := Tryd.prog) Tryd.func67 (by kernel_rfl) rfl #[.int .u32 (Go.bits .or .u32 t (IntKind.u32.wrap (2 ^ min p.toNat 32))), .pointer (some ⟨bv, 0, none⟩), .pointer (some ⟨br, 0, none⟩), .pointer (some ⟨bb, 0, none⟩), .pointer (some ⟨bl, 0, none⟩)] (wr.drewN nd).drew
       unfold execOp
       simp [resolve, Deferred.ofValue, invoke, Act.eval, he]
      refine (ih _ m (n + j * impl_BestArrival.U d) _ hm hor.1 hor.2 hi8 (by omega)).mono ?_
      rintro e w9 ⟨rfl, hi9, hg9⟩
      refine ⟨_, rfl, ?_⟩
      have hR9 := Kd.R_grown (Kd.R_drew (Kd.R_drewN hRj nd)) hg9 (fun _ hq => hq)
      have hg19 : w5.grownBy w9 (some bm) := (hgj.trans (impl_BestArrival.grown (Below.drew (pw_below_drewN (Below.refl wr.heap.size wr) nd)) (some bm))).trans hg9
      refine hK.out _ _ ((blk_cell hi9.cl 0).trans rfl) (fun hHeld => ?_)
      clear hK K
      refine norm_ (a' := ?_) ?_ ?_
      rotate_left
      ·show Act.put _ (some 46) _ = _
       simp only [Act.put, List.setIfInBounds_toArray, List.set_cons_zero, List.set_cons_succ, i64_w, i32_w]
       rfl
      refine pure_ (i := 7) (N := some 47) (v := ?_) (a' := ?_) #[true, true, true, true, true, true, true, true, false] rfl rfl (by kernel_rfl) (fun _ _ _ h => h) (Or.inl ⟨by rfl, ?_⟩) ?_ ?_
      rotate_left
      ·intro w'
       go_simp
       with_reducible rfl
      rotate_left
      ·simp only [Act.put, List.setIfInBounds_toArray, List.set_cons_zero, List.set_cons_succ, i64_w, i32_w]
       rfl
      refine pure_ (i := 8) (N := some 12) (v := ?_) (a' := ?_) #[true, true, true, true, true, true, true, true, true] rfl rfl (by kernel_rfl) (fun _ _ _ h => h) (Or.inl ⟨by rfl, ?_⟩) ?_ ?_
      rotate_left
      ·intro w'
       go_simp
       with_reducible rfl
      rotate_left
      ·simp only [Act.put, List.setIfInBounds_toArray, List.set_cons_zero, List.set_cons_succ, i64_w, i32_w]
       rfl
      refine done_ (by kernel_rfl) ?_
      by_cases b0 : b < 0
      ·rw [if_pos b0] at hlo
       have b0b : decide (b < 0) = true := decide_eq_true b0
       go_wp2
       go_roundw
       case rel => exact ⟨j + 1, (wrap64 (s1 + m)), rfl, by simp, by omega, hlo, wrap64_wf _, by rw [Nat.succ_mul, ← Nat.add_assoc]; exact hi9, hR9, hg19⟩
       case measure => simp [intOf]; omega
      ·rw [if_neg b0] at hlo
       have b0b : decide (b < 0) = false := decide_eq_false b0
       by_cases b1 : wrap64 (s1 + m) < b
       ·rw [if_pos b1] at hlo
        have b1b : decide (wrap64 (s1 + m) < b) = true := decide_eq_true b1
        go_wp2
        go_roundw
        case rel => exact ⟨j + 1, (wrap64 (s1 + m)), rfl, by simp, by omega, hlo, wrap64_wf _, by rw [Nat.succ_mul, ← Nat.add_assoc]; exact hi9, hR9, hg19⟩
        case measure => simp [intOf]; omega
       ·rw [if_neg b1] at hlo
        have b1b : decide (wrap64 (s1 + m) < b) = false := decide_eq_false b1
        go_wp2
        go_roundw
        case rel => exact ⟨j + 1, b, rfl, by simp, by omega, hlo, hwb, by rw [Nat.succ_mul, ← Nat.add_assoc]; exact hi9, hR9, hg19⟩
        case measure => simp [intOf]; omega
     ·have hje : j = ps.length := by omega
      subst hje
      rw [List.drop_length] at hlo
      simp only [impl_BestArrival.lo, Option.some.injEq] at hlo
      subst hlo
      obtain ⟨D', hmap', hall', hval'⟩ := hij.map
      have cv' : wr.cell? ⟨bv, 0, none⟩ = some (.map (some bm)) := (blk_cell hij.cv 0).trans rfl
      have hU : ps.length * impl_BestArrival.U d ≤ 32 * impl_BestArrival.U d := Nat.mul_le_mul_right _ hl
      have hUd : impl_BestArrival.U (d + 1) = 32 * impl_BestArrival.U d + 1 := rfl
      go_wp2_with (at_mapUpdate; refine wpList_mapUpdate_own _ rfl _ _ _ 85 rfl 61 3 impl_BestArrival.law Tryd.underlying85 _ bm (n + ps.length * impl_BestArrival.U d) D' rfl hmap' (by omega) _ _ _ rfl rfl hkey _ [] (plainElem_int Tryd.underlying3 hwb) ?_; intro w6 hmap6 hg6)
      go_ret
      refine ⟨rfl, hij.turn hg6 ⟨_, hmap6.mono (by omega), ?_, impl_BestArrival.put_ok hmap'.isMap (impl_BestArrival.law.key hkey) hval' ⟨d + 1, h0⟩⟩, (impl_BestArrival.grown hbw (some bm)).trans (hgj.trans hg6)⟩
      rw [Maps.has_put_other (fun e => hA' (by injection e with _ e; exact e.symm))]
      exact hall'
   ·rw [if_neg hl] at h
    cases h
section
variable {k : Nat} {A : Int} {both : Bool} {a0 : Int} {a1 : Bool} {A0 : Option Addr} {c0 : Nat} {l : List Int} {bm bv br bb bl : Nat} {w0 : World} {n : Nat} {w w' : World}
theorem impl_BestArrival.Inv.back {wE : World} (h : impl_BestArrival.Inv k A both a0 a1 A0 c0 l bm bv br bb bl w0 n w) (hb : Below wE.heap.size wE w0) : impl_BestArrival.Inv k A both a0 a1 A0 c0 l bm bv br bb bl wE n w :=
 ⟨below_step hb h.below, Nat.le_trans hb.size h.hm, h.cv, h.cr, h.cb, h.cl, h.map⟩
theorem impl_BestArrival.Inv.app (h : impl_BestArrival.Inv k A both a0 a1 A0 c0 l bm bv br bb bl w0 n w) {base : Nat} {ok : Nat → Prop} {v : Value} {xs : List Int} (hR : Kd.R (Kd.int .i64) 3 w base ok v xs) (hb : w0.heap.size ≤ base) (hg : w.grownBy w' v.ownBlock) : impl_BestArrival.Inv k A both a0 a1 A0 c0 l bm bv br bb bl w0 n w' := by
 obtain ⟨D, hown, h1, h2⟩ := h.map
 obtain ⟨inner, hrow⟩ := Kd.R_own hR
 have hne : some bm ≠ v.ownBlock := fun e => by
  obtain ⟨cells, hc⟩ := own_typed hrow bm e.symm
  obtain ⟨es, clock, hm, _⟩ := hown
  rw [hm] at hc
  cases hc
 exact ⟨h.below.grown hg h.below.size (fun j hj => Nat.le_trans hb (own_base hrow j hj)), h.hm, blk_grown h.cv hg (Kd.R_ne hR h.cv (by decide)), blk_grown h.cr hg (Kd.R_ne hR h.cr (by decide)), blk_grown h.cb hg (Kd.R_ne hR h.cb (by decide)), blk_grown h.cl hg (Kd.R_ne hR h.cl (by decide)), D, hown.kept hg hne, h1, h2⟩
end
def impl_BestArrival.bi (S : Int → Option Int) (t : Int) (both : Bool) : List Int → Option Int
 | [] => none
 | p :: ps => if 0 ≤ p then (impl_stands.f t p both).bind fun s => (S (Go.bits .or .u32 t (shl .u32 1 p))).bind fun m => (S t).bind fun v => if wrap64 (s.1 + m) = v then some p else impl_BestArrival.bi S t both ps else none
def impl_BestArrival.ba (k : Nat) (A : Int) (both : Bool) : Nat → List Int → Int → Option (List Int)
 | 0, _, _ => none
 | q + 1, out, t => if t = A then some out else if 0 ≤ t ∧ t < 4294967296 then (impl_set_list.f k (Go.bits .andNot .u32 A t)).bind fun ps => if ps.length ≤ 32 ∧ out.length ≤ 32 then (impl_BestArrival.bi (impl_BestArrival.le k A both 11) t both ps).bind fun p => impl_BestArrival.ba k A both q (out ++ [p]) (Go.bits .or .u32 t (shl .u32 1 p)) else none else none
def impl_BestArrival.f (k : Nat) (a0_0 : Int) (a0_1 : Bool) (l0_2 : List Int) (a1 : Bool) : Option (List Int × Bool) := (impl_isPublic.f k a0_0 a0_1 l0_2).bind fun b => if b = true then (impl_bench_all.f a0_0 a0_1).bind fun A => (impl_Row_taken.f k a0_0 a0_1 l0_2).bind fun t => (impl_BestArrival.ba k A a1 12 [] t).bind fun n => some (n, true) else some ([], false)
theorem impl_BestArrival.bi_mono {S S' : Int → Option Int} (hS : ∀ t, LeO (S t) (S' t)) (t : Int) (both : Bool) : ∀ ps, LeO (impl_BestArrival.bi S t both ps) (impl_BestArrival.bi S' t both ps)
 | [] => LeO.refl _
 | p :: ps => by
  simp only [impl_BestArrival.bi]
  exact LeO.ite (LeO.bind (LeO.refl _) (fun _ => LeO.bind (hS _) (fun _ => LeO.bind (hS _) (fun _ => LeO.ite (LeO.refl _) (impl_BestArrival.bi_mono hS t both ps))))) (LeO.refl _)
theorem impl_BestArrival.ba_mono (k : Nat) (A : Int) (both : Bool) : ∀ q out t, LeO (impl_BestArrival.ba k A both q out t) (impl_BestArrival.ba (k + 1) A both q out t)
 | 0, _, _ => LeO.none _
 | q + 1, out, t => by
  simp only [impl_BestArrival.ba]
  exact LeO.ite (LeO.refl _) (LeO.ite (LeO.bind (impl_set_list.mono _ _) fun _ => LeO.ite (LeO.bind (impl_BestArrival.bi_mono (fun t => impl_BestArrival.le_mono k A both 11 t) _ _ _) fun _ => impl_BestArrival.ba_mono k A both q _ _) (LeO.refl _)) (LeO.refl _))
theorem impl_BestArrival.mono : ∀ a0 a1 a2 a3 k, LeO (impl_BestArrival.f k a0 a1 a2 a3) (impl_BestArrival.f (k + 1) a0 a1 a2 a3) := by
 intro a0 a1 a2 a3 k
 unfold impl_BestArrival.f
 exact LeO.bind (impl_isPublic.mono _ _ _ _) fun _ => LeO.ite (LeO.bind (LeO.refl _) fun _ => LeO.bind (impl_Row_taken.mono _ _ _ _) fun _ => LeO.bind (impl_BestArrival.ba_mono _ _ _ _ _ _) fun _ => LeO.refl _) (LeO.refl _)
set_option maxHeartbeats 8000000 in
set_option maxRecDepth 100000 in
theorem impl_BestArrival.calls (k : Nat) (a0_0 : Int) (a0_1 : Bool) (A0_2 : Option Addr) (c0_2 : Nat) (l0_2 : List Int) (a1 : Bool) (r1 : List Int) (r2 : Bool) (w : World) (hr0_2 : Kd.C (Kd.int .i64) w A0_2 l0_2.length l0_2) (hc0_2 : l0_2.length ≤ c0_2) (hG : TabOK w) (h : impl_BestArrival.f k a0_0 a0_1 l0_2 a1 = some (r1, r2)) :
  Calls Tryd.prog 12 #[.agg #[.int .i64 a0_0, .bool a0_1, .slice A0_2 l0_2.length c0_2], .bool a1] w fun e w' => ∃ v0_ : Value, e = .returned (.tuple #[v0_, .bool r2]) ∧ Kd.R (Kd.int .i64) 3 w' w.heap.size (fun _ => True) v0_ r1 ∧ Below w.heap.size w w' := by
 have HG0 := Aside0.mk hG
 clear hG
 obtain ⟨b, hb, h1⟩ := Option.bind_eq_some_iff.mp (show (impl_isPublic.f k a0_0 a0_1 l0_2).bind _ = some (r1, r2) from h)
 clear h
 by_cases hbt : b = true
 ·subst hbt
  rw [if_pos rfl] at h1
  obtain ⟨A, hA, h2⟩ := Option.bind_eq_some_iff.mp h1
  obtain ⟨T0, hT, h3⟩ := Option.bind_eq_some_iff.mp h2
  obtain ⟨rr, hn, h4⟩ := Option.bind_eq_some_iff.mp h3
  clear h1 h2 h3
  simp only [Option.some.injEq, Prod.mk.injEq] at h4
  obtain ⟨rfl, rfl⟩ := h4
  have hAr : 0 ≤ A ∧ A < 4294967296 := by
   unfold impl_bench_all.f at hA
   split at hA
   ·have := Option.some.inj hA
    omega
   ·cases hA
  have hG := HG0.out
  have hSL := @impl_set_list.calls
  obtain ⟨u, hu⟩ : ∃ u, impl_BestArrival.U 11 = u := ⟨_, rfl⟩
  have hub : 1 + 12 * (64 * u) < maxLen := by
   rw [← hu]
   decide
  have hL := fun bm bv br bb bl => impl_BestArrival.least k A a1 a0_0 a0_1 A0_2 c0_2 l0_2 bm bv br bb bl w hG hr0_2 hc0_2 hA 11
  simp only [hu] at hL
  clear hu
  go_enter Tryd.func12, Tryd.ntmps12
  go_wp2_with (first
   | ((with_reducible refine gate_callee (f := 39) rfl ?_); refine goesL_ (some 14) rfl rfl Tryd.func39 (by kernel_rfl) rfl #[.agg #[.int .i64 a0_0, .bool a0_1, .slice A0_2 l0_2.length c0_2]] rfl (by (try simp only [List.map_toArray, List.map_cons, List.map_nil]); first | done | rfl) ?_; refine (impl_isPublic.calls k a0_0 a0_1 _ _ l0_2 true _ (by repeat (first | exact hr0_2 | refine Kd.C_alloc ?_ _ | refine Kd.C_drewN ?_ _ | refine Kd.C_drew ?_)) hc0_2 hb).mono ?_; rintro e w3 ⟨rfl, hb3⟩; refine ⟨_, rfl, ?_⟩)
   | ((with_reducible refine gate_dst (N := 16) rfl ?_); refine Kd.R_lit (Kd.int .i64) w.heap.size 3 ?hg (N := 16) ?hd (xs := ([] : List Int)) (inner := []) (ok := fun _ => True) (okp := fun _ => True) ?hr ?hp (fun _ hk => hk) trivial (below_step (below_alloc (Below.refl _ _) _) hb3) (below_step (below_alloc (Below.refl _ _) _) hb3).size (by simp) ?_; (case hd => rfl); (case hg => rfl); (case hr => first | (go_simp; done) | (go_simp; rfl)); (case hp => exact (Reps.none _ _)); intro v4 w4 ho4 hb4 hg4 hnew4; have hrw4 : w4.heap[w.heap.size]? = some (.cells #[.int .i64 a0_0, .bool a0_1, .slice A0_2 l0_2.length c0_2] 28 (0, 0)) := blk_grown (blk_below (blk_new w _) hb3) hg4 (by simp); have cq0 : w4.cell? ⟨w.heap.size, 0, none⟩ = some (.int .i64 a0_0) := (blk_cell hrw4 0).trans rfl; have cq1 : w4.cell? ⟨w.heap.size, 1, none⟩ = some (.bool a0_1) := (blk_cell hrw4 1).trans rfl; have cq2 : w4.cell? ⟨w.heap.size, 2, none⟩ = some (.slice A0_2 l0_2.length c0_2) := (blk_cell hrw4 2).trans rfl)
   | ((with_reducible refine gate_callee (f := 40) rfl ?_); refine goesL_ (some 19) rfl rfl Tryd.func40 (by kernel_rfl) rfl #[.agg #[.int .i64 a0_0, .bool a0_1, .slice A0_2 l0_2.length c0_2], .bool a1] rfl (by (try simp only [List.map_toArray, List.map_cons, List.map_nil]); first | done | rfl) ?_; refine (impl_BestArrival.made k A a1 a0_0 a0_1 A0_2 c0_2 l0_2 _ (Kd.C_below hr0_2 hb4) hc0_2 hA hAr.1 hAr.2).mono ?_; rintro e w5 ⟨bm, bv, br, bb, bl, rfl, hi5_⟩; have hi5 := hi5_.back hb4; have hrw5 := blk_below hrw4 hi5_.below; have ho5 := Kd.R_mono (ok' := fun q => some q ≠ some bm) (Kd.R_bound (Kd.R_below ho4 hi5_.below)) (fun q hq e => by have h1 := hi5_.hm; obtain ⟨_, _, _, q2, _, cells, hc⟩ := hq; obtain ⟨D, ⟨es, clock, hm, _⟩, _⟩ := hi5_.map; obtain rfl := Option.some.inj e; rw [hm] at hc; cases hc);           have cq0 : w5.cell? ⟨w.heap.size, 0, none⟩ = some (.int .i64 a0_0) := (blk_cell hrw5 0).trans rfl; have cq1 : w5.cell? ⟨w.heap.size, 1, none⟩ = some (.bool a0_1) := (blk_cell hrw5 1).trans rfl; have cq2 : w5.cell? ⟨w.heap.size, 2, none⟩ = some (.slice A0_2 l0_2.length c0_2) := (blk_cell hrw5 2).trans rfl; refine ⟨_, rfl, ?_⟩)
   | ((with_reducible refine gate_callee (f := 41) rfl ?_); refine goesL_ (some 21) rfl rfl Tryd.func41 (by kernel_rfl) rfl #[.agg #[.int .i64 a0_0, .bool a0_1, .slice A0_2 l0_2.length c0_2]] rfl (by (try simp only [List.map_toArray, List.map_cons, List.map_nil]); first | done | rfl) ?_; refine (impl_Row_taken.calls k a0_0 a0_1 _ _ l0_2 T0 _ (Kd.C_below hr0_2 hi5.below) hc0_2 hT).mono ?_; rintro e w6 ⟨rfl, hb6⟩; have hi6 := hi5.step hb6; have hrw6 := blk_below hrw5 hb6; have ho6 := Kd.R_below ho5 hb6; refine ⟨_, rfl, ?_⟩))
  go_loopg [6, 8] 12 (fun kq v6 v8 wr => ∃ (out : List Int) (T : Int) (n : Nat), v8 = .int .u32 T ∧ impl_BestArrival.ba k A a1 kq out T = some rr ∧ kq ≤ 12 ∧ n + kq * (64 * u) < maxLen ∧ impl_BestArrival.Inv k A a1 a0_0 a0_1 A0_2 c0_2 l0_2 bm bv br bb bl w n wr ∧ Kd.R (Kd.int .i64) 3 wr w.heap.size (fun q => some q ≠ some bm) v6 out ∧ wr.heap[w.heap.size]? = some (.cells #[.int .i64 a0_0, .bool a0_1, .slice A0_2 l0_2.length c0_2] 28 (0, 0)) ∧ Below w.heap.size w wr)
  case atStart => exact ⟨[], T0, 1, rfl, hn, Nat.le_refl _, hub, hi6, ho6, hrw6, hi6.below⟩
  case round =>
   obtain ⟨out, T, n, rfl, hba, hkq, hbd, hi, ho, hrw, hB⟩ := hrel
   cases gk with
   | zero => exact absurd hba (by simp [impl_BestArrival.ba])
   | succ k1 =>
    have cq0 : wr.cell? ⟨w.heap.size, 0, none⟩ = some (.int .i64 a0_0) := (blk_cell hrw 0).trans rfl
    have cq1 : wr.cell? ⟨w.heap.size, 1, none⟩ = some (.bool a0_1) := (blk_cell hrw 1).trans rfl
    have cq2 : wr.cell? ⟨w.heap.size, 2, none⟩ = some (.slice A0_2 l0_2.length c0_2) := (blk_cell hrw 2).trans rfl
    rw [impl_BestArrival.ba] at hba
    by_cases hTA : T = A
    ·rw [if_pos hTA] at hba
     subst hTA
     obtain rfl := Option.some.inj hba
     go_wp2_with (first | ((with_reducible refine gate_callee (f := 45) rfl ?_); refine goesL_ (some 24) rfl rfl Tryd.func45 (by kernel_rfl) rfl #[.agg #[.int .i64 a0_0, .bool a0_1, .slice A0_2 l0_2.length c0_2]] rfl (by (try simp only [List.map_toArray, List.map_cons, List.map_nil]); first | done | rfl) ?_; refine (impl_Row_bench.calls a0_0 a0_1 _ _ l0_2 a0_0 a0_1 _ (Kd.C_below hr0_2 hB) hc0_2 rfl).mono ?_; rintro e w7 ⟨rfl, hb7⟩; refine ⟨_, rfl, ?_⟩) | ((with_reducible refine gate_callee (f := 46) rfl ?_); refine goesL_ (some 25) rfl rfl Tryd.func46 (by kernel_rfl) rfl #[.agg #[.int .i64 a0_0, .bool a0_1]] rfl (by (try simp only [List.map_toArray, List.map_cons, List.map_nil]); first | done | rfl) ?_; refine (impl_bench_all.calls a0_0 a0_1 _ _ hA).mono ?_; rintro e w8 ⟨rfl, hb8⟩; have hb9 := below_step hb7 hb8; have hrw8 := blk_below hrw hb9; have cq0 : w8.cell? ⟨w.heap.size, 0, none⟩ = some (.int .i64 a0_0) := (blk_cell hrw8 0).trans rfl; have cq1 : w8.cell? ⟨w.heap.size, 1, none⟩ = some (.bool a0_1) := (blk_cell hrw8 1).trans rfl; have cq2 : w8.cell? ⟨w.heap.size, 2, none⟩ = some (.slice A0_2 l0_2.length c0_2) := (blk_cell hrw8 2).trans rfl; refine ⟨_, rfl, ?_⟩))
     go_ret2
     have hb9 := below_step hb7 hb8
     exact ⟨_, rfl, Kd.R_mono (Kd.R_below ho hb9) (fun _ _ => trivial), below_step hB hb9⟩
    ·rw [if_neg hTA] at hba
     have hTAb : (T == A) = false := by simpa using hTA
     have hTAc : (T != A) = true := by simpa using hTA
     by_cases hTr : 0 ≤ T ∧ T < 4294967296
     ·rw [if_pos hTr] at hba
      obtain ⟨ps, hps, hba1⟩ := Option.bind_eq_some_iff.mp hba
      by_cases hll : ps.length ≤ 32 ∧ out.length ≤ 32
      ·rw [if_pos hll] at hba1
       obtain ⟨pq, hbi, hba2⟩ := Option.bind_eq_some_iff.mp hba1
       clear hba hba1
       go_wp2_with (first | ((with_reducible refine gate_callee (f := 45) rfl ?_); refine goesL_ (some 24) rfl rfl Tryd.func45 (by kernel_rfl) rfl #[.agg #[.int .i64 a0_0, .bool a0_1, .slice A0_2 l0_2.length c0_2]] rfl (by (try simp only [List.map_toArray, List.map_cons, List.map_nil]); first | done | rfl) ?_; refine (impl_Row_bench.calls a0_0 a0_1 _ _ l0_2 a0_0 a0_1 _ (Kd.C_below hr0_2 hB) hc0_2 rfl).mono ?_; rintro e w7 ⟨rfl, hb7⟩; refine ⟨_, rfl, ?_⟩) | ((with_reducible refine gate_callee (f := 46) rfl ?_); refine goesL_ (some 25) rfl rfl Tryd.func46 (by kernel_rfl) rfl #[.agg #[.int .i64 a0_0, .bool a0_1]] rfl (by (try simp only [List.map_toArray, List.map_cons, List.map_nil]); first | done | rfl) ?_; refine (impl_bench_all.calls a0_0 a0_1 _ _ hA).mono ?_; rintro e w8 ⟨rfl, hb8⟩; have hb9 := below_step hb7 hb8; have hrw8 := blk_below hrw hb9; have cq0 : w8.cell? ⟨w.heap.size, 0, none⟩ = some (.int .i64 a0_0) := (blk_cell hrw8 0).trans rfl; have cq1 : w8.cell? ⟨w.heap.size, 1, none⟩ = some (.bool a0_1) := (blk_cell hrw8 1).trans rfl; have cq2 : w8.cell? ⟨w.heap.size, 2, none⟩ = some (.slice A0_2 l0_2.length c0_2) := (blk_cell hrw8 2).trans rfl; refine ⟨_, rfl, ?_⟩) | ((with_reducible refine gate_callee (f := 45) rfl ?_); refine goesL_ (some 28) rfl rfl Tryd.func45 (by kernel_rfl) rfl #[.agg #[.int .i64 a0_0, .bool a0_1, .slice A0_2 l0_2.length c0_2]] rfl (by (try simp only [List.map_toArray, List.map_cons, List.map_nil]); first | done | rfl) ?_; refine (impl_Row_bench.calls a0_0 a0_1 _ _ l0_2 a0_0 a0_1 _ (Kd.C_below hr0_2 (below_step hB hb9)) hc0_2 rfl).mono ?_; rintro e w10 ⟨rfl, hb10⟩; refine ⟨_, rfl, ?_⟩) | ((with_reducible refine gate_callee (f := 46) rfl ?_); refine goesL_ (some 29) rfl rfl Tryd.func46 (by kernel_rfl) rfl #[.agg #[.int .i64 a0_0, .bool a0_1]] rfl (by (try simp only [List.map_toArray, List.map_cons, List.map_nil]); first | done | rfl) ?_; refine (impl_bench_all.calls a0_0 a0_1 _ _ hA).mono ?_; rintro e w11 ⟨rfl, hb11⟩; refine ⟨_, rfl, ?_⟩) | ((with_reducible refine gate_callee (f := 47) rfl ?_); refine goesL_ (some 32) rfl rfl Tryd.func47 (by kernel_rfl) rfl #[.int .u32 (Go.bits .andNot .u32 A T)] rfl (by (try simp only [List.map_toArray, List.map_cons, List.map_nil]); first | done | rfl) ?_; refine (hSL k _ ps _ (TabOK.below hG (below_step (below_step (below_step hB hb9) hb10) hb11)) hps).mono ?_; rintro e w12 ⟨vl, rfl, hol, hb12⟩; obtain ⟨Ao, co, rfl⟩ := Kd.R_slice hol; have hb13 := below_step (below_step (below_step hb9 hb10) hb11) hb12; have hi12 := hi.step hb13; have ho12 := Kd.R_below ho hb13; have hrw12 := blk_below hrw hb13; have hB12 := below_step hB hb13; have hol2 := Kd.R_mono (ok' := fun q => some q ≠ some bm) (Kd.R_bound hol) (fun q hq e => by obtain ⟨D, ⟨es, clock, hm, _⟩, _⟩ := hi12.map; obtain ⟨_, _, _, q2, _, cells, hc⟩ := hq; obtain rfl := Option.some.inj e; rw [hm] at hc; cases hc); refine ⟨_, rfl, ?_⟩))
       go_loopw [6, 8, 34] (fun v6i v8i v34 wi => ∃ (j : Nat), v6i = u6 ∧ v8i = .int .u32 T ∧ v34 = .int .i64 (j : Int) ∧ j ≤ ps.length ∧ impl_BestArrival.bi (impl_BestArrival.le k A a1 11) T a1 (ps.drop j) = some pq ∧ impl_BestArrival.Inv k A a1 a0_0 a0_1 A0_2 c0_2 l0_2 bm bv br bb bl w (n + j * (2 * u)) wi ∧ Kd.R (Kd.int .i64) 3 wi w.heap.size (fun q => some q ≠ some bm) u6 out ∧ Kd.R (Kd.int .i64) 3 wi w11.heap.size (fun q => some q ≠ some bm) (.slice Ao ps.length co) ps ∧ wi.heap[w.heap.size]? = some (.cells #[.int .i64 a0_0, .bool a0_1, .slice A0_2 l0_2.length c0_2] 28 (0, 0)) ∧ Below w.heap.size w wi) (fun _ _ v34 _ => ps.length - (intOf v34).toNat)
       case atStart => exact ⟨0, rfl, rfl, rfl, Nat.zero_le _, by rw [List.drop_zero]; exact hbi, by rw [Nat.zero_mul]; exact hi12, ho12, hol2, hrw12, hB12⟩
       case round =>
        obtain ⟨j, rfl, rfl, rfl, hj, hbj, hij, hoj, hlj, hrwj, hBj⟩ := hrel
        by_cases hjl : j < ps.length
        ·have p1 : (0 : Int) ≤ (j : Int) := Int.natCast_nonneg _
         have q1 : (j : Int) < (ps.length : Int) := by omega
         obtain ⟨ad, e, hx⟩ := Kd.at_int (Kd.R_reads' hlj).2.2 (j : Int) p1 q1
         cases e
         have hrd : rd ps (j : Int) = ps[j] := by simp [rd, hjl]
         obtain ⟨p, hp⟩ : ∃ p, rd ps (j : Int) = p := ⟨_, rfl⟩
         rw [hp] at hx hrd
         rw [List.drop_eq_getElem_cons hjl, ← hrd] at hbj
         clear hrd hp
         have hx' : wr.cell? (ad.add j) = some (.int .i64 p) := by simpa using hx
         simp only [impl_BestArrival.bi] at hbj
         have p0 : 0 ≤ p := by
          by_cases p0 : 0 ≤ p
          ·exact p0
          ·rw [if_neg p0] at hbj
           cases hbj
         rw [if_pos p0] at hbj
         obtain ⟨⟨s1, s2⟩, hs, hb1⟩ := Option.bind_eq_some_iff.mp hbj
         obtain ⟨m, hm, hb2⟩ := Option.bind_eq_some_iff.mp hb1
         obtain ⟨v, hv, hb3_⟩ := Option.bind_eq_some_iff.mp hb2
         clear hbj hb1 hb2
         obtain ⟨z, hz⟩ : ∃ z : Int, shl .u32 1 p = z := ⟨_, rfl⟩
         have hz1 : IntKind.u32.wrap (2 ^ min p.toNat 32) = z := by
          rw [← hz]
          unfold shl
          rw [Int.one_mul]
          rfl
         have hz2 : (2 : Int) ^ min p.toNat 32 % 4294967296 = z := by
          rw [← hz1, IntKind.wrap_u32]
         rw [hz] at hm
         have hor : 0 ≤ Go.bits .or .u32 T z ∧ Go.bits .or .u32 T z < 4294967296 := by
          unfold Go.bits
          simp only [IntKind.wrap_u32]
          omega
         have hUU : j * (2 * u) + 2 * u ≤ 32 * (2 * u) := by
          rw [← Nat.succ_mul]
          exact Nat.mul_le_mul_right _ (by omega)
         have hkk : k1 * (64 * u) + 64 * u = (k1 + 1) * (64 * u) := (Nat.succ_mul _ _).symm
         have hbdA : n + j * (2 * u) + u < maxLen := by omega
         have hbdB : n + j * (2 * u) + u + u < maxLen := by omega
         have p1b := eq_true p1
         have q1b := eq_true q1
         have p0b := eq_true p0
         by_cases hq : wrap64 (s1 + m) = v
         ·have hqb : (wrap64 (s1 + m) == v) = true := by simpa using hq
          rw [if_pos hq] at hb3_
          obtain rfl := Option.some.inj hb3_
          go_wp2_with (first | ((with_reducible refine gate_callee (f := 48) rfl ?_); refine goesL_ (some 42) rfl rfl Tryd.func48 (by kernel_rfl) rfl #[.int .u32 T, .int .i64 p, .bool a1] rfl (by (try simp only [List.map_toArray, List.map_cons, List.map_nil]); first | done | rfl) ?_; refine (impl_stands.calls T p a1 s1 s2 _ hs).mono ?_; rintro e w7_ ⟨rfl, ⟨nd, rfl⟩⟩; have hid := hij.step (pw_below_drewN (Below.refl wr.heap.size wr) nd); refine ⟨_, rfl, ?_⟩) | (go_at_call 67; refine (hL bm bv br bb bl _ v _ _ hv hTr.1 hTr.2 hi9 hbdB).mono ?_; rintro e w10_ ⟨rfl, hi10, hg10⟩; have hrwz : w10_.heap[w.heap.size]? = some (.cells #[.int .i64 a0_0, .bool a0_1, .slice A0_2 l0_2.length c0_2] 28 (0, 0)) := blk_grown (blk_grown (blk_drewN hrwj nd) hg9 (by obtain ⟨D, hown, _⟩ := hid.map; exact impl_BestArrival.ne_map hown (blk_drewN hrwj nd))) hg10 (by obtain ⟨D, hown, _⟩ := hi9.map; exact impl_BestArrival.ne_map hown (blk_grown (blk_drewN hrwj nd) hg9 (by obtain ⟨D, hown, _⟩ := hid.map; exact impl_BestArrival.ne_map hown (blk_drewN hrwj nd))))) | (go_at_call 67; refine (hL bm bv br bb bl _ m _ _ hm hor.1 hor.2 hid hbdA).mono ?_; rintro e w9_ ⟨rfl, hi9, hg9⟩))
          have hi11 := hi10.step (Below.drew (Below.refl _ _))
          have ho11 := Kd.R_drew (Kd.R_grown (Kd.R_grown (Kd.R_drewN hoj nd) hg9 (fun _ hq => hq)) hg10 (fun _ hq => hq))
          have hrw11 := blk_drew hrwz
          have hbm11 : bm < w10_.drew.heap.size := by obtain ⟨D, hown, _⟩ := hi11.map; exact hown.lt
          refine start_ (n := 10) (S := fun w' => True) (ds := []) #[false, false, false, false, false, false, false, false, false, false] (by kernel_rfl) rfl rfl trivial (fun hHeld => ?_)
          generalize w10_.drew = w28 at hi11 ho11 hrw11 hbm11 hHeld ⊢
          refine pure_ (i := 0) (N := some 57) (v := ?_) (a' := ?_) #[true, false, false, false, false, false, false, false, false, false] rfl rfl (by kernel_rfl) (fun _ _ _ h => h) (Or.inl ⟨by rfl, ?_⟩) ?_ ?_
          rotate_left
          ·intro w'
           go_simp
           with_reducible rfl
          rotate_left
          ·simp only [Act.put, List.setIfInBounds_toArray, List.set_cons_zero, List.set_cons_succ, i64_w, i32_w]
           rfl
          refine pure_ (i := 1) (N := some 58) (v := ?_) (a' := ?_) #[true, true, false, false, false, false, false, false, false, false] rfl rfl (by kernel_rfl) (fun _ _ _ h => h) (Or.inl ⟨by rfl, ?_⟩) ?_ ?_
          rotate_left
          ·intro w'
           go_simp
           with_reducible rfl
          rotate_left
          ·simp only [Act.put, List.setIfInBounds_toArray, List.set_cons_zero, List.set_cons_succ, i64_w, i32_w]
           rfl
          refine pure_ (i := 4) (N := some 61) (v := ?_) (a' := ?_) #[true, true, false, false, true, false, false, false, false, false] rfl rfl (by kernel_rfl) (fun _ _ _ h => h) (Or.inl ⟨by rfl, ?_⟩) ?_ ?_
          rotate_left
          ·intro w'
           go_simp
           with_reducible rfl
          rotate_left
          ·simp only [Act.put, List.setIfInBounds_toArray, List.set_cons_zero, List.set_cons_succ, i64_w, i32_w]
           rfl
          refine pure_ (i := 5) (N := some 62) (v := ?_) (a' := ?_) #[true, true, false, false, true, true, false, false, false, false] rfl rfl (by kernel_rfl) (fun _ _ _ h => h) (Or.inl ⟨by rfl, ?_⟩) ?_ ?_
          rotate_left
          ·intro w'
           go_simp
           with_reducible rfl
          rotate_left
          ·simp only [Act.put, List.setIfInBounds_toArray, List.set_cons_zero, List.set_cons_succ, i64_w, i32_w]
           rfl
          refine pure_ (i := 6) (N := some 63) (v := ?_) (a' := ?_) #[true, true, false, false, true, true, true, false, false, false] rfl rfl (by kernel_rfl) (fun _ _ _ h => h) (Or.inl ⟨by rfl, ?_⟩) ?_ ?_
          rotate_left
          ·intro w'
           go_simp
           with_reducible rfl
          rotate_left
          ·simp only [Act.put, List.setIfInBounds_toArray, List.set_cons_zero, List.set_cons_succ, i64_w, i32_w]
           rfl
          refine pure_ (i := 7) (N := some 64) (v := ?_) (a' := ?_) #[true, true, false, false, true, true, true, true, false, false] rfl rfl (by kernel_rfl) (fun _ _ _ h => h) (Or.inl ⟨by rfl, ?_⟩) ?_ ?_
          rotate_left
          ·intro w'
           go_simp
           with_reducible rfl
          rotate_left
          ·simp only [Act.put, List.setIfInBounds_toArray, List.set_cons_zero, List.set_cons_succ, i64_w, i32_w]
           rfl
          refine one_ (i := 2) (N := some 59) #[true, true, true, false, true, true, true, true, false, false] rfl rfl (by kernel_rfl) (by decide) (fun K hK => ?_)
          refine value_ (w1 := ?_) (v := ?_) (by rfl) rfl ?_ ?_
          rotate_left 2
          ·go_simp
           constructor
           ·rfl
           ·rfl
          refine hK.out _ _ trivial (fun hHeld => ?_)
          clear hK K
          refine norm_ (a' := ?_) ?_ ?_
          rotate_left
          ·show Act.put _ (some 59) _ = _
           simp only [Act.put, List.setIfInBounds_toArray, List.set_cons_zero, List.set_cons_succ, i64_w, i32_w]
           rfl
          refine one_ (i := 3) (N := some 60) #[true, true, true, true, true, true, true, true, false, false] rfl rfl (by kernel_rfl) (by decide) (fun K hK => ?_)
          refine Kd.R_append_step (Kd.int .i64) (w0 := w) w.heap.size (by rfl) (.tmp 57) (.tmp 59) 22 3 (.int .i64 0) 8 rfl Tryd.underlying22 info3 rfl (by decide) (by omega) u6 out p [.int .i64 p] (fun q => some q ≠ some bm) (fun _ => False) rfl rfl ?aP (fun _ hk => hk.elim) ?aF ?aO ?aB ?aS ?aL ?_
          (case aP => exact rfl)
          (case aF => intro q hq e; have := Option.some.inj e; omega)
          (case aO => exact ho11)
          (case aB => exact hi11.below)
          (case aS => exact hi11.below.size)
          (case aL => have := hll.2; omega)
          intro v5 w13 ho13 hb13_ hg13 hat13
          have hi13 := hi11.app ho11 (Nat.le_refl _) hg13
          have hrw13 := blk_grown hrw11 hg13 (Kd.R_ne ho11 hrw11 (by decide))
          refine hK.out _ _ trivial (fun hHeld => ?_)
          clear hK K
          refine norm_ (a' := ?_) ?_ ?_
          rotate_left
          ·show Act.put _ (some 60) _ = _
           simp only [Act.put, List.setIfInBounds_toArray, List.set_cons_zero, List.set_cons_succ, i64_w, i32_w]
           rfl
          refine pure_ (i := 8) (N := some 6) (v := ?_) (a' := ?_) #[true, true, true, true, true, true, true, true, true, false] rfl rfl (by kernel_rfl) (fun _ _ _ h => h) (Or.inl ⟨by rfl, ?_⟩) ?_ ?_
          rotate_left
          ·intro w'
           go_simp
           with_reducible rfl
          rotate_left
          ·simp only [Act.put, List.setIfInBounds_toArray, List.set_cons_zero, List.set_cons_succ, i64_w, i32_w]
           rfl
          refine pure_ (i := 9) (N := some 8) (v := ?_) (a' := ?_) #[true, true, true, true, true, true, true, true, true, true] rfl rfl (by kernel_rfl) (fun _ _ _ h => h) (Or.inl ⟨by rfl, ?_⟩) ?_ ?_
          rotate_left
          ·intro w'
           go_simp
           with_reducible rfl
          rotate_left
          ·simp only [Act.put, List.setIfInBounds_toArray, List.set_cons_zero, List.set_cons_succ, i64_w, i32_w]
           rfl
          refine done_ (by kernel_rfl) ?_
          go_wp2
          go_roundg k1
          case measure => omega
          case rel => exact ⟨out ++ [p], Go.bits .or .u32 T z, n + j * (2 * u) + u + u, rfl, by rw [hz] at hba2; exact hba2, by omega, by omega, hi13, ho13, hrw13, hb13_⟩
         ·have hqb : (wrap64 (s1 + m) == v) = false := by simpa using hq
          rw [if_neg hq] at hb3_
          go_wp2_with (first | ((with_reducible refine gate_callee (f := 48) rfl ?_); refine goesL_ (some 42) rfl rfl Tryd.func48 (by kernel_rfl) rfl #[.int .u32 T, .int .i64 p, .bool a1] rfl (by (try simp only [List.map_toArray, List.map_cons, List.map_nil]); first | done | rfl) ?_; refine (impl_stands.calls T p a1 s1 s2 _ hs).mono ?_; rintro e w7_ ⟨rfl, ⟨nd, rfl⟩⟩; have hid := hij.step (pw_below_drewN (Below.refl wr.heap.size wr) nd); refine ⟨_, rfl, ?_⟩) | (go_at_call 67; refine (hL bm bv br bb bl _ v _ _ hv hTr.1 hTr.2 hi9 hbdB).mono ?_; rintro e w10_ ⟨rfl, hi10, hg10⟩; have hrwz : w10_.heap[w.heap.size]? = some (.cells #[.int .i64 a0_0, .bool a0_1, .slice A0_2 l0_2.length c0_2] 28 (0, 0)) := blk_grown (blk_grown (blk_drewN hrwj nd) hg9 (by obtain ⟨D, hown, _⟩ := hid.map; exact impl_BestArrival.ne_map hown (blk_drewN hrwj nd))) hg10 (by obtain ⟨D, hown, _⟩ := hi9.map; exact impl_BestArrival.ne_map hown (blk_grown (blk_drewN hrwj nd) hg9 (by obtain ⟨D, hown, _⟩ := hid.map; exact impl_BestArrival.ne_map hown (blk_drewN hrwj nd))))) | (go_at_call 67; refine (hL bm bv br bb bl _ m _ _ hm hor.1 hor.2 hid hbdA).mono ?_; rintro e w9_ ⟨rfl, hi9, hg9⟩))
          go_roundw
          case rel => exact ⟨j + 1, rfl, rfl, by simp, by omega, hb3_, by rw [show n + (j + 1) * (2 * u) = n + j * (2 * u) + u + u from by rw [Nat.succ_mul]; omega]; exact hi10, Kd.R_grown (Kd.R_grown (Kd.R_drewN hoj nd) hg9 (fun _ hq => hq)) hg10 (fun _ hq => hq), Kd.R_grown (Kd.R_grown (Kd.R_drewN hlj nd) hg9 (fun _ hq => hq)) hg10 (fun _ hq => hq), hrwz, hi10.below⟩
          case measure => simp [intOf]; omega
        ·have hje : j = ps.length := by omega
         subst hje
         rw [List.drop_length] at hbj
         cases hbj
      ·rw [if_neg hll] at hba1
       cases hba1
     ·rw [if_neg hTr] at hba
      cases hba
 ·have hbf : b = false := by simpa using hbt
  subst hbf
  rw [if_neg (by simp)] at h1
  simp only [Option.some.injEq, Prod.mk.injEq] at h1
  obtain ⟨rfl, rfl⟩ := h1
  go_enter Tryd.func12, Tryd.ntmps12
  go_wp2_with (first | ((with_reducible refine gate_callee (f := 39) rfl ?_); refine goesL_ (some 14) rfl rfl Tryd.func39 (by kernel_rfl) rfl #[.agg #[.int .i64 a0_0, .bool a0_1, .slice A0_2 l0_2.length c0_2]] rfl (by (try simp only [List.map_toArray, List.map_cons, List.map_nil]); first | done | rfl) ?_; refine (impl_isPublic.calls k a0_0 a0_1 _ _ l0_2 false _ (by repeat (first | exact hr0_2 | refine Kd.C_alloc ?_ _ | refine Kd.C_drewN ?_ _ | refine Kd.C_drew ?_)) hc0_2 hb).mono ?_; rintro e w3 ⟨rfl, hb3⟩; refine ⟨_, rfl, ?_⟩))
  go_ret2
  exact ⟨_, rfl, Kd.R_nil _ _ _ _ _, below_step (below_alloc (Below.refl _ _) _) hb3⟩


/-! ### laws_markIntS: function 15 -/
def laws_markIntS.l0 : Nat → List Int → Int → Int → Option (Int × List Int)
 | 0, _, _, _ => none
 | k + 1, x0, x1, x5 => if x5 < (x0.length : Int) then (if 0 ≤ x5 then (laws_markIntS.l0 k (x0.set (x5 : Int).toNat x1) (wrap64 (x1 + 1)) (wrap64 (x5 + 1))) else (none)) else (some (x1, x0))
def laws_markIntS.f (k : Nat) (l0 : List Int) (a1 : Int) : Option (Int × List Int) := laws_markIntS.l0 k l0 a1 0
theorem laws_markIntS.mono_l : ∀ k, (∀ y0 y1 y2, LeO (laws_markIntS.l0 k y0 y1 y2) (laws_markIntS.l0 (k + 1) y0 y1 y2))
 | 0 => fun _ _ _ r h => by simp [laws_markIntS.l0] at h
 | k + 1 => by
  have ih0 := laws_markIntS.mono_l k
  ·intro y0 y1 y2
   unfold laws_markIntS.l0
   repeat' first
   | (with_reducible exact ih0 _ _ _)
   | (with_reducible exact LeO.refl _)
   | (with_reducible exact LeO.none _)
   | (with_reducible refine LeO.ite ?_ ?_)
   | (with_reducible refine LeO.bind ?_ (fun _ => ?_))
   | exact ih0 _ _ _
   | exact LeO.none _
   | refine LeO.ite ?_ ?_
   | refine LeO.bind ?_ (fun _ => ?_)
theorem laws_markIntS.mono : ∀ a0 a1 k, LeO (laws_markIntS.f k a0 a1) (laws_markIntS.f (k + 1) a0 a1) := by
 intro a0 a1 k
 have ih0 := laws_markIntS.mono_l k
 unfold laws_markIntS.f
 repeat' first
   | (with_reducible exact ih0 _ _ _)
   | (with_reducible exact LeO.refl _)
   | (with_reducible exact LeO.none _)
   | (with_reducible refine LeO.ite ?_ ?_)
   | (with_reducible refine LeO.bind ?_ (fun _ => ?_))
   | exact ih0 _ _ _
   | exact LeO.none _
   | refine LeO.ite ?_ ?_
   | refine LeO.bind ?_ (fun _ => ?_)
set_option maxHeartbeats 8000000 in
set_option maxRecDepth 100000 in
theorem laws_markIntS.calls (k : Nat) (P0_ : Nat → Prop) (u9000_ : Value) (l0 : List Int) (a1 : Int) (r1 : Int) (r2 : List Int) (w0 w : World) (hB : Below w0.heap.size w0 w) (ho0 : Kd.R (Kd.int .i64) 3 w w0.heap.size P0_ u9000_ l0) (h : laws_markIntS.f k l0 a1 = some (r1, r2)) :
  Calls Tryd.prog 15 #[u9000_, .int .i64 a1] w fun e w' => e = .returned (.int .i64 r1) ∧ Kd.R (Kd.int .i64) 3 w' w0.heap.size (fun k_ => (P0_ k_ ∨ w.heap.size ≤ k_)) u9000_ r2 ∧ Below w0.heap.size w0 w' ∧ Kept w w' (fun k_ => P0_ k_) := by
 have HO0 := Aside0.mk (show Kd.R (Kd.int .i64) 3 w w0.heap.size (fun k_ => (P0_ k_ ∨ w.heap.size ≤ k_)) u9000_ l0 from Kd.R_mono ho0 (fun k_ hk => (.inl hk)))
 have HK := Aside0.mk (Kept.refl w (fun k_ => P0_ k_))
 have HW0 := Aside0.mk hB.size
 have HB := Aside0.mk hB
 clear hB
 have H : (laws_markIntS.l0 k l0 a1 0) = some (r1, r2) := h
 clear h
 have H' := Aside0.mk H
 clear H
 go_enter Tryd.func15, Tryd.ntmps15
 go_wp2
 go_loopg [1, 5] k (fun kq v1 v5 w' => ∃ (x0_1 : List Int) (x1_1 : Int) (x5_1 : Int), v1 = .int .i64 x1_1 ∧ v5 = .int .i64 x5_1 ∧ Aside0 (laws_markIntS.l0 kq x0_1 x1_1 x5_1 = some (r1, r2)) ∧ Aside0 (kq ≤ k) ∧ Aside0 (Kd.R (Kd.int .i64) 3 w' w0.heap.size (fun k_ => (P0_ k_ ∨ w.heap.size ≤ k_)) u9000_ x0_1) ∧ Aside0 (Kept w w' (fun k_ => P0_ k_)) ∧ Aside0 (Below w0.heap.size w0 w'))
 case atStart => exact ⟨(l0), (a1), (0), (by first | rfl | (simp; done) | (simp [*]; done)), (by first | rfl | (simp; done) | (simp [*]; done)), H', ⟨Nat.le_refl _⟩, ⟨by (with_reducible repeat (first | apply Kd.R_alloc | apply Kd.R_drewN | apply Kd.R_drew)); exact HO0.out⟩, ⟨by repeat (first | (with_reducible first | exact HK.out | apply Kept.alloc | apply Kept.drewN | apply Kept.drew) | exact HK.out)⟩, ⟨by repeat (first | (with_reducible first | exact HB.out | apply below_alloc | apply pw_below_drewN | apply below_drew1) | exact HB.out)⟩⟩
 case round =>
  clear H'
  try clear c1
  try clear p2
  obtain ⟨x0_1, x1_1, x5_1, rfl, rfl, HA, HK1, HO_0, HK, HB⟩ := hrel
  cases gk with
  | zero => exact absurd HA.out (by simp [laws_markIntS.l0])
  | succ k1 =>
   have H := HA.out
   clear HA
   simp only [laws_markIntS.l0] at H
   by_cases c3 : x5_1 < (x0_1.length : Int)
   ·rw [if_pos c3] at H
    have c3b0 : decide (x5_1 < (x0_1.length : Int)) = true := decide_eq_true c3
    clear c3
    by_cases c4 : 0 ≤ x5_1
    ·rw [if_pos c4] at H
     have c4b0 : decide (0 ≤ x5_1) = true := decide_eq_true c4
     clear c4
     obtain ⟨y260, hy260⟩ : ∃ y_ : List Int, y_ = (x0_1.set (x5_1 : Int).toNat x1_1) := ⟨_, rfl⟩
     replace H : (laws_markIntS.l0 k1 y260 (wrap64 (x1_1 + 1)) (wrap64 (x5_1 + 1))) = some (r1, r2) := by first | (rw [hy260]; with_reducible exact H) | (have H2_ := (Option.bind_some _ _).symm.trans H; rw [hy260]; with_reducible exact H2_) | (have H2_ := (Option.bind_some _ _).symm.trans H; with_reducible exact H2_) | with_reducible exact H | (rw [hy260]; exact H) | exact H
     have Ny260 := Aside0.mk hy260
     clear hy260
     have H' := Aside0.mk H
     clear H
     obtain ⟨Ao6, co6, eo6⟩ := Kd.R_slice HO_0.out
     subst eo6
     have p5 : 0 ≤ (x5_1 : Int) := of_decide_eq_true (by first | (with_reducible assumption) | assumption)
     have q5 : (x5_1 : Int) < ((x0_1.length : Int) : Int) := of_decide_eq_true (by first | (with_reducible assumption) | assumption)
     obtain ⟨go5, co5, eo5, gb5, gl5, cl5, HG5⟩ := Kd.R_form HO_0.out (by omega)
     (first | cases eo5 | (injection eo5 with ea_ en_ ec_; (first | subst ea_ | (injection ea_ with ea_; subst ea_)); subst ec_; clear en_))
     have GB5 := Aside0.mk gb5
     have GG5 := Aside0.mk HG5
     clear gb5 gl5 HG5
     have HMgo5 := Aside0.mk (show (P0_ go5 ∨ w.heap.size ≤ go5) from (HO_0.out.1 _ rfl))
     obtain ⟨hx5_0, hf5_0⟩ := Kd.R_celln 0 HO_0.out (x5_1 : Int) p5 q5
     replace p5 := eq_true p5
     replace q5 := eq_true q5
     have HP7 := Kd.R_putg HO_0.out (x5_1 : Int) x1_1
     go_wp2_with (first | ((with_reducible refine gate_store (t := 3) (p := 15) rfl ?_); refine store_event (t := 3) (p := 15) (v := ?vo_w8) (w1 := (wr.setCell ⟨go5, (x5_1 : Int).toNat, none⟩ (.int .i64 x1_1))) ?hg ?ho ?hn ?hr ?_; (case ho => rfl); (case hg => rfl); (case hn => rfl); (case hr => first | (go_simp; done) | (go_simp; rfl)); intro w8 hw; have hg : wr.grownBy w8 (some go5) := (by rw [hw]; exact HP7.2); have hp_ : Kd.R (Kd.int .i64) 3 w8 w0.heap.size (fun k_ => (P0_ k_ ∨ w.heap.size ≤ k_)) (.slice (some ⟨go5, 0, none⟩) x0_1.length co6) y260 := (by rw [hw, Ny260.out]; exact HP7.1); clear HP7; have n0_ := Aside0.mk (hp_); have n1_ := Aside0.mk ((by rw [hw]; exact below_set (HB.out) GB5.out : Below w0.heap.size w0 w8)); have n2_ := Aside0.mk (Kept.of_grown (S := (fun k_ => P0_ k_)) hg (by repeat (first | (with_reducible first | exact HK.out | apply Kept.alloc | apply Kept.drewN | apply Kept.drew) | exact HK.out)) (fun k_ e_ => (HO_0.out.1 k_ e_))); clear HO_0 HB HK; have HO_0 := n0_; have HB := n1_; have HK := n2_; clear n0_ n1_ n2_ hg hw hp_))
     go_roundg k1
     case measure => have := HK1.out; omega
     case rel => exact ⟨(y260), (wrap64 (x1_1 + 1)), (wrap64 (x5_1 + 1)), (by first | rfl | (simp; done) | (simp [*]; done)), (by first | rfl | (simp; done) | (simp [*]; done)), H', ⟨by have := HK1.out; omega⟩, ⟨by (with_reducible repeat (first | apply Kd.R_alloc | apply Kd.R_drewN | apply Kd.R_drew)); exact HO_0.out⟩, ⟨by repeat (first | (with_reducible first | exact HK.out | apply Kept.alloc | apply Kept.drewN | apply Kept.drew) | exact HK.out)⟩, ⟨by repeat (first | (with_reducible first | exact HB.out | apply below_alloc | apply pw_below_drewN | apply below_drew1) | exact HB.out)⟩⟩
    ·rw [if_neg c4] at H
     exact absurd H (by simp)
   ·rw [if_neg c3] at H
    have c3b0 : decide (x5_1 < (x0_1.length : Int)) = false := decide_eq_false c3
    clear c3
    simp only [Option.some.injEq, Prod.mk.injEq] at H
    obtain ⟨rfl, rfl⟩ := H
    obtain ⟨Ao9, co9, eo9⟩ := Kd.R_slice HO_0.out
    subst eo9
    go_wp2
    go_ret
    exact ⟨by first | rfl | (simp [errW_none, errW_some] <;> rfl) | (simp [*, errW_none, errW_some] <;> rfl), by (with_reducible repeat (first | apply Kd.R_alloc | apply Kd.R_drewN | apply Kd.R_drew)); exact HO_0.out, by repeat (first | (with_reducible first | exact HB.out | apply below_alloc | apply pw_below_drewN | apply below_drew1) | exact HB.out), by repeat (first | (with_reducible first | exact HK.out | apply Kept.alloc | apply Kept.drewN | apply Kept.drew) | exact HK.out)⟩

/-! ### laws_markRow: function 14 -/
def laws_markRow.f (k : Nat) (a0_0 : Int) (a0_1 : Bool) (l0_2 : List Int) (a1 : Int) : Option (Int × List Int) := (laws_markIntS.f k l0_2 a1).bind fun bt262 => (some (bt262.1, bt262.2))
theorem laws_markRow.mono : ∀ a0 a1 a2 a3 k, LeO (laws_markRow.f k a0 a1 a2 a3) (laws_markRow.f (k + 1) a0 a1 a2 a3) := by
 intro a0 a1 a2 a3 k
 unfold laws_markRow.f
 repeat' first
   | (with_reducible exact laws_markIntS.mono _ _ _)
   | (with_reducible exact LeO.refl _)
   | (with_reducible exact LeO.none _)
   | (with_reducible refine LeO.ite ?_ ?_)
   | (with_reducible refine LeO.bind ?_ (fun _ => ?_))
   | exact laws_markIntS.mono _ _ _
   | exact LeO.none _
   | refine LeO.ite ?_ ?_
   | refine LeO.bind ?_ (fun _ => ?_)
set_option maxHeartbeats 8000000 in
set_option maxRecDepth 100000 in
theorem laws_markRow.calls (k : Nat) (a0_0 : Int) (a0_1 : Bool) (P0_2_ : Nat → Prop) (u9000_ : Value) (l0_2 : List Int) (a1 : Int) (r1 : Int) (r2 : List Int) (w0 w : World) (hB : Below w0.heap.size w0 w) (ho0_2 : Kd.R (Kd.int .i64) 3 w w0.heap.size P0_2_ u9000_ l0_2) (h : laws_markRow.f k a0_0 a0_1 l0_2 a1 = some (r1, r2)) :
  Calls Tryd.prog 14 #[.agg #[.int .i64 a0_0, .bool a0_1, u9000_], .int .i64 a1] w fun e w' => e = .returned (.int .i64 r1) ∧ Kd.R (Kd.int .i64) 3 w' w0.heap.size (fun k_ => (P0_2_ k_ ∨ w.heap.size ≤ k_)) u9000_ r2 ∧ Below w0.heap.size w0 w' ∧ Kept w w' (fun k_ => P0_2_ k_) := by
 have hu28 := Tryd.underlying28
 have HO0_2 := Aside0.mk (show Kd.R (Kd.int .i64) 3 w w0.heap.size (fun k_ => (P0_2_ k_ ∨ w.heap.size ≤ k_)) u9000_ l0_2 from Kd.R_mono ho0_2 (fun k_ hk => (.inl hk)))
 have HK := Aside0.mk (Kept.refl w (fun k_ => P0_2_ k_))
 have HW0 := Aside0.mk hB.size
 have HB := Aside0.mk hB
 clear hB
 have H : ((laws_markIntS.f k l0_2 a1).bind fun bt262 => (some (bt262.1, bt262.2))) = some (r1, r2) := h
 clear h
 replace H := Option.bind_eq_some_iff.mp H
 obtain ⟨⟨t262, t263⟩, A30, H⟩ := H
 replace H : (some (t262, t263)) = some (r1, r2) := H
 have A3 := Aside0.mk A30
 clear A30
 simp only [Option.some.injEq, Prod.mk.injEq] at H
 obtain ⟨rfl, rfl⟩ := H
 obtain ⟨Ao4, co4, eo4⟩ := Kd.R_slice HO0_2.out
 subst eo4
 go_enter Tryd.func14, Tryd.ntmps14
 go_wp2_with (first | ((with_reducible refine gate_dst (N := 2) rfl ?_); refine box_event ?hg (N := 2) ?hd (cs := #[.int .i64 a0_0, .bool a0_1, .slice Ao4 l0_2.length co4]) (t := 28) ?hr ?_; (case hd => rfl); (case hg => rfl); (case hr => first | (go_simp; done) | (go_simp; rfl)); intro gb261 hg w5 hbox hb; have n0_ := Aside0.mk (Kd.R_below (by (with_reducible repeat (first | apply Kd.R_alloc | apply Kd.R_drewN | apply Kd.R_drew)); exact HO0_2.out) hb); have n1_ := Aside0.mk (Kept.below (S := (fun k_ => P0_2_ k_)) (by repeat (first | (with_reducible first | exact HK.out | apply Kept.alloc | apply Kept.drewN | apply Kept.drew) | exact HK.out)) hb); have n2_ := Aside0.mk (below_step (by repeat (first | (with_reducible first | exact HB.out | apply below_alloc | apply pw_below_drewN | apply below_drew1) | exact HB.out)) hb); have n3_ := Aside0.mk (hbox); have n4_ := Aside0.mk ((by rw [hg]; exact (by first | exact HK.out.1 | exact (show Kept w _ (fun k_ => P0_2_ k_) from by repeat (first | (with_reducible first | exact HK.out | apply Kept.alloc | apply Kept.drewN | apply Kept.drew) | exact HK.out)).1) : w.heap.size ≤ gb261)); have n5_ := Aside0.mk ((by rw [hg]; exact (below_size (by repeat (first | (with_reducible first | exact HB.out | apply below_alloc | apply pw_below_drewN | apply below_drew1) | exact HB.out))) : w0.heap.size ≤ gb261)); clear HO0_2 HK HB; have HO0_2 := n0_; have HK := n1_; have HB := n2_; have BK261 := n3_; have GW261 := n4_; have GE261 := n5_; clear n0_ n1_ n2_ n3_ n4_ n5_ hb hbox hg; have hcz6_0 : w5.cell? ⟨gb261, 0, none⟩ = some (.int .i64 a0_0) := (blk_cell BK261.out 0).trans rfl; have hcz6_1 : w5.cell? ⟨gb261, 1, none⟩ = some (.bool a0_1) := (blk_cell BK261.out 1).trans rfl; have hcz6_2 : w5.cell? ⟨gb261, 2, none⟩ = some (.slice Ao4 l0_2.length co4) := (blk_cell BK261.out 2).trans rfl; have hfz6_0 := blk_frozen BK261.out 0; have hfz6_1 := blk_frozen BK261.out 1; have hfz6_2 := blk_frozen BK261.out 2) | ((with_reducible refine gate_callee (f := 15) rfl ?_); refine goesL_ (some 8) rfl rfl Tryd.func15 (by kernel_rfl) rfl #[.slice Ao4 l0_2.length co4, .int .i64 a1] rfl (by (try simp only [List.map_toArray, List.map_cons, List.map_nil]); first | done | rfl | (simp only [List.length_drop, List.length_take]; rfl)) ?_; (with_reducible refine (laws_markIntS.calls k (fun k_ => some k_ = (.slice Ao4 l0_2.length co4 : Value).ownBlock) (.slice Ao4 l0_2.length co4) l0_2 a1 t262 t263 w0 _ ?side1 ?side2 A3.out).mono ?_); (case side1 => repeat (first | (with_reducible first | exact HB.out | apply below_alloc | apply pw_below_drewN | apply below_drew1 | refine below_set ?_ GE261.out) | exact HB.out)); (case side2 => exact Kd.R_tight rfl HO0_2.out); rintro e w7 ⟨rfl, hy0, hb, hkp⟩; refine ⟨_, rfl, ?_⟩; have n0_ := Aside0.mk (Kd.R_reok rfl hy0 (fun k_ e_ => HO0_2.out.1 k_ e_)); have n1_ := Aside0.mk (blk_kept (by (with_reducible repeat (first | refine blk_drewN ?_ _ | refine blk_drew ?_ | refine blk_alloc ?_ _)); exact BK261.out) hkp (fun hs_ => (fun e_ => (Kd.R_ne HO0_2.out BK261.out (by decide)) e_) hs_)); have n2_ := Aside0.mk (Kept.then_ (S := (fun k_ => P0_2_ k_)) (by repeat (first | (with_reducible first | exact HK.out | apply Kept.alloc | apply Kept.drewN | apply Kept.drew | refine Kept.setCell ?_ (.inr GW261.out) _) | exact HK.out)) hkp (fun k_ hs_ => (fun e_ => (HO0_2.out.1 k_ e_.symm)) hs_)); have n3_ := Aside0.mk (hb); clear HO0_2 BK261 HK HB; have HO0_2 := n0_; have BK261 := n1_; have HK := n2_; have HB := n3_; clear n0_ n1_ n2_ n3_; (try clear hb); (try clear hkp); (try clear hy0)))
 go_ret
 exact ⟨by first | rfl | (simp [errW_none, errW_some] <;> rfl) | (simp [*, errW_none, errW_some] <;> rfl), by (with_reducible repeat (first | apply Kd.R_alloc | apply Kd.R_drewN | apply Kd.R_drew)); exact HO0_2.out, by repeat (first | (with_reducible first | exact HB.out | apply below_alloc | apply pw_below_drewN | apply below_drew1 | refine below_set ?_ GE261.out) | exact HB.out), by repeat (first | (with_reducible first | exact HK.out | apply Kept.alloc | apply Kept.drewN | apply Kept.drew | refine Kept.setCell ?_ (.inr GW261.out) _) | exact HK.out)⟩

/-! ### laws_heldIntS: function 16 -/
def laws_heldIntS.l0 : Nat → List Int → Int → Int → Option (Int)
 | 0, _, _, _ => none
 | k + 1, x0, x1, x5 => if x5 < (x0.length : Int) then (if 0 ≤ x5 then (if (rd x0 x5) = x1 then (laws_heldIntS.l0 k x0 (wrap64 (x1 + 1)) (wrap64 (x5 + 1))) else (some (-1))) else (none)) else (some x1)
def laws_heldIntS.f (k : Nat) (l0 : List Int) (a1 : Int) : Option (Int) := laws_heldIntS.l0 k l0 a1 0
theorem laws_heldIntS.mono_l : ∀ k, (∀ y0 y1 y2, LeO (laws_heldIntS.l0 k y0 y1 y2) (laws_heldIntS.l0 (k + 1) y0 y1 y2))
 | 0 => fun _ _ _ r h => by simp [laws_heldIntS.l0] at h
 | k + 1 => by
  have ih0 := laws_heldIntS.mono_l k
  ·intro y0 y1 y2
   unfold laws_heldIntS.l0
   repeat' first
   | (with_reducible exact ih0 _ _ _)
   | (with_reducible exact LeO.refl _)
   | (with_reducible exact LeO.none _)
   | (with_reducible refine LeO.ite ?_ ?_)
   | (with_reducible refine LeO.bind ?_ (fun _ => ?_))
   | exact ih0 _ _ _
   | exact LeO.none _
   | refine LeO.ite ?_ ?_
   | refine LeO.bind ?_ (fun _ => ?_)
theorem laws_heldIntS.mono : ∀ a0 a1 k, LeO (laws_heldIntS.f k a0 a1) (laws_heldIntS.f (k + 1) a0 a1) := by
 intro a0 a1 k
 have ih0 := laws_heldIntS.mono_l k
 unfold laws_heldIntS.f
 repeat' first
   | (with_reducible exact ih0 _ _ _)
   | (with_reducible exact LeO.refl _)
   | (with_reducible exact LeO.none _)
   | (with_reducible refine LeO.ite ?_ ?_)
   | (with_reducible refine LeO.bind ?_ (fun _ => ?_))
   | exact ih0 _ _ _
   | exact LeO.none _
   | refine LeO.ite ?_ ?_
   | refine LeO.bind ?_ (fun _ => ?_)
set_option maxHeartbeats 8000000 in
set_option maxRecDepth 100000 in
theorem laws_heldIntS.calls (k : Nat) (A0 : Option Addr) (c0 : Nat) (l0 : List Int) (a1 : Int) (r : Int) (w : World) (hr0 : Kd.C (Kd.int .i64) w A0 l0.length l0) (hc0 : l0.length ≤ c0) (h : laws_heldIntS.f k l0 a1 = some r) :
  Calls Tryd.prog 16 #[.slice A0 l0.length c0, .int .i64 a1] w fun e w' => e = .returned (.int .i64 r) ∧ Drawn0 w w' := by
 have HR0 := Aside0.mk hr0
 have HC0 := Aside0.mk hc0
 clear hr0 hc0
 have H : (laws_heldIntS.l0 k l0 a1 0) = some r := h
 clear h
 have H' := Aside0.mk H
 clear H
 go_enter Tryd.func16, Tryd.ntmps16
 go_wp2
 go_loopg [1, 5] k (fun kq v1 v5 w' => ∃ (x1_1 : Int) (x5_1 : Int), v1 = .int .i64 x1_1 ∧ v5 = .int .i64 x5_1 ∧ Aside0 (laws_heldIntS.l0 kq l0 x1_1 x5_1 = some r) ∧ Aside0 (kq ≤ k) ∧ Drawn0 w w')
 case atStart => exact ⟨(a1), (0), (by first | rfl | (simp; done) | (simp [*]; done)), (by first | rfl | (simp; done) | (simp [*]; done)), H', ⟨Nat.le_refl _⟩, by repeat (first | exact Drawn0.refl _ | apply Drawn0.step)⟩
 case round =>
  clear H'
  try clear c1
  try clear p2
  obtain ⟨x1_1, x5_1, rfl, rfl, HA, HK1, ⟨m1, rfl⟩⟩ := hrel
  cases gk with
  | zero => exact absurd HA.out (by simp [laws_heldIntS.l0])
  | succ k1 =>
   have H := HA.out
   clear HA
   simp only [laws_heldIntS.l0] at H
   by_cases c3 : x5_1 < (l0.length : Int)
   ·rw [if_pos c3] at H
    have c3b0 : decide (x5_1 < (l0.length : Int)) = true := decide_eq_true c3
    clear c3
    by_cases c4 : 0 ≤ x5_1
    ·rw [if_pos c4] at H
     have c4b0 : decide (0 ≤ x5_1) = true := decide_eq_true c4
     clear c4
     by_cases c5 : (rd l0 x5_1) = x1_1
     ·rw [if_pos c5] at H
      have c5b0 : ((rd l0 x5_1) == x1_1) = true := beq_iff_eq.mpr c5
      have c5b1 : ((rd l0 x5_1) != x1_1) = false := bne_eq_false_iff_eq.mpr c5
      clear c5
      have H' := Aside0.mk H
      clear H
      have p264 : 0 ≤ (x5_1 : Int) := of_decide_eq_true (by first | (with_reducible assumption) | assumption)
      have q264 : x5_1 < (l0.length : Int) := of_decide_eq_true (by first | (with_reducible assumption) | assumption)
      obtain ⟨ad264, e264, hx264_0⟩ := Kd.at_int HR0.out x5_1 p264 q264
      cases e264
      replace p264 := eq_true p264
      replace q264 := eq_true q264
      go_wp2
      go_roundg k1
      case measure => have := HK1.out; omega
      case rel => exact ⟨(wrap64 (x1_1 + 1)), (wrap64 (x5_1 + 1)), (by first | rfl | (simp; done) | (simp [*]; done)), (by first | rfl | (simp; done) | (simp [*]; done)), H', ⟨by have := HK1.out; omega⟩, by repeat (first | exact Drawn0.refl _ | apply Drawn0.step)⟩
     ·rw [if_neg c5] at H
      have c5b0 : ((rd l0 x5_1) == x1_1) = false := beq_eq_false_iff_ne.mpr c5
      have c5b1 : ((rd l0 x5_1) != x1_1) = true := bne_iff_ne.mpr c5
      obtain rfl := Option.some.inj H
      have p264 : 0 ≤ (x5_1 : Int) := of_decide_eq_true (by first | (with_reducible assumption) | assumption)
      have q264 : x5_1 < (l0.length : Int) := of_decide_eq_true (by first | (with_reducible assumption) | assumption)
      obtain ⟨ad264, e264, hx264_0⟩ := Kd.at_int HR0.out x5_1 p264 q264
      cases e264
      replace p264 := eq_true p264
      replace q264 := eq_true q264
      go_wp2
      go_ret
      exact ⟨by first | rfl | (simp; done) | (simp [*]; done), by repeat (first | exact Drawn0.refl _ | apply Drawn0.step)⟩
    ·rw [if_neg c4] at H
     exact absurd H (by simp)
   ·rw [if_neg c3] at H
    have c3b0 : decide (x5_1 < (l0.length : Int)) = false := decide_eq_false c3
    clear c3
    obtain rfl := Option.some.inj H
    go_wp2
    go_ret
    exact ⟨by first | rfl | (simp; done) | (simp [*]; done), by repeat (first | exact Drawn0.refl _ | apply Drawn0.step)⟩

end Go.Proofs.YtohmonfaabofaaaDoor.QFnExactBestArrival
-- squeezed
