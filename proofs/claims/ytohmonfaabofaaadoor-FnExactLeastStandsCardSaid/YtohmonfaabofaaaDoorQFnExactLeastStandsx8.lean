-- Written by px.py, a program of this session, over the kit's printer: some functions have a definition and a proof of this session's own.
import Derived.Maps.Own
import Derived.Maps.OwnSet
import Derived.Maps.AppendAt
import Derived.Maps.RangeWalk
import Derived.Maps.OwnOps
import Derived.KernelRfl
import Derived.Laws.EntriesVeiled
import Derived.Test.YtohmonfaabofaaaDoorQFnExactLeastStandsx0
import Derived.Test.YtohmonfaabofaaaDoorQFnExactLeastStandsx6
import Derived.Test.YtohmonfaabofaaaDoorQFnExactLeastStandsx7
namespace Go.Proofs.YtohmonfaabofaaaDoor.QFnExactLeastStands
open Go.RowKit Go.Proofs.YtohmonfaabofaaaDoorW.PrintWords Go.Proofs.YtohmonfaabofaaaDoorW.PrintLast Go.Proofs.YtohmonfaabofaaaDoorW.PrintMore
attribute [local go_sem] max2_int min2_int max_two min_two max_three min_three max_four min_four   -- for this text's walks alone
set_option linter.unusedVariables false
set_option linter.unusedSimpArgs false

/-! ### impl_LeastStands: function 9 -/
def impl_LeastStands.lo (S : Int → Option Int) (t : Int) (both : Bool) : List Int → Int → Option Int
  | [], b => some b
  | p :: ps, b => if 0 ≤ p then (impl_stands.f t p both).bind fun s => (S (Go.bits .or .u32 t (shl .u32 1 p))).bind fun m => impl_LeastStands.lo S t both ps (if b < 0 then wrap64 (s.1 + m) else if wrap64 (s.1 + m) < b then wrap64 (s.1 + m) else b) else none
def impl_LeastStands.le (k : Nat) (A : Int) (both : Bool) : Nat → Int → Option Int
  | 0, _ => none
  | d + 1, t => if t = A then some 0 else (impl_set_list.f k (Go.bits .andNot .u32 A t)).bind fun ps => if ps.length ≤ 32 then impl_LeastStands.lo (impl_LeastStands.le k A both d) t both ps (-1) else none
def impl_LeastStands.f (k : Nat) (a0_0 : Int) (a0_1 : Bool) (l0_2 : List Int) (a1 : Bool) : Option (Int × Bool) := (impl_isPublic.f k a0_0 a0_1 l0_2).bind fun b => if b = true then (impl_bench_all.f a0_0 a0_1).bind fun A => (impl_Row_taken.f k a0_0 a0_1 l0_2).bind fun t => if 0 ≤ t ∧ t < 4294967296 then (impl_LeastStands.le k A a1 11 t).bind fun n => some (n, true) else none else some (0, false)
theorem impl_LeastStands.lo_mono {S S' : Int → Option Int} (hS : ∀ t, LeO (S t) (S' t)) (t : Int) (both : Bool) : ∀ ps b, LeO (impl_LeastStands.lo S t both ps b) (impl_LeastStands.lo S' t both ps b)
  | [], _ => LeO.refl _
  | p :: ps, b => by
    simp only [impl_LeastStands.lo]
    exact LeO.ite (LeO.bind (LeO.refl _) (fun _ => LeO.bind (hS _) (fun _ => impl_LeastStands.lo_mono hS t both ps _))) (LeO.refl _)
theorem impl_LeastStands.le_mono (k : Nat) (A : Int) (both : Bool) : ∀ d t, LeO (impl_LeastStands.le k A both d t) (impl_LeastStands.le (k + 1) A both d t)
  | 0, _ => LeO.none _
  | d + 1, t => by
    simp only [impl_LeastStands.le]
    exact LeO.ite (LeO.refl _) (LeO.bind (impl_set_list.mono _ _) fun _ => LeO.ite (impl_LeastStands.lo_mono (impl_LeastStands.le_mono k A both d) _ _ _ _) (LeO.refl _))
theorem impl_LeastStands.le_up (k : Nat) (A : Int) (both : Bool) : ∀ d t, LeO (impl_LeastStands.le k A both d t) (impl_LeastStands.le k A both (d + 1) t)
  | 0, _ => LeO.none _
  | d + 1, t => by
    rw [impl_LeastStands.le, impl_LeastStands.le]
    exact LeO.ite (LeO.refl _) (LeO.bind (LeO.refl _) fun _ => LeO.ite (impl_LeastStands.lo_mono (impl_LeastStands.le_up k A both d) _ _ _ _) (LeO.refl _))
theorem impl_LeastStands.le_add {k : Nat} {A : Int} {both : Bool} {d : Nat} {t v : Int} (h : impl_LeastStands.le k A both d t = some v) : ∀ m, impl_LeastStands.le k A both (d + m) t = some v
  | 0 => h
  | m + 1 => impl_LeastStands.le_up k A both (d + m) t v (impl_LeastStands.le_add h m)
theorem impl_LeastStands.le_same {k : Nat} {A : Int} {both : Bool} {d d' : Nat} {t v v' : Int} (h : impl_LeastStands.le k A both d t = some v) (h' : impl_LeastStands.le k A both d' t = some v') : v = v' := by
  have h1 := impl_LeastStands.le_add h d'
  have h2 := impl_LeastStands.le_add h' d
  rw [Nat.add_comm] at h2
  exact Option.some.inj (h1.symm.trans h2)
theorem impl_LeastStands.mono : ∀ a0 a1 a2 a3 k, LeO (impl_LeastStands.f k a0 a1 a2 a3) (impl_LeastStands.f (k + 1) a0 a1 a2 a3) := by
  intro a0 a1 a2 a3 k
  unfold impl_LeastStands.f
  exact LeO.bind (impl_isPublic.mono _ _ _ _) fun _ => LeO.ite (LeO.bind (LeO.refl _) fun _ => LeO.bind (impl_Row_taken.mono _ _ _ _) fun _ => LeO.ite (LeO.bind (impl_LeastStands.le_mono _ _ _ _ _) fun _ => LeO.refl _) (LeO.refl _)) (LeO.refl _)
def impl_LeastStands.U : Nat → Nat
  | 0 => 0
  | d + 1 => 32 * impl_LeastStands.U d + 1
theorem impl_LeastStands.law : Maps.Keyed Tryd.prog 61 := Maps.int_keyed Tryd.underlying61
theorem impl_LeastStands.zeroE (w : World) : (zeroValue 3).run Tryd.prog w = .ok (.int .i64 0) w := by rfl
theorem impl_LeastStands.grown {w w' : World} (h : Below w.heap.size w w') (row : Option Nat) : w.grownBy w' row := ⟨h.os, h.tape, h.output, h.size, fun k hk _ => h.block k hk⟩
theorem impl_LeastStands.gate_insert {P : Program} {ops : Array Oper} {rest : List Oper} {o : Oper} {a : Act} {W : World} {Q : Exit → Act → World → Prop} {t : TypeId} {m k v : Operand} (_ho : o.op = .insert t m k v) (h : wpList P ops Q (o :: rest) a W) : wpList P ops Q (o :: rest) a W := h
/-- A map literal's entry. -/
theorem impl_LeastStands.insert_own {H : Type} {P : Program} (w : World) {ops : Array Oper} {rest : List Oper} {o : Oper} {a : Act} {Q : Exit → Act → World → Prop}
    (hg : o.guard = none) (m x v : Operand) (t : TypeId) (hop : o.op = Op.insert t m x v)
    (k e : TypeId) (K : Maps.Keyed P k) (ht : P.underlying t = some (.map k e)) (R : Value → Option (DataW H × List MemPlace)) (b n : Nat) (D : DataW H)
    (hm : a.eval m = .map (some b)) (hown : w.ownsMap P k R b n D) (hn : n < maxLen) (key val : Value) (kl : Lit) (hx : a.eval x = key) (hv : a.eval v = val) (hkey : keyOf P k key = some kl)
    (d : DataW H) (ps : List MemPlace) (hval : R val = some (d, ps))
    (hK : ∀ w', w'.ownsMap P k R b (n + 1) (D.put kl d) → w.grownBy w' (some b) → wpList P ops Q rest (a.put o.dst undef) w') :
    wpList P ops Q (o :: rest) a w := by
  refine wpList_plain hg fun K' hK' => ?_
  obtain ⟨w', hrun, r1, r2⟩ := hown.update K ht hn hkey hval
  unfold Oper.wp
  simp [execOp, hop, hm, hx, hv, hrun, Result.andThen]
  exact hK' _ _ (hK w' r1 r2)
structure impl_LeastStands.Inv (k : Nat) (A : Int) (both : Bool) (a0 : Int) (a1 : Bool) (A0 : Option Addr) (c0 : Nat) (l : List Int) (bm bv br bb bl : Nat) (w0 : World) (n : Nat) (w : World) : Prop where
  below : Below w0.heap.size w0 w
  hm : w0.heap.size ≤ bm
  cv : w.heap[bv]? = some (.cells #[.map (some bm)] 85 (0, 0))
  cr : w.heap[br]? = some (.cells #[.int .i64 a0, .bool a1, .slice A0 l.length c0] 28 (0, 0))
  cb : w.heap[bb]? = some (.cells #[.bool both] 4 (0, 0))
  cl : w.heap[bl]? = some (.cells #[.func (.func 67) #[] #[.pointer (some ⟨bv, 0, none⟩), .pointer (some ⟨br, 0, none⟩), .pointer (some ⟨bb, 0, none⟩), .pointer (some ⟨bl, 0, none⟩)]] 58 (0, 0))
  map : ∃ D : DataW Unit, w.ownsMap Tryd.prog 61 (plainElem Tryd.prog 3) bm n D ∧ Maps.has D (.int .u32 A) = true ∧
    ∀ t c, Maps.has D (.int .u32 t) = true → D.atKey (.int .u32 t) (.lit (.int .i64 0)) = .lit (.int .i64 c) → ∃ d, impl_LeastStands.le k A both d t = some c
section
variable {k : Nat} {A : Int} {both : Bool} {a0 : Int} {a1 : Bool} {A0 : Option Addr} {c0 : Nat} {l : List Int} {bm bv br bb bl : Nat} {w0 : World} {n : Nat} {w w' : World}
theorem impl_LeastStands.ne_map {H : Type} {P : Program} {q : TypeId} {R : Value → Option (DataW H × List MemPlace)} {D : DataW H} {g : Nat} {cs : Array Value} {t : TypeId} (h : w.ownsMap P q R bm n D) (hc : w.heap[g]? = some (.cells cs t (0, 0))) : some g ≠ some bm := by
  rintro e
  obtain rfl := Option.some.inj e
  obtain ⟨es, clock, hb, _⟩ := h
  rw [hb] at hc
  cases hc
theorem impl_LeastStands.Inv.turn (h : impl_LeastStands.Inv k A both a0 a1 A0 c0 l bm bv br bb bl w0 n w) (hg : w.grownBy w' (some bm)) {n' : Nat}
    (hmap : ∃ D : DataW Unit, w'.ownsMap Tryd.prog 61 (plainElem Tryd.prog 3) bm n' D ∧ Maps.has D (.int .u32 A) = true ∧
      ∀ t c, Maps.has D (.int .u32 t) = true → D.atKey (.int .u32 t) (.lit (.int .i64 0)) = .lit (.int .i64 c) → ∃ d, impl_LeastStands.le k A both d t = some c) :
    impl_LeastStands.Inv k A both a0 a1 A0 c0 l bm bv br bb bl w0 n' w' := by
  obtain ⟨D, hown, _⟩ := h.map
  exact ⟨h.below.grown hg h.below.size (fun j hj => by cases hj; exact h.hm), h.hm, blk_grown h.cv hg (impl_LeastStands.ne_map hown h.cv), blk_grown h.cr hg (impl_LeastStands.ne_map hown h.cr), blk_grown h.cb hg (impl_LeastStands.ne_map hown h.cb), blk_grown h.cl hg (impl_LeastStands.ne_map hown h.cl), hmap⟩
theorem impl_LeastStands.Inv.step (h : impl_LeastStands.Inv k A both a0 a1 A0 c0 l bm bv br bb bl w0 n w) (hb : Below w.heap.size w w') : impl_LeastStands.Inv k A both a0 a1 A0 c0 l bm bv br bb bl w0 n w' := by
  obtain ⟨D, hown, h1, h2⟩ := h.map
  exact h.turn (impl_LeastStands.grown hb _) ⟨D, hown.kept (impl_LeastStands.grown hb none) (by simp), h1, h2⟩
theorem impl_LeastStands.Inv.up (h : impl_LeastStands.Inv k A both a0 a1 A0 c0 l bm bv br bb bl w0 n w) {n' : Nat} (hn : n ≤ n') : impl_LeastStands.Inv k A both a0 a1 A0 c0 l bm bv br bb bl w0 n' w := by
  obtain ⟨D, hown, h1, h2⟩ := h.map
  exact ⟨h.below, h.hm, h.cv, h.cr, h.cb, h.cl, D, hown.mono hn, h1, h2⟩
end
theorem impl_LeastStands.put_ok {D : DataW Unit} (hD : Maps.IsMap D) {t0 v : Int} (hkl : WideAt.IsKeyLit (.int .u32 t0)) {Pv : Int → Int → Prop}
    (h : ∀ t c, Maps.has D (.int .u32 t) = true → D.atKey (.int .u32 t) (.lit (.int .i64 0)) = .lit (.int .i64 c) → Pv t c) (hv : Pv t0 v) :
    ∀ t c, Maps.has (D.put (.int .u32 t0) (.lit (.int .i64 v))) (.int .u32 t) = true → (D.put (.int .u32 t0) (.lit (.int .i64 v))).atKey (.int .u32 t) (.lit (.int .i64 0)) = .lit (.int .i64 c) → Pv t c := by
  intro t c hh hat
  by_cases e : t = t0
  · subst e
    rw [Maps.atKey_put_same hD hkl] at hat
    injection hat with hat
    injection hat with _ hat
    exact hat ▸ hv
  · have hne : Lit.int .u32 t ≠ Lit.int .u32 t0 := fun h => e (by injection h)
    rw [Maps.has_put_other hne] at hh
    rw [Maps.atKey_put_other hne] at hat
    exact h t c hh hat
set_option maxHeartbeats 4000000 in
set_option maxRecDepth 100000 in
/-- The function that is made: its own memory holds, of every set that is known, the least sum. -/
theorem impl_LeastStands.made (k : Nat) (A : Int) (both : Bool) (a0 : Int) (a1 : Bool) (A0 : Option Addr) (c0 : Nat) (l : List Int) (w : World) (hR : Kd.C (Kd.int .i64) w A0 l.length l) (hc : l.length ≤ c0) (hA : impl_bench_all.f a0 a1 = some A) (hA0 : 0 ≤ A) (hA1 : A < 4294967296) :
    Calls Tryd.prog 40 #[.agg #[.int .i64 a0, .bool a1, .slice A0 l.length c0], .bool both] w fun e w' => ∃ bm bv br bb bl, e = .returned (.func (.func 67) #[] #[.pointer (some ⟨bv, 0, none⟩), .pointer (some ⟨br, 0, none⟩), .pointer (some ⟨bb, 0, none⟩), .pointer (some ⟨bl, 0, none⟩)]) ∧
      impl_LeastStands.Inv k A both a0 a1 A0 c0 l bm bv br bb bl w 1 w' := by
  have hmm := @run_makeMap Tryd.prog
  have hwfA : (Lit.int .u32 A).wf = true := by
    have hmin : IntKind.u32.min = 0 := rfl
    have hmax : IntKind.u32.max = 4294967295 := rfl
    simp only [Lit.wf, Bool.and_eq_true, decide_eq_true_eq]
    omega
  have hkey : keyOf Tryd.prog 61 (.int .u32 A) = some (.int .u32 A) := Maps.keyOf_int_mk Tryd.underlying61 hwfA
  have hB : Below w.heap.size w w := Below.refl _ _
  go_enter Tryd.func40, Tryd.ntmps40
  go_wp2_with (first
    | ((with_reducible refine gate_callee (f := 45) rfl ?_); refine goesL_ (some 9) rfl rfl Tryd.func45 (by kernel_rfl) rfl #[.agg #[.int .i64 a0, .bool a1, .slice A0 l.length c0]] rfl (by (try simp only [List.map_toArray, List.map_cons, List.map_nil]); first | done | rfl) ?_; refine (impl_Row_bench.calls a0 a1 _ _ l a0 a1 _ (by repeat (first | exact hR | refine Kd.C_alloc ?_ _ | refine Kd.C_drewN ?_ _ | refine Kd.C_drew ?_)) hc rfl).mono ?_; rintro e w3 ⟨rfl, hb3⟩; refine ⟨_, rfl, ?_⟩)
    | ((with_reducible refine gate_callee (f := 46) rfl ?_); refine goesL_ (some 10) rfl rfl Tryd.func46 (by kernel_rfl) rfl #[.agg #[.int .i64 a0, .bool a1]] rfl (by (try simp only [List.map_toArray, List.map_cons, List.map_nil]); first | done | rfl) ?_; refine (impl_bench_all.calls a0 a1 A _ hA).mono ?_; rintro e w4 ⟨rfl, hb4⟩;
        have hown : w4.ownsMap Tryd.prog 61 (plainElem Tryd.prog 3) (w.heap.size + 1 + 1) 0 (DataW.map [] : DataW Unit) := (by simpa using (((World.ownsMap_made (H := Unit) ((w.alloc (Obj.cells #[.int .i64 a0, .bool a1, .slice A0 l.length c0] 28)).alloc (Obj.cells #[.bool both] 4)) Tryd.prog 61 (plainElem Tryd.prog 3)).kept (impl_LeastStands.grown hb3 none) (by simp)).kept (impl_LeastStands.grown hb4 none) (by simp)));
        refine ⟨_, rfl, ?_⟩)
    | ((with_reducible refine impl_LeastStands.gate_insert rfl ?_); refine impl_LeastStands.insert_own _ rfl _ _ _ 85 rfl 61 3 impl_LeastStands.law Tryd.underlying85 _ (w.heap.size + 1 + 1) 0 _ (by rfl) hown (by unfold maxLen; omega) _ _ (.int .u32 A) (by rfl) (by rfl) hkey (.lit (.int .i64 0)) [] (plainElem_int Tryd.underlying3 (by decide)) ?_; intro w5 hown5 hg5;
        have hbw := ((((below_alloc (below_alloc (below_alloc (Below.refl w.heap.size w) (Obj.cells #[.int .i64 a0, .bool a1, .slice A0 l.length c0] 28)) (Obj.cells #[.bool both] 4)) (Obj.map #[] 0)))));
        have hbw4 := below_step (below_step hbw hb3) hb4;
        have hr5 := blk_grown (blk_below (blk_below (blk_alloc (blk_alloc (blk_new w (Obj.cells #[.int .i64 a0, .bool a1, .slice A0 l.length c0] 28)) (Obj.cells #[.bool both] 4)) (Obj.map #[] 0)) hb3) hb4) hg5 (by simp; omega);
        have hbb5 := blk_grown (blk_below (blk_below (blk_alloc (blk_new (w.alloc (Obj.cells #[.int .i64 a0, .bool a1, .slice A0 l.length c0] 28)) (Obj.cells #[.bool both] 4)) (Obj.map #[] 0)) hb3) hb4) hg5 (by simp);
        have hbw5 : Below w.heap.size w w5 := hbw4.grown hg5 hbw4.size (fun j hj => by cases hj; omega)))
  go_ret
  have hlt := hown5.lt
  have hs1 : (w5.alloc (Obj.cells #[.map (some (w.heap.size + 1 + 1))] 85)).heap.size = w5.heap.size + 1 := by simp
  refine ⟨w.heap.size + 1 + 1, w5.heap.size, w.heap.size, w.heap.size + 1, w5.heap.size + 1, rfl, below_alloc (below_alloc hbw5 _) _, by omega, blk_alloc (blk_new w5 _) _, blk_alloc (blk_alloc hr5 _) _, ?_, ?_, _, (hown5.alloc _).alloc _, Maps.has_put_same ⟨_, rfl⟩ (impl_LeastStands.law.key hkey) _, impl_LeastStands.put_ok ⟨_, rfl⟩ (impl_LeastStands.law.key hkey) (fun t c hh => by simp [Maps.has] at hh) ⟨1, by simp [impl_LeastStands.le]⟩⟩
  · exact blk_alloc (blk_alloc (by simpa using hbb5) _) _
  · rw [← hs1]; exact blk_new _ _
set_option maxHeartbeats 8000000 in
set_option maxRecDepth 100000 in
/-- The function that is made, called: the least sum of a set; what it knows grows by sums that are right. -/
theorem impl_LeastStands.least (k : Nat) (A : Int) (both : Bool) (a0 : Int) (a1 : Bool) (A0 : Option Addr) (c0 : Nat) (l : List Int) (bm bv br bb bl : Nat) (w0 : World) (hG : TabOK w0) (hR : Kd.C (Kd.int .i64) w0 A0 l.length l) (hc : l.length ≤ c0) (hA : impl_bench_all.f a0 a1 = some A) :
    ∀ (d : Nat) (t v : Int) (n : Nat) (w : World), impl_LeastStands.le k A both d t = some v → 0 ≤ t → t < 4294967296 → impl_LeastStands.Inv k A both a0 a1 A0 c0 l bm bv br bb bl w0 n w → n + impl_LeastStands.U d < maxLen →
      Calls Tryd.prog 67 #[.int .u32 t, .pointer (some ⟨bv, 0, none⟩), .pointer (some ⟨br, 0, none⟩), .pointer (some ⟨bb, 0, none⟩), .pointer (some ⟨bl, 0, none⟩)] w fun e w' => e = .returned (.int .i64 v) ∧ impl_LeastStands.Inv k A both a0 a1 A0 c0 l bm bv br bb bl w0 (n + impl_LeastStands.U d) w' ∧ w.grownBy w' (some bm) := by
  intro d
  induction d with
  | zero => intro t v n w h; exact absurd h (by simp [impl_LeastStands.le])
  | succ d ih =>
    intro t v n w h ht0 ht1 hi hn
    obtain ⟨D, hmap, hall, hval⟩ := hi.map
    have hwf : (Lit.int .u32 t).wf = true := by
      have hmin : IntKind.u32.min = 0 := rfl
      have hmax : IntKind.u32.max = 4294967295 := rfl
      simp only [Lit.wf, Bool.and_eq_true, decide_eq_true_eq]
      omega
    have hkey : keyOf Tryd.prog 61 (.int .u32 t) = some (.int .u32 t) := Maps.keyOf_int_mk Tryd.underlying61 hwf
    have cv : w.cell? ⟨bv, 0, none⟩ = some (.map (some bm)) := (blk_cell hi.cv 0).trans rfl
    by_cases hh : Maps.has D (.int .u32 t) = true
    · go_enter Tryd.func67, Tryd.ntmps67
      go_wp2_with (at_lookup; refine wpList_lookup_own_ok_int _ rfl _ _ 85 rfl 61 3 .i64 impl_LeastStands.law Tryd.underlying85 Tryd.underlying3 (impl_LeastStands.zeroE _) bm n D rfl hmap _ _ rfl hkey ?_; intro c hat hwc)
      go_ret
      obtain ⟨d', hd'⟩ := hval t c hh hat
      exact ⟨by rw [impl_LeastStands.le_same h hd']; rfl, hi.up (Nat.le_add_right _ _), World.grownBy.refl _ _⟩
    · have hA' : t ≠ A := by rintro rfl; exact hh hall
      have hh' : Maps.has D (.int .u32 t) = false := by simpa using hh
      clear hh
      have h0 := h
      simp only [impl_LeastStands.le, if_neg hA'] at h
      obtain ⟨ps, hps, h⟩ := Option.bind_eq_some_iff.mp h
      by_cases hl : ps.length ≤ 32
      · rw [if_pos hl] at h
        have cr0 : w.cell? ⟨br, 0, none⟩ = some (.int .i64 a0) := (blk_cell hi.cr 0).trans rfl
        have cr1 : w.cell? ⟨br, 1, none⟩ = some (.bool a1) := (blk_cell hi.cr 1).trans rfl
        have cr2 : w.cell? ⟨br, 2, none⟩ = some (.slice A0 l.length c0) := (blk_cell hi.cr 2).trans rfl
        go_enter Tryd.func67, Tryd.ntmps67
        go_wp2_with (first
          | (at_lookup; refine wpList_lookup_own_ok_int _ rfl _ _ 85 rfl 61 3 .i64 impl_LeastStands.law Tryd.underlying85 Tryd.underlying3 (impl_LeastStands.zeroE _) bm n D rfl hmap _ _ rfl hkey ?_; intro c hat hwc)
          | ((with_reducible refine gate_callee (f := 45) rfl ?_); refine goesL_ (some 23) rfl rfl Tryd.func45 (by kernel_rfl) rfl #[.agg #[.int .i64 a0, .bool a1, .slice A0 l.length c0]] rfl (by (try simp only [List.map_toArray, List.map_cons, List.map_nil]); first | done | rfl) ?_; refine (impl_Row_bench.calls a0 a1 _ _ l a0 a1 _ (Kd.C_below hR hi.below) hc rfl).mono ?_; rintro e w3 ⟨rfl, hb3⟩; refine ⟨_, rfl, ?_⟩)
          | ((with_reducible refine gate_callee (f := 46) rfl ?_); refine goesL_ (some 24) rfl rfl Tryd.func46 (by kernel_rfl) rfl #[.agg #[.int .i64 a0, .bool a1]] rfl (by (try simp only [List.map_toArray, List.map_cons, List.map_nil]); first | done | rfl) ?_; refine (impl_bench_all.calls a0 a1 A _ hA).mono ?_; rintro e w4 ⟨rfl, hb4⟩; refine ⟨_, rfl, ?_⟩)
          | ((with_reducible refine gate_callee (f := 47) rfl ?_); refine goesL_ (some 27) rfl rfl Tryd.func47 (by kernel_rfl) rfl #[.int .u32 (Go.bits .andNot .u32 A t)] rfl (by (try simp only [List.map_toArray, List.map_cons, List.map_nil]); first | done | rfl) ?_; refine (impl_set_list.calls k _ ps _ (TabOK.below hG (below_step (below_step hi.below hb3) hb4)) hps).mono ?_; rintro e w5 ⟨v0, rfl, ho, hb5⟩; obtain ⟨Ao, co, rfl⟩ := Kd.R_slice ho;
              have hbw := below_step (below_step hb3 hb4) hb5; have hi5 := hi.step hbw;
              have hRo := Kd.R_mono (ok' := fun q => some q ≠ some bm) (Kd.R_bound ho) (fun q hq e => by have h1 := hmap.lt; have h2 := hb3.size; have h3 := hb4.size; have h4 := hq.2.1; have h5 := Option.some.inj e; omega);
              refine ⟨_, rfl, ?_⟩))
        go_loopw [9, 29] (fun v9 v29 wr => ∃ (j : Nat) (b : Int), v9 = .int .i64 b ∧ v29 = .int .i64 (j : Int) ∧ j ≤ ps.length ∧ impl_LeastStands.lo (impl_LeastStands.le k A both d) t both (ps.drop j) b = some v ∧ (Lit.int .i64 b).wf = true ∧ impl_LeastStands.Inv k A both a0 a1 A0 c0 l bm bv br bb bl w0 (n + j * impl_LeastStands.U d) wr ∧ Kd.R (Kd.int .i64) 3 wr w4.heap.size (fun q => some q ≠ some bm) (.slice Ao ps.length co) ps ∧ w5.grownBy wr (some bm)) (fun _ v29 _ => ps.length - (intOf v29).toNat)
        case atStart => exact ⟨0, -1, rfl, rfl, Nat.zero_le _, by rw [List.drop_zero]; exact h, by decide, by rw [Nat.zero_mul]; exact hi5, hRo, World.grownBy.refl _ _⟩
        case round =>
          obtain ⟨j, b, rfl, rfl, hj, hlo, hwb, hij, hRj, hgj⟩ := hrel
          by_cases hjl : j < ps.length
          · have p1 : (0 : Int) ≤ (j : Int) := Int.natCast_nonneg _
            have q1 : (j : Int) < (ps.length : Int) := by omega
            obtain ⟨ad, e, hx⟩ := Kd.at_int (Kd.R_reads' hRj).2.2 (j : Int) p1 q1
            cases e
            have hrd : rd ps (j : Int) = ps[j] := by simp [rd, hjl]
            obtain ⟨p, hp⟩ : ∃ p, rd ps (j : Int) = p := ⟨_, rfl⟩
            rw [hp] at hx hrd
            rw [List.drop_eq_getElem_cons hjl, ← hrd] at hlo
            clear hrd hp
            have hx' : wr.cell? (ad.add j) = some (.int .i64 p) := by simpa using hx
            simp only [impl_LeastStands.lo] at hlo
            have p0 : 0 ≤ p := by
              by_cases p0 : 0 ≤ p
              · exact p0
              · rw [if_neg p0] at hlo
                cases hlo
            rw [if_pos p0] at hlo
            obtain ⟨⟨s1, s2⟩, hs, hlo1⟩ := Option.bind_eq_some_iff.mp hlo
            obtain ⟨m, hm, hlo2⟩ := Option.bind_eq_some_iff.mp hlo1
            clear hlo hlo1
            replace hlo := hlo2
            clear hlo2
            have cb : wr.cell? ⟨bb, 0, none⟩ = some (.bool both) := (blk_cell hij.cb 0).trans rfl
            replace p1 := eq_true p1
            have q1b := eq_true q1
            have p0b := eq_true p0
            go_wp2_with (first | ((with_reducible refine gate_callee (f := 48) rfl ?_); refine goesL_ (some 37) rfl rfl Tryd.func48 (by kernel_rfl) rfl #[.int .u32 t, .int .i64 p, .bool both] rfl (by (try simp only [List.map_toArray, List.map_cons, List.map_nil]); first | done | rfl) ?_; refine (impl_stands.calls t p both s1 s2 _ hs).mono ?_; rintro e w7 ⟨rfl, ⟨nd, rfl⟩⟩; refine ⟨_, rfl, ?_⟩))
            have hi8 := hij.step (Below.drew (pw_below_drewN (Below.refl wr.heap.size wr) nd))
            refine start_ (n := 9) (S := fun w' => w'.cell? ⟨bl, 0, none⟩ = some (.func (.func 67) #[] #[.pointer (some ⟨bv, 0, none⟩), .pointer (some ⟨br, 0, none⟩), .pointer (some ⟨bb, 0, none⟩), .pointer (some ⟨bl, 0, none⟩)])) (ds := []) #[false, false, false, false, false, false, false, false, false] (by kernel_rfl) rfl rfl ((blk_cell hi8.cl 0).trans rfl) (fun hHeld => ?_)
            refine pure_ (i := 0) (N := some 40) (v := ?_) (a' := ?_) #[true, false, false, false, false, false, false, false, false] rfl rfl (by kernel_rfl) (fun _ _ _ h => h) (Or.inl ⟨by rfl, ?_⟩) ?_ ?_
            rotate_left
            · intro w'
              go_simp
              with_reducible rfl
            rotate_left
            · simp only [Act.put, List.setIfInBounds_toArray, List.set_cons_zero, List.set_cons_succ, i64_w, i32_w]
              rfl
            refine pure_ (i := 2) (N := some 42) (v := ?_) (a' := ?_) #[true, false, true, false, false, false, false, false, false] rfl rfl (by kernel_rfl) (fun _ _ _ h => h) (Or.inl ⟨by rfl, ?_⟩) ?_ ?_
            rotate_left
            · intro w'
              go_simp
              with_reducible rfl
            rotate_left
            · simp only [Act.put, List.setIfInBounds_toArray, List.set_cons_zero, List.set_cons_succ, i64_w, i32_w]
              rfl
            refine pure_ (i := 3) (N := some 43) (v := ?_) (a' := ?_) #[true, false, true, true, false, false, false, false, false] rfl rfl (by kernel_rfl) (fun _ _ _ h => h) (Or.inl ⟨by rfl, ?_⟩) ?_ ?_
            rotate_left
            · intro w'
              go_simp
              with_reducible rfl
            rotate_left
            · simp only [Act.put, List.setIfInBounds_toArray, List.set_cons_zero, List.set_cons_succ, i64_w, i32_w]
              rfl
            refine take_ (i := 1) (N := some 41) (v := ?_) (a' := ?_) #[true, true, true, true, false, false, false, false, false] rfl rfl (by kernel_rfl) (fun _ _ _ h => h) (Or.inl ⟨by rfl, ?_⟩) hHeld ?_ ?_
            rotate_left
            · intro w' s0
              go_simp
              with_reducible rfl
            rotate_left
            · simp only [Act.put, List.setIfInBounds_toArray, List.set_cons_zero, List.set_cons_succ, i64_w, i32_w]
              rfl
            refine pure_ (i := 4) (N := some 44) (v := ?_) (a' := ?_) #[true, true, true, true, true, false, false, false, false] rfl rfl (by kernel_rfl) (fun _ _ _ h => h) (Or.inl ⟨by rfl, ?_⟩) ?_ ?_
            rotate_left
            · intro w'
              go_simp
              with_reducible rfl
            rotate_left
            · simp only [Act.put, List.setIfInBounds_toArray, List.set_cons_zero, List.set_cons_succ, i64_w, i32_w]
              rfl
            refine pure_ (i := 5) (N := some 45) (v := ?_) (a' := ?_) #[true, true, true, true, true, true, false, false, false] rfl rfl (by kernel_rfl) (fun _ _ _ h => h) (Or.inl ⟨by rfl, ?_⟩) ?_ ?_
            rotate_left
            · intro w'
              go_simp
              with_reducible rfl
            rotate_left
            · simp only [Act.put, List.setIfInBounds_toArray, List.set_cons_zero, List.set_cons_succ, i64_w, i32_w]
              rfl
            refine one_ (i := 6) (N := some 46) #[true, true, true, true, true, true, true, false, false] rfl rfl (by kernel_rfl) (by decide) (fun K hK => ?_)
            have hsh : shl .u32 1 p = IntKind.u32.wrap (2 ^ min p.toNat 32) := by
              unfold shl
              rw [Int.one_mul]
              rfl
            rw [hsh] at hm
            have hor : 0 ≤ Go.bits .or .u32 t (IntKind.u32.wrap (2 ^ min p.toNat 32)) ∧ Go.bits .or .u32 t (IntKind.u32.wrap (2 ^ min p.toNat 32)) < 4294967296 := by
              unfold Go.bits
              simp only [IntKind.wrap_u32]
              omega
            have hU : j * impl_LeastStands.U d + impl_LeastStands.U d ≤ 32 * impl_LeastStands.U d := by
              rw [← Nat.succ_mul]
              exact Nat.mul_le_mul_right _ (by omega)
            have hUd : impl_LeastStands.U (d + 1) = 32 * impl_LeastStands.U d + 1 := rfl
            refine call_ 67 #[.int .u32 (Go.bits .or .u32 t (IntKind.u32.wrap (2 ^ min p.toNat 32))), .pointer (some ⟨bv, 0, none⟩), .pointer (some ⟨br, 0, none⟩), .pointer (some ⟨bb, 0, none⟩), .pointer (some ⟨bl, 0, none⟩)] (by rfl) rfl ?_ ?_
            · have he := enters_ (P := Tryd.prog) Tryd.func67 (by kernel_rfl) rfl #[.int .u32 (Go.bits .or .u32 t (IntKind.u32.wrap (2 ^ min p.toNat 32))), .pointer (some ⟨bv, 0, none⟩), .pointer (some ⟨br, 0, none⟩), .pointer (some ⟨bb, 0, none⟩), .pointer (some ⟨bl, 0, none⟩)] (wr.drewN nd).drew
              unfold execOp
              simp [resolve, Deferred.ofValue, invoke, Act.eval, he]
            refine (ih _ m (n + j * impl_LeastStands.U d) _ hm hor.1 hor.2 hi8 (by omega)).mono ?_
            rintro e w9 ⟨rfl, hi9, hg9⟩
            refine ⟨_, rfl, ?_⟩
            have hR9 := Kd.R_grown (Kd.R_drew (Kd.R_drewN hRj nd)) hg9 (fun _ hq => hq)
            have hg19 : w5.grownBy w9 (some bm) := (hgj.trans (impl_LeastStands.grown (Below.drew (pw_below_drewN (Below.refl wr.heap.size wr) nd)) (some bm))).trans hg9
            refine hK.out _ _ ((blk_cell hi9.cl 0).trans rfl) (fun hHeld => ?_)
            clear hK K
            refine norm_ (a' := ?_) ?_ ?_
            rotate_left
            · show Act.put _ (some 46) _ = _
              simp only [Act.put, List.setIfInBounds_toArray, List.set_cons_zero, List.set_cons_succ, i64_w, i32_w]
              rfl
            refine pure_ (i := 7) (N := some 47) (v := ?_) (a' := ?_) #[true, true, true, true, true, true, true, true, false] rfl rfl (by kernel_rfl) (fun _ _ _ h => h) (Or.inl ⟨by rfl, ?_⟩) ?_ ?_
            rotate_left
            · intro w'
              go_simp
              with_reducible rfl
            rotate_left
            · simp only [Act.put, List.setIfInBounds_toArray, List.set_cons_zero, List.set_cons_succ, i64_w, i32_w]
              rfl
            refine pure_ (i := 8) (N := some 12) (v := ?_) (a' := ?_) #[true, true, true, true, true, true, true, true, true] rfl rfl (by kernel_rfl) (fun _ _ _ h => h) (Or.inl ⟨by rfl, ?_⟩) ?_ ?_
            rotate_left
            · intro w'
              go_simp
              with_reducible rfl
            rotate_left
            · simp only [Act.put, List.setIfInBounds_toArray, List.set_cons_zero, List.set_cons_succ, i64_w, i32_w]
              rfl
            refine done_ (by kernel_rfl) ?_
            by_cases b0 : b < 0
            · rw [if_pos b0] at hlo
              have b0b : decide (b < 0) = true := decide_eq_true b0
              go_wp2
              go_roundw
              case rel => exact ⟨j + 1, (wrap64 (s1 + m)), rfl, by simp, by omega, hlo, wrap64_wf _, by rw [Nat.succ_mul, ← Nat.add_assoc]; exact hi9, hR9, hg19⟩
              case measure => simp [intOf]; omega
            · rw [if_neg b0] at hlo
              have b0b : decide (b < 0) = false := decide_eq_false b0
              by_cases b1 : wrap64 (s1 + m) < b
              · rw [if_pos b1] at hlo
                have b1b : decide (wrap64 (s1 + m) < b) = true := decide_eq_true b1
                go_wp2
                go_roundw
                case rel => exact ⟨j + 1, (wrap64 (s1 + m)), rfl, by simp, by omega, hlo, wrap64_wf _, by rw [Nat.succ_mul, ← Nat.add_assoc]; exact hi9, hR9, hg19⟩
                case measure => simp [intOf]; omega
              · rw [if_neg b1] at hlo
                have b1b : decide (wrap64 (s1 + m) < b) = false := decide_eq_false b1
                go_wp2
                go_roundw
                case rel => exact ⟨j + 1, b, rfl, by simp, by omega, hlo, hwb, by rw [Nat.succ_mul, ← Nat.add_assoc]; exact hi9, hR9, hg19⟩
                case measure => simp [intOf]; omega
          · have hje : j = ps.length := by omega
            subst hje
            rw [List.drop_length] at hlo
            simp only [impl_LeastStands.lo, Option.some.injEq] at hlo
            subst hlo
            obtain ⟨D', hmap', hall', hval'⟩ := hij.map
            have cv' : wr.cell? ⟨bv, 0, none⟩ = some (.map (some bm)) := (blk_cell hij.cv 0).trans rfl
            have hU : ps.length * impl_LeastStands.U d ≤ 32 * impl_LeastStands.U d := Nat.mul_le_mul_right _ hl
            have hUd : impl_LeastStands.U (d + 1) = 32 * impl_LeastStands.U d + 1 := rfl
            go_wp2_with (at_mapUpdate; refine wpList_mapUpdate_own _ rfl _ _ _ 85 rfl 61 3 impl_LeastStands.law Tryd.underlying85 _ bm (n + ps.length * impl_LeastStands.U d) D' rfl hmap' (by omega) _ _ _ rfl rfl hkey _ [] (plainElem_int Tryd.underlying3 hwb) ?_; intro w6 hmap6 hg6)
            go_ret
            refine ⟨rfl, hij.turn hg6 ⟨_, hmap6.mono (by omega), ?_, impl_LeastStands.put_ok hmap'.isMap (impl_LeastStands.law.key hkey) hval' ⟨d + 1, h0⟩⟩, (impl_LeastStands.grown hbw (some bm)).trans (hgj.trans hg6)⟩
            rw [Maps.has_put_other (fun e => hA' (by injection e with _ e; exact e.symm))]
            exact hall'
      · rw [if_neg hl] at h
        cases h
set_option maxHeartbeats 4000000 in
set_option maxRecDepth 100000 in
theorem impl_LeastStands.calls (k : Nat) (a0_0 : Int) (a0_1 : Bool) (A0_2 : Option Addr) (c0_2 : Nat) (l0_2 : List Int) (a1 : Bool) (r1 : Int) (r2 : Bool) (w : World) (hr0_2 : Kd.C (Kd.int .i64) w A0_2 l0_2.length l0_2) (hc0_2 : l0_2.length ≤ c0_2) (hG : TabOK w) (h : impl_LeastStands.f k a0_0 a0_1 l0_2 a1 = some (r1, r2)) :
    Calls Tryd.prog 9 #[.agg #[.int .i64 a0_0, .bool a0_1, .slice A0_2 l0_2.length c0_2], .bool a1] w fun e w' => e = .returned (.tuple #[.int .i64 r1, .bool r2]) ∧ Below w.heap.size w w' := by
  have HG0 := Aside0.mk hG
  clear hG
  obtain ⟨b, hb, h1⟩ := Option.bind_eq_some_iff.mp (show (impl_isPublic.f k a0_0 a0_1 l0_2).bind _ = some (r1, r2) from h)
  clear h
  by_cases hbt : b = true
  · subst hbt
    rw [if_pos rfl] at h1
    obtain ⟨A, hA, h2⟩ := Option.bind_eq_some_iff.mp h1
    obtain ⟨T, hT, h3⟩ := Option.bind_eq_some_iff.mp h2
    clear h1 h2
    by_cases hTr : 0 ≤ T ∧ T < 4294967296
    · rw [if_pos hTr] at h3
      obtain ⟨n, hn, h4⟩ := Option.bind_eq_some_iff.mp h3
      simp only [Option.some.injEq, Prod.mk.injEq] at h4
      obtain ⟨rfl, rfl⟩ := h4
      have hAr : 0 ≤ A ∧ A < 4294967296 := by
        unfold impl_bench_all.f at hA
        split at hA
        · have := Option.some.inj hA
          omega
        · cases hA
      go_enter Tryd.func9, Tryd.ntmps9
      go_wp2_with (first | ((with_reducible refine gate_callee (f := 39) rfl ?_); refine goesL_ (some 7) rfl rfl Tryd.func39 (by kernel_rfl) rfl #[.agg #[.int .i64 a0_0, .bool a0_1, .slice A0_2 l0_2.length c0_2]] rfl (by (try simp only [List.map_toArray, List.map_cons, List.map_nil]); first | done | rfl) ?_; refine (impl_isPublic.calls k a0_0 a0_1 _ _ l0_2 true _ (by repeat (first | exact hr0_2 | refine Kd.C_alloc ?_ _ | refine Kd.C_drewN ?_ _ | refine Kd.C_drew ?_)) hc0_2 hb).mono ?_; rintro e w3 ⟨rfl, hb3⟩; refine ⟨_, rfl, ?_⟩))
      have hbw3 : Below w.heap.size w w3 := below_step (below_alloc (Below.refl _ _) _) hb3
      have hrw3 : w3.heap[w.heap.size]? = some (.cells #[.int .i64 a0_0, .bool a0_1, .slice A0_2 l0_2.length c0_2] 28 (0, 0)) := blk_below (blk_new w _) hb3
      refine start_ (n := 8) (S := fun w' => w'.cell? ⟨w.heap.size, 0, none⟩ = some (.int .i64 a0_0) ∧ w'.cell? ⟨w.heap.size, 1, none⟩ = some (.bool a0_1) ∧ w'.cell? ⟨w.heap.size, 2, none⟩ = some (.slice A0_2 l0_2.length c0_2)) (ds := []) #[false, false, false, false, false, false, false, false] (by kernel_rfl) rfl rfl ⟨(blk_cell (blk_drew hrw3) 0).trans rfl, (blk_cell (blk_drew hrw3) 1).trans rfl, (blk_cell (blk_drew hrw3) 2).trans rfl⟩ (fun hHeld => ?_)
      refine pure_ (i := 1) (N := some 10) (v := ?_) (a' := ?_) #[false, true, false, false, false, false, false, false] rfl rfl (by kernel_rfl) (fun _ _ _ h => h) (Or.inl ⟨by rfl, ?_⟩) ?_ ?_
      rotate_left
      · intro w'
        go_simp
        with_reducible rfl
      rotate_left
      · simp only [Act.put, List.setIfInBounds_toArray, List.set_cons_zero, List.set_cons_succ, i64_w, i32_w]
        rfl
      refine take_ (i := 0) (N := some 9) (v := ?_) (a' := ?_) #[true, true, false, false, false, false, false, false] rfl rfl (by kernel_rfl) (fun _ _ _ h => h) (Or.inl ⟨by rfl, ?_⟩) hHeld ?_ ?_
      rotate_left
      · rintro w' ⟨s0, s1, s2⟩
        go_simp
        with_reducible rfl
      rotate_left
      · simp only [Act.put, List.setIfInBounds_toArray, List.set_cons_zero, List.set_cons_succ, i64_w, i32_w]
        rfl
      refine take_ (i := 3) (N := some 12) (v := ?_) (a' := ?_) #[true, true, false, true, false, false, false, false] rfl rfl (by kernel_rfl) (fun _ _ _ h => h) (Or.inl ⟨by rfl, ?_⟩) hHeld ?_ ?_
      rotate_left
      · rintro w' ⟨s0, s1, s2⟩
        go_simp
        with_reducible rfl
      rotate_left
      · simp only [Act.put, List.setIfInBounds_toArray, List.set_cons_zero, List.set_cons_succ, i64_w, i32_w]
        rfl
      refine one_ (i := 2) (N := some 11) #[true, true, true, true, false, false, false, false] rfl rfl (by kernel_rfl) (by decide) (fun K hK => ?_)
      refine goes_ Tryd.func40 (by kernel_rfl) rfl #[.agg #[.int .i64 a0_0, .bool a0_1, .slice A0_2 l0_2.length c0_2], .bool a1] (by rfl) rfl rfl (by (try simp only [List.map_toArray, List.map_cons, List.map_nil]); first | done | rfl) ?_
      have hbw4 : Below w.heap.size w w3.drew := Below.drew hbw3
      refine (impl_LeastStands.made k A a1 a0_0 a0_1 A0_2 c0_2 l0_2 _ (Kd.C_below hr0_2 hbw4) hc0_2 hA hAr.1 hAr.2).mono ?_
      rintro e w5 ⟨bm, bv, br, bb, bl, rfl, hi5⟩
      refine ⟨_, rfl, ?_⟩
      have hrw5 : w5.heap[w.heap.size]? = some (.cells #[.int .i64 a0_0, .bool a0_1, .slice A0_2 l0_2.length c0_2] 28 (0, 0)) := blk_below (blk_drew hrw3) hi5.below
      refine hK.out _ _ ⟨(blk_cell hrw5 0).trans rfl, (blk_cell hrw5 1).trans rfl, (blk_cell hrw5 2).trans rfl⟩ (fun hHeld => ?_)
      clear hK K
      refine norm_ (a' := ?_) ?_ ?_
      rotate_left
      · show Act.put _ (some 11) _ = _
        simp only [Act.put, List.setIfInBounds_toArray, List.set_cons_zero, List.set_cons_succ, i64_w, i32_w]
        rfl
      refine one_ (i := 4) (N := some 13) #[true, true, true, true, true, false, false, false] rfl rfl (by kernel_rfl) (by decide) (fun K hK => ?_)
      refine goes_ Tryd.func41 (by kernel_rfl) rfl #[.agg #[.int .i64 a0_0, .bool a0_1, .slice A0_2 l0_2.length c0_2]] (by rfl) rfl rfl (by (try simp only [List.map_toArray, List.map_cons, List.map_nil]); first | done | rfl) ?_
      refine (impl_Row_taken.calls k a0_0 a0_1 _ _ l0_2 T _ (Kd.C_below hr0_2 (below_step hbw4 hi5.below)) hc0_2 hT).mono ?_
      rintro e w6 ⟨rfl, hb6⟩
      refine ⟨_, rfl, ?_⟩
      have hrw6 : w6.heap[w.heap.size]? = some (.cells #[.int .i64 a0_0, .bool a0_1, .slice A0_2 l0_2.length c0_2] 28 (0, 0)) := blk_below hrw5 hb6
      have hi6 := hi5.step hb6
      refine hK.out _ _ ⟨(blk_cell hrw6 0).trans rfl, (blk_cell hrw6 1).trans rfl, (blk_cell hrw6 2).trans rfl⟩ (fun hHeld => ?_)
      clear hK K
      refine norm_ (a' := ?_) ?_ ?_
      rotate_left
      · show Act.put _ (some 13) _ = _
        simp only [Act.put, List.setIfInBounds_toArray, List.set_cons_zero, List.set_cons_succ, i64_w, i32_w]
        rfl
      refine one_ (i := 5) (N := some 14) #[true, true, true, true, true, true, false, false] rfl rfl (by kernel_rfl) (by decide) (fun K hK => ?_)
      refine call_ 67 #[.int .u32 T, .pointer (some ⟨bv, 0, none⟩), .pointer (some ⟨br, 0, none⟩), .pointer (some ⟨bb, 0, none⟩), .pointer (some ⟨bl, 0, none⟩)] (by rfl) rfl ?_ ?_
      · have he := enters_ (P := Tryd.prog) Tryd.func67 (by kernel_rfl) rfl #[.int .u32 T, .pointer (some ⟨bv, 0, none⟩), .pointer (some ⟨br, 0, none⟩), .pointer (some ⟨bb, 0, none⟩), .pointer (some ⟨bl, 0, none⟩)] w6
        unfold execOp
        simp [resolve, Deferred.ofValue, invoke, Act.eval, he]
      refine (impl_LeastStands.least k A a1 a0_0 a0_1 A0_2 c0_2 l0_2 bm bv br bb bl _ (TabOK.below HG0.out hbw4) (Kd.C_below hr0_2 hbw4) hc0_2 hA 11 T n 1 _ hn hTr.1 hTr.2 hi6 (by decide)).mono ?_
      rintro e w7 ⟨rfl, hi7, hg7⟩
      refine ⟨_, rfl, ?_⟩
      have hrw7 : w7.heap[w.heap.size]? = some (.cells #[.int .i64 a0_0, .bool a0_1, .slice A0_2 l0_2.length c0_2] 28 (0, 0)) := blk_below (blk_drew hrw3) hi7.below
      refine hK.out _ _ ⟨(blk_cell hrw7 0).trans rfl, (blk_cell hrw7 1).trans rfl, (blk_cell hrw7 2).trans rfl⟩ (fun hHeld => ?_)
      clear hK K
      refine norm_ (a' := ?_) ?_ ?_
      rotate_left
      · show Act.put _ (some 14) _ = _
        simp only [Act.put, List.setIfInBounds_toArray, List.set_cons_zero, List.set_cons_succ, i64_w, i32_w]
        rfl
      refine pure_ (i := 6) (N := some 4) (v := ?_) (a' := ?_) #[true, true, true, true, true, true, true, false] rfl rfl (by kernel_rfl) (fun _ _ _ h => h) (Or.inl ⟨by rfl, ?_⟩) ?_ ?_
      rotate_left
      · intro w'
        go_simp
        with_reducible rfl
      rotate_left
      · simp only [Act.put, List.setIfInBounds_toArray, List.set_cons_zero, List.set_cons_succ, i64_w, i32_w]
        rfl
      refine pure_ (i := 7) (N := some 5) (v := ?_) (a' := ?_) #[true, true, true, true, true, true, true, true] rfl rfl (by kernel_rfl) (fun _ _ _ h => h) (Or.inl ⟨by rfl, ?_⟩) ?_ ?_
      rotate_left
      · intro w'
        go_simp
        with_reducible rfl
      rotate_left
      · simp only [Act.put, List.setIfInBounds_toArray, List.set_cons_zero, List.set_cons_succ, i64_w, i32_w]
        rfl
      refine done_ (by kernel_rfl) ?_
      go_wp2
      go_ret2
      exact ⟨rfl, below_step hbw4 hi7.below⟩
    · rw [if_neg hTr] at h3
      cases h3
  · have hbf : b = false := by simpa using hbt
    subst hbf
    rw [if_neg (by simp)] at h1
    simp only [Option.some.injEq, Prod.mk.injEq] at h1
    obtain ⟨rfl, rfl⟩ := h1
    go_enter Tryd.func9, Tryd.ntmps9
    go_wp2_with (first | ((with_reducible refine gate_callee (f := 39) rfl ?_); refine goesL_ (some 7) rfl rfl Tryd.func39 (by kernel_rfl) rfl #[.agg #[.int .i64 a0_0, .bool a0_1, .slice A0_2 l0_2.length c0_2]] rfl (by (try simp only [List.map_toArray, List.map_cons, List.map_nil]); first | done | rfl) ?_; refine (impl_isPublic.calls k a0_0 a0_1 _ _ l0_2 false _ (by repeat (first | exact hr0_2 | refine Kd.C_alloc ?_ _ | refine Kd.C_drewN ?_ _ | refine Kd.C_drew ?_)) hc0_2 hb).mono ?_; rintro e w3 ⟨rfl, hb3⟩; refine ⟨_, rfl, ?_⟩))
    go_ret2
    exact ⟨rfl, below_step (below_alloc (Below.refl _ _) _) hb3⟩


/-! ### laws_eqIntS: function 13 -/
def laws_eqIntS.l0 : Nat → List Int → List Int → Int → Option (Bool)
  | 0, _, _, _ => none
  | k + 1, x0, x1, x5 => if x5 < (x0.length : Int) then (if 0 ≤ x5 then (if x5 < (x1.length : Int) then (if (rd x0 x5) = (rd x1 x5) then (laws_eqIntS.l0 k x0 x1 (wrap64 (x5 + 1))) else (some false)) else (none)) else (none)) else (some true)
def laws_eqIntS.f (k : Nat) (l0 : List Int) (l1 : List Int) : Option (Bool) := if (l0.length : Int) = (l1.length : Int) then (laws_eqIntS.l0 k l0 l1 0) else (some false)
theorem laws_eqIntS.mono_l : ∀ k, (∀ y0 y1 y2, LeO (laws_eqIntS.l0 k y0 y1 y2) (laws_eqIntS.l0 (k + 1) y0 y1 y2))
  | 0 => fun _ _ _ r h => by simp [laws_eqIntS.l0] at h
  | k + 1 => by
    have ih0 := laws_eqIntS.mono_l k
    · intro y0 y1 y2
      unfold laws_eqIntS.l0
      repeat' first
      | (with_reducible exact ih0 _ _ _)
      | (with_reducible exact LeO.refl _)
      | (with_reducible exact LeO.none _)
      | (with_reducible refine LeO.ite ?_ ?_)
      | (with_reducible refine LeO.bind ?_ (fun _ => ?_))
      | exact ih0 _ _ _
      | exact LeO.none _
      | refine LeO.ite ?_ ?_
      | refine LeO.bind ?_ (fun _ => ?_)
theorem laws_eqIntS.mono : ∀ a0 a1 k, LeO (laws_eqIntS.f k a0 a1) (laws_eqIntS.f (k + 1) a0 a1) := by
  intro a0 a1 k
  have ih0 := laws_eqIntS.mono_l k
  unfold laws_eqIntS.f
  repeat' first
      | (with_reducible exact ih0 _ _ _)
      | (with_reducible exact LeO.refl _)
      | (with_reducible exact LeO.none _)
      | (with_reducible refine LeO.ite ?_ ?_)
      | (with_reducible refine LeO.bind ?_ (fun _ => ?_))
      | exact ih0 _ _ _
      | exact LeO.none _
      | refine LeO.ite ?_ ?_
      | refine LeO.bind ?_ (fun _ => ?_)
set_option maxHeartbeats 8000000 in
set_option maxRecDepth 100000 in
theorem laws_eqIntS.calls (k : Nat) (A0 : Option Addr) (c0 : Nat) (l0 : List Int) (A1 : Option Addr) (c1 : Nat) (l1 : List Int) (r : Bool) (w : World) (hr0 : Kd.C (Kd.int .i64) w A0 l0.length l0) (hc0 : l0.length ≤ c0) (hr1 : Kd.C (Kd.int .i64) w A1 l1.length l1) (hc1 : l1.length ≤ c1) (h : laws_eqIntS.f k l0 l1 = some r) :
    Calls Tryd.prog 13 #[.slice A0 l0.length c0, .slice A1 l1.length c1] w fun e w' => e = .returned (.bool r) ∧ Drawn0 w w' := by
  have HR0 := Aside0.mk hr0
  have HC0 := Aside0.mk hc0
  clear hr0 hc0
  have HR1 := Aside0.mk hr1
  have HC1 := Aside0.mk hc1
  clear hr1 hc1
  have H : (if (l0.length : Int) = (l1.length : Int) then (laws_eqIntS.l0 k l0 l1 0) else (some false)) = some r := h
  clear h
  by_cases c3 : (l0.length : Int) = (l1.length : Int)
  · rw [if_pos c3] at H
    have c3b0 : ((l0.length : Int) == (l1.length : Int)) = true := beq_iff_eq.mpr c3
    have c3b1 : ((l0.length : Int) != (l1.length : Int)) = false := bne_eq_false_iff_eq.mpr c3
    have c3b2 : (l0.length == l1.length) = true := by first | simpa using c3 | (simp at c3 ⊢; omega)
    clear c3
    have H' := Aside0.mk H
    clear H
    go_enter Tryd.func13, Tryd.ntmps13
    go_wp2
    repeat (go_quiet (fail); try go_wp2)
    go_loopg [5] k (fun kq v5 w' => ∃ (x5_1 : Int), v5 = .int .i64 x5_1 ∧ Aside0 (laws_eqIntS.l0 kq l0 l1 x5_1 = some r) ∧ Aside0 (kq ≤ k) ∧ Drawn0 w w')
    case atStart => exact ⟨(0), (by first | rfl | (simp; done) | (simp [*]; done)), H', ⟨Nat.le_refl _⟩, by repeat (first | exact Drawn0.refl _ | apply Drawn0.step)⟩
    case round =>
      clear H'
      try clear c1
      try clear p2
      try clear c3
      try clear c3b0
      try clear c3b1
      try clear c3b2
      obtain ⟨x5_1, rfl, HA, HK1, ⟨m1, rfl⟩⟩ := hrel
      cases gk with
      | zero => exact absurd HA.out (by simp [laws_eqIntS.l0])
      | succ k1 =>
        have H := HA.out
        clear HA
        simp only [laws_eqIntS.l0] at H
        by_cases c4 : x5_1 < (l0.length : Int)
        · rw [if_pos c4] at H
          have c4b0 : decide (x5_1 < (l0.length : Int)) = true := decide_eq_true c4
          clear c4
          by_cases c5 : 0 ≤ x5_1
          · rw [if_pos c5] at H
            have c5b0 : decide (0 ≤ x5_1) = true := decide_eq_true c5
            clear c5
            by_cases c6 : x5_1 < (l1.length : Int)
            · rw [if_pos c6] at H
              have c6b0 : decide (x5_1 < (l1.length : Int)) = true := decide_eq_true c6
              clear c6
              by_cases c7 : (rd l0 x5_1) = (rd l1 x5_1)
              · rw [if_pos c7] at H
                have c7b0 : ((rd l0 x5_1) == (rd l1 x5_1)) = true := beq_iff_eq.mpr c7
                have c7b1 : ((rd l0 x5_1) != (rd l1 x5_1)) = false := bne_eq_false_iff_eq.mpr c7
                clear c7
                have H' := Aside0.mk H
                clear H
                have p235 : 0 ≤ (x5_1 : Int) := of_decide_eq_true (by first | (with_reducible assumption) | assumption)
                have q235 : x5_1 < (l0.length : Int) := of_decide_eq_true (by first | (with_reducible assumption) | assumption)
                obtain ⟨ad235, e235, hx235_0⟩ := Kd.at_int HR0.out x5_1 p235 q235
                cases e235
                replace p235 := eq_true p235
                replace q235 := eq_true q235
                have p236 : 0 ≤ (x5_1 : Int) := of_decide_eq_true (by first | (with_reducible assumption) | assumption)
                have q236 : x5_1 < (l1.length : Int) := of_decide_eq_true (by first | (with_reducible assumption) | assumption)
                obtain ⟨ad236, e236, hx236_0⟩ := Kd.at_int HR1.out x5_1 p236 q236
                cases e236
                replace p236 := eq_true p236
                replace q236 := eq_true q236
                go_wp2
                repeat (go_quiet (fail); try go_wp2)
                go_roundg k1
                case measure => have := HK1.out; omega
                case rel => exact ⟨(wrap64 (x5_1 + 1)), (by first | rfl | (simp; done) | (simp [*]; done)), H', ⟨by have := HK1.out; omega⟩, by repeat (first | exact Drawn0.refl _ | apply Drawn0.step)⟩
              · rw [if_neg c7] at H
                have c7b0 : ((rd l0 x5_1) == (rd l1 x5_1)) = false := beq_eq_false_iff_ne.mpr c7
                have c7b1 : ((rd l0 x5_1) != (rd l1 x5_1)) = true := bne_iff_ne.mpr c7
                obtain rfl := Option.some.inj H
                have p235 : 0 ≤ (x5_1 : Int) := of_decide_eq_true (by first | (with_reducible assumption) | assumption)
                have q235 : x5_1 < (l0.length : Int) := of_decide_eq_true (by first | (with_reducible assumption) | assumption)
                obtain ⟨ad235, e235, hx235_0⟩ := Kd.at_int HR0.out x5_1 p235 q235
                cases e235
                replace p235 := eq_true p235
                replace q235 := eq_true q235
                have p236 : 0 ≤ (x5_1 : Int) := of_decide_eq_true (by first | (with_reducible assumption) | assumption)
                have q236 : x5_1 < (l1.length : Int) := of_decide_eq_true (by first | (with_reducible assumption) | assumption)
                obtain ⟨ad236, e236, hx236_0⟩ := Kd.at_int HR1.out x5_1 p236 q236
                cases e236
                replace p236 := eq_true p236
                replace q236 := eq_true q236
                go_wp2
                repeat (go_quiet (fail); try go_wp2)
                go_ret
                exact ⟨by first | rfl | (simp; done) | (simp [*]; done), by repeat (first | exact Drawn0.refl _ | apply Drawn0.step)⟩
            · rw [if_neg c6] at H
              exact absurd H (by simp)
          · rw [if_neg c5] at H
            exact absurd H (by simp)
        · rw [if_neg c4] at H
          have c4b0 : decide (x5_1 < (l0.length : Int)) = false := decide_eq_false c4
          clear c4
          obtain rfl := Option.some.inj H
          go_wp2
          repeat (go_quiet (fail); try go_wp2)
          go_ret
          exact ⟨by first | rfl | (simp; done) | (simp [*]; done), by repeat (first | exact Drawn0.refl _ | apply Drawn0.step)⟩
  · rw [if_neg c3] at H
    have c3b0 : ((l0.length : Int) == (l1.length : Int)) = false := beq_eq_false_iff_ne.mpr c3
    have c3b1 : ((l0.length : Int) != (l1.length : Int)) = true := bne_iff_ne.mpr c3
    have c3b2 : (l0.length == l1.length) = false := by first | simpa using c3 | (simp at c3 ⊢; omega)
    obtain rfl := Option.some.inj H
    go_enter Tryd.func13, Tryd.ntmps13
    go_wp2
    repeat (go_quiet (fail); try go_wp2)
    go_ret
    exact ⟨by first | rfl | (simp; done) | (simp [*]; done), by repeat (first | exact Drawn0.refl _ | apply Drawn0.step)⟩

/-! ### laws_eqRow: function 10 -/
def laws_eqRow.f (k : Nat) (a0_0 : Int) (a0_1 : Bool) (l0_2 : List Int) (a1_0 : Int) (a1_1 : Bool) (l1_2 : List Int) : Option (Bool) := if a0_0 = a1_0 then (if (a0_1 != a1_1) = true then (some false) else ((laws_eqIntS.f k l0_2 l1_2).bind fun t239 => (if t239 = true then (some true) else (some false)))) else (some false)
theorem laws_eqRow.mono : ∀ a0 a1 a2 a3 a4 a5 k, LeO (laws_eqRow.f k a0 a1 a2 a3 a4 a5) (laws_eqRow.f (k + 1) a0 a1 a2 a3 a4 a5) := by
  intro a0 a1 a2 a3 a4 a5 k
  unfold laws_eqRow.f
  repeat' first
      | (with_reducible exact laws_eqIntS.mono _ _ _)
      | (with_reducible exact LeO.refl _)
      | (with_reducible exact LeO.none _)
      | (with_reducible refine LeO.ite ?_ ?_)
      | (with_reducible refine LeO.bind ?_ (fun _ => ?_))
      | exact laws_eqIntS.mono _ _ _
      | exact LeO.none _
      | refine LeO.ite ?_ ?_
      | refine LeO.bind ?_ (fun _ => ?_)
set_option maxHeartbeats 8000000 in
set_option maxRecDepth 100000 in
theorem laws_eqRow.calls (k : Nat) (a0_0 : Int) (a0_1 : Bool) (A0_2 : Option Addr) (c0_2 : Nat) (l0_2 : List Int) (a1_0 : Int) (a1_1 : Bool) (A1_2 : Option Addr) (c1_2 : Nat) (l1_2 : List Int) (r : Bool) (w : World) (hr0_2 : Kd.C (Kd.int .i64) w A0_2 l0_2.length l0_2) (hc0_2 : l0_2.length ≤ c0_2) (hr1_2 : Kd.C (Kd.int .i64) w A1_2 l1_2.length l1_2) (hc1_2 : l1_2.length ≤ c1_2) (h : laws_eqRow.f k a0_0 a0_1 l0_2 a1_0 a1_1 l1_2 = some r) :
    Calls Tryd.prog 10 #[.agg #[.int .i64 a0_0, .bool a0_1, .slice A0_2 l0_2.length c0_2], .agg #[.int .i64 a1_0, .bool a1_1, .slice A1_2 l1_2.length c1_2]] w fun e w' => e = .returned (.bool r) ∧ Below w.heap.size w w' := by
  have hu28 := Tryd.underlying28
  have HR0_2 := Aside0.mk hr0_2
  have HC0_2 := Aside0.mk hc0_2
  clear hr0_2 hc0_2
  have HR1_2 := Aside0.mk hr1_2
  have HC1_2 := Aside0.mk hc1_2
  clear hr1_2 hc1_2
  have HB := Aside0.mk (Below.refl w.heap.size w)
  have H : (if a0_0 = a1_0 then (if (a0_1 != a1_1) = true then (some false) else ((laws_eqIntS.f k l0_2 l1_2).bind fun t239 => (if t239 = true then (some true) else (some false)))) else (some false)) = some r := h
  clear h
  by_cases c3 : a0_0 = a1_0
  · rw [if_pos c3] at H
    have c3b0 : (a0_0 == a1_0) = true := beq_iff_eq.mpr c3
    have c3b1 : (a0_0 != a1_0) = false := bne_eq_false_iff_eq.mpr c3
    clear c3
    by_cases c4 : (a0_1 != a1_1) = true
    · rw [if_pos c4] at H
      have c4b0 : (a0_1 != a1_1) = true := c4
      (try (have c4b1 : decide (a0_1 = a1_1) = false := by simpa using c4))
      (try (have c4b2 : (a0_1 == a1_1) = false := by simpa using c4))
      (try (have c4b3 : ¬ (a0_1 = a1_1) := by simpa using c4))
      clear c4
      obtain rfl := Option.some.inj H
      go_enter Tryd.func10, Tryd.ntmps10
      go_wp2_with (first | ((with_reducible refine gate_dst (N := 2) rfl ?_); refine box_event ?hg (N := 2) ?hd (cs := #[.int .i64 a0_0, .bool a0_1, .slice A0_2 l0_2.length c0_2]) (t := 28) ?hr ?_; (case hd => rfl); (case hg => rfl); (case hr => first | (go_simp; done) | (go_simp; rfl)); intro gb237 hg w5 hbox hb; have n0_ := Aside0.mk (below_step (by repeat (first | (with_reducible first | exact HB.out | apply below_alloc | apply pw_below_drewN | apply below_drew1) | exact HB.out)) hb); have n1_ := Aside0.mk (hbox); have n2_ := Aside0.mk ((by rw [hg]; exact (below_size (by repeat (first | (with_reducible first | exact HB.out | apply below_alloc | apply pw_below_drewN | apply below_drew1) | exact HB.out))) : w.heap.size ≤ gb237)); have n3_ := Aside0.mk ((by rw [hg]; exact (below_size (by repeat (first | (with_reducible first | exact HB.out | apply below_alloc | apply pw_below_drewN | apply below_drew1) | exact HB.out))) : w.heap.size ≤ gb237)); clear HB; have HB := n0_; have BK237 := n1_; have GW237 := n2_; have GE237 := n3_; clear n0_ n1_ n2_ n3_; clear hb hbox hg) | ((with_reducible refine gate_dst (N := 3) rfl ?_); refine box_event ?hg (N := 3) ?hd (cs := #[.int .i64 a1_0, .bool a1_1, .slice A1_2 l1_2.length c1_2]) (t := 28) ?hr ?_; (case hd => rfl); (case hg => rfl); (case hr => first | (go_simp; done) | (go_simp; rfl)); intro gb238 hg w6 hbox hb; have n0_ := Aside0.mk (blk_below (g := gb237) (o := .cells #[.int .i64 a0_0, .bool a0_1, .slice A0_2 l0_2.length c0_2] 28 (0, 0)) (by (with_reducible repeat (first | refine blk_drewN ?_ _ | refine blk_drew ?_ | refine blk_alloc ?_ _)); exact BK237.out) hb); have n1_ := Aside0.mk (below_step (by repeat (first | (with_reducible first | exact HB.out | apply below_alloc | apply pw_below_drewN | apply below_drew1 | refine below_set ?_ GE237.out) | exact HB.out)) hb); have n2_ := Aside0.mk (hbox); have n3_ := Aside0.mk ((by rw [hg]; exact (below_size (by repeat (first | (with_reducible first | exact HB.out | apply below_alloc | apply pw_below_drewN | apply below_drew1 | refine below_set ?_ GE237.out) | exact HB.out))) : w.heap.size ≤ gb238)); have n4_ := Aside0.mk ((by rw [hg]; exact (below_size (by repeat (first | (with_reducible first | exact HB.out | apply below_alloc | apply pw_below_drewN | apply below_drew1 | refine below_set ?_ GE237.out) | exact HB.out))) : w.heap.size ≤ gb238)); have n5_ := Aside0.mk ((by rw [hg]; exact Nat.ne_of_lt (blk_lt (g := gb237) (o := .cells #[.int .i64 a0_0, .bool a0_1, .slice A0_2 l0_2.length c0_2] 28 (0, 0)) (by (with_reducible repeat (first | refine blk_drewN ?_ _ | refine blk_drew ?_ | refine blk_alloc ?_ _)); exact BK237.out)) : gb237 ≠ gb238)); have n6_ := Aside0.mk ((by rw [hg]; exact Nat.ne_of_gt (blk_lt (g := gb237) (o := .cells #[.int .i64 a0_0, .bool a0_1, .slice A0_2 l0_2.length c0_2] 28 (0, 0)) (by (with_reducible repeat (first | refine blk_drewN ?_ _ | refine blk_drew ?_ | refine blk_alloc ?_ _)); exact BK237.out)) : gb238 ≠ gb237)); clear BK237; clear HB; have BK237 := n0_; have HB := n1_; have BK238 := n2_; have GW238 := n3_; have GE238 := n4_; have NB237_238 := n5_; have NB238_237 := n6_; clear n0_ n1_ n2_ n3_ n4_ n5_ n6_; clear hb hbox hg; have hnb7 := NB237_238.out; have hnc7 := NB238_237.out; have hcz8_0 : w6.cell? ⟨gb237, 0, none⟩ = some (.int .i64 a0_0) := (blk_cell BK237.out 0).trans rfl; have hcz8_1 : w6.cell? ⟨gb237, 1, none⟩ = some (.bool a0_1) := (blk_cell BK237.out 1).trans rfl; have hcz8_2 : w6.cell? ⟨gb237, 2, none⟩ = some (.slice A0_2 l0_2.length c0_2) := (blk_cell BK237.out 2).trans rfl; have hfz8_0 := blk_frozen BK237.out 0; have hfz8_1 := blk_frozen BK237.out 1; have hfz8_2 := blk_frozen BK237.out 2; have hcz9_0 : w6.cell? ⟨gb238, 0, none⟩ = some (.int .i64 a1_0) := (blk_cell BK238.out 0).trans rfl; have hcz9_1 : w6.cell? ⟨gb238, 1, none⟩ = some (.bool a1_1) := (blk_cell BK238.out 1).trans rfl; have hcz9_2 : w6.cell? ⟨gb238, 2, none⟩ = some (.slice A1_2 l1_2.length c1_2) := (blk_cell BK238.out 2).trans rfl; have hfz9_0 := blk_frozen BK238.out 0; have hfz9_1 := blk_frozen BK238.out 1; have hfz9_2 := blk_frozen BK238.out 2))
      go_ret
      exact ⟨by first | rfl | (simp [errW_none, errW_some] <;> rfl) | (simp [*, errW_none, errW_some] <;> rfl), by repeat (first | (with_reducible first | exact HB.out | apply below_alloc | apply pw_below_drewN | apply below_drew1 | refine below_set ?_ GE237.out | refine below_set ?_ GE238.out) | exact HB.out)⟩
    · rw [if_neg c4] at H
      have c4b0 : (a0_1 != a1_1) = false := by simpa using c4
      (try (have c4b1 : decide (a0_1 = a1_1) = true := by simpa using c4))
      (try (have c4b2 : (a0_1 == a1_1) = true := by simpa using c4))
      clear c4
      replace H := Option.bind_eq_some_iff.mp H
      obtain ⟨t239, A100, H⟩ := H
      replace H : (if t239 = true then (some true) else (some false)) = some r := H
      have A10 := Aside0.mk A100
      clear A100
      by_cases c11 : t239 = true
      · subst c11
        have H1 : (some true) = some r := by rw [if_pos rfl] at H; exact H
        clear H
        have H := H1
        clear H1
        obtain rfl := Option.some.inj H
        go_enter Tryd.func10, Tryd.ntmps10
        go_wp2_with (first | ((with_reducible refine gate_dst (N := 2) rfl ?_); refine box_event ?hg (N := 2) ?hd (cs := #[.int .i64 a0_0, .bool a0_1, .slice A0_2 l0_2.length c0_2]) (t := 28) ?hr ?_; (case hd => rfl); (case hg => rfl); (case hr => first | (go_simp; done) | (go_simp; rfl)); intro gb237 hg w12 hbox hb; have n0_ := Aside0.mk (below_step (by repeat (first | (with_reducible first | exact HB.out | apply below_alloc | apply pw_below_drewN | apply below_drew1) | exact HB.out)) hb); have n1_ := Aside0.mk (hbox); have n2_ := Aside0.mk ((by rw [hg]; exact (below_size (by repeat (first | (with_reducible first | exact HB.out | apply below_alloc | apply pw_below_drewN | apply below_drew1) | exact HB.out))) : w.heap.size ≤ gb237)); have n3_ := Aside0.mk ((by rw [hg]; exact (below_size (by repeat (first | (with_reducible first | exact HB.out | apply below_alloc | apply pw_below_drewN | apply below_drew1) | exact HB.out))) : w.heap.size ≤ gb237)); clear HB; have HB := n0_; have BK237 := n1_; have GW237 := n2_; have GE237 := n3_; clear n0_ n1_ n2_ n3_; clear hb hbox hg) | ((with_reducible refine gate_dst (N := 3) rfl ?_); refine box_event ?hg (N := 3) ?hd (cs := #[.int .i64 a1_0, .bool a1_1, .slice A1_2 l1_2.length c1_2]) (t := 28) ?hr ?_; (case hd => rfl); (case hg => rfl); (case hr => first | (go_simp; done) | (go_simp; rfl)); intro gb238 hg w13 hbox hb; have n0_ := Aside0.mk (blk_below (g := gb237) (o := .cells #[.int .i64 a0_0, .bool a0_1, .slice A0_2 l0_2.length c0_2] 28 (0, 0)) (by (with_reducible repeat (first | refine blk_drewN ?_ _ | refine blk_drew ?_ | refine blk_alloc ?_ _)); exact BK237.out) hb); have n1_ := Aside0.mk (below_step (by repeat (first | (with_reducible first | exact HB.out | apply below_alloc | apply pw_below_drewN | apply below_drew1 | refine below_set ?_ GE237.out) | exact HB.out)) hb); have n2_ := Aside0.mk (hbox); have n3_ := Aside0.mk ((by rw [hg]; exact (below_size (by repeat (first | (with_reducible first | exact HB.out | apply below_alloc | apply pw_below_drewN | apply below_drew1 | refine below_set ?_ GE237.out) | exact HB.out))) : w.heap.size ≤ gb238)); have n4_ := Aside0.mk ((by rw [hg]; exact (below_size (by repeat (first | (with_reducible first | exact HB.out | apply below_alloc | apply pw_below_drewN | apply below_drew1 | refine below_set ?_ GE237.out) | exact HB.out))) : w.heap.size ≤ gb238)); have n5_ := Aside0.mk ((by rw [hg]; exact Nat.ne_of_lt (blk_lt (g := gb237) (o := .cells #[.int .i64 a0_0, .bool a0_1, .slice A0_2 l0_2.length c0_2] 28 (0, 0)) (by (with_reducible repeat (first | refine blk_drewN ?_ _ | refine blk_drew ?_ | refine blk_alloc ?_ _)); exact BK237.out)) : gb237 ≠ gb238)); have n6_ := Aside0.mk ((by rw [hg]; exact Nat.ne_of_gt (blk_lt (g := gb237) (o := .cells #[.int .i64 a0_0, .bool a0_1, .slice A0_2 l0_2.length c0_2] 28 (0, 0)) (by (with_reducible repeat (first | refine blk_drewN ?_ _ | refine blk_drew ?_ | refine blk_alloc ?_ _)); exact BK237.out)) : gb238 ≠ gb237)); clear BK237; clear HB; have BK237 := n0_; have HB := n1_; have BK238 := n2_; have GW238 := n3_; have GE238 := n4_; have NB237_238 := n5_; have NB238_237 := n6_; clear n0_ n1_ n2_ n3_ n4_ n5_ n6_; clear hb hbox hg; have hnb14 := NB237_238.out; have hnc14 := NB238_237.out; have hcz15_0 : w13.cell? ⟨gb237, 0, none⟩ = some (.int .i64 a0_0) := (blk_cell BK237.out 0).trans rfl; have hcz15_1 : w13.cell? ⟨gb237, 1, none⟩ = some (.bool a0_1) := (blk_cell BK237.out 1).trans rfl; have hcz15_2 : w13.cell? ⟨gb237, 2, none⟩ = some (.slice A0_2 l0_2.length c0_2) := (blk_cell BK237.out 2).trans rfl; have hfz15_0 := blk_frozen BK237.out 0; have hfz15_1 := blk_frozen BK237.out 1; have hfz15_2 := blk_frozen BK237.out 2; have hcz16_0 : w13.cell? ⟨gb238, 0, none⟩ = some (.int .i64 a1_0) := (blk_cell BK238.out 0).trans rfl; have hcz16_1 : w13.cell? ⟨gb238, 1, none⟩ = some (.bool a1_1) := (blk_cell BK238.out 1).trans rfl; have hcz16_2 : w13.cell? ⟨gb238, 2, none⟩ = some (.slice A1_2 l1_2.length c1_2) := (blk_cell BK238.out 2).trans rfl; have hfz16_0 := blk_frozen BK238.out 0; have hfz16_1 := blk_frozen BK238.out 1; have hfz16_2 := blk_frozen BK238.out 2) | ((with_reducible refine gate_callee (f := 13) rfl ?_); refine goesL_ (some 19) rfl rfl Tryd.func13 (by kernel_rfl) rfl #[.slice A0_2 l0_2.length c0_2, .slice A1_2 l1_2.length c1_2] rfl (by (try simp only [List.map_toArray, List.map_cons, List.map_nil]); first | done | rfl | (simp only [List.length_drop, List.length_take]; rfl)) ?_; (with_reducible refine (laws_eqIntS.calls k _ _ l0_2 _ _ l1_2 true _ ?side1 ?side2 ?side3 ?side4 A10.out).mono ?_); (case side1 => repeat (first | exact (Kd.C_below HR0_2.out HB.out) | (with_reducible refine Kd.C_alloc ?_ _) | (with_reducible refine Kd.C_drewN ?_ _) | (with_reducible refine Kd.C_drew ?_))); (case side2 => exact HC0_2.out); (case side3 => repeat (first | exact (Kd.C_below HR1_2.out HB.out) | (with_reducible refine Kd.C_alloc ?_ _) | (with_reducible refine Kd.C_drewN ?_ _) | (with_reducible refine Kd.C_drew ?_))); (case side4 => exact HC1_2.out); rintro e w' ⟨rfl, ⟨nd, rfl⟩⟩; refine ⟨_, rfl, ?_⟩))
        go_ret
        exact ⟨by first | rfl | (simp [errW_none, errW_some] <;> rfl) | (simp [*, errW_none, errW_some] <;> rfl), by repeat (first | (with_reducible first | exact HB.out | apply below_alloc | apply pw_below_drewN | apply below_drew1 | refine below_set ?_ GE237.out | refine below_set ?_ GE238.out) | exact HB.out)⟩
      · replace c11 := Bool.eq_false_iff.mpr c11
        subst c11
        have H1 : (some false) = some r := by rw [if_neg (show ¬ (false = true) by decide)] at H; exact H
        clear H
        have H := H1
        clear H1
        obtain rfl := Option.some.inj H
        go_enter Tryd.func10, Tryd.ntmps10
        go_wp2_with (first | ((with_reducible refine gate_dst (N := 2) rfl ?_); refine box_event ?hg (N := 2) ?hd (cs := #[.int .i64 a0_0, .bool a0_1, .slice A0_2 l0_2.length c0_2]) (t := 28) ?hr ?_; (case hd => rfl); (case hg => rfl); (case hr => first | (go_simp; done) | (go_simp; rfl)); intro gb237 hg w17 hbox hb; have n0_ := Aside0.mk (below_step (by repeat (first | (with_reducible first | exact HB.out | apply below_alloc | apply pw_below_drewN | apply below_drew1) | exact HB.out)) hb); have n1_ := Aside0.mk (hbox); have n2_ := Aside0.mk ((by rw [hg]; exact (below_size (by repeat (first | (with_reducible first | exact HB.out | apply below_alloc | apply pw_below_drewN | apply below_drew1) | exact HB.out))) : w.heap.size ≤ gb237)); have n3_ := Aside0.mk ((by rw [hg]; exact (below_size (by repeat (first | (with_reducible first | exact HB.out | apply below_alloc | apply pw_below_drewN | apply below_drew1) | exact HB.out))) : w.heap.size ≤ gb237)); clear HB; have HB := n0_; have BK237 := n1_; have GW237 := n2_; have GE237 := n3_; clear n0_ n1_ n2_ n3_; clear hb hbox hg) | ((with_reducible refine gate_dst (N := 3) rfl ?_); refine box_event ?hg (N := 3) ?hd (cs := #[.int .i64 a1_0, .bool a1_1, .slice A1_2 l1_2.length c1_2]) (t := 28) ?hr ?_; (case hd => rfl); (case hg => rfl); (case hr => first | (go_simp; done) | (go_simp; rfl)); intro gb238 hg w18 hbox hb; have n0_ := Aside0.mk (blk_below (g := gb237) (o := .cells #[.int .i64 a0_0, .bool a0_1, .slice A0_2 l0_2.length c0_2] 28 (0, 0)) (by (with_reducible repeat (first | refine blk_drewN ?_ _ | refine blk_drew ?_ | refine blk_alloc ?_ _)); exact BK237.out) hb); have n1_ := Aside0.mk (below_step (by repeat (first | (with_reducible first | exact HB.out | apply below_alloc | apply pw_below_drewN | apply below_drew1 | refine below_set ?_ GE237.out) | exact HB.out)) hb); have n2_ := Aside0.mk (hbox); have n3_ := Aside0.mk ((by rw [hg]; exact (below_size (by repeat (first | (with_reducible first | exact HB.out | apply below_alloc | apply pw_below_drewN | apply below_drew1 | refine below_set ?_ GE237.out) | exact HB.out))) : w.heap.size ≤ gb238)); have n4_ := Aside0.mk ((by rw [hg]; exact (below_size (by repeat (first | (with_reducible first | exact HB.out | apply below_alloc | apply pw_below_drewN | apply below_drew1 | refine below_set ?_ GE237.out) | exact HB.out))) : w.heap.size ≤ gb238)); have n5_ := Aside0.mk ((by rw [hg]; exact Nat.ne_of_lt (blk_lt (g := gb237) (o := .cells #[.int .i64 a0_0, .bool a0_1, .slice A0_2 l0_2.length c0_2] 28 (0, 0)) (by (with_reducible repeat (first | refine blk_drewN ?_ _ | refine blk_drew ?_ | refine blk_alloc ?_ _)); exact BK237.out)) : gb237 ≠ gb238)); have n6_ := Aside0.mk ((by rw [hg]; exact Nat.ne_of_gt (blk_lt (g := gb237) (o := .cells #[.int .i64 a0_0, .bool a0_1, .slice A0_2 l0_2.length c0_2] 28 (0, 0)) (by (with_reducible repeat (first | refine blk_drewN ?_ _ | refine blk_drew ?_ | refine blk_alloc ?_ _)); exact BK237.out)) : gb238 ≠ gb237)); clear BK237; clear HB; have BK237 := n0_; have HB := n1_; have BK238 := n2_; have GW238 := n3_; have GE238 := n4_; have NB237_238 := n5_; have NB238_237 := n6_; clear n0_ n1_ n2_ n3_ n4_ n5_ n6_; clear hb hbox hg; have hnb19 := NB237_238.out; have hnc19 := NB238_237.out; have hcz20_0 : w18.cell? ⟨gb237, 0, none⟩ = some (.int .i64 a0_0) := (blk_cell BK237.out 0).trans rfl; have hcz20_1 : w18.cell? ⟨gb237, 1, none⟩ = some (.bool a0_1) := (blk_cell BK237.out 1).trans rfl; have hcz20_2 : w18.cell? ⟨gb237, 2, none⟩ = some (.slice A0_2 l0_2.length c0_2) := (blk_cell BK237.out 2).trans rfl; have hfz20_0 := blk_frozen BK237.out 0; have hfz20_1 := blk_frozen BK237.out 1; have hfz20_2 := blk_frozen BK237.out 2; have hcz21_0 : w18.cell? ⟨gb238, 0, none⟩ = some (.int .i64 a1_0) := (blk_cell BK238.out 0).trans rfl; have hcz21_1 : w18.cell? ⟨gb238, 1, none⟩ = some (.bool a1_1) := (blk_cell BK238.out 1).trans rfl; have hcz21_2 : w18.cell? ⟨gb238, 2, none⟩ = some (.slice A1_2 l1_2.length c1_2) := (blk_cell BK238.out 2).trans rfl; have hfz21_0 := blk_frozen BK238.out 0; have hfz21_1 := blk_frozen BK238.out 1; have hfz21_2 := blk_frozen BK238.out 2) | ((with_reducible refine gate_callee (f := 13) rfl ?_); refine goesL_ (some 19) rfl rfl Tryd.func13 (by kernel_rfl) rfl #[.slice A0_2 l0_2.length c0_2, .slice A1_2 l1_2.length c1_2] rfl (by (try simp only [List.map_toArray, List.map_cons, List.map_nil]); first | done | rfl | (simp only [List.length_drop, List.length_take]; rfl)) ?_; (with_reducible refine (laws_eqIntS.calls k _ _ l0_2 _ _ l1_2 false _ ?side1 ?side2 ?side3 ?side4 A10.out).mono ?_); (case side1 => repeat (first | exact (Kd.C_below HR0_2.out HB.out) | (with_reducible refine Kd.C_alloc ?_ _) | (with_reducible refine Kd.C_drewN ?_ _) | (with_reducible refine Kd.C_drew ?_))); (case side2 => exact HC0_2.out); (case side3 => repeat (first | exact (Kd.C_below HR1_2.out HB.out) | (with_reducible refine Kd.C_alloc ?_ _) | (with_reducible refine Kd.C_drewN ?_ _) | (with_reducible refine Kd.C_drew ?_))); (case side4 => exact HC1_2.out); rintro e w' ⟨rfl, ⟨nd, rfl⟩⟩; refine ⟨_, rfl, ?_⟩))
        go_ret
        exact ⟨by first | rfl | (simp [errW_none, errW_some] <;> rfl) | (simp [*, errW_none, errW_some] <;> rfl), by repeat (first | (with_reducible first | exact HB.out | apply below_alloc | apply pw_below_drewN | apply below_drew1 | refine below_set ?_ GE237.out | refine below_set ?_ GE238.out) | exact HB.out)⟩
  · rw [if_neg c3] at H
    have c3b0 : (a0_0 == a1_0) = false := beq_eq_false_iff_ne.mpr c3
    have c3b1 : (a0_0 != a1_0) = true := bne_iff_ne.mpr c3
    obtain rfl := Option.some.inj H
    go_enter Tryd.func10, Tryd.ntmps10
    go_wp2_with (first | ((with_reducible refine gate_dst (N := 2) rfl ?_); refine box_event ?hg (N := 2) ?hd (cs := #[.int .i64 a0_0, .bool a0_1, .slice A0_2 l0_2.length c0_2]) (t := 28) ?hr ?_; (case hd => rfl); (case hg => rfl); (case hr => first | (go_simp; done) | (go_simp; rfl)); intro gb237 hg w22 hbox hb; have n0_ := Aside0.mk (below_step (by repeat (first | (with_reducible first | exact HB.out | apply below_alloc | apply pw_below_drewN | apply below_drew1) | exact HB.out)) hb); have n1_ := Aside0.mk (hbox); have n2_ := Aside0.mk ((by rw [hg]; exact (below_size (by repeat (first | (with_reducible first | exact HB.out | apply below_alloc | apply pw_below_drewN | apply below_drew1) | exact HB.out))) : w.heap.size ≤ gb237)); have n3_ := Aside0.mk ((by rw [hg]; exact (below_size (by repeat (first | (with_reducible first | exact HB.out | apply below_alloc | apply pw_below_drewN | apply below_drew1) | exact HB.out))) : w.heap.size ≤ gb237)); clear HB; have HB := n0_; have BK237 := n1_; have GW237 := n2_; have GE237 := n3_; clear n0_ n1_ n2_ n3_; clear hb hbox hg) | ((with_reducible refine gate_dst (N := 3) rfl ?_); refine box_event ?hg (N := 3) ?hd (cs := #[.int .i64 a1_0, .bool a1_1, .slice A1_2 l1_2.length c1_2]) (t := 28) ?hr ?_; (case hd => rfl); (case hg => rfl); (case hr => first | (go_simp; done) | (go_simp; rfl)); intro gb238 hg w23 hbox hb; have n0_ := Aside0.mk (blk_below (g := gb237) (o := .cells #[.int .i64 a0_0, .bool a0_1, .slice A0_2 l0_2.length c0_2] 28 (0, 0)) (by (with_reducible repeat (first | refine blk_drewN ?_ _ | refine blk_drew ?_ | refine blk_alloc ?_ _)); exact BK237.out) hb); have n1_ := Aside0.mk (below_step (by repeat (first | (with_reducible first | exact HB.out | apply below_alloc | apply pw_below_drewN | apply below_drew1 | refine below_set ?_ GE237.out) | exact HB.out)) hb); have n2_ := Aside0.mk (hbox); have n3_ := Aside0.mk ((by rw [hg]; exact (below_size (by repeat (first | (with_reducible first | exact HB.out | apply below_alloc | apply pw_below_drewN | apply below_drew1 | refine below_set ?_ GE237.out) | exact HB.out))) : w.heap.size ≤ gb238)); have n4_ := Aside0.mk ((by rw [hg]; exact (below_size (by repeat (first | (with_reducible first | exact HB.out | apply below_alloc | apply pw_below_drewN | apply below_drew1 | refine below_set ?_ GE237.out) | exact HB.out))) : w.heap.size ≤ gb238)); have n5_ := Aside0.mk ((by rw [hg]; exact Nat.ne_of_lt (blk_lt (g := gb237) (o := .cells #[.int .i64 a0_0, .bool a0_1, .slice A0_2 l0_2.length c0_2] 28 (0, 0)) (by (with_reducible repeat (first | refine blk_drewN ?_ _ | refine blk_drew ?_ | refine blk_alloc ?_ _)); exact BK237.out)) : gb237 ≠ gb238)); have n6_ := Aside0.mk ((by rw [hg]; exact Nat.ne_of_gt (blk_lt (g := gb237) (o := .cells #[.int .i64 a0_0, .bool a0_1, .slice A0_2 l0_2.length c0_2] 28 (0, 0)) (by (with_reducible repeat (first | refine blk_drewN ?_ _ | refine blk_drew ?_ | refine blk_alloc ?_ _)); exact BK237.out)) : gb238 ≠ gb237)); clear BK237; clear HB; have BK237 := n0_; have HB := n1_; have BK238 := n2_; have GW238 := n3_; have GE238 := n4_; have NB237_238 := n5_; have NB238_237 := n6_; clear n0_ n1_ n2_ n3_ n4_ n5_ n6_; clear hb hbox hg; have hnb24 := NB237_238.out; have hnc24 := NB238_237.out; have hcz25_0 : w23.cell? ⟨gb237, 0, none⟩ = some (.int .i64 a0_0) := (blk_cell BK237.out 0).trans rfl; have hcz25_1 : w23.cell? ⟨gb237, 1, none⟩ = some (.bool a0_1) := (blk_cell BK237.out 1).trans rfl; have hcz25_2 : w23.cell? ⟨gb237, 2, none⟩ = some (.slice A0_2 l0_2.length c0_2) := (blk_cell BK237.out 2).trans rfl; have hfz25_0 := blk_frozen BK237.out 0; have hfz25_1 := blk_frozen BK237.out 1; have hfz25_2 := blk_frozen BK237.out 2; have hcz26_0 : w23.cell? ⟨gb238, 0, none⟩ = some (.int .i64 a1_0) := (blk_cell BK238.out 0).trans rfl; have hcz26_1 : w23.cell? ⟨gb238, 1, none⟩ = some (.bool a1_1) := (blk_cell BK238.out 1).trans rfl; have hcz26_2 : w23.cell? ⟨gb238, 2, none⟩ = some (.slice A1_2 l1_2.length c1_2) := (blk_cell BK238.out 2).trans rfl; have hfz26_0 := blk_frozen BK238.out 0; have hfz26_1 := blk_frozen BK238.out 1; have hfz26_2 := blk_frozen BK238.out 2))
    go_ret
    exact ⟨by first | rfl | (simp [errW_none, errW_some] <;> rfl) | (simp [*, errW_none, errW_some] <;> rfl), by repeat (first | (with_reducible first | exact HB.out | apply below_alloc | apply pw_below_drewN | apply below_drew1 | refine below_set ?_ GE237.out | refine below_set ?_ GE238.out) | exact HB.out)⟩

end Go.Proofs.YtohmonfaabofaaaDoor.QFnExactLeastStands
