-- Written by px.py, a program of this session, over the kit's printer: some functions have a definition and a proof of this session's own.
import Derived.Test.YtbohmfnjgjijdaaDoorProg
import Derived.Below
import Derived.Deep.Draws
import Derived.Deep.AppendLies
import Derived.Maps.AppendAt
import Derived.OwnWalk
import Derived.Laws.BytesArg
import Derived.Laws.MakeOwn
import Derived.Laws.OwnMore
import Derived.Deep.OwnRows
import Derived.Tactics
import Derived.Lib.ConvBytes
import Derived.Laws.Slices
import Derived.WalkKit
import Derived.KernelRfl
import Derived.RowKit3
import Derived.Deep.LoopGhost
import Derived.Deep.QuietTactic
import Derived.BigQuiet
import Derived.WideLaws
import Derived.Deep.DeepCutAuto
import Derived.Deep.CutBlock
import Derived.Deep.RegionHeld3
import Derived.Laws.Rows
import Derived.Lib.AppendStr
import Derived.ArgAppend
import Derived.Laws.IdiomCopy
import Derived.OrdersHeld
import Derived.Laws.BitsLemmas
import Derived.RowKit
import Derived.Test.YtbohmfnjgjijdaaDoorVGuestsWords
import Derived.Test.YtbohmfnjgjijdaaDoorVGuestsLast
import Derived.Test.YtbohmfnjgjijdaaDoorVGuestsTab
import Derived.Test.YtbohmfnjgjijdaaDoorVGuestsFour
import Derived.Test.YtbohmfnjgjijdaaDoorVGuestsQPut
import Derived.Test.YtbohmfnjgjijdaaDoorVGuestsApart
import Derived.Test.YtbohmfnjgjijdaaDoorVGuestsArr
import Derived.Test.YtbohmfnjgjijdaaDoorVGuestsZeros
import Derived.Test.YtbohmfnjgjijdaaDoorVGuestsFoot
import Derived.Test.YtbohmfnjgjijdaaDoorVGuestsKept
import Derived.Test.YtbohmfnjgjijdaaDoorVGuestsShare
import Derived.Test.YtbohmfnjgjijdaaDoorVGuestsN
import Derived.Test.YtbohmfnjgjijdaaDoorVGuestsFootNe
import Derived.Test.YtbohmfnjgjijdaaDoorVGuestsAt
import Derived.Test.YtbohmfnjgjijdaaDoorVGuestsEqStruct
import Derived.Test.YtbohmfnjgjijdaaDoorVGuestsRepsOne
import Derived.Test.YtbohmfnjgjijdaaDoorVGuestsInv
import Derived.Test.YtbohmfnjgjijdaaDoorVGuestsInvWords
import Derived.Test.YtbohmfnjgjijdaaDoorVGuestsGuard
import Derived.Test.YtbohmfnjgjijdaaDoorVGuestsNEv
import Derived.Test.YtbohmfnjgjijdaaDoorVGuestsMore
namespace Go.Proofs.YtbohmfnjgjijdaaDoor.QFnGuests
open Go.RowKit Go.Proofs.YtbohmfnjgjijdaaDoorW.PrintWords Go.Proofs.YtbohmfnjgjijdaaDoorW.PrintLast Go.Proofs.YtbohmfnjgjijdaaDoorW.PrintMore
attribute [local go_sem] max2_int min2_int max_two min_two max_three min_three max_four min_four   -- for this text's walks alone
set_option linter.unusedVariables false
set_option linter.unusedSimpArgs false
theorem A0_ : type_of% @Aside0.mk := @Aside0.mk
theorem bn_ : type_of% @pw_below_drewN := @pw_below_drewN
theorem ba_ : type_of% @below_alloc := @below_alloc
theorem bd_ : type_of% @below_drew1 := @below_drew1
theorem bs_ : type_of% @below_set := @below_set
theorem bt_ : type_of% @below_step := @below_step
theorem bz_ : type_of% @below_size := @below_size
theorem kn_ : type_of% @blk_drewN := @blk_drewN
theorem kd_ : type_of% @blk_drew := @blk_drew
theorem ka_ : type_of% @blk_alloc := @blk_alloc
theorem kb_ : type_of% @blk_below := @blk_below
theorem kc_ : type_of% @blk_cell := @blk_cell
theorem kf_ : type_of% @blk_frozen := @blk_frozen
theorem ra_ : type_of% @Kd.R_alloc := @Kd.R_alloc
theorem rn_ : type_of% @Kd.R_drewN := @Kd.R_drewN
theorem rd_ : type_of% @Kd.R_drew := @Kd.R_drew
theorem rr_ : type_of% @Kd.R_reads' := @Kd.R_reads'
theorem ca_ : type_of% @Kd.C_alloc := @Kd.C_alloc
theorem cn_ : type_of% @Kd.C_drewN := @Kd.C_drewN
theorem cd_ : type_of% @Kd.C_drew := @Kd.C_drew
theorem ob_ : type_of% @Option.bind_eq_some_iff := @Option.bind_eq_some_iff
theorem bf_ : type_of% @Bool.eq_false_iff := @Bool.eq_false_iff
theorem be_ : type_of% @box_event := @box_event
theorem gc_ : type_of% @gate_callee := @gate_callee
theorem gd_ : type_of% @gate_dst := @gate_dst
theorem od_ : type_of% @of_decide_eq_true := @of_decide_eq_true
theorem dt_ : type_of% @decide_eq_true := @decide_eq_true
theorem si_ : type_of% @Option.some.inj := @Option.some.inj
theorem cb_ : type_of% @Kd.C_below := @Kd.C_below
theorem sa_ : type_of% @List.setIfInBounds_toArray := @List.setIfInBounds_toArray
theorem sz_ : type_of% @List.set_cons_zero := @List.set_cons_zero
theorem ss_ : type_of% @List.set_cons_succ := @List.set_cons_succ
theorem ma_ : type_of% @List.map_toArray := @List.map_toArray
theorem mc_ : type_of% @List.map_cons := @List.map_cons
theorem mn_ : type_of% @List.map_nil := @List.map_nil
theorem sj_ : type_of% @Option.some.injEq := @Option.some.injEq
theorem pj_ : type_of% @Prod.mk.injEq := @Prod.mk.injEq
theorem ld_ : type_of% @List.length_drop := @List.length_drop
theorem lt_ : type_of% @List.length_take := @List.length_take
theorem c2_ {w : World} {g : Nat} {v0 v1 : Value} {t : TypeId} (B : Aside0 (w.heap[g]? = some (.cells #[v0, v1] t (0, 0)))) : w.cell? ⟨g, 0, none⟩ = some v0 ∧ w.cell? ⟨g, 1, none⟩ = some v1 := ⟨(blk_cell B.out 0).trans rfl, (blk_cell B.out 1).trans rfl⟩
theorem c3_ {w : World} {g : Nat} {v0 v1 v2 : Value} {t : TypeId} (B : Aside0 (w.heap[g]? = some (.cells #[v0, v1, v2] t (0, 0)))) : w.cell? ⟨g, 0, none⟩ = some v0 ∧ w.cell? ⟨g, 1, none⟩ = some v1 ∧ w.cell? ⟨g, 2, none⟩ = some v2 := ⟨(blk_cell B.out 0).trans rfl, (blk_cell B.out 1).trans rfl, (blk_cell B.out 2).trans rfl⟩
theorem s3_ {P : Program} {ops : Array Oper} {Q : Exit → Act → World → Prop} {id : Nat} {a : Act} {w : World} {l : Array Bool} {g : Nat} {v0 v1 v2 : Value} {t : TypeId} {T : Bool × List (List Nat × List Nat)} {B : List Nat} (n : Nat) (ds : List Nat) (HB : Aside0 (w.drew.heap[g]? = some (.cells #[v0, v1, v2] t (0, 0)))) (hT : rtab .any ops = T) (hB : waitsOk T.2 B = true) (h : (w.drew.cell? ⟨g, 0, none⟩ = some v0 ∧ w.drew.cell? ⟨g, 1, none⟩ = some v1 ∧ w.drew.cell? ⟨g, 2, none⟩ = some v2) → Aside0 (rtab .any ops = T) → Aside0 (waitsOk T.2 B = true) → wpAnyLast P .any ops Q (fun w' => w'.cell? ⟨g, 0, none⟩ = some v0 ∧ w'.cell? ⟨g, 1, none⟩ = some v1 ∧ w'.cell? ⟨g, 2, none⟩ = some v2) ds n l a w.drew) (hm : P.follows .mixedOrders = true := by kernel_rfl) (hn : ops.size = n := by exact rfl) (hl : Array.replicate n false = l := by show (List.replicate _ false).toArray = _; simp only [List.replicate_succ, List.replicate_zero]; rfl) : (Code.region id ops true).wp P Q a w := start_ (S := fun w' => w'.cell? ⟨g, 0, none⟩ = some v0 ∧ w'.cell? ⟨g, 1, none⟩ = some v1 ∧ w'.cell? ⟨g, 2, none⟩ = some v2) l hm hn hl (c3_ HB) (fun hS => h hS ⟨hT⟩ ⟨hB⟩)
theorem c5_ {w : World} {g : Nat} {v0 v1 v2 v3 v4 : Value} {t : TypeId} (B : Aside0 (w.heap[g]? = some (.cells #[v0, v1, v2, v3, v4] t (0, 0)))) : w.cell? ⟨g, 0, none⟩ = some v0 ∧ w.cell? ⟨g, 1, none⟩ = some v1 ∧ w.cell? ⟨g, 2, none⟩ = some v2 ∧ w.cell? ⟨g, 3, none⟩ = some v3 ∧ w.cell? ⟨g, 4, none⟩ = some v4 := ⟨(blk_cell B.out 0).trans rfl, (blk_cell B.out 1).trans rfl, (blk_cell B.out 2).trans rfl, (blk_cell B.out 3).trans rfl, (blk_cell B.out 4).trans rfl⟩
theorem s5_ {P : Program} {ops : Array Oper} {Q : Exit → Act → World → Prop} {id : Nat} {a : Act} {w : World} {l : Array Bool} {g : Nat} {v0 v1 v2 v3 v4 : Value} {t : TypeId} {T : Bool × List (List Nat × List Nat)} {B : List Nat} (n : Nat) (ds : List Nat) (HB : Aside0 (w.drew.heap[g]? = some (.cells #[v0, v1, v2, v3, v4] t (0, 0)))) (hT : rtab .any ops = T) (hB : waitsOk T.2 B = true) (h : (w.drew.cell? ⟨g, 0, none⟩ = some v0 ∧ w.drew.cell? ⟨g, 1, none⟩ = some v1 ∧ w.drew.cell? ⟨g, 2, none⟩ = some v2 ∧ w.drew.cell? ⟨g, 3, none⟩ = some v3 ∧ w.drew.cell? ⟨g, 4, none⟩ = some v4) → Aside0 (rtab .any ops = T) → Aside0 (waitsOk T.2 B = true) → wpAnyLast P .any ops Q (fun w' => w'.cell? ⟨g, 0, none⟩ = some v0 ∧ w'.cell? ⟨g, 1, none⟩ = some v1 ∧ w'.cell? ⟨g, 2, none⟩ = some v2 ∧ w'.cell? ⟨g, 3, none⟩ = some v3 ∧ w'.cell? ⟨g, 4, none⟩ = some v4) ds n l a w.drew) (hm : P.follows .mixedOrders = true := by kernel_rfl) (hn : ops.size = n := by exact rfl) (hl : Array.replicate n false = l := by show (List.replicate _ false).toArray = _; simp only [List.replicate_succ, List.replicate_zero]; rfl) : (Code.region id ops true).wp P Q a w := start_ (S := fun w' => w'.cell? ⟨g, 0, none⟩ = some v0 ∧ w'.cell? ⟨g, 1, none⟩ = some v1 ∧ w'.cell? ⟨g, 2, none⟩ = some v2 ∧ w'.cell? ⟨g, 3, none⟩ = some v3 ∧ w'.cell? ⟨g, 4, none⟩ = some v4) l hm hn hl (c5_ HB) (fun hS => h hS ⟨hT⟩ ⟨hB⟩)
theorem bp2_0 {w : World} {g : Nat} {u v0 v1 : Value} {t : TypeId} (h : w.heap[g]? = some (.cells #[v0, v1] t (0, 0))) : (w.setCell ⟨g, 0, none⟩ u).heap[g]? = some (.cells #[u, v1] t (0, 0)) := blk_put h 0 u rfl
theorem bp2_1 {w : World} {g : Nat} {u v0 v1 : Value} {t : TypeId} (h : w.heap[g]? = some (.cells #[v0, v1] t (0, 0))) : (w.setCell ⟨g, 1, none⟩ u).heap[g]? = some (.cells #[v0, u] t (0, 0)) := blk_put h 1 u rfl
theorem bp3_0 {w : World} {g : Nat} {u v0 v1 v2 : Value} {t : TypeId} (h : w.heap[g]? = some (.cells #[v0, v1, v2] t (0, 0))) : (w.setCell ⟨g, 0, none⟩ u).heap[g]? = some (.cells #[u, v1, v2] t (0, 0)) := blk_put h 0 u rfl
theorem bp3_1 {w : World} {g : Nat} {u v0 v1 v2 : Value} {t : TypeId} (h : w.heap[g]? = some (.cells #[v0, v1, v2] t (0, 0))) : (w.setCell ⟨g, 1, none⟩ u).heap[g]? = some (.cells #[v0, u, v2] t (0, 0)) := blk_put h 1 u rfl
theorem bp3_2 {w : World} {g : Nat} {u v0 v1 v2 : Value} {t : TypeId} (h : w.heap[g]? = some (.cells #[v0, v1, v2] t (0, 0))) : (w.setCell ⟨g, 2, none⟩ u).heap[g]? = some (.cells #[v0, v1, u] t (0, 0)) := blk_put h 2 u rfl
theorem bp5_0 {w : World} {g : Nat} {u v0 v1 v2 v3 v4 : Value} {t : TypeId} (h : w.heap[g]? = some (.cells #[v0, v1, v2, v3, v4] t (0, 0))) : (w.setCell ⟨g, 0, none⟩ u).heap[g]? = some (.cells #[u, v1, v2, v3, v4] t (0, 0)) := blk_put h 0 u rfl
theorem bp5_1 {w : World} {g : Nat} {u v0 v1 v2 v3 v4 : Value} {t : TypeId} (h : w.heap[g]? = some (.cells #[v0, v1, v2, v3, v4] t (0, 0))) : (w.setCell ⟨g, 1, none⟩ u).heap[g]? = some (.cells #[v0, u, v2, v3, v4] t (0, 0)) := blk_put h 1 u rfl
theorem bp5_2 {w : World} {g : Nat} {u v0 v1 v2 v3 v4 : Value} {t : TypeId} (h : w.heap[g]? = some (.cells #[v0, v1, v2, v3, v4] t (0, 0))) : (w.setCell ⟨g, 2, none⟩ u).heap[g]? = some (.cells #[v0, v1, u, v3, v4] t (0, 0)) := blk_put h 2 u rfl
theorem bp5_3 {w : World} {g : Nat} {u v0 v1 v2 v3 v4 : Value} {t : TypeId} (h : w.heap[g]? = some (.cells #[v0, v1, v2, v3, v4] t (0, 0))) : (w.setCell ⟨g, 3, none⟩ u).heap[g]? = some (.cells #[v0, v1, v2, u, v4] t (0, 0)) := blk_put h 3 u rfl
theorem bp5_4 {w : World} {g : Nat} {u v0 v1 v2 v3 v4 : Value} {t : TypeId} (h : w.heap[g]? = some (.cells #[v0, v1, v2, v3, v4] t (0, 0))) : (w.setCell ⟨g, 4, none⟩ u).heap[g]? = some (.cells #[v0, v1, v2, v3, u] t (0, 0)) := blk_put h 4 u rfl
theorem fz2_ {w : World} {g : Nat} {t : TypeId} {cs : Array Value} (B : Aside0 (w.heap[g]? = some (.cells cs t (0, 0)))) : w.frozen? ⟨g, 0, none⟩ = false ∧ w.frozen? ⟨g, 1, none⟩ = false := ⟨blk_frozen B.out 0, blk_frozen B.out 1⟩
theorem fz3_ {w : World} {g : Nat} {t : TypeId} {cs : Array Value} (B : Aside0 (w.heap[g]? = some (.cells cs t (0, 0)))) : w.frozen? ⟨g, 0, none⟩ = false ∧ w.frozen? ⟨g, 1, none⟩ = false ∧ w.frozen? ⟨g, 2, none⟩ = false := ⟨blk_frozen B.out 0, blk_frozen B.out 1, blk_frozen B.out 2⟩
theorem fz5_ {w : World} {g : Nat} {t : TypeId} {cs : Array Value} (B : Aside0 (w.heap[g]? = some (.cells cs t (0, 0)))) : w.frozen? ⟨g, 0, none⟩ = false ∧ w.frozen? ⟨g, 1, none⟩ = false ∧ w.frozen? ⟨g, 2, none⟩ = false ∧ w.frozen? ⟨g, 3, none⟩ = false ∧ w.frozen? ⟨g, 4, none⟩ = false := ⟨blk_frozen B.out 0, blk_frozen B.out 1, blk_frozen B.out 2, blk_frozen B.out 3, blk_frozen B.out 4⟩
theorem z2_ {w : World} {g : Nat} {v0 v1 : Value} {t : TypeId} (B : Aside0 (w.heap[g]? = some (.cells #[v0, v1] t (0, 0)))) : (w.cell? ⟨g, 0, none⟩ = some v0 ∧ w.cell? ⟨g, 1, none⟩ = some v1) ∧ (w.frozen? ⟨g, 0, none⟩ = false ∧ w.frozen? ⟨g, 1, none⟩ = false) := ⟨c2_ B, fz2_ B⟩
theorem z3_ {w : World} {g : Nat} {v0 v1 v2 : Value} {t : TypeId} (B : Aside0 (w.heap[g]? = some (.cells #[v0, v1, v2] t (0, 0)))) : (w.cell? ⟨g, 0, none⟩ = some v0 ∧ w.cell? ⟨g, 1, none⟩ = some v1 ∧ w.cell? ⟨g, 2, none⟩ = some v2) ∧ (w.frozen? ⟨g, 0, none⟩ = false ∧ w.frozen? ⟨g, 1, none⟩ = false ∧ w.frozen? ⟨g, 2, none⟩ = false) := ⟨c3_ B, fz3_ B⟩
theorem z5_ {w : World} {g : Nat} {v0 v1 v2 v3 v4 : Value} {t : TypeId} (B : Aside0 (w.heap[g]? = some (.cells #[v0, v1, v2, v3, v4] t (0, 0)))) : (w.cell? ⟨g, 0, none⟩ = some v0 ∧ w.cell? ⟨g, 1, none⟩ = some v1 ∧ w.cell? ⟨g, 2, none⟩ = some v2 ∧ w.cell? ⟨g, 3, none⟩ = some v3 ∧ w.cell? ⟨g, 4, none⟩ = some v4) ∧ (w.frozen? ⟨g, 0, none⟩ = false ∧ w.frozen? ⟨g, 1, none⟩ = false ∧ w.frozen? ⟨g, 2, none⟩ = false ∧ w.frozen? ⟨g, 3, none⟩ = false ∧ w.frozen? ⟨g, 4, none⟩ = false) := ⟨c5_ B, fz5_ B⟩
abbrev no_ (v : Value) (k : Nat) : Prop := some k ≠ v.ownBlock
section
variable {P : Program} {ops : Array Oper} {Q : Exit → Act → World → Prop} {md : Region.Mode} {S : World → Prop} {ds : List Nat}
theorem pu_ (i : Nat) (n : Tmp) {oi : Oper} {v : Value} {fuel : Nat} {l l' : Array Bool} {a a' : Act} {w : World} (h : wpAnyLast P md ops Q S ds fuel l' a' w) (hi : ops[i]? = some oi := by exact rfl) (hN : oi.dst = some n := by exact rfl) (hl : l.setIfInBounds i true = l' := by simp only [List.setIfInBounds_toArray, List.set_cons_zero, List.set_cons_succ]; rfl) (hc : anyB md ops l l' i = true := by first | exact any_of HT_.out (by kernel_rfl) | kernel_rfl) (hQ : ∀ c a w, Q (.panic c) (a.put oi.dst v) w → Q (.panic c) a w := by exact fun _ _ _ h => h) (hy : Yields P ops oi v a := by refine Or.inl ⟨by rfl, ?_⟩; intro w'; go_simp; with_reducible rfl) (ha : a.put (some n) v = a' := by simp only [Act.put, List.setIfInBounds_toArray, List.set_cons_zero, List.set_cons_succ, i64_w, i32_w]; rfl) : wpAnyLast P md ops Q S ds (fuel + 1) l a w := pure_ l' hi hN hc hQ hy ha h
theorem pv_ (i : Nat) (n : Tmp) {oi : Oper} {fuel : Nat} {l l' : Array Bool} {a a' : Act} {w : World} (h : wpAnyLast P md ops Q S ds fuel l' a' w) (hi : ops[i]? = some oi := by exact rfl) (hN : oi.dst = some n := by exact rfl) (hl : l.setIfInBounds i true = l' := by simp only [List.setIfInBounds_toArray, List.set_cons_zero, List.set_cons_succ]; rfl) (hc : anyB md ops l l' i = true := by first | exact any_of HT_.out (by kernel_rfl) | kernel_rfl) (hQ : ∀ c a w, Q (.panic c) (a.put oi.dst undef) w → Q (.panic c) a w := by exact fun _ _ _ h => h) (hy : Yields P ops oi undef a := by exact Or.inr ⟨by rfl, rfl⟩) (ha : a.put (some n) undef = a' := by simp only [Act.put, List.setIfInBounds_toArray, List.set_cons_zero, List.set_cons_succ, i64_w, i32_w]; rfl) : wpAnyLast P md ops Q S ds (fuel + 1) l a w := pure_ l' hi hN hc hQ hy ha h
theorem tk_ (i : Nat) (n : Tmp) {oi : Oper} {v : Value} {fuel : Nat} {l l' : Array Bool} {a a' : Act} {w : World} (hS : S w) (h : wpAnyLast P md ops Q S ds fuel l' a' w) (hi : ops[i]? = some oi := by exact rfl) (hN : oi.dst = some n := by exact rfl) (hl : l.setIfInBounds i true = l' := by simp only [List.setIfInBounds_toArray, List.set_cons_zero, List.set_cons_succ]; rfl) (hc : takeB md ops ds l l' i = true := by first | exact take_ofW HT_.out HW_.out (by kernel_rfl) | kernel_rfl) (hQ : ∀ c a w, Q (.panic c) (a.put oi.dst v) w → Q (.panic c) a w := by exact fun _ _ _ h => h) (hy : YieldsIf P ops S oi v a := by refine Or.inl ⟨by rfl, ?_⟩; intro w' hs_; go_simp; with_reducible rfl) (ha : a.put (some n) v = a' := by simp only [Act.put, List.setIfInBounds_toArray, List.set_cons_zero, List.set_cons_succ, i64_w, i32_w]; rfl) : wpAnyLast P md ops Q S ds (fuel + 1) l a w := take_ l' hi hN hc hQ hy hS ha h
theorem on_ (i : Nat) (N : Option Tmp) {oi : Oper} {fuel : Nat} {l l' : Array Bool} {a : Act} {w : World} (h : ∀ K : Act → World → Prop, Shut (∀ a' w', S w' → (S w' → wpAnyLast P md ops Q S ds fuel l' a' w') → K a' w') → if Region.wanted oi (yielded ops a.tmps) = true then Oper.wp P oi a w K Q else K (a.put N undef) w) (hi : ops[i]? = some oi := by exact rfl) (hN : oi.dst = N := by exact rfl) (hl : l.setIfInBounds i true = l' := by simp only [List.setIfInBounds_toArray, List.set_cons_zero, List.set_cons_succ]; rfl) (hc : readyB md ops l l' i = true := by first | exact one_of HT_.out (by kernel_rfl) | kernel_rfl) (hd : i ∉ ds := by decide) : wpAnyLast P md ops Q S ds (fuel + 1) l a w := one_ l' hi hN hc hd h
theorem dn_ {l : Array Bool} {a : Act} {w : World} {n : Nat} (h : Q .normal a w) (hr : (Region.ready md ops l == []) = true := by first | exact done_of HT_.out (by kernel_rfl) | kernel_rfl) : wpAnyLast P md ops Q S ds n l a w := done_ hr h
theorem nm_ (n : Tmp) {v : Value} {fuel : Nat} {l : Array Bool} {a a' : Act} {w : World} (h : wpAnyLast P md ops Q S ds fuel l a' w) (ha : a.put (some n) v = a' := by simp only [Act.put, List.setIfInBounds_toArray, List.set_cons_zero, List.set_cons_succ, i64_w, i32_w]; rfl) : wpAnyLast P md ops Q S ds fuel l (a.put (some n) v) w := norm_ ha h
theorem nq_ {fuel : Nat} {l : Array Bool} {a a' : Act} {w : World} (h : wpAnyLast P md ops Q S ds fuel l a' w) (ha : a = a' := by simp only [putAll, Act.put, List.setIfInBounds_toArray, List.set_cons_zero, List.set_cons_succ]; rfl) : wpAnyLast P md ops Q S ds fuel l a w := norm_ ha h
theorem gs_ {oi : Oper} {N : Option Tmp} {a : Act} {w : World} {K : Act → World → Prop} {f : FuncId} {fn : Func} {ars : Array Operand} {ts : Array TypeId} (hf : P.funcs[f]? = some fn) (args : Array Value) (h : Calls P f args w fun e w' => ∃ v, e = .returned v ∧ K (a.put N v) w') (hname : (fn.name == "runtime.NumGoroutine") = false := by kernel_rfl) (hb : fn.body.isSome = true := by exact rfl) (hw : Region.wanted oi (yielded ops a.tmps) = true := by rfl) (hN : oi.dst = N := by exact rfl) (hop : oi.op = .call { callee := .value (.func f), args := ars, argTypes := ts } := by exact rfl) (hargs : ars.map a.eval = args := by (try simp only [List.map_toArray, List.map_cons, List.map_nil]); first | done | rfl | (simp only [List.length_drop, List.length_take]; rfl)) : if Region.wanted oi (yielded ops a.tmps) = true then Oper.wp P oi a w K Q else K (a.put N undef) w := goes_ hf hname hb args hw hN hop hargs h
theorem gl_ {rest : List Oper} {oi : Oper} {a : Act} {w : World} (N : Tmp) {f : FuncId} {fn : Func} {ars : Array Operand} {ts : Array TypeId} (hf : P.funcs[f]? = some fn) (args : Array Value) (h : Calls P f args w fun e w' => ∃ v, e = .returned v ∧ wpList P ops Q rest (a.put (some N) v) w') (hd : oi.dst = some N := by exact rfl) (hg : oi.guard = none := by exact rfl) (hname : (fn.name == "runtime.NumGoroutine") = false := by kernel_rfl) (hb : fn.body.isSome = true := by exact rfl) (hop : oi.op = .call { callee := .value (.func f), args := ars, argTypes := ts } := by exact rfl) (hargs : ars.map a.eval = args := by (try simp only [List.map_toArray, List.map_cons, List.map_nil]); first | done | rfl | (simp only [List.length_drop, List.length_take]; rfl)) : wpList P ops Q (oi :: rest) a w := goesL_ (some N) hd hg hf hname hb args hop hargs h
theorem bx_ {o : Oper} {rest : List Oper} {a : Act} {W : World} (N : Tmp) (cs : Array Value) (t : TypeId) (h : ∀ g, g = W.heap.size → ∀ w1, Aside0 (w1.heap[g]? = some (.cells cs t (0, 0))) → Below W.heap.size W w1 → wpList P ops Q rest (a.put o.dst (.pointer (some ⟨g, 0, none⟩))) w1) (hd : o.dst = some N := by exact rfl) (hgd : o.guard = none := by exact rfl) (hrun : (execOp a.eval o).run P W = .ok (.value (.pointer (some ⟨W.heap.size, 0, none⟩))) (W.alloc (.cells cs t (0, 0))) := by go_simp; first | done | rfl) : wpList P ops Q (o :: rest) a W := box_event hgd hd hrun (fun g hg w1 hb k => h g hg w1 ⟨hb⟩ k)
end
theorem nb_ {P : Prop} (h : P := by first | exact NB0_1.out | exact NB0_2.out | exact NB0_3.out | exact NB0_4.out | exact NB0_5.out | exact NB0_6.out | exact NB1_0.out | exact NB1_2.out | exact NB1_3.out | exact NB1_4.out | exact NB1_5.out | exact NB1_6.out | exact NB2_0.out | exact NB2_1.out | exact NB2_3.out | exact NB2_4.out | exact NB2_5.out | exact NB2_6.out | exact NB3_0.out | exact NB3_1.out | exact NB3_2.out | exact NB3_4.out | exact NB3_5.out | exact NB3_6.out | exact NB4_0.out | exact NB4_1.out | exact NB4_2.out | exact NB4_3.out | exact NB4_5.out | exact NB4_6.out | exact NB5_0.out | exact NB5_1.out | exact NB5_2.out | exact NB5_3.out | exact NB5_4.out | exact NB5_6.out | exact NB6_0.out | exact NB6_1.out | exact NB6_2.out | exact NB6_3.out | exact NB6_4.out | exact NB6_5.out) : P := h
theorem k1_ {w0 w1 w2 : World} {g : Nat} {o : Obj} (B : Aside0 (w0.heap[g]? = some o)) (hb : Below w1.heap.size w1 w2) (h : w0.heap[g]? = some o → w1.heap[g]? = some o := by intro h_; (with_reducible repeat (first | apply blk_drewN | apply blk_drew | apply blk_alloc | apply bp2_0 | apply bp2_1 | apply bp3_0 | apply bp3_1 | apply bp3_2 | apply bp5_0 | apply bp5_1 | apply bp5_2 | apply bp5_3 | apply bp5_4 | refine blk_far ?_ nb_ _)); exact h_) : Aside0 (w2.heap[g]? = some o) := ⟨blk_below (h B.out) hb⟩
theorem hb_ {w W w2 : World} (hb : Below W.heap.size W w2) (h : Below w.heap.size w W := by repeat (with_reducible first | exact HB.out | apply below_alloc | apply pw_below_drewN | apply below_drew1)) : Aside0 (Below w.heap.size w w2) := ⟨below_step h hb⟩
theorem ge_ {w W : World} {g : Nat} (hg : g = W.heap.size) (h : Below w.heap.size w W := by repeat (with_reducible first | exact HB.out | apply below_alloc | apply pw_below_drewN | apply below_drew1)) : Aside0 (w.heap.size ≤ g) := ⟨by rw [hg]; exact below_size h⟩
theorem nl_ {w0 W : World} {g g2 : Nat} {o : Obj} (hg : g2 = W.heap.size) (B : Aside0 (w0.heap[g]? = some o)) (h : w0.heap[g]? = some o → W.heap[g]? = some o := by intro h_; (with_reducible repeat (first | apply blk_drewN | apply blk_drew | apply blk_alloc | apply bp2_0 | apply bp2_1 | apply bp3_0 | apply bp3_1 | apply bp3_2 | apply bp5_0 | apply bp5_1 | apply bp5_2 | apply bp5_3 | apply bp5_4 | refine blk_far ?_ nb_ _)); exact h_) : Aside0 (g ≠ g2) := ⟨by rw [hg]; exact Nat.ne_of_lt (blk_lt (h B.out))⟩
theorem ng_ {w0 W : World} {g g2 : Nat} {o : Obj} (hg : g2 = W.heap.size) (B : Aside0 (w0.heap[g]? = some o)) (h : w0.heap[g]? = some o → W.heap[g]? = some o := by intro h_; (with_reducible repeat (first | apply blk_drewN | apply blk_drew | apply blk_alloc | apply bp2_0 | apply bp2_1 | apply bp3_0 | apply bp3_1 | apply bp3_2 | apply bp5_0 | apply bp5_1 | apply bp5_2 | apply bp5_3 | apply bp5_4 | refine blk_far ?_ nb_ _)); exact h_) : Aside0 (g2 ≠ g) := ⟨by rw [hg]; exact Nat.ne_of_gt (blk_lt (h B.out))⟩
theorem o1_ {α β : Type} {x : Option α} {f : α → Option β} {y : β} (h : x.bind f = some y) : ∃ t, Aside0 (x = some t) ∧ f t = some y := by
 obtain ⟨t, h1, h2⟩ := Option.bind_eq_some_iff.mp h
 exact ⟨t, ⟨h1⟩, h2⟩
theorem et_ {α : Type} [BEq α] [LawfulBEq α] {a b : α} (h : a = b) : (a == b) = true ∧ (a != b) = false := ⟨beq_iff_eq.mpr h, bne_eq_false_iff_eq.mpr h⟩
theorem ef_ {α : Type} [BEq α] [LawfulBEq α] {a b : α} (h : ¬ a = b) : (a == b) = false ∧ (a != b) = true := ⟨beq_eq_false_iff_ne.mpr h, bne_iff_ne.mpr h⟩
theorem ft_ : ¬ (false = true) := by decide
theorem nl3_ {a b : Nat} (h : a ≤ b) : (a ≤ b) = True ∧ decide (a ≤ b) = true ∧ (b < a) = False := ⟨eq_true h, decide_eq_true h, eq_false (Nat.not_lt.2 h)⟩
theorem rf_ : type_of% @Kd.R_far := @Kd.R_far
theorem k2_0 {P Q : Nat → Prop} : ∀ k, P k ∧ Q k → Q k := fun _ h => h.2
theorem k2_ {w0 w1 w2 : World} {g : Nat} {o0 : Obj} (o : Obj) (B : Aside0 (w0.heap[g]? = some o0)) (hb : Below w1.heap.size w1 w2) (h : w0.heap[g]? = some o0 → w1.heap[g]? = some o := by intro h_; (with_reducible repeat (first | apply blk_drewN | apply blk_drew | apply blk_alloc | apply bp2_0 | apply bp2_1 | apply bp3_0 | apply bp3_1 | apply bp3_2 | apply bp5_0 | apply bp5_1 | apply bp5_2 | apply bp5_3 | apply bp5_4 | refine blk_far ?_ nb_ _)); exact h_) : Aside0 (w2.heap[g]? = some o) := ⟨blk_below (h B.out) hb⟩
theorem kx_ {w0 w1 : World} {g : Nat} {o : Obj} (B : Aside0 (w0.heap[g]? = some o)) (h : w0.heap[g]? = some o → w1.heap[g]? = some o := by intro h_; (with_reducible repeat (first | apply blk_drewN | apply blk_drew | apply blk_alloc | apply bp2_0 | apply bp2_1 | apply bp3_0 | apply bp3_1 | apply bp3_2 | apply bp5_0 | apply bp5_1 | apply bp5_2 | apply bp5_3 | apply bp5_4 | refine blk_far ?_ nb_ _)); exact h_) : Aside0 (w1.heap[g]? = some o) := ⟨h B.out⟩
theorem u1_ {P Q : Prop} (x : Aside0 Q) (h : Q → P := by intro h_; (with_reducible repeat (first | apply blk_drewN | apply blk_drew | apply blk_alloc | apply bp2_0 | apply bp2_1 | apply bp3_0 | apply bp3_1 | apply bp3_2 | apply bp5_0 | apply bp5_1 | apply bp5_2 | apply bp5_3 | apply bp5_4 | refine blk_far ?_ nb_ _)); exact h_) : P := h x.out
theorem bp_ {P : Program} {ops : Array Oper} {o : Oper} {a : Act} {W : World} {Q : Exit → Act → World → Prop} {Kc : Act → World → Prop} (N : Tmp) (cs : Array Value) (t : TypeId) (h : ∀ g, g = W.heap.size → ∀ w1, w1.heap[g]? = some (.cells cs t (0, 0)) → Below W.heap.size W w1 → Kc (a.put o.dst (.pointer (some ⟨g, 0, none⟩))) w1) (hd : o.dst = some N := by exact rfl) (hw : Region.wanted o (yielded ops a.tmps) = true := by exact rfl) (hrun : (execOp a.eval o).run P W = .ok (.value (.pointer (some ⟨W.heap.size, 0, none⟩))) (W.alloc (.cells cs t (0, 0))) := by go_simp; first | done | rfl) : if Region.wanted o (yielded ops a.tmps) = true then Oper.wp P o a W Kc Q else Kc (a.put o.dst undef) W := box_step hw hd hrun h
theorem kb1_ {w0 w1 w2 : World} {g g' : Nat} {o : Obj} (B : Aside0 (w0.heap[g']? = some o)) (hk : KeepBut w1 w2 g none) (ne : Aside0 (g' ≠ g)) (h : w0.heap[g']? = some o → w1.heap[g']? = some o := by intro h_; (with_reducible repeat (first | apply blk_drewN | apply blk_drew | apply blk_alloc | apply bp2_0 | apply bp2_1 | apply bp3_0 | apply bp3_1 | apply bp3_2 | apply bp5_0 | apply bp5_1 | apply bp5_2 | apply bp5_3 | apply bp5_4 | refine blk_far ?_ nb_ _)); exact h_) : Aside0 (w2.heap[g']? = some o) := ⟨KeepBut.blk hk (h B.out) ne.out (by simp)⟩
theorem cf_ {P Q : Nat → Prop} (h : ∀ k, P k → Q k := by intro k_ h_; (try simp only [and_assoc] at h_); (repeat obtain ⟨_, h_⟩ := h_); (repeat' apply And.intro) <;> first | assumption | trivial) : ∀ k, P k → Q k := h
theorem b9lq_ {P : Prop} (h : P := by repeat (first | exact HR0.out | (with_reducible refine ca_ ?_ _) | (with_reducible refine cn_ ?_ _) | (with_reducible refine cd_ ?_))) : P := h
theorem b80k_ {P : Prop} (h : P := by repeat (first | exact (rr_ HO6.out).2.2 | (with_reducible refine ca_ ?_ _) | (with_reducible refine cn_ ?_ _) | (with_reducible refine cd_ ?_))) : P := h
theorem bzfm_ {P : Prop} (h : P := by (with_reducible repeat (first | apply ra_ | apply rn_ | apply rd_)); exact HO_3.out) : P := h
theorem ba04_ {P : Prop} (h : P := by repeat (first | exact (rr_ HO2.out).2.2 | (with_reducible refine ca_ ?_ _) | (with_reducible refine cn_ ?_ _) | (with_reducible refine cd_ ?_))) : P := h
theorem b38p_ {P : Prop} (h : P := by (with_reducible repeat (first | apply ra_ | apply rn_ | apply rd_)); exact Kd.R_mono HO2.out (fun _ hk => ⟨trivial, hk⟩)) : P := h
theorem b1ye_ {P : Prop} (h : P := by rw [hg]; exact (keep_size (w := w) (g := g) (row := none) (by repeat (with_reducible first | exact HK.out | apply KeepBut.set_ | apply keep_drewN | apply keep_drew | apply keep_alloc | refine keep_far ?_ GW1.out _ | refine keep_far ?_ GW2.out _)))) : P := h
theorem bh00_ {P : Prop} (h : P := by simp only [putAll, Act.put, sa_, sz_, ss_]) : P := h
theorem byhc_ {P : Prop} (h : P := by (with_reducible repeat (first | apply ra_ | apply rn_ | apply rd_)); exact (Kd.R_mono (rf_ (rf_ (rf_ (rf_ (rf_ (Kd.R_types HO2.out BK2.out (by decide)) k2_0 _) k2_0 _) k2_0 _) k2_0 _) k2_0 _) (fun _ h_ => h_.1))) : P := h
theorem b850_ {P : Prop} (h : P := by repeat (with_reducible first | exact HB.out | apply ba_ | apply bn_ | apply bd_ | refine bs_ ?_ GE1.out | refine bs_ ?_ GE2.out | refine bs_ ?_ GE3.out)) : P := h
theorem b0r5_ {P : Prop} (h : P := by have := HK1.out; have := HK2.out; omega) : P := h
theorem bfw0_ {P : Prop} (h : P := by first | rfl | (simp [errW_none, errW_some] <;> rfl) | (simp only [← hji1]; first | rfl | (simp [errW_none, errW_some] <;> rfl)) | (simp [*, errW_none, errW_some] <;> rfl)) : P := h
theorem bf98_ {P : Prop} (h : P := by rw [hg]; exact Nat.ne_of_gt (IsS95.lt (show IsS95 w0 _ g s0_0 t19 t20 from by repeat (with_reducible first | exact HI0.out | apply IsS95.alloc | apply IsS95.drewN | apply IsS95.drew | apply IsS95.set_1 | apply IsS95.set_2 | refine IsS95.far ?_ NB0_1.out _ | refine IsS95.far ?_ NB0_2.out _)))) : P := h
theorem b6o8_ {P : Prop} (h : P := by (with_reducible repeat (first | apply ra_ | apply rn_ | apply rd_)); exact (Kd.R_mono (rf_ (rf_ (rf_ (rf_ (rf_ (rf_ (Kd.R_types HO3.out BK4.out (by decide)) k2_0 _) k2_0 _) k2_0 _) k2_0 _) k2_0 _) (fun _ hk => hk.2) (.int .i64 (wrap64 (a0_4 + 1)))) (fun _ h_ => h_.1))) : P := h
theorem b7zj_ {P : Prop} (h : P := by have := HJ1.out; have := HK1.out; have := HK2.out; have := HK3.out; omega) : P := h
theorem bzqp_ {P : Prop} (h : P := by (with_reducible repeat (first | apply ra_ | apply rn_ | apply rd_)); exact (Kd.R_mono (rf_ (rf_ (rf_ (rf_ (rf_ (rf_ (Kd.R_types HO1.out BK4.out (by decide)) k2_0 _) k2_0 _) k2_0 _) k2_0 _) k2_0 _) (fun _ hk => hk.2) (.int .i64 (wrap64 (a0_4 + 1)))) (fun _ h_ => h_.1))) : P := h
theorem b1tc_ {P : Prop} (h : P := by first | rfl | (simp; done) | (simp only [← hji1] <;> (first | rfl | simp)) | (simp [*]; done)) : P := h
theorem b83h_ {P : Prop} (h : P := by repeat (first | exact (cb_ HR0_2.out (by repeat (with_reducible first | exact HB.out | apply ba_ | apply bn_ | apply bd_ | refine bs_ ?_ GE1.out))) | (with_reducible refine ca_ ?_ _) | (with_reducible refine cn_ ?_ _) | (with_reducible refine cd_ ?_))) : P := h
theorem br5r_ {P : Prop} (h : P := by repeat (with_reducible first | exact HI0.out | apply IsS95.alloc | apply IsS95.drewN | apply IsS95.drew | apply IsS95.set_1 | apply IsS95.set_2 | refine IsS95.far ?_ NB0_1.out _ | refine IsS95.far ?_ NB0_2.out _)) : P := h
theorem bmns_ {P : Prop} (h : P := by first | (rw [hji1] at H; exact H) | (simp only [hji1] at H ⊢; exact H)) : P := h
theorem bjg6_ {P : Prop} (h : P := by (with_reducible repeat (first | apply ra_ | apply rn_ | apply rd_)); exact Kd.R_mono HO_1.out (fun _ hk => ⟨hk.1.2, ⟨hk.2, hk.1.1⟩⟩)) : P := h
theorem bgiq_ {P : Prop} (h : P := by first | (rw [hy1]; with_reducible exact H) | (have H2_ := (Option.bind_some _ _).symm.trans H; rw [hy1]; with_reducible exact H2_) | (have H2_ := (Option.bind_some _ _).symm.trans H; with_reducible exact H2_) | with_reducible exact H | (rw [hy1]; exact H) | exact H) : P := h
theorem bnwh_ {P : Prop} (h : P := by first | rfl | (simp [*, errW_none, errW_some] <;> rfl)) : P := h
theorem bypc_ {P : Prop} (h : P := by repeat (with_reducible first | exact HB.out | apply ba_ | apply bn_ | apply bd_ | refine bs_ ?_ (IsS95.ge HI0.out) | refine bs_ ?_ GE1.out | refine bs_ ?_ GE2.out | refine bs_ ?_ GE3.out)) : P := h
theorem byjq_ {P : Prop} (h : P := by repeat (first | exact (rr_ HO4.out).2.2 | (with_reducible refine ca_ ?_ _) | (with_reducible refine cn_ ?_ _) | (with_reducible refine cd_ ?_))) : P := h
theorem b9ju_ {P : Prop} (h : P := by repeat (with_reducible first | exact HB.out | apply ba_ | apply bn_ | apply bd_ | refine bs_ ?_ (IsS95.ge HI0.out) | refine bs_ ?_ GE2.out | refine bs_ ?_ GE3.out)) : P := h
theorem b48f_ {P : Prop} (h : P := by (with_reducible repeat (first | apply ra_ | apply rn_ | apply rd_)); exact Kd.R_mono HO1.out (fun _ hk => hk.2)) : P := h
theorem bds5_ {P : Prop} (h : P := by first | simpa using c2 | (simp at c2 ⊢; omega)) : P := h
theorem bi3y_ {P : Prop} (h : P := by decide) : P := h
theorem b9vj_ {P : Prop} (h : P := by (with_reducible repeat (first | apply ra_ | apply rn_ | apply rd_)); exact (Kd.R_mono (rf_ (Kd.R_types HO3.out BK4.out (by decide)) k2_0 _) (fun _ h_ => h_.1))) : P := h
theorem bzg4_ {P : Prop} (h : P := by (with_reducible repeat (first | apply ra_ | apply rn_ | apply rd_)); exact HO5.out) : P := h
theorem b6ve_ {P : Prop} (h : P := by repeat (with_reducible first | exact HB.out | apply ba_ | apply bn_ | apply bd_ | refine bs_ ?_ (IsS95.ge HI0.out) | refine bs_ ?_ GE1.out | refine bs_ ?_ GE2.out)) : P := h
theorem bqed_ {P : Prop} (h : P := by (with_reducible repeat (first | apply ra_ | apply rn_ | apply rd_)); exact Kd.R_mono HO1.out (fun _ hk => ⟨hk.1.1.1.2, ⟨hk.1.2, hk.1.1.1.1⟩⟩)) : P := h
theorem b8fp_ {P : Prop} (h : P := by repeat (first | exact (cb_ HR208.out HB.out) | (with_reducible refine ca_ ?_ _) | (with_reducible refine cn_ ?_ _) | (with_reducible refine cd_ ?_))) : P := h
theorem bfnq_ {P : Prop} (h : P := by repeat (with_reducible first | exact HB.out | apply ba_ | apply bn_ | apply bd_ | refine bs_ ?_ GE1.out | refine bs_ ?_ GE2.out)) : P := h
theorem b7sq_ {P : Prop} (h : P := by (with_reducible repeat (first | apply ra_ | apply rn_ | apply rd_)); exact HO_2.out) : P := h
theorem bwfe_ {P : Prop} (h : P := by first | exact Kd.R_nil _ _ _ _ _ | exact Kd.N_nil _ _ _ _ _ | exact Kd.V_nil _ _ _ _ _ | exact Kd.Q_nil _ _ _ _ _ | exact Kd.S_nil _ _ _ _ _) : P := h
theorem bzf8_ {P : Prop} (h : P := by (with_reducible repeat (first | apply ra_ | apply rn_ | apply rd_)); exact Kd.R_mono HO_1.out (fun _ hk => trivial)) : P := h
theorem bth6_ {P : Prop} (h : P := by (with_reducible repeat (first | apply ra_ | apply rn_ | apply rd_)); exact (Kd.R_mono (rf_ (rf_ (rf_ (rf_ (rf_ (rf_ (Kd.R_types HO4.out BK4.out (by decide)) k2_0 _) k2_0 _) k2_0 _) k2_0 _) k2_0 _) (fun _ hk => hk.2) (.int .i64 (wrap64 (a0_4 + 1)))) (fun _ h_ => h_.1))) : P := h
theorem bjzi_ {P : Prop} (h : P := by repeat (with_reducible first | exact HK.out | apply KeepBut.set_ | apply keep_drewN | apply keep_drew | apply keep_alloc | refine keep_far ?_ GW1.out _ | refine keep_far ?_ GW2.out _ | refine keep_far ?_ GW3.out _)) : P := h
theorem bnt9_ {P : Prop} (h : P := by (with_reducible repeat (first | apply ra_ | apply rn_ | apply rd_)); exact Kd.R_mono (rf_ (rf_ (rf_ (rf_ (rf_ (Kd.R_types HO_2.out BK1.out (by decide)) k2_0 _) k2_0 _) k2_0 _) k2_0 _) k2_0 _) (fun _ hk => hk.1)) : P := h
theorem bg0z_ {P : Prop} (h : P := by repeat (first | exact (cb_ HR0.out HB.out) | (with_reducible refine ca_ ?_ _) | (with_reducible refine cn_ ?_ _) | (with_reducible refine cd_ ?_))) : P := h
theorem bc23_ {P : Prop} (h : P := by rw [hg]; exact Nat.ne_of_lt (IsS95.lt (show IsS95 w0 _ g s0_0 t19 t20 from by repeat (with_reducible first | exact HI0.out | apply IsS95.alloc | apply IsS95.drewN | apply IsS95.drew | apply IsS95.set_1 | apply IsS95.set_2 | refine IsS95.far ?_ NB0_1.out _ | refine IsS95.far ?_ NB0_2.out _)))) : P := h
theorem b2f0_ {P : Prop} (h : P := by (with_reducible repeat (first | apply ra_ | apply rn_ | apply rd_)); exact Kd.R_mono (rf_ (rf_ (rf_ (rf_ (rf_ (Kd.R_types HO2.out BK1.out (by decide)) k2_0 _) k2_0 _) k2_0 _) k2_0 _) k2_0 _) (fun _ hk => hk.1)) : P := h
theorem b69g_ {P : Prop} (h : P := by (with_reducible repeat (first | apply ra_ | apply rn_ | apply rd_)); exact Kd.R_mono (rf_ (rf_ (rf_ (rf_ (rf_ (Kd.R_types HO1.out BK1.out (by decide)) k2_0 _) k2_0 _) k2_0 _) k2_0 _) k2_0 _) (fun _ hk => hk.1)) : P := h
theorem b7vg_ {P : Prop} (h : P := by rw [hg]; exact (keep_size (w := w) (g := g) (row := none) (by repeat (with_reducible first | exact HK.out | apply KeepBut.set_ | apply keep_drewN | apply keep_drew | apply keep_alloc)))) : P := h
theorem bqlu_ {P : Prop} (h : P := by repeat (first | exact (rr_ HO_2.out).2.2 | (with_reducible refine ca_ ?_ _) | (with_reducible refine cn_ ?_ _) | (with_reducible refine cd_ ?_))) : P := h
theorem bjw4_ {P : Prop} (h : P := by have := HJ1.out; have := HJ2.out; first | omega | exact Nat.le_refl _) : P := h
theorem b0mw_ {P : Prop} (h : P := by (with_reducible repeat (first | apply ra_ | apply rn_ | apply rd_)); exact HO_4.out) : P := h
theorem bcka_ {P : Prop} (h : P := by repeat (with_reducible first | exact HK.out | apply KeepBut.set_ | apply keep_drewN | apply keep_drew | apply keep_alloc | refine keep_far ?_ GW1.out _)) : P := h
theorem by2a_ {P : Prop} (h : P := by (try simp only [ma_, mc_, mn_]); first | done | (rw [show (l0_3.drop (x13_1 : Int).toNat).length = (l0_3.length - x13_1.toNat) from ld_] <;> rfl) | rfl | (simp only [ld_, lt_]; rfl)) : P := h
theorem boaj_ {P : Prop} (h : P := by repeat (first | exact Drawn0.refl _ | apply Drawn0.step)) : P := h
theorem b3d8_ {P : Prop} (h : P := by repeat (first | exact (cb_ HR1.out HB.out) | (with_reducible refine ca_ ?_ _) | (with_reducible refine cn_ ?_ _) | (with_reducible refine cd_ ?_))) : P := h
theorem byr6_ {P : Prop} (h : P := by (with_reducible repeat (first | apply ra_ | apply rn_ | apply rd_)); exact (Kd.R_mono (rf_ (rf_ (rf_ (rf_ (rf_ (rf_ (Kd.R_types HO2.out BK4.out (by decide)) k2_0 _) k2_0 _) k2_0 _) k2_0 _) k2_0 _) (fun _ hk => hk.2) (.int .i64 (wrap64 (a0_4 + 1)))) (fun _ h_ => h_.1))) : P := h
theorem beqy_ {P : Prop} (h : P := by repeat (first | exact (rr_ HO5.out).2.2 | (with_reducible refine ca_ ?_ _) | (with_reducible refine cn_ ?_ _) | (with_reducible refine cd_ ?_))) : P := h
theorem b6n8_ {P : Prop} (h : P := by repeat (first | exact (cb_ HR0_2.out HB.out) | (with_reducible refine ca_ ?_ _) | (with_reducible refine cn_ ?_ _) | (with_reducible refine cd_ ?_))) : P := h
theorem bh19_ {P : Prop} (h : P := by omega) : P := h
theorem b2i7_ {P : Prop} (h : P := by repeat (with_reducible first | exact HB.out | apply ba_ | apply bn_ | apply bd_ | refine bs_ ?_ GE1.out | refine bs_ ?_ GE2.out | refine bs_ ?_ GE3.out | refine bs_ ?_ GE4.out)) : P := h
theorem b668_ {P : Prop} (h : P := by rw [lt_]; have h_ : (x5_1 : Int) ≤ (l0.length : Int) := od_ (by first | (with_reducible assumption) | assumption); omega) : P := h
theorem br4j_ {P : Prop} (h : P := by first | (rw [add_block]; exact hf1_3 _ rfl (by omega)) | exact hf1_3 _ rfl (by omega) | exact hf1_3 ad1 rfl (by omega)) : P := h
theorem bko1_ {P : Prop} (h : P := by first | exact TabOK.below HG0.out (by repeat (with_reducible first | exact HB.out | apply ba_ | apply bn_ | apply bd_ | refine bs_ ?_ GE1.out)) | (repeat (first | exact HG0.out | apply TabOK.drew | apply TabOK.drewN)) | exact TabOK.drawn HG0.out (by assumption)) : P := h
theorem bbn0_ {P : Prop} (h : P := by first | omega | exact Nat.le_refl _) : P := h
theorem bsm5_ {P : Prop} (h : P := by (with_reducible repeat (first | apply ra_ | apply rn_ | apply rd_)); exact HO1.out) : P := h
theorem b6ip_ {P : Prop} (h : P := by (with_reducible repeat (first | apply ra_ | apply rn_ | apply rd_)); exact HO4.out) : P := h
theorem bk8z_ {P : Prop} (h : P := by (with_reducible repeat (first | apply ra_ | apply rn_ | apply rd_)); exact Kd.R_mono (rf_ (rf_ (rf_ (rf_ (rf_ (Kd.R_types HO2.out BK4.out (by decide)) k2_0 _) k2_0 _) k2_0 _) k2_0 _) k2_0 _) (fun _ hk => hk.1)) : P := h
theorem bxka_ {P : Prop} (h : P := by simp) : P := h
theorem buiy_ {P : Prop} (h : P := by (with_reducible repeat (first | apply ra_ | apply rn_ | apply rd_)); exact HO3.out) : P := h
theorem bayy_ {P : Prop} (h : P := by repeat (first | exact (rr_ HO1.out).2.2 | (with_reducible refine ca_ ?_ _) | (with_reducible refine cn_ ?_ _) | (with_reducible refine cd_ ?_))) : P := h
theorem brt4_ {P : Prop} (h : P := by repeat (with_reducible first | exact HB.out | apply ba_ | apply bn_ | apply bd_)) : P := h
theorem bu3r_ {P : Prop} (h : P := by (with_reducible repeat (first | apply ra_ | apply rn_ | apply rd_)); exact (Kd.R_mono (rf_ (rf_ (rf_ (rf_ (rf_ (Kd.R_types HO2.out BK4.out (by decide)) k2_0 _) k2_0 _) k2_0 _) k2_0 _) k2_0 _) (fun _ h_ => h_.1))) : P := h
theorem b04z_ {P : Prop} (h : P := by first | rfl | (simp; done) | (simp [*]; done)) : P := h
theorem byjl_ {P : Prop} (h : P := by first | (rw [hy5]; with_reducible exact H) | (have H2_ := (Option.bind_some _ _).symm.trans H; rw [hy5]; with_reducible exact H2_) | (have H2_ := (Option.bind_some _ _).symm.trans H; with_reducible exact H2_) | with_reducible exact H | (rw [hy5]; exact H) | exact H) : P := h
theorem b7ur_ {P : Prop} (h : P := by (with_reducible repeat (first | apply ra_ | apply rn_ | apply rd_)); exact Kd.R_mono (rf_ (rf_ (rf_ (rf_ (rf_ (rf_ (Kd.R_types (Kd.R_types HO_2.out BK2.out (by decide)) BK1.out (by decide)) (fun _ hk => hk.1.2) (.int .i64 t19)) k2_0 _) k2_0 _) k2_0 _) k2_0 _) k2_0 _) (fun _ hk => hk.1.1.1)) : P := h
theorem b6sf_ {P : Prop} (h : P := by (with_reducible repeat (first | apply ra_ | apply rn_ | apply rd_)); exact (Kd.R_mono (rf_ (rf_ (rf_ (rf_ (rf_ (Kd.R_types HO1.out BK2.out (by decide)) k2_0 _) k2_0 _) k2_0 _) k2_0 _) k2_0 _) (fun _ h_ => h_.1))) : P := h
theorem bpil_ {P : Prop} (h : P := by first | (with_reducible assumption) | assumption) : P := h
theorem b2b7_ {P : Prop} (h : P := by (with_reducible repeat (first | apply ra_ | apply rn_ | apply rd_)); exact (Kd.R_mono (rf_ (Kd.R_types HO1.out BK4.out (by decide)) k2_0 _) (fun _ h_ => h_.1))) : P := h
theorem bkan_ {P : Prop} (h : P := by repeat (first | exact (cb_ HR0_3.out HB.out) | (with_reducible refine ca_ ?_ _) | (with_reducible refine cn_ ?_ _) | (with_reducible refine cd_ ?_))) : P := h
theorem btnc_ {P : Prop} (h : P := by rw [hg]; exact Nat.ne_of_gt (IsS95.lt (show IsS95 w0 _ g s0_0 s0_1 s0_2 from by repeat (with_reducible first | exact HI0.out | apply IsS95.alloc | apply IsS95.drewN | apply IsS95.drew | apply IsS95.set_1 | apply IsS95.set_2)))) : P := h
theorem btu0_ {P : Prop} (h : P := by first | exact Nat.ne_of_lt (Nat.lt_of_lt_of_le (by have := World.block_lt_of_cell? _ _ hw494_0; first | rwa [add_block] at this | exact this) GW3.out) | (rw [add_block]; exact Nat.ne_of_lt (Nat.lt_of_lt_of_le (by have := World.block_lt_of_cell? _ _ hw494_0; first | rwa [add_block] at this | exact this) GW3.out)) | (show (Addr.add _ _).block ≠ _; rw [add_block]; exact Nat.ne_of_lt (Nat.lt_of_lt_of_le (by have := World.block_lt_of_cell? _ _ hw494_0; first | rwa [add_block] at this | exact this) GW3.out)) | (dsimp only; exact Nat.ne_of_lt (Nat.lt_of_lt_of_le (by have := World.block_lt_of_cell? _ _ hw494_0; first | rwa [add_block] at this | exact this) GW3.out))) : P := h
theorem bs6y_ {P : Prop} (h : P := by injection e2) : P := h
theorem bytg_ {P : Prop} (h : P := by first | (rw [hy4]; with_reducible exact H) | (have H2_ := (Option.bind_some _ _).symm.trans H; rw [hy4]; with_reducible exact H2_) | (have H2_ := (Option.bind_some _ _).symm.trans H; with_reducible exact H2_) | with_reducible exact H | (rw [hy4]; exact H) | exact H) : P := h
theorem b8rk_ {P : Prop} (h : P := by repeat (with_reducible first | exact HI0.out | apply IsS95.alloc | apply IsS95.drewN | apply IsS95.drew | apply IsS95.set_1 | apply IsS95.set_2 | refine IsS95.far ?_ NB0_2.out _ | refine IsS95.far ?_ NB0_3.out _)) : P := h
theorem bq0f_ {P : Prop} (h : P := by (with_reducible repeat (first | apply ra_ | apply rn_ | apply rd_)); exact (Kd.R_mono (rf_ (rf_ (rf_ (rf_ (rf_ (Kd.R_types HO1.out BK4.out (by decide)) k2_0 _) k2_0 _) k2_0 _) k2_0 _) k2_0 _) (fun _ h_ => h_.1))) : P := h
theorem bwik_ {P : Prop} (h : P := by (with_reducible repeat (first | apply ra_ | apply rn_ | apply rd_)); exact HO_1.out) : P := h
theorem bvhu_ {P : Prop} (h : P := by (with_reducible repeat (first | apply ra_ | apply rn_ | apply rd_)); exact Kd.R_mono HO2.out (fun _ hk => ⟨hk.1.1.1.2, ⟨hk.1.2, hk.1.1.1.1⟩⟩)) : P := h
theorem bscs_ {P : Prop} (h : P := by first | (rw [hy2]; with_reducible exact H) | (have H2_ := (Option.bind_some _ _).symm.trans H; rw [hy2]; with_reducible exact H2_) | (have H2_ := (Option.bind_some _ _).symm.trans H; with_reducible exact H2_) | with_reducible exact H | (rw [hy2]; exact H) | exact H) : P := h
theorem bxjq_ {P : Prop} (h : P := by have := HK1.out; omega) : P := h
theorem bnex_ {P : Prop} (h : P := by repeat (with_reducible first | exact HI0.out | apply IsS95.alloc | apply IsS95.drewN | apply IsS95.drew | apply IsS95.set_1 | apply IsS95.set_2 | refine IsS95.far ?_ NB0_1.out _ | refine IsS95.far ?_ NB0_2.out _ | refine IsS95.far ?_ NB0_3.out _)) : P := h
theorem b1kt_ {P : Prop} (h : P := by repeat (first | exact (rr_ HO_3.out).2.2 | (with_reducible refine ca_ ?_ _) | (with_reducible refine cn_ ?_ _) | (with_reducible refine cd_ ?_))) : P := h
theorem b7id_ {P : Prop} (h : P := by rw [hg]; exact Nat.ne_of_lt (IsS95.lt (show IsS95 w0 _ g s0_0 x1001_1 x1002_1 from by repeat (with_reducible first | exact HI0.out | apply IsS95.alloc | apply IsS95.drewN | apply IsS95.drew | apply IsS95.set_1 | apply IsS95.set_2 | refine IsS95.far ?_ NB0_1.out _ | refine IsS95.far ?_ NB0_2.out _)))) : P := h
theorem b1m5_ {P : Prop} (h : P := by (with_reducible repeat (first | apply ra_ | apply rn_ | apply rd_)); exact Kd.R_mono HO3.out (fun _ hk => ⟨hk.1.2, ⟨hk.1.1.1.1.2, hk.1.1.1.2⟩⟩)) : P := h
theorem bgjc_ {P : Prop} (h : P := by repeat (with_reducible first | exact HK.out | apply KeepBut.set_ | apply keep_drewN | apply keep_drew | apply keep_alloc | refine keep_far ?_ GW1.out _ | refine keep_far ?_ GW2.out _)) : P := h
theorem b9so_ {P : Prop} (h : P := by (with_reducible repeat (first | apply ra_ | apply rn_ | apply rd_)); exact HO2.out) : P := h
theorem b3bh_ {P : Prop} (h : P := by (with_reducible repeat (first | apply ra_ | apply rn_ | apply rd_)); exact Kd.R_mono HO4.out (fun _ hk => ⟨hk.1.1, ⟨hk.1.2, hk.2⟩⟩)) : P := h
theorem bn35_ {P : Prop} (h : P := by (with_reducible repeat (first | apply ra_ | apply rn_ | apply rd_)); exact (Kd.R_mono (rf_ (Kd.R_types HO1.out BK3.out (by decide)) k2_0 _) (fun _ h_ => h_.1))) : P := h
theorem bn4t_ {P : Prop} (h : P := by repeat (with_reducible first | exact HI0.out | apply IsS95.alloc | apply IsS95.drewN | apply IsS95.drew | apply IsS95.set_1 | apply IsS95.set_2 | refine IsS95.far ?_ NB0_1.out _)) : P := h
theorem bapr_ {P : Prop} (h : P := by (with_reducible repeat (first | apply ra_ | apply rn_ | apply rd_)); exact Kd.R_mono HO_2.out (fun _ hk => ⟨trivial, hk⟩)) : P := h
theorem b2x6_ {P : Prop} (h : P := by first | (rw [hy3]; with_reducible exact H) | (have H2_ := (Option.bind_some _ _).symm.trans H; rw [hy3]; with_reducible exact H2_) | (have H2_ := (Option.bind_some _ _).symm.trans H; with_reducible exact H2_) | with_reducible exact H | (rw [hy3]; exact H) | exact H) : P := h
theorem bfqv_ {P : Prop} (h : P := by kernel_rfl) : P := h
theorem bigu_ {P : Prop} (h : P := by (with_reducible repeat (first | apply ra_ | apply rn_ | apply rd_)); exact Kd.R_mono HO5.out (fun _ hk => ⟨hk.1.1, ⟨hk.1.2, hk.2⟩⟩)) : P := h
theorem beey_ {P : Prop} (h : P := by (with_reducible repeat (first | apply ra_ | apply rn_ | apply rd_)); exact Kd.R_mono HO5.out (fun _ hk => ⟨hk.1.1.2, ⟨hk.1.1.1.1.2, hk.1.1.1.2⟩⟩)) : P := h
theorem bwen_ {P : Prop} (h : P := by rw [hg]; exact (bz_ (by repeat (with_reducible first | exact HB.out | apply ba_ | apply bn_ | apply bd_)))) : P := h
theorem bjmx_ {P : Prop} (h : P := by repeat (with_reducible first | exact HK.out | apply KeepBut.set_ | apply keep_drewN | apply keep_drew | apply keep_alloc)) : P := h
theorem bjzo_ {P : Prop} (h : P := by rw [hg]; exact Nat.ne_of_gt (IsS95.lt (show IsS95 w0 _ g s0_0 x1001_1 x1002_1 from by repeat (with_reducible first | exact HI0.out | apply IsS95.alloc | apply IsS95.drewN | apply IsS95.drew | apply IsS95.set_1 | apply IsS95.set_2 | refine IsS95.far ?_ NB0_1.out _ | refine IsS95.far ?_ NB0_2.out _)))) : P := h
theorem b61e_ {P : Prop} (h : P := by (with_reducible repeat (first | apply ra_ | apply rn_ | apply rd_)); exact Kd.R_mono HO2.out (fun _ hk => hk.2)) : P := h
theorem bl08_ {P : Prop} (h : P := by (with_reducible repeat (first | apply ra_ | apply rn_ | apply rd_)); exact (Kd.R_mono (rf_ (Kd.R_types HO2.out BK4.out (by decide)) k2_0 _) (fun _ h_ => h_.1))) : P := h
theorem boj0_ {P : Prop} (h : P := by (with_reducible repeat (first | apply ra_ | apply rn_ | apply rd_)); exact (Kd.R_mono (rf_ (rf_ (rf_ (Kd.R_types HO1.out BK3.out (by decide)) k2_0 _) k2_0 _) k2_0 _) (fun _ h_ => h_.1))) : P := h
theorem bejl_ {P : Prop} (h : P := by rw [hg]; exact (keep_size (w := w) (g := g) (row := none) (by repeat (with_reducible first | exact HK.out | apply KeepBut.set_ | apply keep_drewN | apply keep_drew | apply keep_alloc | refine keep_far ?_ GW1.out _)))) : P := h
theorem bgoh_ {P : Prop} (h : P := by (with_reducible repeat (first | apply ra_ | apply rn_ | apply rd_)); exact (Kd.R_mono (rf_ (rf_ (rf_ (rf_ (rf_ (Kd.R_types HO2.out BK1.out (by decide)) k2_0 _) k2_0 _) k2_0 _) k2_0 _) k2_0 _) (fun _ h_ => h_.1))) : P := h
theorem b6f4_ {P : Prop} (h : P := by repeat (with_reducible first | exact HK.out | apply Kept.alloc | apply Kept.drewN | apply Kept.drew | refine Kept.setCell ?_ (.inr GW1.out) _)) : P := h
theorem b2ew_ {P : Prop} (h : P := by first | rfl | (simp [*]; done)) : P := h
theorem bnfj_ {P : Prop} (h : P := by (with_reducible repeat (first | apply ra_ | apply rn_ | apply rd_)); exact Kd.R_mono HO_2.out (fun _ hk => ⟨hk.1.2, ⟨hk.2, hk.1.1⟩⟩)) : P := h
theorem bg6d_ {P : Prop} (h : P := by repeat (with_reducible first | exact HB.out | apply ba_ | apply bn_ | apply bd_ | refine bs_ ?_ (IsS95.ge HI0.out))) : P := h
theorem b3pw_ {P : Prop} (h : P := by first | (rw [add_block]; exact hf1_3 ad1 rfl (by omega)) | (show (Addr.add _ _).block ≠ _; rw [add_block]; exact hf1_3 ad1 rfl (by omega)) | exact hf1_3 ad1 rfl (by omega)) : P := h
theorem bdp5_ {P : Prop} (h : P := by rw [hg]; exact Nat.ne_of_lt (IsS95.lt (show IsS95 w0 _ g s0_0 s0_1 s0_2 from by repeat (with_reducible first | exact HI0.out | apply IsS95.alloc | apply IsS95.drewN | apply IsS95.drew | apply IsS95.set_1 | apply IsS95.set_2)))) : P := h
theorem ba8y_ {P : Prop} (h : P := by (with_reducible repeat (first | apply ra_ | apply rn_ | apply rd_)); exact Kd.R_mono HO4.out (fun _ hk => trivial)) : P := h
theorem bust_ {P : Prop} (h : P := by have := HJ1.out; first | omega | exact Nat.le_refl _) : P := h
theorem be4z_ {P : Prop} (h : P := by repeat (first | exact (rr_ HO3.out).2.2 | (with_reducible refine ca_ ?_ _) | (with_reducible refine cn_ ?_ _) | (with_reducible refine cd_ ?_))) : P := h
theorem bltj_ {P : Prop} (h : P := by (try simp only [Int.add_zero]); repeat (with_reducible first | exact HI0.out | apply IsS95.alloc | apply IsS95.drewN | apply IsS95.drew | apply IsS95.set_1 | apply IsS95.set_2)) : P := h
theorem bl2y_ {P : Prop} (h : P := by repeat (first | exact (cb_ HR0_3.out (by repeat (with_reducible first | exact HB.out | apply ba_ | apply bn_ | apply bd_ | refine bs_ ?_ GE1.out))) | (with_reducible refine ca_ ?_ _) | (with_reducible refine cn_ ?_ _) | (with_reducible refine cd_ ?_))) : P := h
theorem bwap_ {P : Prop} (h : P := by (with_reducible repeat (first | apply ra_ | apply rn_ | apply rd_)); exact (Kd.R_mono (rf_ (rf_ (rf_ (rf_ (rf_ (Kd.R_types HO1.out BK1.out (by decide)) k2_0 _) k2_0 _) k2_0 _) k2_0 _) k2_0 _) (fun _ h_ => h_.1))) : P := h
theorem b1tq_ {P : Prop} (h : P := by repeat (with_reducible first | exact HK.out | apply KeepBut.set_ | apply keep_drewN | apply keep_drew | apply keep_alloc | refine keep_far ?_ GW2.out _ | refine keep_far ?_ GW3.out _)) : P := h
theorem bwhs_ {P : Prop} (h : P := by (with_reducible repeat (first | apply ra_ | apply rn_ | apply rd_)); exact Kd.R_mono (rf_ (rf_ (rf_ (rf_ (rf_ (rf_ (Kd.R_types (Kd.R_types HO_1.out BK2.out (by decide)) BK1.out (by decide)) (fun _ hk => hk.1.2) (.int .i64 t19)) k2_0 _) k2_0 _) k2_0 _) k2_0 _) k2_0 _) (fun _ hk => hk.1.1.1)) : P := h
theorem btcf_ {P : Prop} (h : P := by repeat (first | exact (rr_ HO_1.out).2.2 | (with_reducible refine ca_ ?_ _) | (with_reducible refine cn_ ?_ _) | (with_reducible refine cd_ ?_))) : P := h
theorem bjdl_ {P : Prop} (h : P := by (with_reducible repeat (first | apply ra_ | apply rn_ | apply rd_)); exact Kd.R_mono (rf_ (rf_ (rf_ (rf_ (rf_ (Kd.R_types HO_1.out BK1.out (by decide)) k2_0 _) k2_0 _) k2_0 _) k2_0 _) k2_0 _) (fun _ hk => hk.1)) : P := h
theorem be6g_ {P : Prop} (h : P := by repeat (with_reducible first | exact HB.out | apply ba_ | apply bn_ | apply bd_ | refine bs_ ?_ GE1.out)) : P := h
theorem bnbf_ {P : Prop} (h : P := by repeat (with_reducible first | exact HI0.out | apply IsS95.alloc | apply IsS95.drewN | apply IsS95.drew | apply IsS95.set_1 | apply IsS95.set_2)) : P := h
theorem bha5_ {P : Prop} (h : P := by (with_reducible repeat (first | apply ra_ | apply rn_ | apply rd_)); exact Kd.R_mono (rf_ (rf_ (rf_ (rf_ (rf_ (Kd.R_types HO1.out BK4.out (by decide)) k2_0 _) k2_0 _) k2_0 _) k2_0 _) k2_0 _) (fun _ hk => hk.1)) : P := h
theorem bnur_ {P : Prop} (h : P := by repeat (with_reducible first | exact HB.out | apply ba_ | apply bn_ | apply bd_ | refine bs_ ?_ (IsS95.ge HI0.out) | refine bs_ ?_ GE1.out)) : P := h
set_option maxHeartbeats 8000000
set_option maxRecDepth 100000

def errW : Option Int → Value
 | none => .nilIface
 | some c => .iface 0 (.int .i64 c)
theorem errW_none : errW none = .nilIface := rfl
theorem errW_some (c : Int) : errW (some c) = .iface 0 (.int .i64 c) := rfl

theorem info3 : (Tryd.prog.info? 3).map (fun i => (i.zero, i.size, i.bytes)) = some (some (.int .i64 0), 1, 8) := by kernel_rfl
-- the values' own types

end Go.Proofs.YtbohmfnjgjijdaaDoor.QFnGuests
-- packed
-- squeezed
