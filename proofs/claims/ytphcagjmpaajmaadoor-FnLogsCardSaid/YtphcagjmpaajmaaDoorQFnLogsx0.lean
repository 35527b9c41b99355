-- Written by px.py, a program of this session, over the kit's printer: some functions have a definition and a proof of this session's own.
import Derived.Test.YtphcagjmpaajmaaDoorProg
import Derived.Below
import Derived.Deep.Draws
import Derived.Deep.AppendLies
import Derived.Maps.AppendAt
import Derived.OwnWalk
import Derived.Laws.BytesArg
import Derived.Laws.MakeOwn
import Derived.Laws.OwnMore
import Derived.Deep.OwnRows
import Derived.Tactics
import Derived.Lib.ConvBytes
import Derived.Laws.Slices
import Derived.WalkKit
import Derived.KernelRfl
import Derived.RowKit3
import Derived.Deep.LoopGhost
import Derived.Deep.QuietTactic
import Derived.BigQuiet
import Derived.WideLaws
import Derived.Deep.DeepCutAuto
import Derived.Deep.CutBlock
import Derived.Deep.RegionHeld3
import Derived.Laws.Rows
import Derived.Lib.AppendStr
import Derived.ArgAppend
import Derived.Laws.IdiomCopy
import Derived.OrdersHeld
import Derived.Laws.BitsLemmas
import Derived.RowKit
import Derived.Test.YtphcagjmpaajmaaDoorVLogsWords
import Derived.Test.YtphcagjmpaajmaaDoorVLogsLast
import Derived.Test.YtphcagjmpaajmaaDoorVLogsTab
import Derived.Test.YtphcagjmpaajmaaDoorVLogsFour
import Derived.Test.YtphcagjmpaajmaaDoorVLogsQPut
import Derived.Test.YtphcagjmpaajmaaDoorVLogsApart
import Derived.Test.YtphcagjmpaajmaaDoorVLogsArr
import Derived.Test.YtphcagjmpaajmaaDoorVLogsZeros
import Derived.Test.YtphcagjmpaajmaaDoorVLogsFoot
import Derived.Test.YtphcagjmpaajmaaDoorVLogsKept
import Derived.Test.YtphcagjmpaajmaaDoorVLogsShare
import Derived.Test.YtphcagjmpaajmaaDoorVLogsN
import Derived.Test.YtphcagjmpaajmaaDoorVLogsFootNe
import Derived.Test.YtphcagjmpaajmaaDoorVLogsAt
import Derived.Test.YtphcagjmpaajmaaDoorVLogsEqStruct
import Derived.Test.YtphcagjmpaajmaaDoorVLogsRepsOne
import Derived.Test.YtphcagjmpaajmaaDoorVLogsInv
import Derived.Test.YtphcagjmpaajmaaDoorVLogsInvWords
import Derived.Test.YtphcagjmpaajmaaDoorVLogsGuard
import Derived.Test.YtphcagjmpaajmaaDoorVLogsNEv
import Derived.Test.YtphcagjmpaajmaaDoorVLogsMore
namespace Go.Proofs.YtphcagjmpaajmaaDoor.QFnLogs
open Go.RowKit Go.Proofs.YtphcagjmpaajmaaDoorW.PrintWords Go.Proofs.YtphcagjmpaajmaaDoorW.PrintLast Go.Proofs.YtphcagjmpaajmaaDoorW.PrintMore
attribute [local go_sem] max2_int min2_int max_two min_two max_three min_three max_four min_four   -- for this text's walks alone
set_option linter.unusedVariables false
set_option linter.unusedSimpArgs false
theorem A0_ : type_of% @Aside0.mk := @Aside0.mk
theorem bn_ : type_of% @pw_below_drewN := @pw_below_drewN
theorem ba_ : type_of% @below_alloc := @below_alloc
theorem bd_ : type_of% @below_drew1 := @below_drew1
theorem bs_ : type_of% @below_set := @below_set
theorem bt_ : type_of% @below_step := @below_step
theorem bz_ : type_of% @below_size := @below_size
theorem kn_ : type_of% @blk_drewN := @blk_drewN
theorem kd_ : type_of% @blk_drew := @blk_drew
theorem ka_ : type_of% @blk_alloc := @blk_alloc
theorem kb_ : type_of% @blk_below := @blk_below
theorem kc_ : type_of% @blk_cell := @blk_cell
theorem kf_ : type_of% @blk_frozen := @blk_frozen
theorem ra_ : type_of% @Kd.R_alloc := @Kd.R_alloc
theorem rn_ : type_of% @Kd.R_drewN := @Kd.R_drewN
theorem rd_ : type_of% @Kd.R_drew := @Kd.R_drew
theorem rr_ : type_of% @Kd.R_reads' := @Kd.R_reads'
theorem ca_ : type_of% @Kd.C_alloc := @Kd.C_alloc
theorem cn_ : type_of% @Kd.C_drewN := @Kd.C_drewN
theorem cd_ : type_of% @Kd.C_drew := @Kd.C_drew
theorem ob_ : type_of% @Option.bind_eq_some_iff := @Option.bind_eq_some_iff
theorem bf_ : type_of% @Bool.eq_false_iff := @Bool.eq_false_iff
theorem be_ : type_of% @box_event := @box_event
theorem gc_ : type_of% @gate_callee := @gate_callee
theorem gd_ : type_of% @gate_dst := @gate_dst
theorem od_ : type_of% @of_decide_eq_true := @of_decide_eq_true
theorem dt_ : type_of% @decide_eq_true := @decide_eq_true
theorem si_ : type_of% @Option.some.inj := @Option.some.inj
theorem cb_ : type_of% @Kd.C_below := @Kd.C_below
theorem sa_ : type_of% @List.setIfInBounds_toArray := @List.setIfInBounds_toArray
theorem sz_ : type_of% @List.set_cons_zero := @List.set_cons_zero
theorem ss_ : type_of% @List.set_cons_succ := @List.set_cons_succ
theorem ma_ : type_of% @List.map_toArray := @List.map_toArray
theorem mc_ : type_of% @List.map_cons := @List.map_cons
theorem mn_ : type_of% @List.map_nil := @List.map_nil
theorem sj_ : type_of% @Option.some.injEq := @Option.some.injEq
theorem pj_ : type_of% @Prod.mk.injEq := @Prod.mk.injEq
theorem ld_ : type_of% @List.length_drop := @List.length_drop
theorem lt_ : type_of% @List.length_take := @List.length_take
set_option maxHeartbeats 8000000
set_option maxRecDepth 100000



def errW : Option Int → Value
 | none => .nilIface
 | some c => .iface 0 (.int .i64 c)
theorem errW_none : errW none = .nilIface := rfl
theorem errW_some (c : Int) : errW (some c) = .iface 0 (.int .i64 c) := rfl

theorem info3 : (Tryd.prog.info? 3).map (fun i => (i.zero, i.size, i.bytes)) = some (some (.int .i64 0), 1, 8) := by kernel_rfl
theorem info5 : (Tryd.prog.info? 5).map (fun i => (i.zero, i.size, i.bytes)) = some (some (.int .u8 0), 1, 1) := by kernel_rfl
theorem info9 : (Tryd.prog.info? 9).map (fun i => (i.zero, i.size, i.bytes)) = some (some (.string ⟨#[]⟩), 1, 16) := by kernel_rfl
theorem info27 : (Tryd.prog.info? 27).map (fun i => (i.zero, i.size, i.bytes)) = some (some (.agg #[(.string ⟨#[]⟩), (.string ⟨#[]⟩)]), 2, 32) := by kernel_rfl
-- the values' own types
/-! #### struct type 27 -/
structure S27 where
 f0 : ByteArray
 f1 : ByteArray
def z27 : S27 := ⟨(⟨#[]⟩ : ByteArray), (⟨#[]⟩ : ByteArray)⟩
def k27 : Kd S27 := Kd.iso (Kd.pair Kd.string Kd.string) (fun x : S27 => (x.f0, x.f1))
theorem k27_open {w : World} {x : S27} {cs : List Value} (h : k27.K w x cs) : cs = [.string x.f0, .string x.f1] := by
 obtain ⟨_, _, rfl, rfl, rfl⟩ := h
 exact rfl
theorem k27_openM {w : World} {base : Nat} {ok : Nat → Prop} {x : S27} {cs : List Value} (h : k27.M w base ok x cs) : cs = [.string x.f0, .string x.f1] := by
 obtain ⟨_, _, rfl, rfl, rfl⟩ := h
 exact rfl
theorem k27_mk (w : World) (x : S27)  : k27.K w x [.string x.f0, .string x.f1] := ⟨[.string x.f0], [.string x.f1], rfl, rfl, rfl⟩
theorem k27_mkM (w : World) (base : Nat) (ok : Nat → Prop) (x : S27)  : k27.M w base ok x [.string x.f0, .string x.f1] := ⟨[.string x.f0], [.string x.f1], rfl, rfl, rfl⟩
def rd_T27 (xs : List S27) (i : Int) : S27 := xs.getD i.toNat z27
theorem at_T27 {w : World} {A : Option Addr} {n : Nat} {xs : List S27} (h : Kd.C k27 w A n xs) (i : Int) (h0 : 0 ≤ i) (h1 : i < n) : ∃ ad , A = some ad ∧ w.cell? (ad.add (i.toNat * 2)) = some (.string (rd_T27 xs i).f0) ∧ w.cell? ⟨(ad.add (i.toNat * 2)).block, (ad.add (i.toNat * 2)).off + 1, none⟩ = some (.string (rd_T27 xs i).f1) := by
 obtain ⟨ad, c, e, _, hK, hc0⟩ := Kd.C_get h z27 i h0 h1
 have hc : ∀ j u, c[j]? = some u → w.cell? (ad.add (i.toNat * 2 + j)) = some u := hc0
 obtain rfl := k27_open hK
 exact ⟨ad, e, hc 0 _ rfl, by rw [← add_field _ _ 1 (by omega)]; exact hc 1 _ rfl⟩

end Go.Proofs.YtphcagjmpaajmaaDoor.QFnLogs
-- squeezed
