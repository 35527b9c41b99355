-- Written by px.py, a program of this session, over the kit's printer: some functions have a definition and a proof of this session's own.
import Derived.Test.YtbohmfnjgjijdaaProg
import Derived.Below
import Derived.Deep.Draws
import Derived.Deep.AppendLies
import Derived.Maps.AppendAt
import Derived.OwnWalk
import Derived.Laws.BytesArg
import Derived.Laws.MakeOwn
import Derived.Laws.OwnMore
import Derived.Deep.OwnRows
import Derived.Tactics
import Derived.Lib.ConvBytes
import Derived.Laws.Slices
import Derived.WalkKit
import Derived.KernelRfl
import Derived.RowKit3
import Derived.Deep.LoopGhost
import Derived.Deep.QuietTactic
import Derived.BigQuiet
import Derived.WideLaws
import Derived.Deep.DeepCutAuto
import Derived.Deep.CutBlock
import Derived.Deep.RegionHeld3
import Derived.Laws.Rows
import Derived.Lib.AppendStr
import Derived.ArgAppend
import Derived.Laws.IdiomCopy
import Derived.OrdersHeld
import Derived.Laws.BitsLemmas
import Derived.RowKit
import Derived.Test.YtbohmfnjgjijdaaVNewConsoleWords
import Derived.Test.YtbohmfnjgjijdaaVNewConsoleLast
import Derived.Test.YtbohmfnjgjijdaaVNewConsoleTab
import Derived.Test.YtbohmfnjgjijdaaVNewConsoleFour
import Derived.Test.YtbohmfnjgjijdaaVNewConsoleQPut
import Derived.Test.YtbohmfnjgjijdaaVNewConsoleApart
import Derived.Test.YtbohmfnjgjijdaaVNewConsoleArr
import Derived.Test.YtbohmfnjgjijdaaVNewConsoleZeros
import Derived.Test.YtbohmfnjgjijdaaVNewConsoleFoot
import Derived.Test.YtbohmfnjgjijdaaVNewConsoleKept
import Derived.Test.YtbohmfnjgjijdaaVNewConsoleShare
import Derived.Test.YtbohmfnjgjijdaaVNewConsoleN
import Derived.Test.YtbohmfnjgjijdaaVNewConsoleFootNe
import Derived.Test.YtbohmfnjgjijdaaVNewConsoleAt
import Derived.Test.YtbohmfnjgjijdaaVNewConsoleEqStruct
import Derived.Test.YtbohmfnjgjijdaaVNewConsoleRepsOne
import Derived.Test.YtbohmfnjgjijdaaVNewConsoleInv
import Derived.Test.YtbohmfnjgjijdaaVNewConsoleInvWords
import Derived.Test.YtbohmfnjgjijdaaVNewConsoleGuard
import Derived.Test.YtbohmfnjgjijdaaVNewConsoleNEv
import Derived.Test.YtbohmfnjgjijdaaVNewConsoleMore
namespace Go.Proofs.Ytbohmfnjgjijdaa.QFnExactNewConsole
open Go.RowKit Go.Proofs.YtbohmfnjgjijdaaW.PrintWords Go.Proofs.YtbohmfnjgjijdaaW.PrintLast Go.Proofs.YtbohmfnjgjijdaaW.PrintMore
attribute [local go_sem] max2_int min2_int max_two min_two max_three min_three max_four min_four   -- for this text's walks alone
set_option linter.unusedVariables false
set_option linter.unusedSimpArgs false
theorem rf_ : type_of% @Kd.R_far := @Kd.R_far
theorem k2_ {P Q : Nat → Prop} : ∀ k, P k ∧ Q k → Q k := fun _ h => h.2
abbrev nb_ (v : Value) (k : Nat) : Prop := some k ≠ v.ownBlock
theorem A0_ : type_of% @Aside0.mk := @Aside0.mk
theorem bn_ : type_of% @pw_below_drewN := @pw_below_drewN
theorem ba_ : type_of% @below_alloc := @below_alloc
theorem bd_ : type_of% @below_drew1 := @below_drew1
theorem bs_ : type_of% @below_set := @below_set
theorem bt_ : type_of% @below_step := @below_step
theorem bz_ : type_of% @below_size := @below_size
theorem kn_ : type_of% @blk_drewN := @blk_drewN
theorem kd_ : type_of% @blk_drew := @blk_drew
theorem ka_ : type_of% @blk_alloc := @blk_alloc
theorem kb_ : type_of% @blk_below := @blk_below
theorem kc_ : type_of% @blk_cell := @blk_cell
theorem kf_ : type_of% @blk_frozen := @blk_frozen
theorem ra_ : type_of% @Kd.R_alloc := @Kd.R_alloc
theorem rn_ : type_of% @Kd.R_drewN := @Kd.R_drewN
theorem rd_ : type_of% @Kd.R_drew := @Kd.R_drew
theorem rr_ : type_of% @Kd.R_reads' := @Kd.R_reads'
theorem ca_ : type_of% @Kd.C_alloc := @Kd.C_alloc
theorem cn_ : type_of% @Kd.C_drewN := @Kd.C_drewN
theorem cd_ : type_of% @Kd.C_drew := @Kd.C_drew
theorem ob_ : type_of% @Option.bind_eq_some_iff := @Option.bind_eq_some_iff
theorem bf_ : type_of% @Bool.eq_false_iff := @Bool.eq_false_iff
theorem be_ : type_of% @box_event := @box_event
theorem gc_ : type_of% @gate_callee := @gate_callee
theorem gd_ : type_of% @gate_dst := @gate_dst
theorem dt_ : type_of% @decide_eq_true := @decide_eq_true
theorem si_ : type_of% @Option.some.inj := @Option.some.inj
theorem cb_ : type_of% @Kd.C_below := @Kd.C_below
theorem sa_ : type_of% @List.setIfInBounds_toArray := @List.setIfInBounds_toArray
theorem sz_ : type_of% @List.set_cons_zero := @List.set_cons_zero
theorem ss_ : type_of% @List.set_cons_succ := @List.set_cons_succ
theorem ma_ : type_of% @List.map_toArray := @List.map_toArray
theorem mc_ : type_of% @List.map_cons := @List.map_cons
theorem mn_ : type_of% @List.map_nil := @List.map_nil
theorem ld_ : type_of% @List.length_drop := @List.length_drop
theorem lt_ : type_of% @List.length_take := @List.length_take
set_option maxHeartbeats 8000000
set_option maxRecDepth 100000



def errW : Option Int → Value
 | none => .nilIface
 | some c => .iface 0 (.int .i64 c)
theorem errW_none : errW none = .nilIface := rfl
theorem errW_some (c : Int) : errW (some c) = .iface 0 (.int .i64 c) := rfl

theorem info3 : (Try.prog.info? 3).map (fun i => (i.zero, i.size, i.bytes)) = some (some (.int .i64 0), 1, 8) := by kernel_rfl
-- the values' own types

end Go.Proofs.Ytbohmfnjgjijdaa.QFnExactNewConsole
-- squeezed
