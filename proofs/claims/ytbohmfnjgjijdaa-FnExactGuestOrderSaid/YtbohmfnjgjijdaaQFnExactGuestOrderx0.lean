-- Written by px.py, a program of this session, over the kit's printer: some functions have a definition and a proof of this session's own.
import Derived.Test.YtbohmfnjgjijdaaProg
import Derived.Below
import Derived.Deep.Draws
import Derived.Deep.AppendLies
import Derived.Maps.AppendAt
import Derived.OwnWalk
import Derived.Laws.BytesArg
import Derived.Laws.MakeOwn
import Derived.Laws.OwnMore
import Derived.Deep.OwnRows
import Derived.Tactics
import Derived.Lib.ConvBytes
import Derived.Laws.Slices
import Derived.WalkKit
import Derived.KernelRfl
import Derived.RowKit3
import Derived.Deep.LoopGhost
import Derived.Deep.QuietTactic
import Derived.BigQuiet
import Derived.WideLaws
import Derived.Deep.DeepCutAuto
import Derived.Deep.CutBlock
import Derived.Deep.RegionHeld3
import Derived.Laws.Rows
import Derived.Lib.AppendStr
import Derived.ArgAppend
import Derived.Laws.IdiomCopy
import Derived.OrdersHeld
import Derived.Laws.BitsLemmas
import Derived.RowKit
import Derived.Test.YtbohmfnjgjijdaaWWords
import Derived.Test.YtbohmfnjgjijdaaWLast
import Derived.Test.YtbohmfnjgjijdaaWTab
import Derived.Test.YtbohmfnjgjijdaaWFour
import Derived.Test.YtbohmfnjgjijdaaWQPut
import Derived.Test.YtbohmfnjgjijdaaWApart
import Derived.Test.YtbohmfnjgjijdaaWArr
import Derived.Test.YtbohmfnjgjijdaaWZeros
import Derived.Test.YtbohmfnjgjijdaaWFoot
import Derived.Test.YtbohmfnjgjijdaaWKept
import Derived.Test.YtbohmfnjgjijdaaWShare
import Derived.Test.YtbohmfnjgjijdaaWN
import Derived.Test.YtbohmfnjgjijdaaWFootNe
import Derived.Test.YtbohmfnjgjijdaaWAt
import Derived.Test.YtbohmfnjgjijdaaWEqStruct
import Derived.Test.YtbohmfnjgjijdaaWRepsOne
import Derived.Test.YtbohmfnjgjijdaaWInv
import Derived.Test.YtbohmfnjgjijdaaWInvWords
import Derived.Test.YtbohmfnjgjijdaaWGuard
import Derived.Test.YtbohmfnjgjijdaaWNEv
import Derived.Test.YtbohmfnjgjijdaaWMore
namespace Go.Proofs.Ytbohmfnjgjijdaa.QFnExactGuestOrder
open Go.RowKit Go.Proofs.YtbohmfnjgjijdaaW.PrintWords Go.Proofs.YtbohmfnjgjijdaaW.PrintLast Go.Proofs.YtbohmfnjgjijdaaW.PrintMore
attribute [local go_sem] max2_int min2_int max_two min_two max_three min_three max_four min_four   -- for this text's walks alone
set_option linter.unusedVariables false
set_option linter.unusedSimpArgs false



def errW : Option Int → Value
  | none => .nilIface
  | some c => .iface 0 (.int .i64 c)
theorem errW_none : errW none = .nilIface := rfl
theorem errW_some (c : Int) : errW (some c) = .iface 0 (.int .i64 c) := rfl

theorem info3 : (Try.prog.info? 3).map (fun i => (i.zero, i.size, i.bytes)) = some (some (.int .i64 0), 1, 8) := by kernel_rfl
-- the values' own types

end Go.Proofs.Ytbohmfnjgjijdaa.QFnExactGuestOrder
