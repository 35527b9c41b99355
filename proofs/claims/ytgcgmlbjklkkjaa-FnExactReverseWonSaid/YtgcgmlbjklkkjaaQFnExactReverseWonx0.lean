-- Written by px.py, a program of this session, over the kit's printer: some functions have a definition and a proof of this session's own.
import Derived.Test.YtgcgmlbjklkkjaaProg
import Derived.Below
import Derived.Deep.Draws
import Derived.Deep.AppendLies
import Derived.Maps.AppendAt
import Derived.OwnWalk
import Derived.Laws.BytesArg
import Derived.Laws.MakeOwn
import Derived.Laws.OwnMore
import Derived.Deep.OwnRows
import Derived.Tactics
import Derived.Lib.ConvBytes
import Derived.Laws.Slices
import Derived.WalkKit
import Derived.KernelRfl
import Derived.RowKit3
import Derived.Deep.LoopGhost
import Derived.Deep.QuietTactic
import Derived.BigQuiet
import Derived.WideLaws
import Derived.Deep.DeepCutAuto
import Derived.Deep.CutBlock
import Derived.Deep.RegionHeld3
import Derived.Laws.Rows
import Derived.Lib.AppendStr
import Derived.ArgAppend
import Derived.Laws.IdiomCopy
import Derived.OrdersHeld
import Derived.Laws.BitsLemmas
import Derived.RowKit
import Derived.Test.YtgcgmlbjklkkjaaWWords
import Derived.Test.YtgcgmlbjklkkjaaWLast
import Derived.Test.YtgcgmlbjklkkjaaWTab
import Derived.Test.YtgcgmlbjklkkjaaWFour
import Derived.Test.YtgcgmlbjklkkjaaWQPut
import Derived.Test.YtgcgmlbjklkkjaaWApart
import Derived.Test.YtgcgmlbjklkkjaaWArr
import Derived.Test.YtgcgmlbjklkkjaaWZeros
import Derived.Test.YtgcgmlbjklkkjaaWFoot
import Derived.Test.YtgcgmlbjklkkjaaWKept
import Derived.Test.YtgcgmlbjklkkjaaWShare
import Derived.Test.YtgcgmlbjklkkjaaWN
import Derived.Test.YtgcgmlbjklkkjaaWFootNe
import Derived.Test.YtgcgmlbjklkkjaaWAt
import Derived.Test.YtgcgmlbjklkkjaaWEqStruct
import Derived.Test.YtgcgmlbjklkkjaaWRepsOne
import Derived.Test.YtgcgmlbjklkkjaaWInv
import Derived.Test.YtgcgmlbjklkkjaaWInvWords
import Derived.Test.YtgcgmlbjklkkjaaWGuard
import Derived.Test.YtgcgmlbjklkkjaaWNEv
import Derived.Test.YtgcgmlbjklkkjaaWMore
namespace Go.Proofs.Ytgcgmlbjklkkjaa.QFnExactReverseWon
open Go.RowKit Go.Proofs.YtgcgmlbjklkkjaaW.PrintWords Go.Proofs.YtgcgmlbjklkkjaaW.PrintLast Go.Proofs.YtgcgmlbjklkkjaaW.PrintMore
attribute [local go_sem] max2_int min2_int max_two min_two max_three min_three max_four min_four   -- for this text's walks alone
set_option linter.unusedVariables false
set_option linter.unusedSimpArgs false



def errW : Option Int → Value
  | none => .nilIface
  | some c => .iface 0 (.int .i64 c)
theorem errW_none : errW none = .nilIface := rfl
theorem errW_some (c : Int) : errW (some c) = .iface 0 (.int .i64 c) := rfl

theorem info3 : (Try.prog.info? 3).map (fun i => (i.zero, i.size, i.bytes)) = some (some (.int .i64 0), 1, 8) := by kernel_rfl
-- the values' own types

end Go.Proofs.Ytgcgmlbjklkkjaa.QFnExactReverseWon
