-- Written by px.py, a program of this session, over the kit's printer: some functions have a definition and a proof of this session's own.
import Derived.Test.YtphcagjmpaajmaaDoorProg
import Derived.Below
import Derived.Deep.Draws
import Derived.Deep.AppendLies
import Derived.Maps.AppendAt
import Derived.OwnWalk
import Derived.Laws.BytesArg
import Derived.Laws.MakeOwn
import Derived.Laws.OwnMore
import Derived.Deep.OwnRows
import Derived.Tactics
import Derived.Lib.ConvBytes
import Derived.Laws.Slices
import Derived.WalkKit
import Derived.KernelRfl
import Derived.RowKit3
import Derived.Deep.LoopGhost
import Derived.Deep.QuietTactic
import Derived.BigQuiet
import Derived.WideLaws
import Derived.Deep.DeepCutAuto
import Derived.Deep.CutBlock
import Derived.Deep.RegionHeld3
import Derived.Laws.Rows
import Derived.Lib.AppendStr
import Derived.ArgAppend
import Derived.Laws.IdiomCopy
import Derived.OrdersHeld
import Derived.Laws.BitsLemmas
import Derived.RowKit
import Derived.Test.YtphcagjmpaajmaaDoorWWords
import Derived.Test.YtphcagjmpaajmaaDoorWLast
import Derived.Test.YtphcagjmpaajmaaDoorWTab
import Derived.Test.YtphcagjmpaajmaaDoorWFour
import Derived.Test.YtphcagjmpaajmaaDoorWQPut
import Derived.Test.YtphcagjmpaajmaaDoorWApart
import Derived.Test.YtphcagjmpaajmaaDoorWArr
import Derived.Test.YtphcagjmpaajmaaDoorWZeros
import Derived.Test.YtphcagjmpaajmaaDoorWFoot
import Derived.Test.YtphcagjmpaajmaaDoorWKept
import Derived.Test.YtphcagjmpaajmaaDoorWShare
import Derived.Test.YtphcagjmpaajmaaDoorWN
import Derived.Test.YtphcagjmpaajmaaDoorWFootNe
import Derived.Test.YtphcagjmpaajmaaDoorWAt
import Derived.Test.YtphcagjmpaajmaaDoorWEqStruct
import Derived.Test.YtphcagjmpaajmaaDoorWRepsOne
import Derived.Test.YtphcagjmpaajmaaDoorWInv
import Derived.Test.YtphcagjmpaajmaaDoorWInvWords
import Derived.Test.YtphcagjmpaajmaaDoorWGuard
import Derived.Test.YtphcagjmpaajmaaDoorWNEv
import Derived.Test.YtphcagjmpaajmaaDoorWMore
namespace Go.Proofs.YtphcagjmpaajmaaDoor.QFnExactEncodeRecord
open Go.RowKit Go.Proofs.YtphcagjmpaajmaaDoorW.PrintWords Go.Proofs.YtphcagjmpaajmaaDoorW.PrintLast Go.Proofs.YtphcagjmpaajmaaDoorW.PrintMore
attribute [local go_sem] max2_int min2_int max_two min_two max_three min_three max_four min_four   -- for this text's walks alone
set_option linter.unusedVariables false
set_option linter.unusedSimpArgs false



def errW : Option Int → Value
  | none => .nilIface
  | some c => .iface 0 (.int .i64 c)
theorem errW_none : errW none = .nilIface := rfl
theorem errW_some (c : Int) : errW (some c) = .iface 0 (.int .i64 c) := rfl

-- the values' own types

end Go.Proofs.YtphcagjmpaajmaaDoor.QFnExactEncodeRecord
