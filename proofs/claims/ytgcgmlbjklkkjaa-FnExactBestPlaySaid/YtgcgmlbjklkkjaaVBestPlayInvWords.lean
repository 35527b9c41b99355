-- Out of what the kit's print.sh wrote for this seat: the part that this law's texts use (squeeze.py, a program of this session).
import Derived.Test.YtgcgmlbjklkkjaaVBestPlayInv
import Derived.Test.YtgcgmlbjklkkjaaVBestPlayFootNe
namespace Go.Proofs.YtgcgmlbjklkkjaaW.PrintWords
open Go.RowKit
end Go.Proofs.YtgcgmlbjklkkjaaW.PrintWords
namespace Go.Proofs.YtgcgmlbjklkkjaaW.PrintLast
section
variable {ops : Array Oper} {a : Act} {o og : Oper} {g : Nat} {t : Tmp} {u : Bool}
end
end Go.Proofs.YtgcgmlbjklkkjaaW.PrintLast
