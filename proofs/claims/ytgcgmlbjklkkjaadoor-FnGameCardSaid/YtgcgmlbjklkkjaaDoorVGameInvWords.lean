-- Out of what the kit's print.sh wrote for this seat: the part that this law's texts use (squeeze.py, a program of this session).
import Derived.Test.YtgcgmlbjklkkjaaDoorVGameInv
import Derived.Test.YtgcgmlbjklkkjaaDoorVGameFootNe
namespace Go.Proofs.YtgcgmlbjklkkjaaDoorW.PrintWords
open Go.RowKit
end Go.Proofs.YtgcgmlbjklkkjaaDoorW.PrintWords
namespace Go.Proofs.YtgcgmlbjklkkjaaDoorW.PrintLast
section
variable {ops:Array Oper} {a:Act} {o og:Oper} {g:Nat} {t:Tmp} {u:Bool}
end
end Go.Proofs.YtgcgmlbjklkkjaaDoorW.PrintLast
