-- Out of what the kit's print.sh wrote for this seat: the part that this law's texts use (squeeze.py, a program of this session).
import Derived.Test.YtgcgmlbjklkkjaaDoorVGameWords
import Derived.Laws.StructEq
namespace Go.Proofs.YtgcgmlbjklkkjaaDoorW.PrintWords
open Go.RowKit
section
variable {P:Program} {d:Nat} {xs ys:Array Value} {f:Field} {fs:List Field} {a b:Value} {r s:Bool} {w:World}
end
end Go.Proofs.YtgcgmlbjklkkjaaDoorW.PrintWords
