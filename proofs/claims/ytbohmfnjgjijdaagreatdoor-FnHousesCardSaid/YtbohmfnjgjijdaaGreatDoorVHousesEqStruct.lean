-- Out of what the kit's print.sh wrote for this seat: the part that this law's texts use (squeeze.py, a program of this session).
import Derived.Test.YtbohmfnjgjijdaaGreatDoorVHousesWords
import Derived.Laws.StructEq
namespace Go.Proofs.YtbohmfnjgjijdaaGreatDoorW.PrintWords
open Go.RowKit
section
variable {P:Program} {d:Nat} {xs ys:Array Value} {f:Field} {fs:List Field} {a b:Value} {r s:Bool} {w:World}
end
end Go.Proofs.YtbohmfnjgjijdaaGreatDoorW.PrintWords
