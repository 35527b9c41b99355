-- Out of what the kit's print.sh wrote for this seat: the part that this law's texts use (squeeze.py, a program of this session).
import Derived.Test.YtohmonfaabofaaaVChangesInv
import Derived.Test.YtohmonfaabofaaaVChangesFootNe
namespace Go.Proofs.YtohmonfaabofaaaW.PrintWords
open Go.RowKit
end Go.Proofs.YtohmonfaabofaaaW.PrintWords
namespace Go.Proofs.YtohmonfaabofaaaW.PrintLast
section
variable {ops : Array Oper} {a : Act} {o og : Oper} {g : Nat} {t : Tmp} {u : Bool}
end
end Go.Proofs.YtohmonfaabofaaaW.PrintLast
