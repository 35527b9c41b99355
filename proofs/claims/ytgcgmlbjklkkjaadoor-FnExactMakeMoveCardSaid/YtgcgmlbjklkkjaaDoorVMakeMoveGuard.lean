-- Out of what the kit's print.sh wrote for this seat: the part that this law's texts use (squeeze.py, a program of this session).
import Derived.Test.YtgcgmlbjklkkjaaDoorVMakeMoveWords
namespace Go.Proofs.YtgcgmlbjklkkjaaDoorW.PrintWords
open Go.RowKit
section
variable {P : Program} {ops : Array Oper} {rest : List Oper} {o : Oper} {a : Act} {Q : Exit → Act → World → Prop} {W : World}
end
end Go.Proofs.YtgcgmlbjklkkjaaDoorW.PrintWords
