-- Out of what the kit's print.sh wrote for this seat: the part that this law's texts use (squeeze.py, a program of this session).
import Derived.SizedLaws
import Derived.ChangeSlices
namespace Go.Proofs.YtbohmfnjgjijdaaGreatDoorW.PrintWords
open Go.ChangeShapes Go.WideShapes
end Go.Proofs.YtbohmfnjgjijdaaGreatDoorW.PrintWords
