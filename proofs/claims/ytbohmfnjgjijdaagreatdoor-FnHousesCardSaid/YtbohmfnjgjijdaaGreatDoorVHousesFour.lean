-- Out of what the kit's print.sh wrote for this seat: the part that this law's texts use (squeeze.py, a program of this session).
import Derived.Test.YtbohmfnjgjijdaaGreatDoorVHousesTab
namespace Go.Proofs.YtbohmfnjgjijdaaGreatDoorW.PrintLast
section
variable {P:Program} {ops:Array Oper} {Q:Exit→Act→World→Prop} {md:Region.Mode} {S:World→Prop} {ds:List Nat} {T:Bool × List (List Nat × List Nat)}
end
end Go.Proofs.YtbohmfnjgjijdaaGreatDoorW.PrintLast
