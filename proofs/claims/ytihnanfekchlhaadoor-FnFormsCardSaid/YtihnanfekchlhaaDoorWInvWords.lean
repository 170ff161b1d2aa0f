import Derived.Test.YtihnanfekchlhaaDoorWInv
import Derived.Test.YtihnanfekchlhaaDoorWFootNe
namespace Go.Proofs.YtihnanfekchlhaaDoorW.PrintWords
open Go.RowKit
end Go.Proofs.YtihnanfekchlhaaDoorW.PrintWords
namespace Go.Proofs.YtihnanfekchlhaaDoorW.PrintLast
section
variable {ops : Array Oper} {a : Act} {o og : Oper} {g : Nat} {t : Tmp} {u : Bool}
end
end Go.Proofs.YtihnanfekchlhaaDoorW.PrintLast

