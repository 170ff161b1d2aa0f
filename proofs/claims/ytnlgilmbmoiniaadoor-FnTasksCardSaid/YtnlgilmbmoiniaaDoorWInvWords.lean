import Derived.Test.YtnlgilmbmoiniaaDoorWInv
import Derived.Test.YtnlgilmbmoiniaaDoorWFootNe
namespace Go.Proofs.YtnlgilmbmoiniaaDoorW.PrintWords
open Go.RowKit
end Go.Proofs.YtnlgilmbmoiniaaDoorW.PrintWords
namespace Go.Proofs.YtnlgilmbmoiniaaDoorW.PrintLast
section
variable {ops : Array Oper} {a : Act} {o og : Oper} {g : Nat} {t : Tmp} {u : Bool}
end
end Go.Proofs.YtnlgilmbmoiniaaDoorW.PrintLast

