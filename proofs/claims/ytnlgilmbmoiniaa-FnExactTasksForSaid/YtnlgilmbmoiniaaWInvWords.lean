import Derived.Test.YtnlgilmbmoiniaaWInv
import Derived.Test.YtnlgilmbmoiniaaWFootNe
namespace Go.Proofs.YtnlgilmbmoiniaaW.PrintWords
open Go.RowKit
end Go.Proofs.YtnlgilmbmoiniaaW.PrintWords
namespace Go.Proofs.YtnlgilmbmoiniaaW.PrintLast
section
variable {ops : Array Oper} {a : Act} {o og : Oper} {g : Nat} {t : Tmp} {u : Bool}
end
end Go.Proofs.YtnlgilmbmoiniaaW.PrintLast

