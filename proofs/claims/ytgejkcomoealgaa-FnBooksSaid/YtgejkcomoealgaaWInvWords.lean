import Derived.Test.YtgejkcomoealgaaWInv
import Derived.Test.YtgejkcomoealgaaWFootNe
namespace Go.Proofs.YtgejkcomoealgaaW.PrintWords
open Go.RowKit
end Go.Proofs.YtgejkcomoealgaaW.PrintWords
namespace Go.Proofs.YtgejkcomoealgaaW.PrintLast
section
variable {ops : Array Oper} {a : Act} {o og : Oper} {g : Nat} {t : Tmp} {u : Bool}
end
end Go.Proofs.YtgejkcomoealgaaW.PrintLast

