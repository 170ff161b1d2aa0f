import Derived.Test.YtglpmjcknhcjcaaWInv
import Derived.Test.YtglpmjcknhcjcaaWFootNe
namespace Go.Proofs.YtglpmjcknhcjcaaW.PrintWords
open Go.RowKit
end Go.Proofs.YtglpmjcknhcjcaaW.PrintWords
namespace Go.Proofs.YtglpmjcknhcjcaaW.PrintLast
section
variable {ops : Array Oper} {a : Act} {o og : Oper} {g : Nat} {t : Tmp} {u : Bool}
end
end Go.Proofs.YtglpmjcknhcjcaaW.PrintLast

