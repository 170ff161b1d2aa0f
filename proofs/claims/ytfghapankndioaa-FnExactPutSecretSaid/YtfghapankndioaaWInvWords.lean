import Derived.Test.YtfghapankndioaaWInv
import Derived.Test.YtfghapankndioaaWFootNe
namespace Go.Proofs.YtfghapankndioaaW.PrintWords
open Go.RowKit
end Go.Proofs.YtfghapankndioaaW.PrintWords
namespace Go.Proofs.YtfghapankndioaaW.PrintLast
section
variable {ops : Array Oper} {a : Act} {o og : Oper} {g : Nat} {t : Tmp} {u : Bool}
end
end Go.Proofs.YtfghapankndioaaW.PrintLast

