/- Inner. -/
import Derived.Test.YtogbajcaeelooaaStmFnBundles
import Derived.Test.YtogbajcaeelooaaEvLib
namespace Go.Proofs.Ytogbajcaeelooaa.PFnBundles
open Go.RowKit Go.Proofs.YtogbajcaeelooaaW.PrintWords Go.Proofs.YtogbajcaeelooaaW.PrintLast Go.Proofs.Ytogbajcaeelooaa.EvLib
abbrev IInner := S48
end Go.Proofs.Ytogbajcaeelooaa.PFnBundles
