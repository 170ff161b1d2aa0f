/- Lists of Share: names. -/
import Derived.Test.YtgejkcomoealgaaStmFnBooks
import Derived.Test.YtgejkcomoealgaaEvLib
namespace Go.Proofs.Ytgejkcomoealgaa.PFnBooks
abbrev IShare := S62
end Go.Proofs.Ytgejkcomoealgaa.PFnBooks
