/- Lists of Entry: names. -/
import Derived.Test.YtgejkcomoealgaaStmFnBooks
import Derived.Test.YtgejkcomoealgaaEvLib
namespace Go.Proofs.Ytgejkcomoealgaa.PFnBooks
abbrev IEntry := S35
end Go.Proofs.Ytgejkcomoealgaa.PFnBooks
