/- Ticket. -/
import Derived.Test.YthbmegdbdnmnoaaStmFnCounters
import Derived.Test.YthbmegdbdnmnoaaEvLib
namespace Go.Proofs.Ythbmegdbdnmnoaa.PFnCounters
open Go.RowKit Go.Proofs.YthbmegdbdnmnoaaW.PrintWords Go.Proofs.YthbmegdbdnmnoaaW.PrintLast Go.Proofs.Ythbmegdbdnmnoaa.EvLib
abbrev ITicket := S42
end Go.Proofs.Ythbmegdbdnmnoaa.PFnCounters
