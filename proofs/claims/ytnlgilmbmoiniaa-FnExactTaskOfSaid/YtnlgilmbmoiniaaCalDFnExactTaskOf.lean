/- Calendars: what is said of them. -/
import Derived.Test.YtnlgilmbmoiniaaStmFnExactTaskOf
import Derived.Test.YtnlgilmbmoiniaaEvLib
namespace Go.Proofs.Ytnlgilmbmoiniaa.PFnExactTaskOf
open Go.RowKit Go.Proofs.YtnlgilmbmoiniaaW.PrintWords Go.Proofs.YtnlgilmbmoiniaaW.PrintLast Go.Proofs.Ytnlgilmbmoiniaa.EvLib

def isCal (l : List Bool) : Bool := l.contains true && l.length == 7
theorem drop_has (l : List Bool) (i : Nat) (h : i < l.length) : (l.drop i).contains true = (l[i] || (l.drop (i + 1)).contains true) := by
  rw [List.drop_eq_getElem_cons h, List.contains_cons]
  cases l[i] <;> rfl
theorem rd_at (l : List Bool) (i : Nat) (h : i < l.length) : rdOf false l (i : Int) = l[i] := by simp [rdOf, List.getD, h]
end Go.Proofs.Ytnlgilmbmoiniaa.PFnExactTaskOf
