/- Open days counted, by the program. -/
import Derived.Test.YtkbnbimphddmbaaOpn7FnCalendars
namespace Go.Proofs.Ytkbnbimphddmbaa.PFnCalendars
open Go.RowKit Go.Proofs.YtkbnbimphddmbaaW.PrintWords Go.Proofs.YtkbnbimphddmbaaW.PrintLast Go.Proofs.Ytkbnbimphddmbaa.EvLib
/-- Open days among the m days from a on. -/
def cnt (l : List Bool) (a m : Nat) : Nat := (List.range' a m).countP (opn l)
theorem cnt_zero (l : List Bool) (a : Nat) : cnt l a 0 = 0 := rfl
theorem cnt_succ (l : List Bool) (a m : Nat) : cnt l a (m + 1) = (if opn l a = true then 1 else 0) + cnt l (a + 1) m := by
  unfold cnt
  rw [List.range'_succ, List.countP_cons]
  omega
theorem cnt_le (l : List Bool) (a m : Nat) : cnt l a m ≤ m := by
  unfold cnt
  have := List.countP_le_length (p := opn l) (l := List.range' a m)
  simpa using this
end Go.Proofs.Ytkbnbimphddmbaa.PFnCalendars
