/- IsOpen of the program. -/
import Derived.Test.YtkbnbimphddmbaaOpn7FnCalendars
import Derived.Test.YtkbnbimphddmbaaInRFnCalendars
namespace Go.Proofs.Ytkbnbimphddmbaa.PFnCalendars
open Go.RowKit Go.Proofs.YtkbnbimphddmbaaW.PrintWords Go.Proofs.YtkbnbimphddmbaaW.PrintLast Go.Proofs.Ytkbnbimphddmbaa.EvLib
def isOpen (l : List Bool) (a : Int) : Bool := isCal l && (decide (0 ≤ a ∧ a ≤ 100000) && rdOf false l (Int.tmod a 7))
theorem isOpen_nat {l : List Bool} {i : Nat} (h : isCal l = true) (hi : i ≤ 100000) : isOpen l (i : Int) = opn l i := by
  unfold isOpen
  rw [h, rd_opn, decide_eq_true (by omega)]
  rfl
theorem implIsOpen_ev (l : List Bool) (hl : l.length ≤ 1048576) (a : Int) : Ev (fun k => impl_IsOpen.f k l a) (isOpen l a) := by
  unfold impl_IsOpen.f
  refine ev_bind (implIsCalendar_ev l hl) (ev_ite (fun h => ev_bindc (inRange_eq _ _ _) (ev_ite (fun h2 => ?_) (fun h2 => ev_some ?_))) (fun h => ev_some ?_))
  · have h3 := isCal_len h
    have h4 := of_decide_eq_true h2
    obtain ⟨i, rfl⟩ := Int.eq_ofNat_of_zero_le h4.1
    exact ev_itep (by rw [tm7]; omega) (ev_itep (by rw [tm7]; omega) (ev_some (by unfold isOpen; rw [h, h2]; rfl)))
  · unfold isOpen; rw [Bool.eq_false_iff.mpr h2, Bool.false_and, Bool.and_false]
  · unfold isOpen; rw [Bool.eq_false_iff.mpr h]; rfl
end Go.Proofs.Ytkbnbimphddmbaa.PFnCalendars
