/- BeforeIn, by the program and by the reference. -/
import Derived.Test.YthbmegdbdnmnoaaAbTicketFnCounters
namespace Go.Proofs.Ythbmegdbdnmnoaa.PFnCounters
open Go.RowKit Go.Proofs.YthbmegdbdnmnoaaW.PrintWords Go.Proofs.YthbmegdbdnmnoaaW.PrintLast Go.Proofs.Ythbmegdbdnmnoaa.EvLib
def btk (l : List ITicket) (i : Nat) : ITicket := l.getD i z42
theorem rd_btk (l : List ITicket) (i : Nat) : rd_T42 l (i : Int) = btk l i := by unfold rd_T42 btk; rw [Int.toNat_natCast]
theorem drop_btk (l : List ITicket) (i : Nat) (h : i < l.length) : l.drop i = btk l i :: l.drop (i + 1) := by
  rw [List.drop_eq_getElem_cons h]
  simp [btk, List.getD, h]
def befOf (l : List ITicket) (id s : Int) : Int := if s < 0 then -1 else if (rd_T42 l s).f2 = -1 then ((l.countP (impl_BeforeIn.p (rd_T42 l s) id) : Nat) : Int) else -1
def befF (l : List ITicket) (id : Int) : Int := befOf l id (idxB (fun x : ITicket => x.f0 == id) l 0)
theorem implBeforeIn_eq (l : List ITicket) (id : Int) : impl_BeforeIn.f l id = some (befF l id) := by
  unfold impl_BeforeIn.f befF befOf
  split
  · rfl
  · split <;> rfl
end Go.Proofs.Ythbmegdbdnmnoaa.PFnCounters
