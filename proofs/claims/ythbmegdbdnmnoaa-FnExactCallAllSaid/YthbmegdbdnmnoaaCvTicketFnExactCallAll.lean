/- Lists of Ticket: sizes, copies, comparison. -/
import Derived.Test.YthbmegdbdnmnoaaStmFnExactCallAll
import Derived.Test.YthbmegdbdnmnoaaEvLib
namespace Go.Proofs.Ythbmegdbdnmnoaa.PFnExactCallAll
open Go.RowKit Go.Proofs.YthbmegdbdnmnoaaW.PrintWords Go.Proofs.YthbmegdbdnmnoaaW.PrintLast Go.Proofs.Ythbmegdbdnmnoaa.EvLib
abbrev LTicket := S48
abbrev ITicket := S42
def cvTicket (x : LTicket) : ITicket := ⟨x.f0, x.f1, x.f2⟩
theorem szTicketS_eq (l : List LTicket) (h : l.length ≤ maxLen) (a : Int) (h0 : 0 ≤ a) (h1 : a ≤ 1048576) : laws_szTicketS.f l a = some (if (l.length : Int) ≤ a then a - l.length else -1) := by
  have := maxLen_le h
  unfold laws_szTicketS.f
  rw [wrap_id (by omega) (by omega)]
  by_cases c : (l.length : Int) ≤ a
  · rw [if_pos c, if_neg (by omega)]
  · rw [if_neg c, if_pos (by omega)]
theorem toTicketS_ev (l : List LTicket) (hl : l.length ≤ 1048576) : Ev (fun k => laws_toTicketS.f k l) (l.map cvTicket) := by
  unfold laws_toTicketS.f
  exact ev_itep (by omega) (ev_itep (by omega) (ev_copy laws_toTicketS.l0 cvTicket z48 z42 (fun _ _ _ _ => rfl) l hl))
theorem eqTicket_self (x : ITicket) : laws_eqTicket.f x.f0 x.f1 x.f2 x.f0 x.f1 x.f2 = some true := by simp [laws_eqTicket.f]
theorem eqTicketS_ev (l : List ITicket) (hl : l.length ≤ 1048576) : Ev (fun k => laws_eqTicketS.f k l l) true := by
  unfold laws_eqTicketS.f
  refine ev_itep rfl (ev_eqloop laws_eqTicketS.l0 (fun k l i hi => ?_) (fun k l => ?_) l (by omega))
  · simp only [laws_eqTicketS.l0]
    rw [if_pos (by omega), if_pos (by omega), if_pos (by omega), eqTicket_self, Option.bind_some, if_pos rfl]
  · simp only [laws_eqTicketS.l0]
    rw [if_neg (by omega)]
end Go.Proofs.Ythbmegdbdnmnoaa.PFnExactCallAll
