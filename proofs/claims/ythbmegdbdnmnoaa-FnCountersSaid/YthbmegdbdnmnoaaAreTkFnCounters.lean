/- AreTickets, by the program and by the reference. -/
import Derived.Test.YthbmegdbdnmnoaaAbTicketFnCounters
import Derived.Test.YthbmegdbdnmnoaaInRFnCounters
namespace Go.Proofs.Ythbmegdbdnmnoaa.PFnCounters
open Go.RowKit Go.Proofs.YthbmegdbdnmnoaaW.PrintWords Go.Proofs.YthbmegdbdnmnoaaW.PrintLast Go.Proofs.Ythbmegdbdnmnoaa.EvLib
/-- The i-th ticket. -/
def tk (l : List ITicket) (i : Nat) : ITicket := l.getD i z42
theorem rd_tk (l : List ITicket) (i : Nat) : rd_T42 l (i : Int) = tk l i := by unfold rd_T42 tk; rw [Int.toNat_natCast]
/-- The i-th ticket is one, behind the one before. -/
def tkOk (l : List ITicket) (i : Nat) : Bool := decide (1 ≤ (tk l i).f0 ∧ (tk l i).f0 ≤ 999) && (decide (0 ≤ (tk l i).f1 ∧ (tk l i).f1 ≤ 100000) && (decide (-1 ≤ (tk l i).f2 ∧ (tk l i).f2 ≤ 100000) && (decide (i = 0) || decide ((tk l (i - 1)).f0 < (tk l i).f0))))
def areTk (l : List ITicket) : Bool := (List.range l.length).all (tkOk l) && decide (l.length ≤ 30)
theorem implAreTickets_ev (l : List ITicket) (hl : l.length ≤ 1048576) : Ev (fun k => impl_AreTickets.f k l) (areTk l) := by
  unfold impl_AreTickets.f
  refine ev_ite (fun h => ev_some ?_) (fun h => ev_eq (ev_all (fun k i => impl_AreTickets.l0 k l l (l.length : Int) i) l.length (tkOk l) true (by omega) (fun k => ?_) (fun k i hi => ?_)) ?_)
  · unfold areTk
    rw [decide_eq_false (by omega), Bool.and_false]
  · simp only [impl_AreTickets.l0]
    rw [if_neg (by omega)]
  · simp only [impl_AreTickets.l0, rd_tk, inRange_eq, Option.bind_some]
    rw [if_pos (by omega), if_pos (by omega), if_pos (by omega)]
    unfold tkOk
    by_cases h1 : 1 ≤ (tk l i).f0 ∧ (tk l i).f0 ≤ 999
    · by_cases h4 : i = 0
      · subst h4
        by_cases h2 : 0 ≤ (tk l 0).f1 ∧ (tk l 0).f1 ≤ 100000
        · by_cases h3 : -1 ≤ (tk l 0).f2 ∧ (tk l 0).f2 ≤ 100000
          · simp [h1, h2, h3]
          · simp [h1, h2, h3]
        · simp [h1, h2]
      · have e : wrap64 ((i : Int) - 1) = ((i - 1 : Nat) : Int) := by rw [wrap_id (by omega) (by omega)]; omega
        rw [e, rd_tk]
        have g1 : 0 < i := by omega
        have g2 : i - 1 < l.length := by omega
        by_cases h5 : (tk l (i - 1)).f0 < (tk l i).f0
        · have g5 : ¬ (tk l i).f0 ≤ (tk l (i - 1)).f0 := by omega
          by_cases h2 : 0 ≤ (tk l i).f1 ∧ (tk l i).f1 ≤ 100000
          · by_cases h3 : -1 ≤ (tk l i).f2 ∧ (tk l i).f2 ≤ 100000
            · simp [h1, h2, h3, h4, h5, g1, g2, g5]
            · simp [h1, h2, h3, h4, h5, g1, g2, g5]
          · simp [h1, h2, h4, h5, g1, g2, g5]
        · have g5 : (tk l i).f0 ≤ (tk l (i - 1)).f0 := by omega
          simp [h1, h4, h5, g1, g2, g5]
    · simp [h1]
  · unfold areTk
    rw [decide_eq_true (by omega)]
end Go.Proofs.Ythbmegdbdnmnoaa.PFnCounters
