/- TotalPaid of the program. -/
import Derived.Test.YtgejkcomoealgaaPaidDFnBooks
import Derived.Test.YtgejkcomoealgaaAreEntryIFnBooks
namespace Go.Proofs.Ytgejkcomoealgaa.PFnBooks
open Go.RowKit Go.Proofs.YtgejkcomoealgaaW.PrintWords Go.Proofs.YtgejkcomoealgaaW.PrintLast Go.Proofs.Ytgejkcomoealgaa.EvLib
theorem implPaid_l0 (l : List IEntry) (hl : l.length ≤ 100) (hs : small l) (a : Int) : ∀ (d i : Nat) (s : Int), i + d = l.length → 0 ≤ s → s ≤ 10000000 * i → Ev (fun k => impl_TotalPaid.l0 k a s l (l.length : Int) (i : Int)) (s + sumIf (paidBy a) (l.drop i)) := by
  intro d
  induction d with
  | zero =>
    intro i s hi h0 h1
    exact ev_step (fun k => by simp only [impl_TotalPaid.l0]; rfl) (ev_iten (by omega) (ev_some (by rw [List.drop_of_length_le (by omega), sumIf]; omega)))
  | succ d ih =>
    intro i s hi h0 h1
    refine ev_step (fun k => by simp only [impl_TotalPaid.l0]; rfl) (ev_itep (by omega) (ev_itep (by omega) (ev_itep (by omega) ?_)))
    have hb := small_en hs i (by omega)
    simp only [rd_en, wrap_id (x := (i : Int) + 1) (by omega) (by omega)]
    rw [drop_en l i (by omega), sumIf]
    refine ev_ite (fun c => ?_) (fun c => ?_)
    · rw [wrap_id (by omega) (by omega), if_pos (show paidBy a (en l i) = true from decide_eq_true c)]
      exact ev_eq (ih (i + 1) _ (by omega) (by omega) (by omega)) (by omega)
    · rw [if_neg (show ¬ paidBy a (en l i) = true by simpa [paidBy] using c)]
      exact ev_eq (ih (i + 1) _ (by omega) (by omega) (by omega)) (by omega)
theorem implTotalPaid_ev (l : List IEntry) (hl : l.length ≤ 1048576) (a : Int) : Ev (fun k => impl_TotalPaid.f k l a) (totalPaid l a) := by
  unfold impl_TotalPaid.f totalPaid
  refine ev_bind (implAreEntries_ev l (by omega)) (ev_ite (fun h => ?_) (fun h => ev_some (by rw [if_neg h])))
  rw [if_pos h]
  exact ev_eq (implPaid_l0 l (areEntry_len h) (small_of h) a l.length 0 0 (by omega) (by omega) (by omega)) (by rw [List.drop_zero]; omega)
end Go.Proofs.Ytgejkcomoealgaa.PFnBooks
