/- Balance of the program. -/
import Derived.Test.YtgejkcomoealgaaPaidIFnBooks
namespace Go.Proofs.Ytgejkcomoealgaa.PFnBooks
open Go.RowKit Go.Proofs.YtgejkcomoealgaaW.PrintWords Go.Proofs.YtgejkcomoealgaaW.PrintLast Go.Proofs.Ytgejkcomoealgaa.EvLib
def balance (l : List IEntry) (a : Int) : Int := if areEntry l = true then sumIf (paidTo a) l - sumIf (paidBy a) l else 0
theorem implTo_l0 (l : List IEntry) (hl : l.length ≤ 100) (hs : small l) (a : Int) : ∀ (d i : Nat) (s : Int), i + d = l.length → 0 ≤ s → s ≤ 10000000 * i → Ev (fun k => impl_totalTo.l0 k a s l (l.length : Int) (i : Int)) (s + sumIf (paidTo a) (l.drop i)) := by
  intro d
  induction d with
  | zero =>
    intro i s hi h0 h1
    exact ev_step (fun k => by simp only [impl_totalTo.l0]; rfl) (ev_iten (by omega) (ev_some (by rw [List.drop_of_length_le (by omega), sumIf]; omega)))
  | succ d ih =>
    intro i s hi h0 h1
    refine ev_step (fun k => by simp only [impl_totalTo.l0]; rfl) (ev_itep (by omega) (ev_itep (by omega) (ev_itep (by omega) ?_)))
    have hb := small_en hs i (by omega)
    simp only [rd_en, wrap_id (x := (i : Int) + 1) (by omega) (by omega)]
    rw [drop_en l i (by omega), sumIf]
    refine ev_ite (fun c => ?_) (fun c => ?_)
    · rw [wrap_id (by omega) (by omega), if_pos (show paidTo a (en l i) = true from decide_eq_true c)]
      exact ev_eq (ih (i + 1) _ (by omega) (by omega) (by omega)) (by omega)
    · rw [if_neg (show ¬ paidTo a (en l i) = true by simpa [paidTo] using c)]
      exact ev_eq (ih (i + 1) _ (by omega) (by omega) (by omega)) (by omega)
theorem implBalance_ev (l : List IEntry) (hl : l.length ≤ 1048576) (a : Int) : Ev (fun k => impl_Balance.f k l a) (balance l a) := by
  unfold impl_Balance.f impl_totalTo.f balance
  refine ev_bind (implAreEntries_ev l (by omega)) (ev_ite (fun h => ?_) (fun h => ev_some (by rw [if_neg h])))
  have h1 := sumIf_in (paidTo a) l (small_of h)
  have h2 := sumIf_in (paidBy a) l (small_of h)
  have h3 := areEntry_len h
  have e1 : Ev (fun k => impl_totalTo.l0 k a 0 l (l.length : Int) 0) (sumIf (paidTo a) l) := ev_eq (implTo_l0 l (areEntry_len h) (small_of h) a l.length 0 0 (by omega) (by omega) (by omega)) (by rw [List.drop_zero]; omega)
  have e2 := implTotalPaid_ev l hl a
  have e3 : totalPaid l a = sumIf (paidBy a) l := by unfold totalPaid; rw [if_pos h]
  rw [e3] at e2
  rw [if_pos h]
  exact ev_bind e1 (ev_bind e2 (ev_some (wrap_id (by omega) (by omega))))
end Go.Proofs.Ytgejkcomoealgaa.PFnBooks
