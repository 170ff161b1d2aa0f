/- ascends. -/
import Derived.Test.YtgejkcomoealgaaStmFnBooks
import Derived.Test.YtgejkcomoealgaaEvLib
namespace Go.Proofs.Ytgejkcomoealgaa.PFnBooks
open Go.RowKit Go.Proofs.YtgejkcomoealgaaW.PrintWords Go.Proofs.YtgejkcomoealgaaW.PrintLast Go.Proofs.Ytgejkcomoealgaa.EvLib
theorem ascends_l0 (l : List Int) (hl : l.length ≤ 1048576) (hp : l.Pairwise (· < ·)) : ∀ (d i : Nat), i + d = l.length → Ev (fun k => laws_ascends.l0 k l ((i : Int) + 1)) true := by
  intro d
  induction d with
  | zero =>
    intro i hi
    exact ev_step (fun k => by simp only [laws_ascends.l0]; rfl) (ev_iten (by omega) (ev_some rfl))
  | succ d ih =>
    intro i hi
    refine ev_step (fun k => by simp only [laws_ascends.l0]; rfl) (ev_ite (fun c => ?_) (fun c => ev_some rfl))
    have e : wrap64 ((i : Int) + 1 - 1) = (i : Int) := by rw [wrap_id (by omega) (by omega)]; omega
    rw [e, wrap_id (x := (i : Int) + 1 + 1) (by omega) (by omega)]
    have r1 : rd l (i : Int) = l[i] := by unfold rd; simp [List.getD, show i < l.length by omega]
    have r2 : rd l ((i : Int) + 1) = l[i + 1] := by unfold rd; rw [show ((i : Int) + 1).toNat = i + 1 by omega]; simp [List.getD, show i + 1 < l.length by omega]
    have := (List.pairwise_iff_getElem.1 hp) i (i + 1) (by omega) (by omega) (by omega)
    refine ev_itep (by omega) (ev_itep (by omega) (ev_itep (by omega) (ev_iten (by rw [r1, r2]; omega) ?_)))
    exact ih (i + 1) (by omega)
theorem ascends_ev (l : List Int) (hl : l.length ≤ 1048576) (hp : l.Pairwise (· < ·)) : Ev (fun k => laws_ascends.f k l) true := by
  unfold laws_ascends.f
  exact ascends_l0 l hl hp l.length 0 (by omega)
end Go.Proofs.Ytgejkcomoealgaa.PFnBooks
