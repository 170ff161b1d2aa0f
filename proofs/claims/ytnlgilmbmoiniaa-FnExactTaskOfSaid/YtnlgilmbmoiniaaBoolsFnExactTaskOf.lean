/- Copies of a list of bools, and their comparison. -/
import Derived.Test.YtnlgilmbmoiniaaStmFnExactTaskOf
import Derived.Test.YtnlgilmbmoiniaaEvLib
namespace Go.Proofs.Ytnlgilmbmoiniaa.PFnExactTaskOf
open Go.RowKit Go.Proofs.YtnlgilmbmoiniaaW.PrintWords Go.Proofs.YtnlgilmbmoiniaaW.PrintLast Go.Proofs.Ytnlgilmbmoiniaa.EvLib

theorem toBoolS_ev (l : List Bool) (hl : l.length ≤ 1048576) : Ev (fun k => laws_toBoolS.f k l) l := by
  unfold laws_toBoolS.f
  refine ev_itep (by omega) (ev_itep (by omega) ?_)
  exact ev_eq (ev_copy laws_toBoolS.l0 id false false (fun _ _ _ _ => rfl) l hl) (List.map_id l)
theorem eqBoolS_ev (l : List Bool) (hl : l.length ≤ 1048576) : Ev (fun k => laws_eqBoolS.f k l l) true := by
  unfold laws_eqBoolS.f
  refine ev_itep rfl (ev_eqloop laws_eqBoolS.l0 (fun k l i hi => ?_) (fun k l => ?_) l (by omega))
  · simp only [laws_eqBoolS.l0]
    rw [if_pos (by omega), if_pos (by omega), if_pos (by omega), if_neg (by simp)]
  · simp only [laws_eqBoolS.l0]
    rw [if_neg (by omega)]
end Go.Proofs.Ytnlgilmbmoiniaa.PFnExactTaskOf
