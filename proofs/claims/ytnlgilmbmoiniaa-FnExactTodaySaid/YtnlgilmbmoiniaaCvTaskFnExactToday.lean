/- Lists of Task: sizes, copies, comparison. -/
import Derived.Test.YtnlgilmbmoiniaaStmFnExactToday
import Derived.Test.YtnlgilmbmoiniaaEvLib
namespace Go.Proofs.Ytnlgilmbmoiniaa.PFnExactToday
open Go.RowKit Go.Proofs.YtnlgilmbmoiniaaW.PrintWords Go.Proofs.YtnlgilmbmoiniaaW.PrintLast Go.Proofs.Ytnlgilmbmoiniaa.EvLib
abbrev LTask := S63
abbrev ITask := S54
def cvTask (x : LTask) : ITask := ⟨x.f0, x.f1, x.f2⟩
theorem szTaskS_eq (l : List LTask) (h : l.length ≤ maxLen) (a : Int) (h0 : 0 ≤ a) (h1 : a ≤ 1048576) : laws_szTaskS.f l a = some (if (l.length : Int) ≤ a then a - l.length else -1) := by
  have := maxLen_le h
  unfold laws_szTaskS.f
  rw [wrap_id (by omega) (by omega)]
  by_cases c : (l.length : Int) ≤ a
  · rw [if_pos c, if_neg (by omega)]
  · rw [if_neg c, if_pos (by omega)]
theorem toTaskS_ev (l : List LTask) (hl : l.length ≤ 1048576) : Ev (fun k => laws_toTaskS.f k l) (l.map cvTask) := by
  unfold laws_toTaskS.f
  exact ev_itep (by omega) (ev_itep (by omega) (ev_copy laws_toTaskS.l0 cvTask z63 z54 (fun _ _ _ _ => rfl) l hl))
theorem eqTask_self (x : ITask) : laws_eqTask.f x.f0 x.f1 x.f2 x.f0 x.f1 x.f2 = some true := by simp [laws_eqTask.f]
theorem eqTaskS_ev (l : List ITask) (hl : l.length ≤ 1048576) : Ev (fun k => laws_eqTaskS.f k l l) true := by
  unfold laws_eqTaskS.f
  refine ev_itep rfl (ev_eqloop laws_eqTaskS.l0 (fun k l i hi => ?_) (fun k l => ?_) l (by omega))
  · simp only [laws_eqTaskS.l0]
    rw [if_pos (by omega), if_pos (by omega), if_pos (by omega), eqTask_self, Option.bind_some, if_pos rfl]
  · simp only [laws_eqTaskS.l0]
    rw [if_neg (by omega)]
end Go.Proofs.Ytnlgilmbmoiniaa.PFnExactToday
