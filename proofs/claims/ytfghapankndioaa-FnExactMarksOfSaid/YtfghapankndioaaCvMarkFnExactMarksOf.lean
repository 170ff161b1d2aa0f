/- Lists of Mark: sizes, copies, comparison. -/
import Derived.Test.YtfghapankndioaaStmFnExactMarksOf
import Derived.Test.YtfghapankndioaaEvLib
namespace Go.Proofs.Ytfghapankndioaa.PFnExactMarksOf
open Go.RowKit Go.Proofs.YtfghapankndioaaW.PrintWords Go.Proofs.YtfghapankndioaaW.PrintLast Go.Proofs.Ytfghapankndioaa.EvLib
abbrev LMark := S81
abbrev IMark := S67
def cvMark (x : LMark) : IMark := ⟨x.f0, x.f1⟩
theorem szMarkS_eq (l : List LMark) (h : l.length ≤ maxLen) (a : Int) (h0 : 0 ≤ a) (h1 : a ≤ 1048576) : laws_szMarkS.f l a = some (if (l.length : Int) ≤ a then a - l.length else -1) := by
  have := maxLen_le h
  unfold laws_szMarkS.f
  rw [wrap_id (by omega) (by omega)]
  by_cases c : (l.length : Int) ≤ a
  · rw [if_pos c, if_neg (by omega)]
  · rw [if_neg c, if_pos (by omega)]
theorem toMarkS_ev (l : List LMark) (hl : l.length ≤ 1048576) : Ev (fun k => laws_toMarkS.f k l) (l.map cvMark) := by
  unfold laws_toMarkS.f
  exact ev_itep (by omega) (ev_itep (by omega) (ev_copy laws_toMarkS.l0 cvMark z81 z67 (fun _ _ _ _ => rfl) l hl))
theorem eqMark_self (x : IMark) : laws_eqMark.f x.f0 x.f1 x.f0 x.f1 = some true := by simp [laws_eqMark.f]
theorem eqMarkS_ev (l : List IMark) (hl : l.length ≤ 1048576) : Ev (fun k => laws_eqMarkS.f k l l) true := by
  unfold laws_eqMarkS.f
  refine ev_itep rfl (ev_eqloop laws_eqMarkS.l0 (fun k l i hi => ?_) (fun k l => ?_) l (by omega))
  · simp only [laws_eqMarkS.l0]
    rw [if_pos (by omega), if_pos (by omega), if_pos (by omega), eqMark_self, Option.bind_some, if_pos rfl]
  · simp only [laws_eqMarkS.l0]
    rw [if_neg (by omega)]
end Go.Proofs.Ytfghapankndioaa.PFnExactMarksOf
