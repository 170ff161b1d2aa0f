/- Lists of Claim: sizes, copies, comparison. -/
import Derived.Test.YtnlgilmbmoiniaaStmFnExactTaskOf
import Derived.Test.YtnlgilmbmoiniaaEvLib
namespace Go.Proofs.Ytnlgilmbmoiniaa.PFnExactTaskOf
open Go.RowKit Go.Proofs.YtnlgilmbmoiniaaW.PrintWords Go.Proofs.YtnlgilmbmoiniaaW.PrintLast Go.Proofs.Ytnlgilmbmoiniaa.EvLib
abbrev LClaim := S71
abbrev IClaim := S69
def cvClaim (x : LClaim) : IClaim := ⟨x.f0, x.f1, x.f2, x.f3, x.f4⟩
theorem szClaimS_eq (l : List LClaim) (h : l.length ≤ maxLen) (a : Int) (h0 : 0 ≤ a) (h1 : a ≤ 1048576) : laws_szClaimS.f l a = some (if (l.length : Int) ≤ a then a - l.length else -1) := by
  have := maxLen_le h
  unfold laws_szClaimS.f
  rw [wrap_id (by omega) (by omega)]
  by_cases c : (l.length : Int) ≤ a
  · rw [if_pos c, if_neg (by omega)]
  · rw [if_neg c, if_pos (by omega)]
theorem toClaimS_ev (l : List LClaim) (hl : l.length ≤ 1048576) : Ev (fun k => laws_toClaimS.f k l) (l.map cvClaim) := by
  unfold laws_toClaimS.f
  exact ev_itep (by omega) (ev_itep (by omega) (ev_copy laws_toClaimS.l0 cvClaim z71 z69 (fun _ _ _ _ => rfl) l hl))
theorem eqClaim_self (x : IClaim) : laws_eqClaim.f x.f0 x.f1 x.f2 x.f3 x.f4 x.f0 x.f1 x.f2 x.f3 x.f4 = some true := by simp [laws_eqClaim.f]
theorem eqClaimS_ev (l : List IClaim) (hl : l.length ≤ 1048576) : Ev (fun k => laws_eqClaimS.f k l l) true := by
  unfold laws_eqClaimS.f
  refine ev_itep rfl (ev_eqloop laws_eqClaimS.l0 (fun k l i hi => ?_) (fun k l => ?_) l (by omega))
  · simp only [laws_eqClaimS.l0]
    rw [if_pos (by omega), if_pos (by omega), if_pos (by omega), eqClaim_self, Option.bind_some, if_pos rfl]
  · simp only [laws_eqClaimS.l0]
    rw [if_neg (by omega)]
end Go.Proofs.Ytnlgilmbmoiniaa.PFnExactTaskOf
