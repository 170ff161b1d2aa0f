/- Lists of Share: sizes, copies, comparison. -/
import Derived.Test.YtgejkcomoealgaaStmFnExactPayShares
import Derived.Test.YtgejkcomoealgaaEvLib
namespace Go.Proofs.Ytgejkcomoealgaa.PFnExactPayShares
open Go.RowKit Go.Proofs.YtgejkcomoealgaaW.PrintWords Go.Proofs.YtgejkcomoealgaaW.PrintLast Go.Proofs.Ytgejkcomoealgaa.EvLib
abbrev LShare := S64
abbrev IShare := S62
def cvShare (x : LShare) : IShare := ⟨x.f0, x.f1⟩
theorem szShareS_eq (l : List LShare) (h : l.length ≤ maxLen) (a : Int) (h0 : 0 ≤ a) (h1 : a ≤ 1048576) : laws_szShareS.f l a = some (if (l.length : Int) ≤ a then a - l.length else -1) := by
  have := maxLen_le h
  unfold laws_szShareS.f
  rw [wrap_id (by omega) (by omega)]
  by_cases c : (l.length : Int) ≤ a
  · rw [if_pos c, if_neg (by omega)]
  · rw [if_neg c, if_pos (by omega)]
theorem toShareS_ev (l : List LShare) (hl : l.length ≤ 1048576) : Ev (fun k => laws_toShareS.f k l) (l.map cvShare) := by
  unfold laws_toShareS.f
  exact ev_itep (by omega) (ev_itep (by omega) (ev_copy laws_toShareS.l0 cvShare z64 z62 (fun _ _ _ _ => rfl) l hl))
theorem eqShare_self (x : IShare) : laws_eqShare.f x.f0 x.f1 x.f0 x.f1 = some true := by simp [laws_eqShare.f]
theorem eqShareS_ev (l : List IShare) (hl : l.length ≤ 1048576) : Ev (fun k => laws_eqShareS.f k l l) true := by
  unfold laws_eqShareS.f
  refine ev_itep rfl (ev_eqloop laws_eqShareS.l0 (fun k l i hi => ?_) (fun k l => ?_) l (by omega))
  · simp only [laws_eqShareS.l0]
    rw [if_pos (by omega), if_pos (by omega), if_pos (by omega), eqShare_self, Option.bind_some, if_pos rfl]
  · simp only [laws_eqShareS.l0]
    rw [if_neg (by omega)]
end Go.Proofs.Ytgejkcomoealgaa.PFnExactPayShares
