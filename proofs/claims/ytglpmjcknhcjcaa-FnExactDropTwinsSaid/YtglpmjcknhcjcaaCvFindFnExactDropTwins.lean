/- Lists of Find: sizes, copies, comparison. -/
import Derived.Test.YtglpmjcknhcjcaaStmFnExactDropTwins
import Derived.Test.YtglpmjcknhcjcaaEvLib
namespace Go.Proofs.Ytglpmjcknhcjcaa.PFnExactDropTwins
open Go.RowKit Go.Proofs.YtglpmjcknhcjcaaW.PrintWords Go.Proofs.YtglpmjcknhcjcaaW.PrintLast Go.Proofs.Ytglpmjcknhcjcaa.EvLib
abbrev LFind := S71
abbrev IFind := S58
def cvFind (x : LFind) : IFind := ⟨⟨x.f0.f0, x.f0.f1, x.f0.f2, x.f0.f3, x.f0.f4⟩, x.f1, x.f2, x.f3⟩
theorem szFindS_eq (l : List LFind) (h : l.length ≤ maxLen) (a : Int) (h0 : 0 ≤ a) (h1 : a ≤ 1048576) : laws_szFindS.f l a = some (if (l.length : Int) ≤ a then a - l.length else -1) := by
  have := maxLen_le h
  unfold laws_szFindS.f
  rw [wrap_id (by omega) (by omega)]
  by_cases c : (l.length : Int) ≤ a
  · rw [if_pos c, if_neg (by omega)]
  · rw [if_neg c, if_pos (by omega)]
theorem toFindS_ev (l : List LFind) (hl : l.length ≤ 1048576) : Ev (fun k => laws_toFindS.f k l) (l.map cvFind) := by
  unfold laws_toFindS.f
  exact ev_itep (by omega) (ev_itep (by omega) (ev_copy laws_toFindS.l0 cvFind z71 z58 (fun _ _ _ _ => rfl) l hl))
theorem eqFind_self (x : IFind) : laws_eqFind.f x.f0.f0 x.f0.f1 x.f0.f2 x.f0.f3 x.f0.f4 x.f1 x.f2 x.f3 x.f0.f0 x.f0.f1 x.f0.f2 x.f0.f3 x.f0.f4 x.f1 x.f2 x.f3 = some true := by simp [laws_eqFind.f, laws_eqThing.f]
theorem eqFindS_ev (l : List IFind) (hl : l.length ≤ 1048576) : Ev (fun k => laws_eqFindS.f k l l) true := by
  unfold laws_eqFindS.f
  refine ev_itep rfl (ev_eqloop laws_eqFindS.l0 (fun k l i hi => ?_) (fun k l => ?_) l (by omega))
  · simp only [laws_eqFindS.l0]
    rw [if_pos (by omega), if_pos (by omega), if_pos (by omega), eqFind_self, Option.bind_some, if_pos rfl]
  · simp only [laws_eqFindS.l0]
    rw [if_neg (by omega)]
end Go.Proofs.Ytglpmjcknhcjcaa.PFnExactDropTwins
