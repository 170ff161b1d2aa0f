/- Lists of Entry: sizes, copies, comparison. -/
import Derived.Test.YtgejkcomoealgaaStmFnExactAccountsOf
import Derived.Test.YtgejkcomoealgaaEvLib
namespace Go.Proofs.Ytgejkcomoealgaa.PFnExactAccountsOf
open Go.RowKit Go.Proofs.YtgejkcomoealgaaW.PrintWords Go.Proofs.YtgejkcomoealgaaW.PrintLast Go.Proofs.Ytgejkcomoealgaa.EvLib
abbrev LEntry := S32
abbrev IEntry := S35
def cvEntry (x : LEntry) : IEntry := ⟨x.f0, x.f1, x.f2, x.f3⟩
theorem szEntryS_eq (l : List LEntry) (h : l.length ≤ maxLen) (a : Int) (h0 : 0 ≤ a) (h1 : a ≤ 1048576) : laws_szEntryS.f l a = some (if (l.length : Int) ≤ a then a - l.length else -1) := by
  have := maxLen_le h
  unfold laws_szEntryS.f
  rw [wrap_id (by omega) (by omega)]
  by_cases c : (l.length : Int) ≤ a
  · rw [if_pos c, if_neg (by omega)]
  · rw [if_neg c, if_pos (by omega)]
theorem toEntryS_ev (l : List LEntry) (hl : l.length ≤ 1048576) : Ev (fun k => laws_toEntryS.f k l) (l.map cvEntry) := by
  unfold laws_toEntryS.f
  exact ev_itep (by omega) (ev_itep (by omega) (ev_copy laws_toEntryS.l0 cvEntry z32 z35 (fun _ _ _ _ => rfl) l hl))
theorem eqEntry_self (x : IEntry) : laws_eqEntry.f x.f0 x.f1 x.f2 x.f3 x.f0 x.f1 x.f2 x.f3 = some true := by simp [laws_eqEntry.f]
theorem eqEntryS_ev (l : List IEntry) (hl : l.length ≤ 1048576) : Ev (fun k => laws_eqEntryS.f k l l) true := by
  unfold laws_eqEntryS.f
  refine ev_itep rfl (ev_eqloop laws_eqEntryS.l0 (fun k l i hi => ?_) (fun k l => ?_) l (by omega))
  · simp only [laws_eqEntryS.l0]
    rw [if_pos (by omega), if_pos (by omega), if_pos (by omega), eqEntry_self, Option.bind_some, if_pos rfl]
  · simp only [laws_eqEntryS.l0]
    rw [if_neg (by omega)]
end Go.Proofs.Ytgejkcomoealgaa.PFnExactAccountsOf
