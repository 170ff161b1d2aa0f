/- Lists of Inner: sizes, copies, comparison. -/
import Derived.Test.YtogbajcaeelooaaAbInnerFnExactAllIn
import Derived.Test.YtogbajcaeelooaaEvLib
namespace Go.Proofs.Ytogbajcaeelooaa.PFnExactAllIn
open Go.RowKit Go.Proofs.YtogbajcaeelooaaW.PrintWords Go.Proofs.YtogbajcaeelooaaW.PrintLast Go.Proofs.Ytogbajcaeelooaa.EvLib
abbrev LInner := S50
def cvInner (x : LInner) : IInner := ⟨x.f0, x.f1⟩
theorem szInnerS_eq (l : List LInner) (h : l.length ≤ maxLen) (a : Int) (h0 : 0 ≤ a) (h1 : a ≤ 1048576) : laws_szInnerS.f l a = some (if (l.length : Int) ≤ a then a - l.length else -1) := by
  have := maxLen_le h
  unfold laws_szInnerS.f
  rw [wrap_id (by omega) (by omega)]
  by_cases c : (l.length : Int) ≤ a
  · rw [if_pos c, if_neg (by omega)]
  · rw [if_neg c, if_pos (by omega)]
theorem toInnerS_ev (l : List LInner) (hl : l.length ≤ 1048576) : Ev (fun k => laws_toInnerS.f k l) (l.map cvInner) := by
  unfold laws_toInnerS.f
  exact ev_itep (by omega) (ev_itep (by omega) (ev_copy laws_toInnerS.l0 cvInner z50 z48 (fun _ _ _ _ => rfl) l hl))
theorem eqInner_self (x : IInner) : laws_eqInner.f x.f0 x.f1 x.f0 x.f1 = some true := by simp [laws_eqInner.f]
theorem eqInnerS_ev (l : List IInner) (hl : l.length ≤ 1048576) : Ev (fun k => laws_eqInnerS.f k l l) true := by
  unfold laws_eqInnerS.f
  refine ev_itep rfl (ev_eqloop laws_eqInnerS.l0 (fun k l i hi => ?_) (fun k l => ?_) l (by omega))
  · simp only [laws_eqInnerS.l0]
    rw [if_pos (by omega), if_pos (by omega), if_pos (by omega), eqInner_self, Option.bind_some, if_pos rfl]
  · simp only [laws_eqInnerS.l0]
    rw [if_neg (by omega)]
end Go.Proofs.Ytogbajcaeelooaa.PFnExactAllIn
