/- OuterOf of the reference. -/
import Derived.Test.YtogbajcaeelooaaOutDFnBundles
namespace Go.Proofs.Ytogbajcaeelooaa.PFnBundles
open Go.RowKit Go.Proofs.YtogbajcaeelooaaW.PrintWords Go.Proofs.YtogbajcaeelooaaW.PrintLast Go.Proofs.Ytogbajcaeelooaa.EvLib
theorem specOuter_l0 (l : List IInner) (hl : l.length ≤ 1048576) (x : Int) : ∀ (d i : Nat), i + d = l.length → Ev (fun k => spec_OuterOf.l0 k l x (i : Int)) (outF x (l.drop i)) := by
  intro d
  induction d with
  | zero =>
    intro i hi
    exact ev_step (fun k => by simp only [spec_OuterOf.l0]; rfl) (ev_iten (by omega) (ev_some (by rw [List.drop_of_length_le (by omega), outF])))
  | succ d ih =>
    intro i hi
    refine ev_step (fun k => by simp only [spec_OuterOf.l0]; rfl) (ev_itep (by omega) (ev_itep (by omega) ?_))
    simp only [rd_inn, wrap_id (x := (i : Int) + 1) (by omega) (by omega)]
    rw [drop_inn l i (by omega), outF]
    refine ev_ite (fun c => ev_some (by rw [if_pos c])) (fun c => ?_)
    rw [if_neg c]
    exact ih (i + 1) (by omega)
theorem specOuterOf_ev (l : List IInner) (hl : l.length ≤ 1048576) (x : Int) : Ev (fun k => spec_OuterOf.f k l x) (outF x l) := by
  unfold spec_OuterOf.f
  exact ev_eq (specOuter_l0 l hl x l.length 0 (by omega)) (by rw [List.drop_zero])
end Go.Proofs.Ytogbajcaeelooaa.PFnBundles
