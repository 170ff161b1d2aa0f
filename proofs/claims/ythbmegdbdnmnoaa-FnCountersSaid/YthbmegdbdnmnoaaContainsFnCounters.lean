/- contains. -/
import Derived.Test.YthbmegdbdnmnoaaStmFnCounters
import Derived.Test.YthbmegdbdnmnoaaEvLib
namespace Go.Proofs.Ythbmegdbdnmnoaa.PFnCounters
open Go.RowKit Go.Proofs.YthbmegdbdnmnoaaW.PrintWords Go.Proofs.YthbmegdbdnmnoaaW.PrintLast Go.Proofs.Ythbmegdbdnmnoaa.EvLib
theorem contains_l0 (l : List Int) (hl : l.length ≤ 1048576) (a : Int) : ∀ (d i : Nat), i + d = l.length → Ev (fun k => laws_contains.l0 k l a (i : Int)) (decide (a ∈ l.drop i)) := by
  intro d
  induction d with
  | zero =>
    intro i hi
    exact ev_step (fun k => by simp only [laws_contains.l0]; rfl) (ev_iten (by omega) (ev_some (by rw [List.drop_of_length_le (by omega)]; simp)))
  | succ d ih =>
    intro i hi
    have r : rd l (i : Int) = l[i] := by unfold rd; simp [List.getD, show i < l.length by omega]
    refine ev_step (fun k => by simp only [laws_contains.l0]; rfl) (ev_itep (by omega) (ev_itep (by omega) ?_))
    rw [r, wrap_id (x := (i : Int) + 1) (by omega) (by omega), show l.drop i = l[i] :: l.drop (i + 1) from List.drop_eq_getElem_cons (by omega)]
    refine ev_ite (fun c => ev_some (by simp [c])) (fun c => ev_eq (ih (i + 1) (by omega)) ?_)
    rw [decide_eq_decide, List.mem_cons]
    exact ⟨fun h => .inr h, fun h => h.elim (fun e => absurd e.symm c) id⟩
theorem contains_ev (l : List Int) (hl : l.length ≤ 1048576) (a : Int) : Ev (fun k => laws_contains.f k l a) (decide (a ∈ l)) := by
  unfold laws_contains.f
  exact ev_eq (contains_l0 l hl a l.length 0 (by omega)) (by rw [List.drop_zero])
end Go.Proofs.Ythbmegdbdnmnoaa.PFnCounters
