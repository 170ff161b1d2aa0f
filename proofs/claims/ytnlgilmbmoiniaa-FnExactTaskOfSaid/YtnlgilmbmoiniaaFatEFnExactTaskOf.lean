/- FateOf of the program and of the reference. -/
import Derived.Test.YtnlgilmbmoiniaaFrPFnExactTaskOf
import Derived.Test.YtnlgilmbmoiniaaDueIFnExactTaskOf
import Derived.Test.YtnlgilmbmoiniaaDueSFnExactTaskOf
namespace Go.Proofs.Ytnlgilmbmoiniaa.PFnExactTaskOf
open Go.RowKit Go.Proofs.YtnlgilmbmoiniaaW.PrintWords Go.Proofs.YtnlgilmbmoiniaaW.PrintLast Go.Proofs.Ytnlgilmbmoiniaa.EvLib
def isDue (a0 a1 a2 a3 a4 a5 a6 a7 h : Int) : Bool := if isFind a0 a1 a2 a3 a4 a5 a6 a7 = true then decide (h ≥ dueHour a0 a1 a2 a3 a4 a5 a6 a7) else false
theorem implIsDue_ev (a0 a1 a2 a3 a4 a5 a6 a7 h : Int) : Ev (fun k => impl_IsDue.f k a0 a1 a2 a3 a4 a5 a6 a7 h) (isDue a0 a1 a2 a3 a4 a5 a6 a7 h) := by
  unfold impl_IsDue.f isDue
  refine ev_bindc (implIsFind_eq _ _ _ _ _ _ _ _) (ev_ite (fun c => ev_bind (implDueHour_ev _ _ _ _ _ _ _ _) (ev_some ?_)) (fun c => ev_some ?_))
  · rw [if_pos c]
  · rw [if_neg c]
theorem specIsDue_eq (a0 a1 a2 a3 a4 a5 a6 a7 h : Int) : spec_IsDue.f a0 a1 a2 a3 a4 a5 a6 a7 h = some (isDue a0 a1 a2 a3 a4 a5 a6 a7 h) := by
  unfold spec_IsDue.f isDue
  rw [specIsFind_eq, Option.bind_some]
  split
  · rw [specDueHour_eq, Option.bind_some]
  · rfl
def fateEnd (a0 a1 a2 a3 a4 a5 a6 a7 h : Int) : Int := if isDue a0 a1 a2 a3 a4 a5 a6 a7 h = true then impl_FateOf.tail a1 a4 a7 else 0
theorem specFate_j1 (q : Bool) (a0 a1 a2 a3 a4 a5 a6 a7 : Int) (hq : q = true ↔ a1 = 7 ∨ a4 = 0) : Ev (fun k => spec_FateOf.j1 k q a0 a1 a2 a3 a4 a5 a6 a7) (impl_FateOf.tail a1 a4 a7) := by
  refine ev_step (fun k => by simp only [spec_FateOf.j1]; rfl) ?_
  unfold impl_FateOf.tail
  refine ev_ite (fun c => ev_some ?_) (fun c => ?_)
  · rcases hq.1 c with e | e
    · rw [if_pos e]
    · by_cases g : a1 = 7
      · rw [if_pos g]
      · rw [if_neg g, if_pos e]
  · have h1 : ¬ a1 = 7 := fun e => c (hq.2 (Or.inl e))
    have h2 : ¬ a4 = 0 := fun e => c (hq.2 (Or.inr e))
    rw [if_neg h1, if_neg h2]
    refine ev_ite (fun c2 => ev_some ?_) (fun c2 => ev_ite (fun c3 => ev_some ?_) (fun c3 => ev_some ?_))
    · by_cases g : a7 = 0
      · rw [if_pos g, if_pos (by omega)]
      · rw [if_neg g, if_neg (by omega)]
    · rw [if_pos c3, if_neg (by omega)]
    · rw [if_neg c3, if_pos (by omega)]
theorem specFate_l0 (l : List IClaim) (hl : l.length ≤ 1048576) (a0 a1 a2 a3 a4 a5 a6 a7 h : Int) : ∀ (d i : Nat), i + d = l.length → Ev (fun k => spec_FateOf.l0 k l h (i : Int) a0 a1 a2 a3 a4 a5 a6 a7) (if 0 ≤ idxB (impl_FateOf.p a0) (l.drop i) i then 0 else fateEnd a0 a1 a2 a3 a4 a5 a6 a7 h) := by
  intro d
  induction d with
  | zero =>
    intro i hi
    rw [idxB_end _ _ _ (by omega), if_neg (by omega)]
    refine ev_step (fun k => by simp only [spec_FateOf.l0]; rfl) (ev_iten (by omega) (ev_bindc (specIsDue_eq _ _ _ _ _ _ _ _ _) ?_))
    unfold fateEnd
    refine ev_ite (fun c => ?_) (fun c => ev_some ?_)
    · rw [if_pos c]
      refine ev_ite (fun c2 => specFate_j1 true _ _ _ _ _ _ _ _ ⟨fun _ => Or.inl c2, fun _ => rfl⟩) (fun c2 => specFate_j1 _ _ _ _ _ _ _ _ _ ⟨fun e => Or.inr (beq_iff_eq.1 e), fun e => ?_⟩)
      rcases e with e | e
      · exact absurd e c2
      · exact beq_iff_eq.2 e
    · rw [if_neg c]
  | succ d ih =>
    intro i hi
    have hw : wrap64 ((i : Int) + 1) = ((i + 1 : Nat) : Int) := by rw [wrap_id (by omega) (by omega)]; omega
    rw [idxB_at _ z69 l i (by omega)]
    have e : l.getD i z69 = cl l i := by unfold cl rd_T69; rw [Int.toNat_natCast]
    rw [e]
    refine ev_step (fun k => by simp only [spec_FateOf.l0]; rfl) (ev_itep (by omega) (ev_itep (by omega) ?_))
    rw [hw]
    show Ev (fun k => if (cl l i).f2 = a0 then (if (cl l i).f4 = 0 then some 0 else spec_FateOf.l0 k l h ((i + 1 : Nat) : Int) a0 a1 a2 a3 a4 a5 a6 a7) else spec_FateOf.l0 k l h ((i + 1 : Nat) : Int) a0 a1 a2 a3 a4 a5 a6 a7) _
    by_cases c : impl_FateOf.p a0 (cl l i) = true
    · rw [if_pos c, if_pos (by omega)]
      have c2 : (cl l i).f2 = a0 ∧ (cl l i).f4 = 0 := by simpa [impl_FateOf.p] using c
      exact ev_itep c2.1 (ev_itep c2.2 (ev_some rfl))
    · rw [if_neg c]
      have c2 : ¬ ((cl l i).f2 = a0 ∧ (cl l i).f4 = 0) := by simpa [impl_FateOf.p] using c
      exact ev_ite (fun g => ev_ite (fun g2 => absurd ⟨g, g2⟩ c2) (fun _ => ih (i + 1) (by omega))) (fun _ => ih (i + 1) (by omega))
theorem fateOf_ok (a0 a1 a2 a3 a4 a5 a6 a7 : Int) (l : List IClaim) (hl : l.length ≤ 1048576) (h : Int) : ∃ r, Ev (fun k => impl_FateOf.f k a0 a1 a2 a3 a4 a5 a6 a7 l h) r ∧ Ev (fun k => spec_FateOf.f k a0 a1 a2 a3 a4 a5 a6 a7 l h) r := by
  obtain ⟨fp, h1, h2⟩ := firstProved_ok l hl a0
  unfold impl_FateOf.f spec_FateOf.f
  by_cases c : fp = 0
  · refine ⟨if 0 ≤ idxB (impl_FateOf.p a0) l 0 then 0 else fateEnd a0 a1 a2 a3 a4 a5 a6 a7 h, ev_bind h1 (ev_itep c (ev_bind (implIsDue_ev _ _ _ _ _ _ _ _ _) ?_)), ev_bind h2 (ev_itep c ?_)⟩
    · unfold fateEnd
      refine ev_ite (fun g => ev_ite (fun g2 => ev_some ?_) (fun g2 => ev_some ?_)) (fun g => ev_some ?_)
      · rw [if_pos g2]
      · rw [if_neg g2, if_pos g]
      · rw [if_neg g]; split <;> rfl
    · have := specFate_l0 l hl a0 a1 a2 a3 a4 a5 a6 a7 h l.length 0 (by omega)
      rwa [List.drop_zero] at this
  · exact ⟨1, ev_bind h1 (ev_iten c (ev_some rfl)), ev_bind h2 (ev_iten c (ev_some rfl))⟩
end Go.Proofs.Ytnlgilmbmoiniaa.PFnExactTaskOf
