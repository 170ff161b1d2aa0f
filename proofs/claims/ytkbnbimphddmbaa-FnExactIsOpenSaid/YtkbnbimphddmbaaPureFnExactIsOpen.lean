/- The pure statement of FnExactIsOpen. -/
import Derived.Test.YtkbnbimphddmbaaCalIFnExactIsOpen
namespace Go.Proofs.Ytkbnbimphddmbaa.Pure
open Go.RowKit Go.Proofs.Ytkbnbimphddmbaa.PFnExactIsOpen Go.Proofs.YtkbnbimphddmbaaW.PrintWords Go.Proofs.YtkbnbimphddmbaaW.PrintLast Go.Proofs.Ytkbnbimphddmbaa.EvLib

theorem l1In_eq (a b c : Int) : spec_l1In.f a b c = some (decide (b ≤ a ∧ a ≤ c)) := by unfold spec_l1In.f; split <;> simp [*]
theorem inRange_eq (a b c : Int) : impl_InRange.f a b c = some (decide (b ≤ a ∧ a ≤ c)) := by unfold impl_InRange.f; split <;> simp [*]
def isOpen (l : List Bool) (a : Int) : Bool := isCal l && (decide (0 ≤ a ∧ a ≤ 100000) && rdOf false l (Int.tmod a 7))
theorem isCal_len {l : List Bool} (h : isCal l = true) : l.length = 7 := by unfold isCal at h; simp at h; exact h.2
theorem tm7 {a : Int} (h : 0 ≤ a) : 0 ≤ Int.tmod a 7 ∧ Int.tmod a 7 < 7 := by rw [Int.tmod_eq_emod_of_nonneg h]; omega
theorem specIsOpen_ev (l : List Bool) (hl : l.length ≤ 1048576) (a : Int) : Ev (fun k => spec_IsOpen.f k l a) (isOpen l a) := by
  unfold spec_IsOpen.f
  refine ev_bind (specIsCalendar_ev l hl) (ev_ite (fun h => ev_bindc (l1In_eq _ _ _) (ev_ite (fun h2 => ?_) (fun h2 => ev_some ?_))) (fun h => ev_some ?_))
  · have h3 := isCal_len h
    have h4 := of_decide_eq_true h2
    have h5 := tm7 h4.1
    exact ev_itep (by omega) (ev_itep (by omega) (ev_some (by unfold isOpen; rw [h, h2]; rfl)))
  · unfold isOpen; rw [Bool.eq_false_iff.mpr h2, Bool.false_and, Bool.and_false]
  · unfold isOpen; rw [Bool.eq_false_iff.mpr h]; rfl
theorem implIsOpen_ev (l : List Bool) (hl : l.length ≤ 1048576) (a : Int) : Ev (fun k => impl_IsOpen.f k l a) (isOpen l a) := by
  unfold impl_IsOpen.f
  refine ev_bind (implIsCalendar_ev l hl) (ev_ite (fun h => ev_bindc (inRange_eq _ _ _) (ev_ite (fun h2 => ?_) (fun h2 => ev_some ?_))) (fun h => ev_some ?_))
  · have h3 := isCal_len h
    have h4 := of_decide_eq_true h2
    have h5 := tm7 h4.1
    exact ev_itep (by omega) (ev_itep (by omega) (ev_some (by unfold isOpen; rw [h, h2]; rfl)))
  · unfold isOpen; rw [Bool.eq_false_iff.mpr h2, Bool.false_and, Bool.and_false]
  · unfold isOpen; rw [Bool.eq_false_iff.mpr h]; rfl
theorem FnExactIsOpen : laws_FnExactIsOpen.Pure := by
  intro l a _ _
  refine Ev.rounds ?_
  unfold laws_FnExactIsOpen.f
  refine ev_ite (fun _ => ev_some rfl) (fun h => ?_)
  have hl : l.length ≤ 1048576 := by omega
  refine ev_bind (toBoolS_ev l hl) (ev_bind (specIsOpen_ev l hl a) (ev_bind (toBoolS_ev l hl) (ev_bind (implIsOpen_ev l hl a) (ev_iten (by simp) (ev_bind (toBoolS_ev l hl) (ev_bind (eqBoolS_ev l hl) (ev_itep rfl (ev_some rfl))))))))
end Go.Proofs.Ytkbnbimphddmbaa.Pure
