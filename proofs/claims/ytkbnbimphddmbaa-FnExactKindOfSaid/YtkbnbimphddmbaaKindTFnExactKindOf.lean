/- KindText: the reference's and the program's. -/
import Derived.Test.YtkbnbimphddmbaaL1InFnExactKindOf
import Derived.Test.YtkbnbimphddmbaaEvLib
namespace Go.Proofs.Ytkbnbimphddmbaa.PFnExactKindOf
open Go.RowKit Go.Proofs.YtkbnbimphddmbaaW.PrintWords Go.Proofs.YtkbnbimphddmbaaW.PrintLast Go.Proofs.Ytkbnbimphddmbaa.EvLib
theorem kindText_eq (a : Int) : spec_KindText.f a = impl_KindText.f a := by
  unfold spec_KindText.f impl_KindText.f
  rw [l1In_eq, Option.bind_some]
  by_cases h : 1 ≤ a ∧ a ≤ 8
  · rw [if_pos (decide_eq_true h), if_pos h]
    have h8 : a = 1 ∨ a = 2 ∨ a = 3 ∨ a = 4 ∨ a = 5 ∨ a = 6 ∨ a = 7 ∨ a = 8 := by omega
    rcases h8 with rfl | rfl | rfl | rfl | rfl | rfl | rfl | rfl <;> rfl
  · rw [if_neg (by simpa using h), if_neg h]
theorem kindOf_l0 : ∀ (k : Nat) (x : ByteArray) (i : Int), spec_KindOf.l0 k x i = impl_KindOf.l0 k x i := by
  intro k
  induction k with
  | zero => intro x i; rfl
  | succ k ih =>
    intro x i
    simp only [spec_KindOf.l0, impl_KindOf.l0, kindText_eq, ih]
theorem kindOf_some (x : ByteArray) : ∀ (d : Nat) (i : Int), i + d = 9 → 1 ≤ i → ∃ r, Ev (fun k => impl_KindOf.l0 k x i) r := by
  intro d
  induction d with
  | zero =>
    intro i hi _
    refine ⟨0, ev_step (fun k => by simp only [impl_KindOf.l0]; rfl) ?_⟩
    exact ev_iten (by omega) (ev_some rfl)
  | succ d ih =>
    intro i hi h1
    obtain ⟨r, h⟩ := ih (i + 1) (by omega) (by omega)
    obtain ⟨t, ht⟩ : ∃ t, impl_KindText.f i = some t := ⟨_, rfl⟩
    by_cases c : t.toList = x.toList
    · refine ⟨i, ev_step (fun k => by simp only [impl_KindOf.l0]; rfl) ?_⟩
      refine ev_itep (by omega) (ev_bindc ht ?_)
      exact ev_itep c (ev_some rfl)
    · refine ⟨r, ev_step (fun k => by simp only [impl_KindOf.l0]; rfl) ?_⟩
      refine ev_itep (by omega) (ev_bindc ht ?_)
      refine ev_iten c ?_
      rw [wrap_id (by omega) (by omega)]
      exact h
end Go.Proofs.Ytkbnbimphddmbaa.PFnExactKindOf
