/- The pure statement of FnExactTaskText. -/
import Derived.Test.YtnlgilmbmoiniaaDoorFmtFnExactTaskText
namespace Go.Proofs.YtnlgilmbmoiniaaDoor.PFnExactTaskText
open Go.RowKit Go.Proofs.YtnlgilmbmoiniaaDoorW.PrintWords Go.Proofs.YtnlgilmbmoiniaaDoorW.PrintLast Go.Proofs.YtnlgilmbmoiniaaDoor.EvLib
theorem fate_same (a : Int) : spec_FateName.f a = impl_FateName.f a := by
  unfold spec_FateName.f impl_FateName.f spec_l1In.f
  by_cases h : 0 ≤ a ∧ a ≤ 5
  · rw [if_pos h.1, if_pos h, decide_eq_true h.2]
    simp only [Option.bind_some, if_true]
    rw [if_pos h.1, if_pos (by show a < (6 : Int); omega)]
    rfl
  · rw [if_neg h]
    by_cases c : a ≥ 0
    · rw [if_pos c, decide_eq_false (by omega)]
      rfl
    · rw [if_neg c]; rfl
theorem fate_size (a : Int) : ∃ s, impl_FateName.f a = some s ∧ s.size ≤ 6 := by
  unfold impl_FateName.f
  by_cases h : 0 ≤ a ∧ a ≤ 5
  · have h5 : a = 0 ∨ a = 1 ∨ a = 2 ∨ a = 3 ∨ a = 4 ∨ a = 5 := by omega
    rw [if_pos h]
    rcases h5 with rfl | rfl | rfl | rfl | rfl | rfl <;> exact ⟨_, rfl, by decide⟩
  · rw [if_neg h]; exact ⟨_, rfl, by decide⟩
end Go.Proofs.YtnlgilmbmoiniaaDoor.PFnExactTaskText
namespace Go.Proofs.YtnlgilmbmoiniaaDoor.Pure
open Go.RowKit Go.Proofs.YtnlgilmbmoiniaaDoor.PFnExactTaskText Go.Proofs.YtnlgilmbmoiniaaDoorW.PrintWords Go.Proofs.YtnlgilmbmoiniaaDoorW.PrintLast Go.Proofs.YtnlgilmbmoiniaaDoor.EvLib
theorem FnExactTaskText : laws_FnExactTaskText.Pure := by
  intro a b c ha hb hc
  refine Ev.rounds ?_
  unfold laws_FnExactTaskText.f
  obtain ⟨s, hs, hz⟩ := fate_size b
  have z1_ : (⟨#[32]⟩ : ByteArray).size = 1 := rfl
  have z4_ : (⟨#[32, 111, 110, 32]⟩ : ByteArray).size = 4 := rfl
  have wa := wf64 ha
  have wc := wf64 hc
  have za := fmt_size a wa.1 wa.2
  have zc := fmt_size c wc.1 wc.2
  have ea := specFormat_ev a wa.1 wa.2
  have ec := specFormat_ev c wc.1 wc.2
  refine ev_bindc rfl (ev_bind (a := if s.toList = ([] : List UInt8) then ⟨#[]⟩ else s ++ ⟨#[32]⟩ ++ fmtI a ++ ⟨#[32, 111, 110, 32]⟩ ++ fmtI c) ?_ (ev_bindc rfl (ev_bindc (a := if s.toList = ([] : List UInt8) then ⟨#[]⟩ else s ++ ⟨#[32]⟩ ++ fmtI a ++ ⟨#[32, 111, 110, 32]⟩ ++ fmtI c) ?_ (ev_itep rfl (ev_some rfl)))))
  · unfold spec_TaskText.f
    simp only [fate_same, hs]
    refine ev_bindc rfl (ev_ite (fun h => ev_some (by rw [if_pos h])) (fun h => ?_))
    rw [if_neg h]
    refine ev_bindc rfl (ev_itep (by omega) (ev_bind ea (ev_itep ?_ (ev_itep ?_ (ev_bind ec (ev_itep ?_ (ev_some rfl))))))) <;> (simp only [ByteArray.size_append, z1_, z4_]; omega)
  · unfold impl_TaskText.f
    simp only [hs, Option.bind_some, implFormat_eq a wa.1 wa.2, implFormat_eq c wc.1 wc.2]
    by_cases h : s.toList = ([] : List UInt8)
    · rw [if_pos h, if_pos h]
    · rw [if_neg h, if_neg h, if_pos (by omega), if_pos (by simp only [ByteArray.size_append, z1_, z4_]; omega), if_pos (by simp only [ByteArray.size_append, z1_, z4_]; omega), if_pos (by simp only [ByteArray.size_append, z1_, z4_]; omega)]
end Go.Proofs.YtnlgilmbmoiniaaDoor.Pure
