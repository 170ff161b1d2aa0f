/- KindText, ColourText, ThingText of the program and of the reference. -/
import Derived.Test.YtihnanfekchlhaaDoorFmtFnExactFindText
import Derived.Test.YtihnanfekchlhaaDoorInRFnExactFindText
import Derived.Test.YtihnanfekchlhaaDoorL1InFnExactFindText
namespace Go.Proofs.YtihnanfekchlhaaDoor.PFnExactFindText
open Go.RowKit Go.Proofs.YtihnanfekchlhaaDoorW.PrintWords Go.Proofs.YtihnanfekchlhaaDoorW.PrintLast Go.Proofs.YtihnanfekchlhaaDoor.EvLib
theorem kind_ok (a : Int) : ∃ s, impl_KindText.f a = some s ∧ spec_KindText.f a = some s ∧ s.size ≤ 8 := by
  unfold impl_KindText.f spec_KindText.f
  rw [l1In_eq]
  by_cases h : 1 ≤ a ∧ a ≤ 8
  · have h5 : a = 1 ∨ a = 2 ∨ a = 3 ∨ a = 4 ∨ a = 5 ∨ a = 6 ∨ a = 7 ∨ a = 8 := by omega
    rcases h5 with rfl | rfl | rfl | rfl | rfl | rfl | rfl | rfl <;> exact ⟨_, rfl, rfl, by decide⟩
  · rw [if_neg h, decide_eq_false h]; exact ⟨_, rfl, rfl, by decide⟩
theorem colour_ok (a : Int) : ∃ s, impl_ColourText.f a = some s ∧ spec_ColourText.f a = some s ∧ s.size ≤ 8 := by
  unfold impl_ColourText.f spec_ColourText.f
  rw [l1In_eq]
  by_cases h : 0 ≤ a ∧ a ≤ 7
  · have h5 : a = 0 ∨ a = 1 ∨ a = 2 ∨ a = 3 ∨ a = 4 ∨ a = 5 ∨ a = 6 ∨ a = 7 := by omega
    rcases h5 with rfl | rfl | rfl | rfl | rfl | rfl | rfl | rfl <;> exact ⟨_, rfl, rfl, by decide⟩
  · rw [if_neg h, decide_eq_false h]; exact ⟨_, rfl, rfl, by decide⟩
theorem z1_ : (⟨#[32]⟩ : ByteArray).size = 1 := rfl
theorem isThing_b (a b c d e : Int) : ∃ q, impl_IsThing.f a b c d e = some q ∧ spec_IsThing.f a b c d e = some q := by
  unfold impl_IsThing.f spec_IsThing.f
  simp only [inRange_eq, l1In_eq, Option.bind_some]
  repeat' (first | exact ⟨_, rfl, rfl⟩ | split)
theorem thingText_ok (a b c d e : Int) (ha : -9223372036854775808 ≤ a ∧ a ≤ 9223372036854775807) (hd : -9223372036854775808 ≤ d ∧ d ≤ 9223372036854775807) :
    ∃ s, impl_ThingText.f a b c d e = some s ∧ Ev (fun k => spec_ThingText.f k a b c d e) s ∧ s.size ≤ 100 := by
  obtain ⟨kt, hk1, hk2, hk3⟩ := kind_ok b
  obtain ⟨ct, hc1, hc2, hc3⟩ := colour_ok c
  obtain ⟨q, hq1, hq2⟩ := isThing_b a b c d e
  have za := fmt_size a ha.1 ha.2
  have zd := fmt_size d hd.1 hd.2
  have ea := specFormat_ev a ha.1 ha.2
  have ed := specFormat_ev d hd.1 hd.2
  unfold impl_ThingText.f spec_ThingText.f
  simp only [hq1, hq2, hk1, hk2, hc1, hc2, Option.bind_some, implFormat_eq a ha.1 ha.2, implFormat_eq d hd.1 hd.2]
  cases q with
  | false => exact ⟨_, rfl, ev_some rfl, by decide⟩
  | true =>
    refine ⟨fmtI a ++ ⟨#[32]⟩ ++ ct ++ ⟨#[32]⟩ ++ kt ++ ⟨#[32]⟩ ++ fmtI d, ?_, ?_, by simp only [ByteArray.size_append, z1_]; omega⟩
    · rw [if_pos rfl, if_pos (by omega), if_pos (by simp only [ByteArray.size_append, z1_]; omega), if_pos (by simp only [ByteArray.size_append, z1_]; omega), if_pos (by simp only [ByteArray.size_append, z1_]; omega), if_pos (by simp only [ByteArray.size_append, z1_]; omega), if_pos (by simp only [ByteArray.size_append, z1_]; omega)]
    · refine ev_itep rfl (ev_bind ea (ev_itep (by omega) (ev_itep ?_ (ev_itep ?_ (ev_itep ?_ (ev_itep ?_ (ev_bind ed (ev_itep ?_ (ev_some rfl))))))))) <;> (simp only [ByteArray.size_append, z1_]; omega)
end Go.Proofs.YtihnanfekchlhaaDoor.PFnExactFindText
