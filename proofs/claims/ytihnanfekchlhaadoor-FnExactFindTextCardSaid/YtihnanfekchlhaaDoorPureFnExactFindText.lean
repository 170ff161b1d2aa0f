/- The pure statement of FnExactFindText. -/
import Derived.Test.YtihnanfekchlhaaDoorTxtDFnExactFindText
namespace Go.Proofs.YtihnanfekchlhaaDoor.PFnExactFindText
open Go.RowKit Go.Proofs.YtihnanfekchlhaaDoorW.PrintWords Go.Proofs.YtihnanfekchlhaaDoorW.PrintLast Go.Proofs.YtihnanfekchlhaaDoor.EvLib
theorem isFind_b (a b c d e f g h : Int) : ∃ q, impl_IsFind.f a b c d e f g h = some q ∧ spec_IsFind.f a b c d e f g h = some q := by
  obtain ⟨q, h1, h2⟩ := isThing_b a b c d e
  unfold impl_IsFind.f spec_IsFind.f
  simp only [h1, h2, inRange_eq, l1In_eq, Option.bind_some]
  repeat' (first | exact ⟨_, rfl, rfl⟩ | split)
theorem z2_ : (⟨#[32, 64]⟩ : ByteArray).size = 2 := rfl
theorem z2b_ : (⟨#[32, 43]⟩ : ByteArray).size = 2 := rfl
theorem z4_ : (⟨#[32, 98, 121, 32]⟩ : ByteArray).size = 4 := rfl
theorem findText_ok (a b c d e f g h : Int) (ha : -9223372036854775808 ≤ a ∧ a ≤ 9223372036854775807) (hd : -9223372036854775808 ≤ d ∧ d ≤ 9223372036854775807) (hf : -9223372036854775808 ≤ f ∧ f ≤ 9223372036854775807)
    (hg : -9223372036854775808 ≤ g ∧ g ≤ 9223372036854775807) (hh : -9223372036854775808 ≤ h ∧ h ≤ 9223372036854775807) :
    ∃ s, impl_FindText.f a b c d e f g h = some s ∧ Ev (fun k => spec_FindText.f k a b c d e f g h) s := by
  obtain ⟨t, ht1, ht2, ht3⟩ := thingText_ok a b c d e ha hd
  obtain ⟨q, hq1, hq2⟩ := isFind_b a b c d e f g h
  have zf := fmt_size f hf.1 hf.2
  have zg := fmt_size g hg.1 hg.2
  have zh := fmt_size h hh.1 hh.2
  have ef := specFormat_ev f hf.1 hf.2
  have eg := specFormat_ev g hg.1 hg.2
  have eh := specFormat_ev h hh.1 hh.2
  unfold impl_FindText.f spec_FindText.f
  simp only [hq1, hq2, ht1, Option.bind_some, implFormat_eq f hf.1 hf.2, implFormat_eq g hg.1 hg.2, implFormat_eq h hh.1 hh.2]
  cases q with
  | false => exact ⟨_, rfl, ev_some rfl⟩
  | true =>
    refine ⟨t ++ ⟨#[32, 64]⟩ ++ fmtI f ++ ⟨#[32, 43]⟩ ++ fmtI g ++ ⟨#[32, 98, 121, 32]⟩ ++ fmtI h, ?_, ?_⟩
    · rw [if_pos rfl, if_pos (by omega), if_pos (by simp only [ByteArray.size_append, z2_]; omega), if_pos (by simp only [ByteArray.size_append, z2_]; omega), if_pos (by simp only [ByteArray.size_append, z2_, z2b_]; omega), if_pos (by simp only [ByteArray.size_append, z2_, z2b_]; omega), if_pos (by simp only [ByteArray.size_append, z2_, z2b_, z4_]; omega)]
    · exact ev_itep rfl (ev_bind ht2 (ev_itep (by omega) (ev_bind ef (ev_itep (by simp only [ByteArray.size_append, z2_]; omega) (ev_itep (by simp only [ByteArray.size_append, z2_]; omega) (ev_bind eg (ev_itep (by simp only [ByteArray.size_append, z2_, z2b_]; omega) (ev_itep (by simp only [ByteArray.size_append, z2_, z2b_]; omega) (ev_bind eh (ev_itep (by simp only [ByteArray.size_append, z2_, z2b_, z4_]; omega) (ev_some rfl)))))))))))
end Go.Proofs.YtihnanfekchlhaaDoor.PFnExactFindText
namespace Go.Proofs.YtihnanfekchlhaaDoor.Pure
open Go.RowKit Go.Proofs.YtihnanfekchlhaaDoor.PFnExactFindText Go.Proofs.YtihnanfekchlhaaDoorW.PrintWords Go.Proofs.YtihnanfekchlhaaDoorW.PrintLast Go.Proofs.YtihnanfekchlhaaDoor.EvLib
theorem FnExactFindText : laws_FnExactFindText.Pure := by
  intro a b c d e f g h ha hb hc hd he hf hg hh
  refine Ev.rounds ?_
  unfold laws_FnExactFindText.f
  obtain ⟨s, h1, h2⟩ := findText_ok a b c d e f g h (wf64 ha) (wf64 hd) (wf64 hf) (wf64 hg) (wf64 hh)
  exact ev_bindc rfl (ev_bind h2 (ev_bindc rfl (ev_bindc h1 (ev_itep rfl (ev_some rfl)))))
end Go.Proofs.YtihnanfekchlhaaDoor.Pure
