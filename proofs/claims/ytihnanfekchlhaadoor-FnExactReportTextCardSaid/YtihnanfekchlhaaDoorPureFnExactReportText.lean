/- The pure statement of FnExactReportText. -/
import Derived.Test.YtihnanfekchlhaaDoorRepTFnExactReportText
import Derived.Test.YtihnanfekchlhaaDoorEqIntSFnExactReportText
namespace Go.Proofs.YtihnanfekchlhaaDoor.Pure
open Go.RowKit Go.Proofs.YtihnanfekchlhaaDoor.PFnExactReportText Go.Proofs.YtihnanfekchlhaaDoorW.PrintWords Go.Proofs.YtihnanfekchlhaaDoorW.PrintLast Go.Proofs.YtihnanfekchlhaaDoor.EvLib
theorem toIntS_ev (l : List Int) (hl : l.length ≤ 1048576) : Ev (fun k => laws_toIntS.f k l) l := by
  unfold laws_toIntS.f
  refine ev_itep (by omega) (ev_itep (by omega) ?_)
  have := ev_copy laws_toIntS.l0 id 0 0 (fun k x0 x3 x4 => by simp only [laws_toIntS.l0]; rfl) l hl
  rw [List.map_id] at this
  exact this
theorem toReport_ev (a b : Int) (l : List Int) (c d : Int) (m : List Int) (e f : Int) (hl : l.length ≤ 1048576) (hm : m.length ≤ 1048576) : Ev (fun k => laws_toReport.f k a b l c d m e f) (a, b, l, c, d, m, e, f) := by
  unfold laws_toReport.f
  exact ev_bind (toIntS_ev l hl) (ev_bind (toIntS_ev m hm) (ev_bindc rfl (ev_some rfl)))
theorem eqReport_ev (a b : Int) (l : List Int) (c d : Int) (m : List Int) (e f : Int) (hl : l.length ≤ 1048576) (hm : m.length ≤ 1048576) : Ev (fun k => laws_eqReport.f k a b l c d m e f a b l c d m e f) true := by
  unfold laws_eqReport.f
  refine ev_itep rfl (ev_itep rfl (ev_bind (eqIntS_ev l hl) (ev_itep rfl (ev_itep rfl (ev_itep rfl (ev_bind (eqIntS_ev m hm) (ev_itep rfl (ev_bindc (a := true) ?_ (ev_itep rfl (ev_some rfl))))))))))
  unfold laws_eqSpan.f
  rw [if_pos rfl, if_pos rfl]
theorem szIntS_some (l : List Int) (n : Int) : ∃ r, laws_szIntS.f l n = some r ∧ (0 ≤ r → r = wrap64 (n - (l.length : Int)) ∧ 0 ≤ wrap64 (n - (l.length : Int))) := by
  unfold laws_szIntS.f
  split
  · exact ⟨_, rfl, fun h => by omega⟩
  · exact ⟨_, rfl, fun h => ⟨rfl, by omega⟩⟩
theorem szReport_ok (a b : Int) (l : List Int) (c d : Int) (m : List Int) (e f : Int) (hl : l.length ≤ 9223372036854775807) (hm : m.length ≤ 9223372036854775807) :
    ∃ r, laws_szReport.f a b l c d m e f 1048576 = some r ∧ (¬ r < 0 → l.length ≤ 1048576 ∧ m.length ≤ 1048576) := by
  obtain ⟨r1, h1, g1⟩ := szIntS_some l 1048576
  obtain ⟨r2, h2, g2⟩ := szIntS_some m r1
  unfold laws_szReport.f
  simp only [h1, h2, Option.bind_some]
  by_cases c1 : r1 < 0
  · rw [if_pos c1]; exact ⟨_, rfl, fun h => absurd (by decide) h⟩
  · rw [if_neg c1]
    by_cases c2 : r2 < 0
    · rw [if_pos c2]; exact ⟨_, rfl, fun h => absurd (by decide) h⟩
    · rw [if_neg c2]
      refine ⟨_, rfl, fun _ => ?_⟩
      have k1 := g1 (by omega)
      have k2 := g2 (by omega)
      rw [wrap_id (by omega) (by omega)] at k1
      rw [wrap_id (by omega) (by omega)] at k2
      omega
theorem FnExactReportText : laws_FnExactReportText.Pure := by
  intro a b l c d m e f ha hb hl hc hd hm he hf
  refine Ev.rounds ?_
  unfold laws_FnExactReportText.f
  obtain ⟨r, hr, hr2⟩ := szReport_ok a b l c d m e f (maxLen_le hl.1) (maxLen_le hm.1)
  refine ev_bindc hr (ev_ite (fun _ => ev_some rfl) (fun cc => ?_))
  obtain ⟨hl1, hm1⟩ := hr2 cc
  have ht := toReport_ev a b l c d m e f hl1 hm1
  obtain ⟨s, h1, h2⟩ := reportText_ok a b l c d m e f (by omega) (by omega) (wf64 ha) (fun y hy => wf64 (hl.2 y hy)) (wf64 hc) (wf64 hd) (fun y hy => wf64 (hm.2 y hy)) (wf64 he) (wf64 hf)
  exact ev_bind ht (ev_bind h2 (ev_bind ht (ev_bind h1 (ev_itep rfl (ev_bind ht (ev_bind (eqReport_ev a b l c d m e f hl1 hm1) (ev_itep rfl (ev_some rfl))))))))
end Go.Proofs.YtihnanfekchlhaaDoor.Pure
