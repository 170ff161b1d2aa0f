/- The pure statement of FnExactGroupReports. -/
import Derived.Test.YtglpmjcknhcjcaaGrpOFnExactGroupReports
import Derived.Test.YtglpmjcknhcjcaaMkIntSFnExactGroupReports
namespace Go.Proofs.Ytglpmjcknhcjcaa.Pure
open Go.RowKit Go.Proofs.Ytglpmjcknhcjcaa.PFnExactGroupReports Go.Proofs.YtglpmjcknhcjcaaW.PrintWords Go.Proofs.YtglpmjcknhcjcaaW.PrintLast Go.Proofs.Ytglpmjcknhcjcaa.EvLib
theorem FnExactGroupReports : laws_FnExactGroupReports.Pure := by
  intro l hw
  refine Ev.rounds ?_
  unfold laws_FnExactGroupReports.f
  obtain ⟨r, h1, h2⟩ := szReportS_ev l hw.1 (fun x hx => ⟨maxLen_le (hw.2 x hx).2.2.1.1, maxLen_le (hw.2 x hx).2.2.2.2.2.1.1⟩)
  refine ev_bind h1 (ev_ite (fun _ => ev_some rfl) (fun h => ?_))
  obtain ⟨hl, hk⟩ := h2 (by omega)
  have hm : (l.map cvReport).length ≤ 1048576 := by rw [List.length_map]; exact hl
  have hs := cvReport_small hk
  have cp := toReportS_ev l hl hk
  obtain ⟨g, g1, g2, g3⟩ := group_ok (l.map cvReport) ⟨hm, hs⟩
  have he := eqIntS_ev g g3
  have hq := up_ok (l.map cvReport) 1 hs hm (by omega) (by omega)
  have hh := heldIntS_ev g.length g3
  refine ev_bind cp (ev_bind g1 (ev_bind cp (ev_bind g2 (ev_bind he (ev_itep rfl (ev_bind cp (ev_bind (eqReportS_ev _ hm hs) (ev_itep rfl (ev_bindc (a := laws_markReportS.up (l.map cvReport) 1) rfl (ev_iten (by omega) (ev_bind he ?_)))))))))))
  refine ev_step (fun k => by simp only [laws_FnExactGroupReports.j0]; rfl) (ev_iten (by simp) ?_)
  refine ev_bind (markIntS_ev _ g3) (ev_bind hh (ev_iten (by omega) (ev_itep rfl ?_)))
  exact ev_bind cp (ev_bind g2 (ev_bind he (ev_itep rfl (ev_bind hh (ev_iten (by omega) (ev_itep rfl (ev_some rfl)))))))
end Go.Proofs.Ytglpmjcknhcjcaa.Pure
