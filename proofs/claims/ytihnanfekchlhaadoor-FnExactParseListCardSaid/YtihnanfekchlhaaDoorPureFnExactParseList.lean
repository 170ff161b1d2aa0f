/- The pure statement of FnExactParseList. -/
import Derived.Test.YtihnanfekchlhaaDoorPrsLFnExactParseList
import Derived.Test.YtihnanfekchlhaaDoorEqIntSFnExactParseList
import Derived.Test.YtihnanfekchlhaaDoorMkIntSFnExactParseList
namespace Go.Proofs.YtihnanfekchlhaaDoor.Pure
open Go.RowKit Go.Proofs.YtihnanfekchlhaaDoor.PFnExactParseList Go.Proofs.YtihnanfekchlhaaDoorW.PrintWords Go.Proofs.YtihnanfekchlhaaDoorW.PrintLast Go.Proofs.YtihnanfekchlhaaDoor.EvLib
theorem bne_self (b : Bool) : (b != b) = false := by cases b <;> rfl
theorem FnExactParseList : laws_FnExactParseList.Pure := by
  intro s hs
  refine Ev.rounds ?_
  unfold laws_FnExactParseList.f
  refine ev_ite (fun _ => ev_some rfl) (fun c => ?_)
  have h1 := specPL_ev s (by omega)
  have h2 := implPL_ev s (by omega)
  have hz := Lib.size_eq s
  have hl := prsL_len2 s.data.toList
  generalize prsL s.data.toList = q at h1 h2 hl
  obtain ⟨r, b⟩ := q
  have he := eqIntS_ev r (by simp at hl; omega)
  refine ev_bind h1 (ev_bind h2 (ev_bind he (ev_itep rfl ?_)))
  rw [bne_self]
  refine ev_step (fun k => by simp only [laws_FnExactParseList.j0]; rfl) (ev_iten (by simp) ?_)
  have hr : r.length ≤ 1048576 := by simp at hl; omega
  refine ev_bind (markIntS_ev r hr) (ev_bind (heldIntS_ev r.length hr) (ev_iten (by omega) (ev_itep rfl (ev_bind h2 (ev_bind he (ev_itep rfl ?_))))))
  rw [bne_self]
  refine ev_step (fun k => by simp only [laws_FnExactParseList.j1]; rfl) (ev_iten (by simp) ?_)
  exact ev_bind (heldIntS_ev r.length hr) (ev_iten (by omega) (ev_itep rfl (ev_some rfl)))
end Go.Proofs.YtihnanfekchlhaaDoor.Pure
