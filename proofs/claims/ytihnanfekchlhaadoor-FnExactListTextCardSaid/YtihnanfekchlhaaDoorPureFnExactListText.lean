/- The pure statement of FnExactListText. -/
import Derived.Test.YtihnanfekchlhaaDoorLstIFnExactListText
import Derived.Test.YtihnanfekchlhaaDoorEqIntSFnExactListText
namespace Go.Proofs.YtihnanfekchlhaaDoor.Pure
open Go.RowKit Go.Proofs.YtihnanfekchlhaaDoor.PFnExactListText Go.Proofs.YtihnanfekchlhaaDoorW.PrintWords Go.Proofs.YtihnanfekchlhaaDoorW.PrintLast Go.Proofs.YtihnanfekchlhaaDoor.EvLib
theorem toIntS_ev (l : List Int) (hl : l.length ≤ 1048576) : Ev (fun k => laws_toIntS.f k l) l := by
  unfold laws_toIntS.f
  refine ev_itep (by omega) (ev_itep (by omega) ?_)
  have := ev_copy laws_toIntS.l0 id 0 0 (fun k x0 x3 x4 => by simp only [laws_toIntS.l0]; rfl) l hl
  rw [List.map_id] at this
  exact this
theorem FnExactListText : laws_FnExactListText.Pure := by
  intro l hl
  refine Ev.rounds ?_
  unfold laws_FnExactListText.f
  refine ev_ite (fun _ => ev_some rfl) (fun c => ?_)
  have hb : I64s l := fun y hy => wf64 (hl.2 y hy)
  have hn : l.length ≤ 1048576 := by omega
  have ht := toIntS_ev l hn
  exact ev_bind ht (ev_bind (specList_ev l hn hb) (ev_bind ht (ev_bind (implList_ev l hn hb) (ev_itep rfl (ev_bind ht (ev_bind (eqIntS_ev l hn) (ev_itep rfl (ev_some rfl))))))))
end Go.Proofs.YtihnanfekchlhaaDoor.Pure
