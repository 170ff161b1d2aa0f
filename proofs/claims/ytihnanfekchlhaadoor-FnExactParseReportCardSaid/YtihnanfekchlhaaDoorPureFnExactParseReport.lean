/- The pure statement of FnExactParseReport. -/
import Derived.Test.YtihnanfekchlhaaDoorPrsRFnExactParseReport
import Derived.Test.YtihnanfekchlhaaDoorEqIntSFnExactParseReport
import Derived.Test.YtihnanfekchlhaaDoorMkIntRFnExactParseReport
namespace Go.Proofs.YtihnanfekchlhaaDoor.Pure
open Go.RowKit Go.Proofs.YtihnanfekchlhaaDoor.PFnExactParseReport Go.Proofs.YtihnanfekchlhaaDoorW.PrintWords Go.Proofs.YtihnanfekchlhaaDoorW.PrintLast Go.Proofs.YtihnanfekchlhaaDoor.EvLib
theorem bne_self (b : Bool) : (b != b) = false := by cases b <;> rfl
theorem eqReport_ev (a b : Int) (l : List Int) (c d : Int) (m : List Int) (e f : Int) (hl : l.length ≤ 1048576) (hm : m.length ≤ 1048576) : Ev (fun k => laws_eqReport.f k a b l c d m e f a b l c d m e f) true := by
  unfold laws_eqReport.f
  refine ev_itep rfl (ev_itep rfl (ev_bind (eqIntS_ev l hl) (ev_itep rfl (ev_itep rfl (ev_itep rfl (ev_bind (eqIntS_ev m hm) (ev_itep rfl (ev_bindc (a := true) ?_ (ev_itep rfl (ev_some rfl))))))))))
  unfold laws_eqSpan.f
  rw [if_pos rfl, if_pos rfl]
theorem markReport_ev (a b : Int) (l : List Int) (c d : Int) (m : List Int) (e f : Int) (hl : l.length ≤ 1048576) (hm : m.length ≤ 1048576) :
    Ev (fun k => laws_markReport.f k a b l c d m e f 1) (1 + (l.length : Int) + (m.length : Int), markedInt l.length 1, markedInt m.length (1 + (l.length : Int))) := by
  unfold laws_markReport.f
  exact ev_bind (markIntS_ev l hl 1 (by omega) (by omega)) (ev_bind (markIntS_ev m hm (1 + (l.length : Int)) (by omega) (by omega)) (ev_some rfl))
theorem heldReport_ev (a b : Int) (n : Nat) (c d : Int) (n2 : Nat) (e f : Int) (hl : n ≤ 1048576) (hm : n2 ≤ 1048576) :
    Ev (fun k => laws_heldReport.f k a b (markedInt n 1) c d (markedInt n2 (1 + (n : Int))) e f 1) (1 + (n : Int) + (n2 : Int)) := by
  unfold laws_heldReport.f
  exact ev_bind (heldIntS_ev n hl 1 (by omega) (by omega)) (ev_iten (by omega) (ev_bind (heldIntS_ev n2 hm (1 + (n : Int)) (by omega) (by omega)) (ev_iten (by omega) (ev_some rfl))))
theorem FnExactParseReport : laws_FnExactParseReport.Pure := by
  intro s hs
  refine Ev.rounds ?_
  unfold laws_FnExactParseReport.f
  refine ev_ite (fun _ => ev_some rfl) (fun c => ?_)
  obtain ⟨⟨a, b, l, c1, d, m, e, f, fl⟩, h1, h2, hl, hm⟩ := parseReport_ok s (by omega)
  simp only at hl hm
  have he := eqReport_ev a b l c1 d m e f hl hm
  have hh := heldReport_ev a b l.length c1 d m.length e f hl hm
  refine ev_bind h2 (ev_bind h1 (ev_bind he (ev_itep rfl ?_)))
  simp only [bne_self]
  refine ev_step (fun k => by simp only [laws_FnExactParseReport.j0]; rfl) (ev_iten (by simp) ?_)
  refine ev_bind (markReport_ev a b l c1 d m e f hl hm) (ev_bind hh (ev_iten (by omega) (ev_itep rfl (ev_bind h1 (ev_bind he (ev_itep rfl ?_))))))
  simp only [bne_self]
  refine ev_step (fun k => by simp only [laws_FnExactParseReport.j1]; rfl) (ev_iten (by simp) ?_)
  exact ev_bind hh (ev_iten (by omega) (ev_itep rfl (ev_some rfl)))
end Go.Proofs.YtihnanfekchlhaaDoor.Pure
