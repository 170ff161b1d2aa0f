/- ListText of the program. -/
import Derived.Test.YtihnanfekchlhaaDoorFmtIFnExactParseReport
import Derived.Test.YtihnanfekchlhaaDoorLstSFnExactParseReport
namespace Go.Proofs.YtihnanfekchlhaaDoor.PFnExactParseReport
open Go.RowKit Go.Proofs.YtihnanfekchlhaaDoorW.PrintWords Go.Proofs.YtihnanfekchlhaaDoorW.PrintLast Go.Proofs.YtihnanfekchlhaaDoor.EvLib
theorem implList_l0 (l : List Int) (hl : l.length ≤ 2097152) (hb : I64s l) (h0 : l.length ≠ 0) : ∀ d i : Nat, i + d = l.length →
    Ev (fun k => impl_ListText.l0 k ((l.take i).map fmtI) l (l.length : Int) (i : Int)) (bs (lstB l)) := by
  intro d
  induction d with
  | zero =>
    intro i hi
    refine ev_step (fun k => by simp only [impl_ListText.l0]; rfl) (ev_iten (by omega) ?_)
    rw [List.take_of_length_le (by omega)]
    have e : ((l.map fmtI).map (·.data.toList)) = l.map Lib.itoa := by
      rw [List.map_map]; congr 1
    have hz := join_itoa_len l hb
    refine ev_bindc (a := bs (lstB l)) ?_ (ev_some rfl)
    unfold strings_Join.f
    rw [e, show (⟨#[44]⟩ : ByteArray).data.toList = [44] from rfl, if_pos ⟨by rw [List.length_map]; omega, by omega⟩]
    unfold lstB bs
    rw [if_neg h0]
  | succ d ih =>
    intro i hi
    have hr := ih (i + 1) (by omega)
    have hm : l[i]'(by omega) ∈ l := List.getElem_mem _
    have e : (l.take (i + 1)).map fmtI = (l.take i).map fmtI ++ [fmtI (l[i]'(by omega))] := by
      rw [List.take_succ_eq_append_getElem (by omega), List.map_append]; rfl
    have hw : wrap64 ((i : Int) + 1) = ((i + 1 : Nat) : Int) := by rw [wrap_id (by omega) (by omega)]; omega
    rw [e] at hr
    refine ev_step (fun k => by simp only [impl_ListText.l0]; rfl) (ev_itep (by omega) ?_)
    rw [rd_at l i (by omega), hw]
    refine ev_itep (by omega) (ev_itep (by omega) (ev_bindc (implFormat_eq _ (hb _ hm).1 (hb _ hm).2) ?_))
    exact ev_itep (by rw [List.length_map, List.length_take]; omega) hr
theorem implList_ev (l : List Int) (hl : l.length ≤ 2097152) (hb : I64s l) : Ev (fun k => impl_ListText.f k l) (bs (lstB l)) := by
  unfold impl_ListText.f
  refine ev_ite (fun c => ev_some ?_) (fun c => ?_)
  · unfold lstB; rw [if_pos (by omega)]; rfl
  · exact implList_l0 l hl hb (by omega) l.length 0 (by omega)
end Go.Proofs.YtihnanfekchlhaaDoor.PFnExactParseReport
