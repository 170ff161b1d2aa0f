/- ReportText of the program and of the reference. -/
import Derived.Test.YtihnanfekchlhaaDoorLstIFnExactParseReport
import Derived.Test.YtihnanfekchlhaaDoorRepIFnExactParseReport
import Derived.Test.YtihnanfekchlhaaDoorKndTFnExactParseReport
namespace Go.Proofs.YtihnanfekchlhaaDoor.PFnExactParseReport
open Go.RowKit Go.Proofs.YtihnanfekchlhaaDoorW.PrintWords Go.Proofs.YtihnanfekchlhaaDoorW.PrintLast Go.Proofs.YtihnanfekchlhaaDoor.EvLib
def I64 (n : Int) : Prop := -9223372036854775808 ≤ n ∧ n ≤ 9223372036854775807
theorem lst_size (l : List Int) (h : I64s l) : (bs (lstB l)).size ≤ 22 * l.length + 1 := by
  rw [bs_size]
  unfold lstB
  split
  · simp
  · have := join_itoa_len l h; omega
def pairB (a b : Int) : List UInt8 := Lib.itoa a ++ [45] ++ Lib.itoa b
theorem pairB_bs (a b : Int) : fmtI a ++ ⟨#[45]⟩ ++ fmtI b = bs (pairB a b) := by
  unfold fmtI pairB
  rw [show (⟨#[45]⟩ : ByteArray) = bs [45] from rfl, bs_app, bs_app]
theorem d_size : (⟨#[45]⟩ : ByteArray).size = 1 := rfl
theorem s_size : (⟨#[32]⟩ : ByteArray).size = 1 := rfl
theorem pair_ok (a b : Int) (ha : I64 a) (hb : I64 b) : impl_pairText.f a b = some (bs (pairB a b)) := by
  have za := fmt_size a ha.1 ha.2
  have zb := fmt_size b hb.1 hb.2
  unfold impl_pairText.f
  simp only [implFormat_eq a ha.1 ha.2, implFormat_eq b hb.1 hb.2, Option.bind_some]
  rw [if_pos (by omega), if_pos (by simp only [ByteArray.size_append, d_size]; omega), pairB_bs]
/-- The text of a report that is one. -/
def repB (a : Int) (kt : List UInt8) (l : List Int) (c d : Int) (m : List Int) (e f : Int) : List UInt8 :=
  Lib.join [Lib.itoa a, kt, lstB l, pairB c d, lstB m, pairB e f] [32]
theorem repB_cat (a : Int) (kt : List UInt8) (l : List Int) (c d : Int) (m : List Int) (e f : Int) :
    fmtI a ++ ⟨#[32]⟩ ++ bs kt ++ ⟨#[32]⟩ ++ bs (lstB l) ++ ⟨#[32]⟩ ++ fmtI c ++ ⟨#[45]⟩ ++ fmtI d ++ ⟨#[32]⟩ ++ bs (lstB m) ++ ⟨#[32]⟩ ++ fmtI e ++ ⟨#[45]⟩ ++ fmtI f = bs (repB a kt l c d m e f) := by
  unfold fmtI repB pairB
  rw [show (⟨#[32]⟩ : ByteArray) = bs [32] from rfl, show (⟨#[45]⟩ : ByteArray) = bs [45] from rfl]
  simp only [bs_app]
  congr 1
  rw [Lib.join_cons]
  simp [Lib.joinTail]
theorem reportText_ok (a b : Int) (l : List Int) (c d : Int) (m : List Int) (e f : Int) (hl : l.length ≤ 2097152) (hm : m.length ≤ 2097152)
    (ha : I64 a) (hbl : I64s l) (hc : I64 c) (hd : I64 d) (hbm : I64s m) (he : I64 e) (hf : I64 f) :
    ∃ s, Ev (fun k => impl_ReportText.f k a b l c d m e f) s ∧ Ev (fun k => spec_ReportText.f k a b l c d m e f) s := by
  obtain ⟨q, hq1, hq2, hq3⟩ := isReport_ok a b l c d m e f hl hm
  obtain ⟨kt, hk1, hk2, hk3⟩ := kind_ok b
  have za := fmt_size a ha.1 ha.2
  have zc := fmt_size c hc.1 hc.2
  have zd := fmt_size d hd.1 hd.2
  have ze := fmt_size e he.1 he.2
  have zf := fmt_size f hf.1 hf.2
  have ea := specFormat_ev a ha.1 ha.2
  have ec := specFormat_ev c hc.1 hc.2
  have ed := specFormat_ev d hd.1 hd.2
  have ee := specFormat_ev e he.1 he.2
  have ef := specFormat_ev f hf.1 hf.2
  have zl := lst_size l hbl
  have zm := lst_size m hbm
  have el := specList_ev l hl hbl
  have em := specList_ev m hm hbm
  have il := implList_ev l hl hbl
  have im := implList_ev m hm hbm
  have hcat := repB_cat a kt.data.toList l c d m e f
  have hkt : bs kt.data.toList = kt := (bs_of kt).symm
  rw [hkt] at hcat
  have zr := congrArg ByteArray.size hcat
  simp only [ByteArray.size_append, s_size, d_size] at zr
  have zr2 := bs_size (repB a kt.data.toList l c d m e f)
  unfold impl_ReportText.f spec_ReportText.f
  cases q with
  | false => exact ⟨_, ev_bind hq1 (ev_iten (by simp) (ev_some rfl)), ev_bind hq2 (ev_iten (by simp) (ev_some rfl))⟩
  | true =>
    refine ⟨bs (repB a kt.data.toList l c d m e f), ?_, ?_⟩
    · refine ev_bind hq1 (ev_itep rfl (ev_bindc (implFormat_eq a ha.1 ha.2) (ev_bindc hk1 (ev_bind il (ev_bindc (pair_ok c d hc hd) (ev_bind im (ev_bindc (pair_ok e f he hf) (ev_bindc (a := bs (repB a kt.data.toList l c d m e f)) ?_ (ev_some rfl)))))))))
      unfold strings_Join.f
      have e1 : ([fmtI a, kt, bs (lstB l), bs (pairB c d), bs (lstB m), bs (pairB e f)].map (·.data.toList)) = [Lib.itoa a, kt.data.toList, lstB l, pairB c d, lstB m, pairB e f] := rfl
      rw [e1, show (⟨#[32]⟩ : ByteArray).data.toList = [32] from rfl]
      exact if_pos ⟨by simp, by show (repB a kt.data.toList l c d m e f).length ≤ _; omega⟩
    · rw [← hcat]
      refine ev_bind hq2 (ev_itep rfl (ev_bind ea (ev_itep ?_ (ev_bindc hk2 (ev_itep ?_ (ev_itep ?_ (ev_bind el (ev_itep ?_ (ev_itep ?_ (ev_bind ec (ev_itep ?_ (ev_itep ?_ (ev_bind ed (ev_itep ?_ (ev_itep ?_ (ev_bind em (ev_itep ?_ (ev_itep ?_ (ev_bind ee (ev_itep ?_ (ev_itep ?_ (ev_bind ef (ev_itep ?_ (ev_some rfl)))))))))))))))))))))))) <;> first | omega | (simp only [ByteArray.size_append, s_size, d_size]; omega)
end Go.Proofs.YtihnanfekchlhaaDoor.PFnExactParseReport
