/- The pure statement of FnForms. -/
import Derived.Test.YtihnanfekchlhaaDoorFrmAllFnForms
namespace Go.Proofs.YtihnanfekchlhaaDoor.PFnForms
open Go.RowKit Go.Proofs.YtihnanfekchlhaaDoorW.PrintWords Go.Proofs.YtihnanfekchlhaaDoorW.PrintLast Go.Proofs.YtihnanfekchlhaaDoor.EvLib
theorem rep_size (a b : Int) (l : List Int) (c d : Int) (m : List Int) (e f : Int) (ha : I64 a) (hl : l.length ≤ 10 ∧ I64s l) (hc : I64 c) (hd : I64 d) (hm : m.length ≤ 10 ∧ I64s m) (he : I64 e) (hf : I64 f) : (bs (repB a (kt b).data.toList l c d m e f)).size ≤ 1000 := by
  have za := fmt_size a ha.1 ha.2
  have zc := fmt_size c hc.1 hc.2
  have zd := fmt_size d hd.1 hd.2
  have ze := fmt_size e he.1 he.2
  have zf := fmt_size f hf.1 hf.2
  have zl := lst_size l hl.2
  have zm := lst_size m hm.2
  have hk3 : (kt b).size ≤ 8 := by
    obtain ⟨s, h1, _, h3⟩ := kind_ok b
    rw [kt_eq] at h1
    rw [Option.some.inj h1]; exact h3
  have hcat := repB_cat a (kt b).data.toList l c d m e f
  have hkt : bs (kt b).data.toList = kt b := (bs_of (kt b)).symm
  rw [hkt] at hcat
  have zr := congrArg ByteArray.size hcat
  simp only [ByteArray.size_append, s_size, d_size] at zr
  omega
theorem drawReport_ok (s : List Int) (hs : s.length ≤ 1048576) : ∃ a b l c d m e f, Ev (fun k => spec_DrawReportText.f k s) (a, b, l, c, d, m, e, f) ∧ I64 a ∧ I64 b ∧ (l.length ≤ 10 ∧ I64s l) ∧ I64 c ∧ I64 d ∧ (m.length ≤ 10 ∧ I64s m) ∧ I64 e ∧ I64 f := by
  unfold spec_DrawReportText.f spec_DrawIsReport.f
  obtain ⟨h0, e0⟩ := new_ok s hs
  obtain ⟨a, b, l, c, d, m, e, f, p', h', e1, _, g⟩ := any7_ok s hs 0 h0 (by omega)
  exact ⟨a, b, l, c, d, m, e, f, ev_bind (ev_bind e0 (ev_bind e1 (ev_some rfl))) (ev_some rfl), g⟩
theorem drawParseReport_ok (s : List Int) (hs : s.length ≤ 1048576) : ∃ t, Ev (fun k => spec_DrawParseReport.f k s) t ∧ t.size ≤ 1048576 := by
  unfold spec_DrawParseReport.f
  obtain ⟨h0, e0⟩ := new_ok s hs
  obtain ⟨a, b, l, c, d, m, e, f, p', h', e1, hp, ha, hb, hl, hc, hd, hm, he, hf⟩ := any7_ok s hs 0 h0 (by omega)
  obtain ⟨q, hq, _⟩ := isRep_ok a b l c d m e f (by omega) (by omega)
  have ht := repText_ev a b l c d m e f (by omega) (by omega) ha hl.2 hc hd hm.2 he hf q hq
  obtain ⟨t, t1, t2⟩ := reportText_ok a b l c d m e f (by omega) (by omega) ha hl.2 hc hd hm.2 he hf
  have hz : t.size ≤ 1000 := by
    have := ev_same t1 ht
    rw [this]
    split
    · exact rep_size a b l c d m e f ha hl hc hd hm he hf
    · show 0 ≤ 1000; omega
  obtain ⟨x, p2, h2, e2, _, hx⟩ := str_ok s hs p' h' hp ([t, t, t, t ++ (⟨#[32]⟩ : ByteArray), (⟨#[55, 32, 98, 97, 103, 32, 50, 44, 51, 32, 52, 45, 57, 32, 45, 32, 50, 48, 45, 51, 49]⟩ : ByteArray), (⟨#[55, 32, 98, 97, 103, 32, 51, 44, 50, 32, 52, 45, 57, 32, 45, 32, 50, 48, 45, 51, 49]⟩ : ByteArray), (⟨#[55, 32, 98, 97, 103, 32, 45, 32, 57, 45, 52, 32, 45, 32, 50, 48, 45, 51, 49]⟩ : ByteArray), (⟨#[55, 32, 98, 111, 120, 32, 45, 32, 52, 45, 57, 32, 45, 32, 50, 48, 45, 51, 49]⟩ : ByteArray), (⟨#[55, 32, 98, 97, 103, 32, 45, 32, 52, 45, 57, 32, 45, 32, 50, 48]⟩ : ByteArray), (⟨#[]⟩ : ByteArray), (⟨#[48, 55, 32, 98, 97, 103, 32, 45, 32, 52, 45, 57, 32, 45, 32, 50, 48, 45, 51, 49]⟩ : ByteArray), (⟨#[55, 32, 98, 97, 103, 32, 45, 32, 52, 45, 57, 32, 48, 32, 50, 48, 45, 51, 49]⟩ : ByteArray), (⟨#[55, 32, 32, 98, 97, 103, 32, 45, 32, 52, 45, 57, 32, 45, 32, 50, 48, 45, 51, 49]⟩ : ByteArray)] : List ByteArray) (by simp)
  refine ⟨x, ev_bind e0 (ev_bind e1 (ev_bind t2 (ev_itep (by omega) (ev_bindc e2 (ev_some rfl))))), ?_⟩
  simp only [List.mem_cons, List.mem_nil_iff, or_false] at hx
  have z1 : (⟨#[32]⟩ : ByteArray).size = 1 := rfl
  rcases hx with rfl | rfl | rfl | rfl | rfl | rfl | rfl | rfl | rfl | rfl | rfl | rfl | rfl
  · omega
  · omega
  · omega
  · rw [ByteArray.size_append, z1]; omega
  all_goals decide
theorem drawList_ok (s : List Int) (hs : s.length ≤ 1048576) : ∃ l, Ev (fun k => spec_DrawListText.f k s) l ∧ l.length ≤ 10 ∧ ∀ v ∈ l, 0 ≤ v ∧ v ≤ 9 := by
  unfold spec_DrawListText.f
  obtain ⟨h0, e0⟩ := new_ok s hs
  obtain ⟨l, p, h, e1, _, g⟩ := some7_ok s hs 0 9 3 (by omega) (by omega) (by omega) 0 h0 (by omega)
  exact ⟨l, ev_bind e0 (ev_bind e1 (ev_some rfl)), g⟩
theorem drawParseList_ok (s : List Int) (hs : s.length ≤ 1048576) : ∃ t, Ev (fun k => spec_DrawParseList.f k s) t ∧ t.size ≤ 1048576 := by
  unfold spec_DrawParseList.f
  obtain ⟨h0, e0⟩ := new_ok s hs
  obtain ⟨l, p, h, e1, hp, g1, g2⟩ := some7_ok s hs 0 9 3 (by omega) (by omega) (by omega) 0 h0 (by omega)
  have hl64 : I64s l := fun v hv => by have := g2 v hv; omega
  have e2 := specList_ev l (by omega) hl64
  have hz := lst_size l hl64
  obtain ⟨x, p2, h2, e3, _, hx⟩ := str_ok s hs p h hp ([bs (lstB l), bs (lstB l), bs (lstB l) ++ (⟨#[44]⟩ : ByteArray), (⟨#[45, 49, 44, 53]⟩ : ByteArray), (⟨#[]⟩ : ByteArray), (⟨#[49, 44, 44, 50]⟩ : ByteArray), (⟨#[48, 49]⟩ : ByteArray), (⟨#[97]⟩ : ByteArray), (⟨#[49, 32, 44, 50]⟩ : ByteArray), (⟨#[45, 44, 45]⟩ : ByteArray)] : List ByteArray) (by simp)
  refine ⟨x, ev_bind e0 (ev_bind e1 (ev_bind e2 (ev_itep (by omega) (ev_bindc e3 (ev_some rfl))))), ?_⟩
  simp only [List.mem_cons, List.mem_nil_iff, or_false] at hx
  have z1 : (⟨#[44]⟩ : ByteArray).size = 1 := rfl
  rcases hx with rfl | rfl | rfl | rfl | rfl | rfl | rfl | rfl | rfl | rfl
  · omega
  · omega
  · rw [ByteArray.size_append, z1]; omega
  all_goals decide
theorem drawKind_ok (s : List Int) (hs : s.length ≤ 1048576) : ∃ t, Ev (fun k => spec_DrawKindOf.f k s) t := by
  unfold spec_DrawKindOf.f
  obtain ⟨h0, e0⟩ := new_ok s hs
  obtain ⟨x, p, h, e1, hp, _⟩ := below_ok s hs 0 h0 (by omega) 8
  obtain ⟨t, _, t2, _⟩ := kind_ok (wrap64 (1 + x))
  obtain ⟨y, p2, h2, e3, _⟩ := str_ok s hs p h hp ([t, (⟨#[]⟩ : ByteArray), (⟨#[66, 97, 103]⟩ : ByteArray), (⟨#[98, 111, 120]⟩ : ByteArray)] : List ByteArray) (by simp)
  exact ⟨y, ev_bind e0 (ev_bindc e1 (ev_bindc t2 (ev_bindc e3 (ev_some rfl))))⟩
theorem drawFind_ok (s : List Int) (hs : s.length ≤ 1048576) : ∃ a b c d e f g i, Ev (fun k => spec_DrawFindText.f k s) (a, b, c, d, e, f, g, i) := by
  unfold spec_DrawFindText.f spec_DrawIsFind.f
  obtain ⟨h0, e0⟩ := new_ok s hs
  obtain ⟨a, b, c, d, e, f, g, i, p, h, e1, _⟩ := one6_ok s hs 0 h0 (by omega)
  exact ⟨a, b, c, d, e, f, g, i, ev_bind (ev_bind e0 (ev_bind e1 (ev_some rfl))) (ev_some rfl)⟩
theorem find_end (a b c d e f g i : Int) : Ev (fun _ : Nat => (impl_IsFind.f a b c d e f g i).bind fun t => ((impl_FindText.f a b c d e f g i).bind fun u => (some (t == (u.toList != ([] : List UInt8)))))) true := by
  obtain ⟨t, h1, h2⟩ := findText_in a b c d e f g i
  exact ev_bindc (implIsFind_eq _ _ _ _ _ _ _ _) (ev_bindc h1 (ev_some h2))
theorem j2_ok (s : List Int) (hs : s.length ≤ 1048576) : Ev (fun k => laws_FnForms.j2 k s false) true := by
  obtain ⟨t, e1, hz⟩ := drawParseList_ok s hs
  obtain ⟨n, e3⟩ := drawKind_ok s hs
  obtain ⟨a, b, c, d, e, f, g, i, e4⟩ := drawFind_ok s hs
  obtain ⟨q, e5, hq⟩ := kindOf_in n
  have e2 := implPL_ev t (by omega)
  have hf := find_end a b c d e f g i
  refine ev_step (fun k => by simp only [laws_FnForms.j2]; rfl) (ev_iten (by simp) (ev_bind e1 (ev_bind e2 (ev_bind e3 (ev_bind e4 ?_)))))
  refine ev_ite (fun c1 => ?_) (fun c1 => ?_)
  · have h64 := prsL_in _ c1
    have hn := prsL_len2 t.data.toList
    have hsz := Lib.size_eq t
    have e6 := implList_ev (prsL t.data.toList).1 (by omega) h64
    rw [lst_of_prs _ c1, ← bs_of] at e6
    refine ev_bind e6 (ev_itep rfl (ev_bind e5 (ev_ite (fun _ => hf) (fun c2 => ?_))))
    refine ev_bind e5 (ev_bindc (kt_eq q) (ev_itep ?_ hf))
    rcases hq with h | h
    · exact absurd h c2
    · exact h.2.2
  · refine ev_bind e5 (ev_ite (fun _ => hf) (fun c2 => ?_))
    refine ev_bind e5 (ev_bindc (kt_eq q) (ev_itep ?_ hf))
    rcases hq with h | h
    · exact absurd h c2
    · exact h.2.2
theorem j1_ok (s : List Int) (hs : s.length ≤ 1048576) : Ev (fun k => laws_FnForms.j1 k s false) true := by
  obtain ⟨l, e1, g1, g2⟩ := drawList_ok s hs
  have hl64 : I64s l := fun v hv => by have := g2 v hv; omega
  have e2 := implList_ev l (by omega) hl64
  have hz := lst_size l hl64
  have e3 := implPL_ev (bs (lstB l)) (by omega)
  rw [bs_data, prsL_of l (fun v hv => by have := g2 v hv; omega)] at e3
  exact ev_step (fun k => by simp only [laws_FnForms.j1]; rfl) (ev_iten (by simp) (ev_bind e1 (ev_bind e2 (ev_bind e3 (ev_itep rfl (ev_bind (sameInts_self l (by omega)) (j2_ok s hs)))))))
theorem j0_ok (s : List Int) (hs : s.length ≤ 1048576) : Ev (fun k => laws_FnForms.j0 k s false) true := by
  obtain ⟨t, e1, hz⟩ := drawParseReport_ok s hs
  obtain ⟨r, e2, hr⟩ := parseReport_in t hz
  refine ev_step (fun k => by simp only [laws_FnForms.j0]; rfl) (ev_iten (by simp) (ev_bind e1 (ev_bind e2 (ev_ite (fun c => ?_) (fun _ => j1_ok s hs)))))
  obtain ⟨u, h1, h2⟩ := hr c
  refine ev_bind h1 ?_
  have e : (u.toList != t.toList) = false := by rw [h2]; simp
  show Ev (fun k => laws_FnForms.j1 k s (u.toList != t.toList)) true
  rw [e]
  exact j1_ok s hs
end Go.Proofs.YtihnanfekchlhaaDoor.PFnForms
namespace Go.Proofs.YtihnanfekchlhaaDoor.Pure
open Go.RowKit Go.Proofs.YtihnanfekchlhaaDoor.PFnForms Go.Proofs.YtihnanfekchlhaaDoorW.PrintWords Go.Proofs.YtihnanfekchlhaaDoorW.PrintLast Go.Proofs.YtihnanfekchlhaaDoor.EvLib
theorem FnForms : laws_FnForms.Pure := by
  intro s _
  refine Ev.rounds ?_
  unfold laws_FnForms.f laws_big.f
  refine ev_bindc rfl (ev_ite (fun _ => ev_some rfl) (fun g => ?_))
  have hs : s.length ≤ 1048576 := by
    have := of_decide_eq_false (Bool.eq_false_iff.mpr g)
    omega
  obtain ⟨a, b, l, c, d, m, e, f, e1, ha, hb, hl, hc, hd, hm, he, hf⟩ := drawReport_ok s hs
  obtain ⟨q, hq, hin⟩ := isRep_ok a b l c d m e f (by omega) (by omega)
  have ht := repText_ev a b l c d m e f (by omega) (by omega) ha hl.2 hc hd hm.2 he hf q hq
  have j := j0_ok s hs
  cases q with
  | true =>
    rw [if_pos rfl] at ht
    have hp := parse_of a b l c d m e f (by omega) (by omega) (hin rfl) hq
    exact ev_bind e1 (ev_bind ht (ev_bind hp (ev_bind hq (ev_iten (by simp) (ev_itep rfl (ev_bind (equalReports_self a b l c d m e f (by omega) (by omega)) j))))))
  | false =>
    rw [if_neg (by decide)] at ht
    exact ev_bind e1 (ev_bind ht (ev_bind parse_empty (ev_bind hq (ev_iten (by simp) (ev_iten (by simp) j)))))
end Go.Proofs.YtihnanfekchlhaaDoor.Pure
