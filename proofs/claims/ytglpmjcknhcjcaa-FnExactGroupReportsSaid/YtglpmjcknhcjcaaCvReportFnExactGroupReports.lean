/- Lists of Report: sizes, copies, comparison, marks. -/
import Derived.Test.YtglpmjcknhcjcaaEvMoreFnExactGroupReports
import Derived.Test.YtglpmjcknhcjcaaEqIntSFnExactGroupReports
namespace Go.Proofs.Ytglpmjcknhcjcaa.PFnExactGroupReports
open Go.RowKit Go.Proofs.YtglpmjcknhcjcaaW.PrintWords Go.Proofs.YtglpmjcknhcjcaaW.PrintLast Go.Proofs.Ytglpmjcknhcjcaa.EvLib
abbrev LReport := S36
abbrev IReport := S41
def cvReport (x : LReport) : IReport := ⟨x.f0, x.f1, x.f2, x.f3, x.f4, x.f5, ⟨x.f6.f0, x.f6.f1⟩⟩
theorem toIntS_ev (l : List Int) (hl : l.length ≤ 1048576) : Ev (fun k => laws_toIntS.f k l) l := by
  unfold laws_toIntS.f
  refine ev_itep (by omega) (ev_itep (by omega) ?_)
  have := ev_copy laws_toIntS.l0 id 0 0 (fun k x0 x3 x4 => by simp only [laws_toIntS.l0]; rfl) l hl
  rw [List.map_id] at this
  exact this
theorem toReport_ev (a b : Int) (l : List Int) (c d : Int) (m : List Int) (e f : Int) (hl : l.length ≤ 1048576) (hm : m.length ≤ 1048576) : Ev (fun k => laws_toReport.f k a b l c d m e f) (a, b, l, c, d, m, e, f) := by
  unfold laws_toReport.f
  exact ev_bind (toIntS_ev l hl) (ev_bind (toIntS_ev m hm) (ev_bindc rfl (ev_some rfl)))
theorem eqReport_ev (a b : Int) (l : List Int) (c d : Int) (m : List Int) (e f : Int) (hl : l.length ≤ 1048576) (hm : m.length ≤ 1048576) : Ev (fun k => laws_eqReport.f k a b l c d m e f a b l c d m e f) true := by
  unfold laws_eqReport.f
  refine ev_itep rfl (ev_itep rfl (ev_bind (eqIntS_ev l hl) (ev_itep rfl (ev_itep rfl (ev_itep rfl (ev_bind (eqIntS_ev m hm) (ev_itep rfl (ev_bindc (a := true) ?_ (ev_itep rfl (ev_some rfl))))))))))
  unfold laws_eqSpan.f
  rw [if_pos rfl, if_pos rfl]
theorem szIntS_some (l : List Int) (n : Int) (hl : l.length ≤ 9223372036854775807) (h0 : 0 ≤ n) (h1 : n ≤ 1048576) : ∃ r, laws_szIntS.f l n = some r ∧ (0 ≤ r → (l.length : Int) ≤ n ∧ r ≤ n) := by
  unfold laws_szIntS.f
  rw [wrap_id (by omega) (by omega)]
  split
  · exact ⟨_, rfl, fun h => by omega⟩
  · exact ⟨_, rfl, fun h => by omega⟩
theorem szReport_ok (a b : Int) (l : List Int) (c d : Int) (m : List Int) (e f : Int) (n : Int) (hl : l.length ≤ 9223372036854775807) (hm : m.length ≤ 9223372036854775807) (h0 : 0 ≤ n) (h1 : n ≤ 1048576) :
    ∃ r, laws_szReport.f a b l c d m e f n = some r ∧ (¬ r < 0 → l.length ≤ 1048576 ∧ m.length ≤ 1048576 ∧ r ≤ n) := by
  obtain ⟨r1, h1', g1⟩ := szIntS_some l n hl h0 h1
  unfold laws_szReport.f
  simp only [h1', Option.bind_some]
  by_cases c1 : r1 < 0
  · rw [if_pos c1]; exact ⟨_, rfl, fun h => absurd (by decide) h⟩
  · rw [if_neg c1]
    have k1 := g1 (by omega)
    obtain ⟨r2, h2, g2⟩ := szIntS_some m r1 hm (by omega) (by omega)
    simp only [h2, Option.bind_some]
    by_cases c2 : r2 < 0
    · rw [if_pos c2]; exact ⟨_, rfl, fun h => absurd (by decide) h⟩
    · rw [if_neg c2]
      have k2 := g2 (by omega)
      exact ⟨_, rfl, fun _ => by omega⟩
def Sm {σ : Type} (f g : σ → List Int) (x : σ) : Prop := (f x).length ≤ 1048576 ∧ (g x).length ≤ 1048576
theorem rdL (l : List LReport) (i : Nat) (h : i < l.length) : rd_T36 l (i : Int) = l[i] := by
  unfold rd_T36
  rw [Int.toNat_natCast, List.getD_eq_getElem?_getD, List.getElem?_eq_getElem h, Option.getD_some]
theorem szReportS_l0 (l : List LReport) (hl : l.length ≤ 1048576) (hw : ∀ x ∈ l, x.f2.length ≤ 9223372036854775807 ∧ x.f5.length ≤ 9223372036854775807) : ∀ (d i : Nat) (s : Int), i + d = l.length → 0 ≤ s → s ≤ 1048576 →
    ∃ r, Ev (fun k => laws_szReportS.l0 k l s (i : Int)) r ∧ (0 ≤ r → ∀ x ∈ l.drop i, x.f2.length ≤ 1048576 ∧ x.f5.length ≤ 1048576) := by
  intro d
  induction d with
  | zero =>
    intro i s hi _ _
    refine ⟨s, ev_step (fun k => by simp only [laws_szReportS.l0]; rfl) (ev_iten (by omega) (ev_some rfl)), fun _ x hx => ?_⟩
    rw [List.drop_of_length_le (by omega)] at hx
    cases hx
  | succ d ih =>
    intro i s hi h0 h1
    have hil : i < l.length := by omega
    have hx := hw l[i] (List.getElem_mem _)
    obtain ⟨r, hr, hr2⟩ := szReport_ok l[i].f0 l[i].f1 l[i].f2 l[i].f3 l[i].f4 l[i].f5 l[i].f6.f0 l[i].f6.f1 s hx.1 hx.2 h0 h1
    by_cases c : r < 0
    · refine ⟨-1, ev_step (fun k => by simp only [laws_szReportS.l0]; rfl) (ev_itep (by omega) (ev_itep (by omega) ?_)), fun h => by omega⟩
      rw [rdL l i hil]
      exact ev_bindc hr (ev_itep c (ev_some rfl))
    · have h2 := hr2 c
      obtain ⟨q, hq, hq2⟩ := ih (i + 1) r (by omega) (by omega) (by omega)
      refine ⟨q, ev_step (fun k => by simp only [laws_szReportS.l0]; rfl) (ev_itep (by omega) (ev_itep (by omega) ?_)), fun h0 x hx => ?_⟩
      · rw [rdL l i hil]
        refine ev_bindc hr (ev_iten c ?_)
        rw [wrap_id (by omega) (by omega)]
        exact hq
      · rw [List.drop_eq_getElem_cons hil] at hx
        rcases List.mem_cons.1 hx with e | e
        · rw [e]; exact ⟨h2.1, h2.2.1⟩
        · exact hq2 h0 x e
theorem szReportS_ev (l : List LReport) (h : l.length ≤ maxLen) (hw : ∀ x ∈ l, x.f2.length ≤ 9223372036854775807 ∧ x.f5.length ≤ 9223372036854775807) : ∃ r, Ev (fun k => laws_szReportS.f k l 1048576) r ∧ (0 ≤ r → l.length ≤ 1048576 ∧ ∀ x ∈ l, x.f2.length ≤ 1048576 ∧ x.f5.length ≤ 1048576) := by
  have := maxLen_le h
  unfold laws_szReportS.f
  rw [wrap_id (by omega) (by omega)]
  by_cases c : l.length ≤ 1048576
  · obtain ⟨r, h1, h2⟩ := szReportS_l0 l c hw l.length 0 (1048576 - (l.length : Int)) (by omega) (by omega) (by omega)
    refine ⟨r, ?_, fun hr => ⟨c, h2 hr⟩⟩
    exact ev_iten (by omega) h1
  · refine ⟨-1, ?_, fun h => by omega⟩
    exact ev_itep (by omega) (ev_some rfl)
theorem toReportS_ev (l : List LReport) (hl : l.length ≤ 1048576) (hm : ∀ x ∈ l, x.f2.length ≤ 1048576 ∧ x.f5.length ≤ 1048576) : Ev (fun k => laws_toReportS.f k l) (l.map cvReport) := by
  unfold laws_toReportS.f
  exact ev_itep (by omega) (ev_itep (by omega) (ev_copyE laws_toReportS.l0 (fun k x => laws_toReport.f k x.f0 x.f1 x.f2 x.f3 x.f4 x.f5 x.f6.f0 x.f6.f1) (fun b => (⟨b.1, b.2.1, b.2.2.1, b.2.2.2.1, b.2.2.2.2.1, b.2.2.2.2.2.1, ⟨b.2.2.2.2.2.2.1, b.2.2.2.2.2.2.2⟩⟩ : IReport)) (fun x => (x.f0, x.f1, x.f2, x.f3, x.f4, x.f5, x.f6.f0, x.f6.f1)) z36 z41 (fun _ _ _ _ => rfl) l hl (fun x hx => toReport_ev _ _ _ _ _ _ _ _ (hm x hx).1 (hm x hx).2)))
theorem eqReportS_ev (l : List IReport) (hl : l.length ≤ 1048576) (hm : ∀ x ∈ l, x.f2.length ≤ 1048576 ∧ x.f5.length ≤ 1048576) : Ev (fun k => laws_eqReportS.f k l l) true := by
  unfold laws_eqReportS.f
  refine ev_itep rfl (ev_eqloopE laws_eqReportS.l0 l (by omega) (fun i hi hr => ?_) (fun k => ?_))
  · have hx : ((rd_T41 l (i : Int)).f2.length ≤ 1048576) ∧ ((rd_T41 l (i : Int)).f5.length ≤ 1048576) := by
      unfold rd_T41
      exact hm _ (getD_mem _ _ _ (by omega))
    exact ev_step (fun k => by simp only [laws_eqReportS.l0]; rfl) (ev_itep (by omega) (ev_itep (by omega) (ev_itep (by omega) (ev_bind (eqReport_ev _ _ _ _ _ _ _ _ hx.1 hx.2) (ev_itep rfl hr)))))
  · simp only [laws_eqReportS.l0]
    rw [if_neg (by omega)]
theorem cvReport_small {l : List LReport} (hm : ∀ x ∈ l, x.f2.length ≤ 1048576 ∧ x.f5.length ≤ 1048576) : ∀ x ∈ l.map cvReport, x.f2.length ≤ 1048576 ∧ x.f5.length ≤ 1048576 := by
  intro x hx
  obtain ⟨y, hy, rfl⟩ := List.mem_map.1 hx
  simpa [cvReport] using hm y hy
theorem inc_eq : ∀ (n : Nat) (x : Int), 0 ≤ x → x + n ≤ 9223372036854775807 → laws_markReportS.inc n x = x + n
  | 0, x, _, _ => by simp [laws_markReportS.inc]
  | n + 1, x, h0, h1 => by
    rw [laws_markReportS.inc, wrap_id (by omega) (by omega), inc_eq n (x + 1) (by omega) (by omega)]
    omega
theorem up_ok : ∀ (l : List IReport) (x : Int), (∀ y ∈ l, y.f2.length ≤ 1048576 ∧ y.f5.length ≤ 1048576) → l.length ≤ 1048576 → 0 ≤ x → x + 4194304 * (l.length : Int) ≤ 9223372036854775807 → 0 ≤ laws_markReportS.up l x
  | [], x, _, _, h0, _ => h0
  | y :: l, x, hm, hl, h0, h1 => by
    have hy := hm y List.mem_cons_self
    rw [List.length_cons] at hl h1
    have e1 := inc_eq 2 x h0 (by omega)
    have e2 := inc_eq y.f2.length (x + (2 : Nat)) (by omega) (by omega)
    have e3 := inc_eq 2 (x + (2 : Nat) + (y.f2.length : Nat)) (by omega) (by omega)
    have e4 := inc_eq y.f5.length (x + (2 : Nat) + (y.f2.length : Nat) + (2 : Nat)) (by omega) (by omega)
    have e5 := inc_eq 2 (x + (2 : Nat) + (y.f2.length : Nat) + (2 : Nat) + (y.f5.length : Nat)) (by omega) (by omega)
    rw [laws_markReportS.up, e1, e2, e3, e4, e5]
    exact up_ok l _ (fun z hz => hm z (List.mem_cons_of_mem _ hz)) (by omega) (by omega) (by omega)
end Go.Proofs.Ytglpmjcknhcjcaa.PFnExactGroupReports
