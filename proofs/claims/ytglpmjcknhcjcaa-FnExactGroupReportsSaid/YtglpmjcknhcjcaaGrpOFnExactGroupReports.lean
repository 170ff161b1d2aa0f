/- AreReports and GroupReports, of the program and of the reference. -/
import Derived.Test.YtglpmjcknhcjcaaShpOFnExactGroupReports
import Derived.Test.YtglpmjcknhcjcaaCvReportFnExactGroupReports
namespace Go.Proofs.Ytglpmjcknhcjcaa.PFnExactGroupReports
open Go.RowKit Go.Proofs.YtglpmjcknhcjcaaW.PrintWords Go.Proofs.YtglpmjcknhcjcaaW.PrintLast Go.Proofs.Ytglpmjcknhcjcaa.EvLib
def Small (l : List IReport) : Prop := l.length ≤ 1048576 ∧ ∀ x ∈ l, x.f2.length ≤ 1048576 ∧ x.f5.length ≤ 1048576
def rep (l : List IReport) (i : Nat) : IReport := rd_T41 l (i : Int)
theorem rd_rep (l : List IReport) (i : Nat) : rd_T41 l (i : Int) = rep l i := rfl
theorem rep_small {l : List IReport} (h : Small l) (i : Nat) (hi : i < l.length) : (rep l i).f2.length ≤ 1048576 ∧ (rep l i).f5.length ≤ 1048576 := by
  unfold rep rd_T41
  exact h.2 _ (getD_mem _ _ _ (by omega))
def good1 (x : IReport) : Bool := isRep x.f0 x.f1 x.f2 x.f3 x.f4 x.f5 x.f6.f0 x.f6.f1
/-- From i on every report is one, and greater than the one ahead of it. -/
def goods (l : List IReport) : Nat → Nat → Bool
  | 0, _ => true
  | d + 1, i => if good1 (rep l i) = true then (if 0 < i then (if (rep l i).f0 ≤ (rep l (i - 1)).f0 then false else goods l d (i + 1)) else goods l d (i + 1)) else false
theorem specAre_l0 (l : List IReport) (h : Small l) : ∀ (d i : Nat), i + d = l.length → Ev (fun k => spec_AreReports.l0 k l (i : Int)) (goods l d i && decide (l.length ≤ 20)) := by
  intro d
  induction d with
  | zero =>
    intro i hi
    refine ev_step (fun k => by simp only [spec_AreReports.l0]; rfl) (ev_iten (by omega) (ev_some ?_))
    rw [goods, Bool.true_and, decide_eq_decide]
    omega
  | succ d ih =>
    intro i hi
    have := h.1
    have hx := rep_small h i (by omega)
    refine ev_step (fun k => by simp only [spec_AreReports.l0]; rfl) (ev_itep (by omega) (ev_itep (by omega) ?_))
    simp only [rd_rep, wrap_id (x := (i : Int) + 1) (by omega) (by omega)]
    refine ev_bind (specRep_ev _ _ _ _ _ _ _ _ (by omega) (by omega)) ?_
    have hn := ih (i + 1) (by omega)
    rw [goods]
    refine ev_ite (fun c => ?_) (fun c => ?_)
    · rw [if_pos (show good1 (rep l i) = true from c)]
      by_cases z : 0 < i
      · have e : wrap64 ((i : Int) - 1) = ((i - 1 : Nat) : Int) := by rw [wrap_id (by omega) (by omega)]; omega
        rw [if_pos z]
        simp only [e, rd_rep]
        refine ev_itep (by omega) (ev_itep (by omega) (ev_itep (by omega) (ev_ite (fun g => ?_) (fun g => ?_))))
        · rw [if_pos g]; exact ev_some rfl
        · rw [if_neg g]; exact hn
      · rw [if_neg z]
        exact ev_iten (by omega) hn
    · rw [if_neg (show ¬ good1 (rep l i) = true from c)]
      exact ev_some rfl
theorem implAre_l0 (l : List IReport) (h : Small l) : ∀ (d i : Nat), i + d = l.length → Ev (fun k => impl_AreReports.l0 k l l (l.length : Int) (i : Int)) (goods l d i) := by
  intro d
  induction d with
  | zero =>
    intro i hi
    exact ev_step (fun k => by simp only [impl_AreReports.l0]; rfl) (ev_iten (by omega) (ev_some rfl))
  | succ d ih =>
    intro i hi
    have := h.1
    have hx := rep_small h i (by omega)
    refine ev_step (fun k => by simp only [impl_AreReports.l0]; rfl) (ev_itep (by omega) (ev_itep (by omega) (ev_itep (by omega) ?_)))
    simp only [rd_rep, wrap_id (x := (i : Int) + 1) (by omega) (by omega)]
    refine ev_bind (implRep_ev _ _ _ _ _ _ _ _ (by omega) (by omega)) ?_
    have hn := ih (i + 1) (by omega)
    rw [goods]
    refine ev_ite (fun c => ?_) (fun c => ?_)
    · rw [if_pos (show good1 (rep l i) = true from c)]
      by_cases z : 0 < i
      · have e : wrap64 ((i : Int) - 1) = ((i - 1 : Nat) : Int) := by rw [wrap_id (by omega) (by omega)]; omega
        rw [if_pos z]
        simp only [e, rd_rep]
        refine ev_itep (by omega) (ev_itep (by omega) (ev_itep (by omega) (ev_ite (fun g => ?_) (fun g => ?_))))
        · rw [if_pos g]; exact ev_some rfl
        · rw [if_neg g]; exact hn
      · rw [if_neg z]
        exact ev_iten (by omega) hn
    · rw [if_neg (show ¬ good1 (rep l i) = true from c)]
      exact ev_some rfl
def are (l : List IReport) : Bool := goods l l.length 0 && decide (l.length ≤ 20)
theorem specAre_ev (l : List IReport) (h : Small l) : Ev (fun k => spec_AreReports.f k l) (are l) := specAre_l0 l h l.length 0 (by omega)
theorem implAre_ev (l : List IReport) (h : Small l) : Ev (fun k => impl_AreReports.f k l) (are l) := by
  unfold impl_AreReports.f are
  by_cases c : l.length ≤ 20
  · rw [decide_eq_true c, Bool.and_true]
    exact ev_iten (by omega) (implAre_l0 l h l.length 0 (by omega))
  · rw [decide_eq_false c, Bool.and_false]
    exact ev_itep (by omega) (ev_some rfl)
theorem goods_step (l : List IReport) : ∀ (d i : Nat), goods l d i = true → ∀ j, i ≤ j → j < i + d → 0 < j → (rep l (j - 1)).f0 < (rep l j).f0 := by
  intro d
  induction d with
  | zero => intro i _ j h1 h2 _; omega
  | succ d ih =>
    intro i hg j h1 h2 h3
    rw [goods] at hg
    split at hg
    · by_cases z : 0 < i
      · rw [if_pos z] at hg
        split at hg
        · cases hg
        · rename_i g
          by_cases e : j = i
          · rw [e]; omega
          · exact ih (i + 1) hg j (by omega) (by omega) h3
      · rw [if_neg z] at hg
        exact ih (i + 1) hg j (by omega) (by omega) h3
    · cases hg
theorem are_lt {l : List IReport} (h : are l = true) : ∀ (d a : Nat), a + d + 1 < l.length → (rep l a).f0 < (rep l (a + d + 1)).f0 := by
  unfold are at h
  rw [Bool.and_eq_true] at h
  have hs := goods_step l l.length 0 h.1
  intro d
  induction d with
  | zero => intro a ha; exact hs (a + 0 + 1) (by omega) (by omega) (by omega)
  | succ d ih =>
    intro a ha
    have h1 := ih a (by omega)
    have h2 := hs (a + (d + 1) + 1) (by omega) (by omega) (by omega)
    rw [show a + (d + 1) + 1 - 1 = a + d + 1 by omega] at h2
    omega
theorem rd_nat (l : List Int) (i : Nat) : rd l (i : Int) = l.getD i 0 := by unfold rd; rw [Int.toNat_natCast]
theorem len20 {l : List IReport} (ha : are l = true) : l.length ≤ 20 := by
  unfold are at ha
  rw [Bool.and_eq_true, decide_eq_true_eq] at ha
  exact ha.2
/-- Once found, the reference goes on to the end. -/
theorem spec_found {l : List IReport} (ha : are l = true) (out : List Int) (i : Nat) (v : Int) (hv : v ≠ (rep l i).f0) (hi : i < l.length) (ho : out.length = i) (r : List Int) (hr : Ev (fun k => spec_GroupReports.l0 k l (out ++ [v]) ((i + 1 : Nat) : Int)) r) :
    ∀ (d j : Nat), j + d = i → Ev (fun k => spec_GroupReports.l1 k l out (i : Int) v (j : Int)) r := by
  have h20 := len20 ha
  intro d
  induction d with
  | zero =>
    intro j hj
    refine ev_step (fun k => by simp only [spec_GroupReports.l1]; rfl) (ev_iten (by omega) (ev_itep (by omega) ?_))
    rw [show wrap64 ((i : Int) + 1) = ((i + 1 : Nat) : Int) by rw [wrap_id (by omega) (by omega)]; omega]
    exact hr
  | succ d ih =>
    intro j hj
    have hn := ih (j + 1) (by omega)
    refine ev_step (fun k => by simp only [spec_GroupReports.l1]; rfl) (ev_itep (by omega) (ev_itep (by omega) (ev_itep (by omega) (ev_itep (by omega) ?_))))
    simp only [rd_rep, show wrap64 ((j : Int) + 1) = ((j + 1 : Nat) : Int) by rw [wrap_id (by omega) (by omega)]; omega]
    exact ev_ite (fun _ => ev_itep (by omega) (ev_itep (by omega) (ev_iten hv hn))) (fun _ => hn)
section
variable {l : List IReport} (h : Small l) (ha : are l = true)
include h ha
theorem group_l1 (out : List Int) (i : Nat) (hi : i < l.length) (ho : out.length = i)
    (hr : ∀ v, ∃ r, Ev (fun k => spec_GroupReports.l0 k l (out ++ [v]) ((i + 1 : Nat) : Int)) r ∧ Ev (fun k => impl_GroupReports.l0 k l (out ++ [v]) l (l.length : Int) ((i + 1 : Nat) : Int)) r ∧ r.length ≤ 1048576) :
    ∀ (d j : Nat), j + d = i → ∃ r, Ev (fun k => spec_GroupReports.l1 k l out (i : Int) (rep l i).f0 (j : Int)) r ∧
      Ev (fun k => impl_GroupReports.l1 k l out (rep l i).f0 l (l.length : Int) (i : Int) (i : Int) (j : Int) (rep l i).f0 (rep l i).f1 (rep l i).f2 (rep l i).f3 (rep l i).f4 (rep l i).f5 (rep l i).f6.f0 (rep l i).f6.f1) r ∧ r.length ≤ 1048576 := by
  have h20 := len20 ha
  have w1 : wrap64 ((i : Int) + 1) = ((i + 1 : Nat) : Int) := by rw [wrap_id (by omega) (by omega)]; omega
  intro d
  induction d with
  | zero =>
    intro j hj
    obtain ⟨r, r1, r2, r3⟩ := hr (rep l i).f0
    refine ⟨r, ?_, ?_, r3⟩
    · refine ev_step (fun k => by simp only [spec_GroupReports.l1]; rfl) (ev_iten (by omega) (ev_itep (by omega) ?_))
      rw [w1]
      exact r1
    · refine ev_step (fun k => by simp only [impl_GroupReports.l1]; rfl) (ev_iten (by omega) (ev_itep (by omega) ?_))
      rw [w1]
      exact r2
  | succ d ih =>
    intro j hj
    have w2 : wrap64 ((j : Int) + 1) = ((j + 1 : Nat) : Int) := by rw [wrap_id (by omega) (by omega)]; omega
    obtain ⟨n, n1, n2, n3⟩ := ih (j + 1) (by omega)
    by_cases c : rd out (j : Int) = (rep l j).f0
    · have xj := rep_small h j (by omega)
      have xi := rep_small h i hi
      obtain ⟨b, b1, b2⟩ := sameOwner_ok (rep l j).f0 (rep l j).f1 (rep l j).f2 (rep l j).f3 (rep l j).f4 (rep l j).f5 (rep l j).f6.f0 (rep l j).f6.f1 (rep l i).f0 (rep l i).f1 (rep l i).f2 (rep l i).f3 (rep l i).f4 (rep l i).f5 (rep l i).f6.f0 (rep l i).f6.f1 xj.1 xj.2 xi.1 xi.2
      by_cases hb : b = true
      · obtain ⟨r, r1, r2, r3⟩ := hr (rep l j).f0
        have hlt := are_lt ha (i - j - 1) j (by omega)
        rw [show j + (i - j - 1) + 1 = i by omega] at hlt
        have hf := spec_found ha out i (rep l j).f0 (by omega) hi ho r r1 (i - j - 1) (j + 1) (by omega)
        refine ⟨r, ?_, ?_, r3⟩
        · refine ev_step (fun k => by simp only [spec_GroupReports.l1]; rfl) (ev_itep (by omega) (ev_itep (by omega) (ev_itep (by omega) (ev_itep (by omega) ?_))))
          simp only [rd_rep, w2]
          exact ev_itep c (ev_itep (by omega) (ev_itep (by omega) (ev_itep (by trivial) (ev_bind b2 (ev_itep hb hf)))))
        · refine ev_step (fun k => by simp only [impl_GroupReports.l1]; rfl) (ev_itep (by omega) (ev_itep (by omega) (ev_itep (by omega) (ev_itep (by omega) ?_))))
          simp only [rd_rep, w1]
          exact ev_itep c (ev_bind b1 (ev_itep hb (ev_itep (by omega) r2)))
      · refine ⟨n, ?_, ?_, n3⟩
        · refine ev_step (fun k => by simp only [spec_GroupReports.l1]; rfl) (ev_itep (by omega) (ev_itep (by omega) (ev_itep (by omega) (ev_itep (by omega) ?_))))
          simp only [rd_rep, w2]
          exact ev_itep c (ev_itep (by omega) (ev_itep (by omega) (ev_itep (by trivial) (ev_bind b2 (ev_iten hb n1)))))
        · refine ev_step (fun k => by simp only [impl_GroupReports.l1]; rfl) (ev_itep (by omega) (ev_itep (by omega) (ev_itep (by omega) (ev_itep (by omega) ?_))))
          simp only [rd_rep, w2]
          exact ev_itep c (ev_bind b1 (ev_iten hb n2))
    · refine ⟨n, ?_, ?_, n3⟩
      · refine ev_step (fun k => by simp only [spec_GroupReports.l1]; rfl) (ev_itep (by omega) (ev_itep (by omega) (ev_itep (by omega) (ev_itep (by omega) ?_))))
        simp only [rd_rep, w2]
        exact ev_iten c n1
      · refine ev_step (fun k => by simp only [impl_GroupReports.l1]; rfl) (ev_itep (by omega) (ev_itep (by omega) (ev_itep (by omega) (ev_itep (by omega) ?_))))
        simp only [rd_rep, w2]
        exact ev_iten c n2
theorem group_l0 : ∀ (d i : Nat) (out : List Int), i + d = l.length → out.length = i → ∃ r, Ev (fun k => spec_GroupReports.l0 k l out (i : Int)) r ∧ Ev (fun k => impl_GroupReports.l0 k l out l (l.length : Int) (i : Int)) r ∧ r.length ≤ 1048576 := by
  have h20 := len20 ha
  intro d
  induction d with
  | zero =>
    intro i out hi ho
    refine ⟨out, ev_step (fun k => by simp only [spec_GroupReports.l0]; rfl) (ev_iten (by omega) ?_), ev_step (fun k => by simp only [impl_GroupReports.l0]; rfl) (ev_iten (by omega) (ev_some rfl)), by omega⟩
    exact ev_step (fun k => by simp only [spec_GroupReports.j1]; rfl) (ev_iten (by simp) (ev_some rfl))
  | succ d ih =>
    intro i out hi ho
    obtain ⟨r, r1, r2, r3⟩ := group_l1 h ha out i (by omega) ho (fun v => ih (i + 1) (out ++ [v]) (by omega) (by rw [List.length_append, List.length_singleton]; omega)) i 0 (by omega)
    refine ⟨r, ev_step (fun k => by simp only [spec_GroupReports.l0]; rfl) (ev_itep (by omega) (ev_bind (specAre_ev l h) ?_)), ev_step (fun k => by simp only [impl_GroupReports.l0]; rfl) (ev_itep (by omega) (ev_itep (by omega) (ev_itep (by omega) r2))), r3⟩
    exact ev_step (fun k => by simp only [spec_GroupReports.j1]; rfl) (ev_itep ha (ev_itep (by omega) (ev_itep (by omega) r1)))
end
theorem group_ok (l : List IReport) (h : Small l) : ∃ r, Ev (fun k => spec_GroupReports.f k l) r ∧ Ev (fun k => impl_GroupReports.f k l) r ∧ r.length ≤ 1048576 := by
  unfold spec_GroupReports.f impl_GroupReports.f
  by_cases ha : are l = true
  · obtain ⟨r, r1, r2, r3⟩ := group_l0 h ha l.length 0 [] (by omega) rfl
    exact ⟨r, r1, ev_bindc rfl (ev_bind (implAre_ev l h) (ev_itep ha r2)), r3⟩
  · refine ⟨[], ?_, ev_bindc rfl (ev_bind (implAre_ev l h) (ev_iten ha (ev_some rfl))), by simp⟩
    refine ev_step (fun k => by simp only [spec_GroupReports.l0]; rfl) (ev_ite (fun _ => ev_bind (specAre_ev l h) ?_) (fun _ => ?_))
    · exact ev_step (fun k => by simp only [spec_GroupReports.j1]; rfl) (ev_iten ha (ev_some rfl))
    · exact ev_step (fun k => by simp only [spec_GroupReports.j1]; rfl) (ev_iten (by simp) (ev_some rfl))
end Go.Proofs.Ytglpmjcknhcjcaa.PFnExactGroupReports
