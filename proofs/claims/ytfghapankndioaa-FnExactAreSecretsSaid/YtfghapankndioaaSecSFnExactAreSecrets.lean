/- AreSecrets of the reference. -/
import Derived.Test.YtfghapankndioaaSecDFnExactAreSecrets
import Derived.Test.YtfghapankndioaaAreMkSFnExactAreSecrets
namespace Go.Proofs.Ytfghapankndioaa.PFnExactAreSecrets
open Go.RowKit Go.Proofs.YtfghapankndioaaW.PrintWords Go.Proofs.YtfghapankndioaaW.PrintLast Go.Proofs.Ytfghapankndioaa.EvLib
theorem specAreSecrets_ev (l : List ISecret) (hl : l.length ≤ 1048576) (hm : ∀ x ∈ l, x.f1.length ≤ 1048576) : Ev (fun k => spec_AreSecrets.f k l) (areSec l) := by
  unfold spec_AreSecrets.f
  refine ev_eq (ev_allE (fun k i => spec_AreSecrets.l0 k l i) l.length (secOk l) (decide ((l.length : Int) ≤ 20)) (by omega) (fun k => ?_) (fun i hi r hr => ?_)) ?_
  · simp only [spec_AreSecrets.l0]
    rw [if_neg (by omega)]
  · refine ev_step (fun k => by simp only [spec_AreSecrets.l0]; rfl) (ev_itep (by omega) (ev_itep (by omega) ?_))
    have hml := hm _ (sec_mem l i hi)
    simp only [rd_sec]
    refine ev_bindc (l1In_eq _ _ _) (ev_ite (fun c1 => ev_bind (specAreMarks_ev _ hml) (ev_ite (fun c2 => ev_ite (fun c3 => ev_some ?_) (fun c3 => ev_bindc (l1In_eq _ _ _) (ev_ite (fun c4 => ev_ite (fun c5 => ?_) (fun c5 => ?_)) (fun c4 => ev_some ?_)))) (fun c2 => ev_some ?_))) (fun c1 => ev_some ?_))
    · unfold secOk secIn; rw [decide_eq_false (show ¬ (sec l i).f1.length ≠ 0 by omega)]; simp
    · have e : wrap64 ((i : Int) - 1) = ((i - 1 : Nat) : Int) := by rw [wrap_id (by omega) (by omega)]; omega
      simp only [e, rd_sec]
      refine ev_itep (by omega) (ev_itep (by omega) (ev_ite (fun c6 => ev_some ?_) (fun c6 => ev_eq hr ?_)))
      · unfold secOk secUp; rw [decide_eq_false (show ¬ i = 0 by omega), decide_eq_false (show ¬ (sec l (i - 1)).f0 < (sec l i).f0 by omega)]; simp
      · unfold secOk secUp secIn; rw [decide_eq_false (show ¬ i = 0 by omega), decide_eq_true (show (sec l (i - 1)).f0 < (sec l i).f0 by omega), c1, c2, c4, decide_eq_true (show (sec l i).f1.length ≠ 0 by omega)]; rfl
    · refine ev_eq hr ?_
      unfold secOk secUp secIn; rw [decide_eq_true (show i = 0 by omega), c1, c2, c4, decide_eq_true (show (sec l i).f1.length ≠ 0 by omega)]; rfl
    · unfold secOk secIn; rw [Bool.eq_false_iff.mpr c4]; simp
    · unfold secOk secIn; rw [Bool.eq_false_iff.mpr c2]; simp
    · unfold secOk; rw [Bool.eq_false_iff.mpr c1]; rfl
  · unfold areSec
    congr 1
    rw [decide_eq_decide]; omega
end Go.Proofs.Ytfghapankndioaa.PFnExactAreSecrets
