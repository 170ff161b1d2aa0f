/- AreSecrets of the program. -/
import Derived.Test.YtfghapankndioaaSecDFnExactAreSecrets
import Derived.Test.YtfghapankndioaaAreMkIFnExactAreSecrets
namespace Go.Proofs.Ytfghapankndioaa.PFnExactAreSecrets
open Go.RowKit Go.Proofs.YtfghapankndioaaW.PrintWords Go.Proofs.YtfghapankndioaaW.PrintLast Go.Proofs.Ytfghapankndioaa.EvLib
theorem implAreSecrets_ev (l : List ISecret) (hl : l.length ≤ 1048576) (hm : ∀ x ∈ l, x.f1.length ≤ 1048576) : Ev (fun k => impl_AreSecrets.f k l) (areSec l) := by
  unfold impl_AreSecrets.f
  refine ev_ite (fun h => ev_some ?_) (fun h => ev_eq (ev_allE (fun k i => impl_AreSecrets.l0 k l l (l.length : Int) i) l.length (secOk l) true (by omega) (fun k => ?_) (fun i hi r hr => ?_)) ?_)
  · unfold areSec
    rw [decide_eq_false (by omega), Bool.and_false]
  · simp only [impl_AreSecrets.l0]
    rw [if_neg (by omega)]
  · refine ev_step (fun k => by simp only [impl_AreSecrets.l0]; rfl) (ev_itep (by omega) (ev_itep (by omega) (ev_itep (by omega) ?_)))
    have hml := hm _ (sec_mem l i hi)
    have tail : Ev (fun k => if ((sec l i).f1.length : Int) = 0 then some false else (impl_AreMarks.f k (sec l i).f1).bind fun t => if t = true then (impl_InRange.f (sec l i).f2 0 1000000).bind fun t => if t = true then impl_AreSecrets.l0 k l l (l.length : Int) (wrap64 ((i : Int) + 1)) else some false else some false) (secIn l i && r) := by
      refine ev_ite (fun c => ev_some ?_) (fun c => ev_bind (implAreMarks_ev _ hml) (ev_ite (fun c2 => ev_bindc (inRange_eq _ _ _) (ev_ite (fun c3 => ?_) (fun c3 => ev_some ?_))) (fun c2 => ev_some ?_)))
      · unfold secIn; rw [decide_eq_false (by omega)]; rfl
      · unfold secIn; rw [decide_eq_true (by omega), c2, c3]; exact hr
      · unfold secIn; rw [Bool.eq_false_iff.mpr c3]; simp
      · unfold secIn; rw [Bool.eq_false_iff.mpr c2]; simp
    simp only [rd_sec]
    refine ev_bindc (inRange_eq _ _ _) (ev_ite (fun c1 => ev_ite (fun c2 => ?_) (fun c2 => ?_)) (fun c1 => ev_some ?_))
    · have e : wrap64 ((i : Int) - 1) = ((i - 1 : Nat) : Int) := by rw [wrap_id (by omega) (by omega)]; omega
      simp only [e, rd_sec]
      refine ev_itep (by omega) (ev_itep (by omega) (ev_ite (fun c3 => ev_some ?_) (fun c3 => ev_eq tail ?_)))
      · unfold secOk secUp; rw [decide_eq_false (show ¬ i = 0 by omega), decide_eq_false (show ¬ (sec l (i - 1)).f0 < (sec l i).f0 by omega)]; simp
      · unfold secOk secUp; rw [decide_eq_false (show ¬ i = 0 by omega), decide_eq_true (show (sec l (i - 1)).f0 < (sec l i).f0 by omega), c1]; rfl
    · refine ev_eq tail ?_
      unfold secOk secUp; rw [decide_eq_true (show i = 0 by omega), c1]; rfl
    · unfold secOk; rw [Bool.eq_false_iff.mpr c1]; rfl
  · unfold areSec
    rw [decide_eq_true (by omega)]
end Go.Proofs.Ytfghapankndioaa.PFnExactAreSecrets
