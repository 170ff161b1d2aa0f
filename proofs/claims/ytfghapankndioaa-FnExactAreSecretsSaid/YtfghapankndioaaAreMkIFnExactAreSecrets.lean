/- AreMarks. -/
import Derived.Test.YtfghapankndioaaMarkDFnExactAreSecrets
import Derived.Test.YtfghapankndioaaInRFnExactAreSecrets
namespace Go.Proofs.Ytfghapankndioaa.PFnExactAreSecrets
open Go.RowKit Go.Proofs.YtfghapankndioaaW.PrintWords Go.Proofs.YtfghapankndioaaW.PrintLast Go.Proofs.Ytfghapankndioaa.EvLib
theorem implAreMarks_ev (l : List IMark) (hl : l.length ≤ 1048576) : Ev (fun k => impl_AreMarks.f k l) (areMk l) := by
  unfold impl_AreMarks.f
  refine ev_ite (fun h => ev_some ?_) (fun h => ev_eq (ev_all (fun k i => impl_AreMarks.l0 k l l (l.length : Int) i) l.length (mkOk l) true (by omega) (fun k => ?_) (fun k i hi => ?_)) ?_)
  · unfold areMk
    rw [decide_eq_false (by omega), Bool.and_false]
  · simp only [impl_AreMarks.l0]
    rw [if_neg (by omega)]
  · simp only [impl_AreMarks.l0, rd_mkx, inRange_eq, Option.bind_some]
    rw [if_pos (by omega), if_pos (by omega), if_pos (by omega)]
    unfold mkOk
    by_cases h1 : 1 ≤ (mkx l i).f0 ∧ (mkx l i).f0 ≤ 20
    · by_cases h2 : 0 ≤ (mkx l i).f1 ∧ (mkx l i).f1 ≤ 99
      · by_cases h4 : i = 0
        · subst h4
          simp [h1, h2]
        · have e : wrap64 ((i : Int) - 1) = ((i - 1 : Nat) : Int) := by rw [wrap_id (by omega) (by omega)]; omega
          rw [e, rd_mkx]
          have g1 : 0 < i := by omega
          have g2 : i - 1 < l.length := by omega
          by_cases h5 : (mkx l (i - 1)).f0 < (mkx l i).f0
          · have g5 : ¬ (mkx l i).f0 ≤ (mkx l (i - 1)).f0 := by omega
            simp [h1, h2, h4, h5, g1, g2, g5]
          · have g5 : (mkx l i).f0 ≤ (mkx l (i - 1)).f0 := by omega
            simp [h1, h2, h4, h5, g1, g2, g5]
      · simp [h1, h2]
    · simp [h1]
  · unfold areMk
    rw [decide_eq_true (by omega)]
end Go.Proofs.Ytfghapankndioaa.PFnExactAreSecrets
