/- AreMarks. -/
import Derived.Test.YtfghapankndioaaMarkDFnExactAreSecrets
import Derived.Test.YtfghapankndioaaL1InFnExactAreSecrets
namespace Go.Proofs.Ytfghapankndioaa.PFnExactAreSecrets
open Go.RowKit Go.Proofs.YtfghapankndioaaW.PrintWords Go.Proofs.YtfghapankndioaaW.PrintLast Go.Proofs.Ytfghapankndioaa.EvLib
theorem specAreMarks_ev (l : List IMark) (hl : l.length ≤ 1048576) : Ev (fun k => spec_AreMarks.f k l) (areMk l) := by
  unfold spec_AreMarks.f
  refine ev_eq (ev_all (fun k i => spec_AreMarks.l0 k l i) l.length (mkOk l) (decide ((l.length : Int) ≤ 8)) (by omega) (fun k => ?_) (fun k i hi => ?_)) ?_
  · simp only [spec_AreMarks.l0]
    rw [if_neg (by omega)]
  · simp only [spec_AreMarks.l0, rd_mkx, l1In_eq, Option.bind_some]
    rw [if_pos (by omega), if_pos (by omega)]
    unfold mkOk
    by_cases h1 : 1 ≤ (mkx l i).f0 ∧ (mkx l i).f0 ≤ 20
    · by_cases h2 : 0 ≤ (mkx l i).f1 ∧ (mkx l i).f1 ≤ 99
      · by_cases h4 : i = 0
        · subst h4
          simp [h1, h2]
        · have e : wrap64 ((i : Int) - 1) = ((i - 1 : Nat) : Int) := by rw [wrap_id (by omega) (by omega)]; omega
          rw [e, rd_mkx]
          have g1 : 0 < i := by omega
          have g2 : i - 1 < l.length := by omega
          by_cases h5 : (mkx l (i - 1)).f0 < (mkx l i).f0
          · have g5 : ¬ (mkx l i).f0 ≤ (mkx l (i - 1)).f0 := by omega
            simp [h1, h2, h4, h5, g1, g2, g5]
          · have g5 : (mkx l i).f0 ≤ (mkx l (i - 1)).f0 := by omega
            simp [h1, h2, h4, h5, g1, g2, g5]
      · simp [h1, h2]
    · simp [h1]
  · unfold areMk
    congr 1
    rw [decide_eq_decide]; omega
end Go.Proofs.Ytfghapankndioaa.PFnExactAreSecrets
