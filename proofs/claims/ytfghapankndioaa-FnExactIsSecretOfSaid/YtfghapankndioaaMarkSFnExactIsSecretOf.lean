/- Marks and their sl_, by the reference. -/
import Derived.Test.YtfghapankndioaaMarkIFnExactIsSecretOf
import Derived.Test.YtfghapankndioaaHashSFnExactIsSecretOf
namespace Go.Proofs.Ytfghapankndioaa.PFnExactIsSecretOf
open Go.RowKit Go.Proofs.YtfghapankndioaaW.PrintWords Go.Proofs.YtfghapankndioaaW.PrintLast Go.Proofs.Ytfghapankndioaa.EvLib
theorem specAreMarks_ev (l : List IMark) (hl : l.length ≤ 1048576) : Ev (fun k => spec_AreMarks.f k l) (areMk l) := by
  unfold spec_AreMarks.f
  refine ev_eq (ev_all (fun k i => spec_AreMarks.l0 k l i) l.length (mkOk l) (decide ((l.length : Int) ≤ 8)) (by omega) (fun k => ?_) (fun k i hi => ?_)) ?_
  · simp only [spec_AreMarks.l0]
    rw [if_neg (by omega)]
  · simp only [spec_AreMarks.l0, rd_mkx, l1In_eq, Option.bind_some]
    rw [if_pos (by omega), if_pos (by omega)]
    unfold mkOk
    by_cases h1 : 1 ≤ (mkx l i).f0 ∧ (mkx l i).f0 ≤ 20
    · by_cases h2 : 0 ≤ (mkx l i).f1 ∧ (mkx l i).f1 ≤ 99
      · by_cases h4 : i = 0
        · subst h4
          simp [h1, h2]
        · have e : wrap64 ((i : Int) - 1) = ((i - 1 : Nat) : Int) := by rw [wrap_id (by omega) (by omega)]; omega
          rw [e, rd_mkx]
          have g1 : 0 < i := by omega
          have g2 : i - 1 < l.length := by omega
          by_cases h5 : (mkx l (i - 1)).f0 < (mkx l i).f0
          · have g5 : ¬ (mkx l i).f0 ≤ (mkx l (i - 1)).f0 := by omega
            simp [h1, h2, h4, h5, g1, g2, g5]
          · have g5 : (mkx l i).f0 ≤ (mkx l (i - 1)).f0 := by omega
            simp [h1, h2, h4, h5, g1, g2, g5]
      · simp [h1, h2]
    · simp [h1]
  · unfold areMk
    congr 1
    rw [decide_eq_decide]; omega
theorem specSeal_l0 (l : List IMark) (hl : l.length ≤ 1048576) : ∀ (d i : Nat) (s : List Int), i + d = l.length → s.length = 1 + 2 * i → Ev (fun k => spec_SealMarks.l0 k l s (i : Int)) (hash (s ++ (l.drop i).flatMap mkv)) := by
  intro d
  induction d with
  | zero =>
    intro i s hi hs
    refine ev_step (fun k => by simp only [spec_SealMarks.l0]; rfl) (ev_iten (by omega) (ev_bind (specHash_ev s (by omega)) (ev_some ?_)))
    rw [List.drop_of_length_le (by omega)]
    simp
  | succ d ih =>
    intro i s hi hs
    refine ev_step (fun k => by simp only [spec_SealMarks.l0]; rfl) (ev_itep (by omega) (ev_itep (by omega) (ev_bindc rfl (ev_itep (by simp; omega) ?_))))
    have := ih (i + 1) (s ++ mkv (mkx l i)) (by omega) (by simp [mkv]; omega)
    rw [wrap_id (by omega) (by omega), drop_mkx l i (by omega), List.flatMap_cons, ← List.append_assoc]
    simp only [rd_mkx]
    exact this
theorem specSealMarks_ev (l : List IMark) (hl : l.length ≤ 1048576) (salt : Int) : Ev (fun k => spec_SealMarks.f k l salt) (hash (sealIn l salt)) := by
  unfold spec_SealMarks.f
  exact specSeal_l0 l hl l.length 0 [salt] (by omega) rfl
theorem specOpensSeal_ev (l : List IMark) (hl : l.length ≤ 1048576) (salt sl_ : Int) : Ev (fun k => spec_OpensSeal.f k l salt sl_) (opens l salt sl_) := by
  unfold spec_OpensSeal.f opens
  refine ev_bind (specAreMarks_ev l hl) (ev_ite (fun h => ev_bind (specSealMarks_ev l hl salt) (ev_some (by rw [h]; rfl))) (fun h => ev_some (by rw [Bool.eq_false_iff.mpr h]; rfl)))
end Go.Proofs.Ytfghapankndioaa.PFnExactIsSecretOf
