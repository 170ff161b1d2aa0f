/- Marks and their sl_, by the program. -/
import Derived.Test.YtfghapankndioaaMarkDFnExactIsSecretOf
import Derived.Test.YtfghapankndioaaHashFnExactIsSecretOf
namespace Go.Proofs.Ytfghapankndioaa.PFnExactIsSecretOf
open Go.RowKit Go.Proofs.YtfghapankndioaaW.PrintWords Go.Proofs.YtfghapankndioaaW.PrintLast Go.Proofs.Ytfghapankndioaa.EvLib
theorem implAreMarks_ev (l : List IMark) (hl : l.length ≤ 1048576) : Ev (fun k => impl_AreMarks.f k l) (areMk l) := by
  unfold impl_AreMarks.f
  refine ev_ite (fun h => ev_some ?_) (fun h => ev_eq (ev_all (fun k i => impl_AreMarks.l0 k l l (l.length : Int) i) l.length (mkOk l) true (by omega) (fun k => ?_) (fun k i hi => ?_)) ?_)
  · unfold areMk
    rw [decide_eq_false (by omega), Bool.and_false]
  · simp only [impl_AreMarks.l0]
    rw [if_neg (by omega)]
  · simp only [impl_AreMarks.l0, rd_mkx, inRange_eq, Option.bind_some]
    rw [if_pos (by omega), if_pos (by omega), if_pos (by omega)]
    unfold mkOk
    by_cases h1 : 1 ≤ (mkx l i).f0 ∧ (mkx l i).f0 ≤ 20
    · by_cases h2 : 0 ≤ (mkx l i).f1 ∧ (mkx l i).f1 ≤ 99
      · by_cases h4 : i = 0
        · subst h4
          simp [h1, h2]
        · have e : wrap64 ((i : Int) - 1) = ((i - 1 : Nat) : Int) := by rw [wrap_id (by omega) (by omega)]; omega
          rw [e, rd_mkx]
          have g1 : 0 < i := by omega
          have g2 : i - 1 < l.length := by omega
          by_cases h5 : (mkx l (i - 1)).f0 < (mkx l i).f0
          · have g5 : ¬ (mkx l i).f0 ≤ (mkx l (i - 1)).f0 := by omega
            simp [h1, h2, h4, h5, g1, g2, g5]
          · have g5 : (mkx l i).f0 ≤ (mkx l (i - 1)).f0 := by omega
            simp [h1, h2, h4, h5, g1, g2, g5]
      · simp [h1, h2]
    · simp [h1]
  · unfold areMk
    rw [decide_eq_true (by omega)]
theorem implSeal_l0 (l : List IMark) (hl : l.length ≤ 1048576) : ∀ (d i : Nat) (s : List Int), i + d = l.length → s.length = 1 + 2 * i → Ev (fun k => impl_SealMarks.l0 k s l (l.length : Int) (i : Int)) (hash (s ++ (l.drop i).flatMap mkv)) := by
  intro d
  induction d with
  | zero =>
    intro i s hi hs
    refine ev_step (fun k => by simp only [impl_SealMarks.l0]; rfl) (ev_iten (by omega) (ev_bind (implHash_ev s (by omega)) (ev_some ?_)))
    rw [List.drop_of_length_le (by omega)]
    simp
  | succ d ih =>
    intro i s hi hs
    refine ev_step (fun k => by simp only [impl_SealMarks.l0]; rfl) (ev_itep (by omega) (ev_itep (by omega) (ev_itep (by omega) (ev_bindc rfl (ev_itep (by simp; omega) ?_)))))
    have := ih (i + 1) (s ++ mkv (mkx l i)) (by omega) (by simp [mkv]; omega)
    rw [wrap_id (by omega) (by omega), drop_mkx l i (by omega), List.flatMap_cons, ← List.append_assoc]
    simp only [rd_mkx]
    exact this
theorem implSealMarks_ev (l : List IMark) (hl : l.length ≤ 1048576) (salt : Int) : Ev (fun k => impl_SealMarks.f k l salt) (hash (sealIn l salt)) := by
  unfold impl_SealMarks.f
  exact implSeal_l0 l hl l.length 0 [salt] (by omega) rfl
def opens (l : List IMark) (salt sl_ : Int) : Bool := areMk l && (hash (sealIn l salt) == sl_)
theorem implOpensSeal_ev (l : List IMark) (hl : l.length ≤ 1048576) (salt sl_ : Int) : Ev (fun k => impl_OpensSeal.f k l salt sl_) (opens l salt sl_) := by
  unfold impl_OpensSeal.f opens
  refine ev_bind (implAreMarks_ev l hl) (ev_ite (fun h => ev_bind (implSealMarks_ev l hl salt) (ev_some (by rw [h]; rfl))) (fun h => ev_some (by rw [Bool.eq_false_iff.mpr h]; rfl)))
end Go.Proofs.Ytfghapankndioaa.PFnExactIsSecretOf
