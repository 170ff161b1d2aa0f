/- SealMarks. -/
import Derived.Test.YtfghapankndioaaMarkDFnExactSealOf
import Derived.Test.YtfghapankndioaaHashFnExactSealOf
namespace Go.Proofs.Ytfghapankndioaa.PFnExactSealOf
open Go.RowKit Go.Proofs.YtfghapankndioaaW.PrintWords Go.Proofs.YtfghapankndioaaW.PrintLast Go.Proofs.Ytfghapankndioaa.EvLib
theorem implSeal_l0 (l : List IMark) (hl : l.length ≤ 1048576) : ∀ (d i : Nat) (s : List Int), i + d = l.length → s.length = 1 + 2 * i → Ev (fun k => impl_SealMarks.l0 k s l (l.length : Int) (i : Int)) (hash (s ++ (l.drop i).flatMap mkv)) := by
  intro d
  induction d with
  | zero =>
    intro i s hi hs
    refine ev_step (fun k => by simp only [impl_SealMarks.l0]; rfl) (ev_iten (by omega) (ev_bind (implHash_ev s (by omega)) (ev_some ?_)))
    rw [List.drop_of_length_le (by omega)]
    simp
  | succ d ih =>
    intro i s hi hs
    refine ev_step (fun k => by simp only [impl_SealMarks.l0]; rfl) (ev_itep (by omega) (ev_itep (by omega) (ev_itep (by omega) (ev_bindc rfl (ev_itep (by simp; omega) ?_)))))
    have := ih (i + 1) (s ++ mkv (mkx l i)) (by omega) (by simp [mkv]; omega)
    rw [wrap_id (by omega) (by omega), drop_mkx l i (by omega), List.flatMap_cons, ← List.append_assoc]
    simp only [rd_mkx]
    exact this
theorem implSealMarks_ev (l : List IMark) (hl : l.length ≤ 1048576) (salt : Int) : Ev (fun k => impl_SealMarks.f k l salt) (hash (sealIn l salt)) := by
  unfold impl_SealMarks.f
  exact implSeal_l0 l hl l.length 0 [salt] (by omega) rfl
end Go.Proofs.Ytfghapankndioaa.PFnExactSealOf
