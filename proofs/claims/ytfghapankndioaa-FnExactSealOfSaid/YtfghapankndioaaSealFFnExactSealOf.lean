/- SealOf. -/
import Derived.Test.YtfghapankndioaaSecDFnExactSealOf
import Derived.Test.YtfghapankndioaaSealMIFnExactSealOf
import Derived.Test.YtfghapankndioaaSealMSFnExactSealOf
namespace Go.Proofs.Ytfghapankndioaa.PFnExactSealOf
open Go.RowKit Go.Proofs.YtfghapankndioaaW.PrintWords Go.Proofs.YtfghapankndioaaW.PrintLast Go.Proofs.Ytfghapankndioaa.EvLib
def sealF (l : List ISecret) (x : Int) : Int := if idxB (fun y : ISecret => y.f0 == x) l 0 < 0 then -1 else hash (sealIn (sec l (idxB (fun y : ISecret => y.f0 == x) l 0).toNat).f1 (sec l (idxB (fun y : ISecret => y.f0 == x) l 0).toNat).f2)
theorem idx_lt (l : List ISecret) (x : Int) : idxB (fun y : ISecret => y.f0 == x) l 0 < (l.length : Int) := by
  rcases idxB_in (fun y : ISecret => y.f0 == x) z36 l 0 with ⟨h, _⟩ | ⟨j, h1, h2, _⟩
  · rw [h]; omega
  · rw [h2]; omega
theorem implSealOf_ev (l : List ISecret) (hm : ∀ x ∈ l, x.f1.length ≤ 1048576) (x : Int) : Ev (fun k => impl_SealOf.f k l x) (sealF l x) := by
  unfold impl_SealOf.f
  refine ev_bindc (a := idxB (fun y : ISecret => y.f0 == x) l 0) rfl ?_
  have hlt := idx_lt l x
  unfold sealF
  generalize idxB (fun y : ISecret => y.f0 == x) l 0 = r at hlt
  refine ev_ite (fun h => ev_some (by rw [if_pos h])) (fun h => ?_)
  rw [if_neg h]
  refine ev_itep (by omega) (ev_itep hlt ?_)
  have hr : rd_T36 l r = sec l r.toNat := rfl
  rw [hr]
  exact ev_bind (implSealMarks_ev _ (hm _ (sec_mem l _ (by omega))) _) (ev_some rfl)
theorem specFind_l0 (l : List ISecret) (hl : l.length ≤ 1048576) (x : Int) : ∀ (d i : Nat), i + d = l.length → Ev (fun k => spec_l31Find.l0 k l x (i : Int)) (idxB (fun y : ISecret => y.f0 == x) (l.drop i) i) := by
  intro d
  induction d with
  | zero =>
    intro i hi
    refine ev_step (fun k => by simp only [spec_l31Find.l0]; rfl) (ev_iten (by omega) (ev_some ?_))
    rw [idxB_end _ _ _ (by omega)]
  | succ d ih =>
    intro i hi
    refine ev_step (fun k => by simp only [spec_l31Find.l0]; rfl) (ev_itep (by omega) (ev_itep (by omega) ?_))
    simp only [rd_sec, wrap_id (x := (i : Int) + 1) (by omega) (by omega)]
    rw [idxB_at _ z36 l i (by omega)]
    have e : l.getD i z36 = sec l i := rfl
    rw [e]
    refine ev_ite (fun c => ev_some (by rw [if_pos (by simpa using c)])) (fun c => ?_)
    rw [if_neg (by simpa using c)]
    exact ih (i + 1) (by omega)
theorem specSealOf_ev (l : List ISecret) (hl : l.length ≤ 1048576) (hm : ∀ x ∈ l, x.f1.length ≤ 1048576) (x : Int) : Ev (fun k => spec_SealOf.f k l x) (sealF l x) := by
  unfold spec_SealOf.f spec_l31Find.f
  refine ev_bind (specFind_l0 l hl x l.length 0 (by omega)) ?_
  rw [List.drop_zero]
  have hlt := idx_lt l x
  unfold sealF
  generalize idxB (fun y : ISecret => y.f0 == x) l 0 = r at hlt
  refine ev_ite (fun h => ev_some (by rw [if_pos h])) (fun h => ?_)
  rw [if_neg h]
  refine ev_itep (by omega) (ev_itep hlt ?_)
  have hr : rd_T36 l r = sec l r.toNat := rfl
  rw [hr]
  exact ev_bind (specSealMarks_ev _ (hm _ (sec_mem l _ (by omega))) _) (ev_some rfl)
end Go.Proofs.Ytfghapankndioaa.PFnExactSealOf
