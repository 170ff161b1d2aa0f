/- MarksOf of the program and of the reference; marks of a list of secrets. -/
import Derived.Test.YtfghapankndioaaCvSecretFnExactMarksOf
import Derived.Test.YtfghapankndioaaMkMarkRFnExactMarksOf
namespace Go.Proofs.Ytfghapankndioaa.PFnExactMarksOf
open Go.RowKit Go.Proofs.YtfghapankndioaaW.PrintWords Go.Proofs.YtfghapankndioaaW.PrintLast Go.Proofs.Ytfghapankndioaa.EvLib
def sec (l : List ISecret) (i : Nat) : ISecret := rd_T36 l (i : Int)
theorem rd_sec (l : List ISecret) (i : Nat) : rd_T36 l (i : Int) = sec l i := rfl
theorem sec_mem (l : List ISecret) (i : Nat) (h : i < l.length) : sec l i ∈ l := by
  unfold sec rd_T36
  rw [Int.toNat_natCast, List.getD_eq_getElem?_getD, List.getElem?_eq_getElem h, Option.getD_some]
  exact List.getElem_mem _
theorem idx_lt (l : List ISecret) (x : Int) : idxB (fun y : ISecret => y.f0 == x) l 0 < (l.length : Int) := by
  rcases idxB_in (fun y : ISecret => y.f0 == x) z36 l 0 with ⟨h, _⟩ | ⟨j, h1, h2, _⟩
  · rw [h]; omega
  · rw [h2]; omega
theorem specFind_l0 (l : List ISecret) (hl : l.length ≤ 1048576) (x : Int) : ∀ (d i : Nat), i + d = l.length → Ev (fun k => spec_l31Find.l0 k l x (i : Int)) (idxB (fun y : ISecret => y.f0 == x) (l.drop i) i) := by
  intro d
  induction d with
  | zero =>
    intro i hi
    refine ev_step (fun k => by simp only [spec_l31Find.l0]; rfl) (ev_iten (by omega) (ev_some ?_))
    rw [idxB_end _ _ _ (by omega)]
  | succ d ih =>
    intro i hi
    refine ev_step (fun k => by simp only [spec_l31Find.l0]; rfl) (ev_itep (by omega) (ev_itep (by omega) ?_))
    simp only [rd_sec, wrap_id (x := (i : Int) + 1) (by omega) (by omega)]
    rw [idxB_at _ z36 l i (by omega)]
    have e : l.getD i z36 = sec l i := rfl
    rw [e]
    refine ev_ite (fun c => ev_some (by rw [if_pos (by simpa using c)])) (fun c => ?_)
    rw [if_neg (by simpa using c)]
    exact ih (i + 1) (by omega)
def marksOf (l : List ISecret) (x : Int) : List IMark := if idxB (fun y : ISecret => y.f0 == x) l 0 < 0 then [] else (sec l (idxB (fun y : ISecret => y.f0 == x) l 0).toNat).f1
theorem marksOf_len (l : List ISecret) (hm : ∀ x ∈ l, x.f1.length ≤ 1048576) (x : Int) : (marksOf l x).length ≤ 1048576 := by
  unfold marksOf
  have hlt := idx_lt l x
  split
  · simp
  · exact hm _ (sec_mem l _ (by omega))
theorem implMarksOf_eq (l : List ISecret) (hm : ∀ x ∈ l, x.f1.length ≤ 1048576) (x : Int) : impl_MarksOf.f l x = some (marksOf l x) := by
  unfold impl_MarksOf.f impl_secretOf.f impl_Mark.f
  rw [Option.bind_some]
  have hlt := idx_lt l x
  unfold marksOf
  generalize idxB (fun y : ISecret => y.f0 == x) l 0 = r at hlt
  by_cases h : r < 0
  · rw [if_pos h, if_pos h]
  · rw [if_neg h, if_neg h, if_pos (by omega), if_pos hlt]
    have hr : rd_T36 l r = sec l r.toNat := by unfold sec; congr 1; omega
    have hz := hm _ (sec_mem l r.toNat (by omega))
    rw [hr, if_pos (by omega), Option.bind_some]
theorem specMarksOf_ev (l : List ISecret) (hl : l.length ≤ 1048576) (hm : ∀ x ∈ l, x.f1.length ≤ 1048576) (x : Int) : Ev (fun k => spec_MarksOf.f k l x) (marksOf l x) := by
  unfold spec_MarksOf.f spec_l31Find.f
  refine ev_bind (specFind_l0 l hl x l.length 0 (by omega)) ?_
  rw [List.drop_zero]
  have hlt := idx_lt l x
  unfold marksOf
  generalize idxB (fun y : ISecret => y.f0 == x) l 0 = r at hlt
  refine ev_ite (fun h => ev_some (by rw [if_pos h])) (fun h => ?_)
  rw [if_neg h]
  have hr : rd_T36 l r = sec l r.toNat := by unfold sec; congr 1; omega
  have hz := hm _ (sec_mem l r.toNat (by omega))
  rw [hr]
  exact ev_bindc rfl (ev_itep (by omega) (ev_itep hlt (ev_itep (by simp; omega) (ev_some (by simp)))))
theorem markSecretS_l0 : ∀ (d i : Nat) (l : List ISecret) (q : Int), i + d = l.length → l.length ≤ 1048576 → (∀ j, i ≤ j → j < l.length → (sec l j).f1.length ≤ 1048576) → 0 ≤ q → q ≤ 1 + 4194304 * (i : Int) →
    ∃ r, Ev (fun k => laws_markSecretS.l0 k l q (i : Int)) r ∧ 0 ≤ r.1 := by
  intro d
  induction d with
  | zero =>
    intro i l q hi hl hm h0 h1
    exact ⟨(q, l), ev_step (fun k => by simp only [laws_markSecretS.l0]; rfl) (ev_iten (by omega) (ev_some rfl)), h0⟩
  | succ d ih =>
    intro i l q hi hl hm h0 h1
    have hz := hm i (by omega) (by omega)
    have w0 : wrap64 (q + 1) = q + 1 := wrap_id (by omega) (by omega)
    have hk := markMarkS_at (sec l i).f1 hz (q + 1) (by omega) (by omega)
    have w1 : wrap64 (q + 1 + 2 * ((sec l i).f1.length : Int) + 1) = q + 1 + 2 * ((sec l i).f1.length : Int) + 1 := wrap_id (by omega) (by omega)
    have w2 : wrap64 ((i : Int) + 1) = ((i + 1 : Nat) : Int) := by rw [wrap_id (by omega) (by omega)]; omega
    obtain ⟨r, hr, hr0⟩ := ih (i + 1) (l.set i ⟨q, markedMark (sec l i).f1.length (q + 1), q + 1 + 2 * ((sec l i).f1.length : Int)⟩) (q + 1 + 2 * ((sec l i).f1.length : Int) + 1) (by rw [List.length_set]; omega) (by rw [List.length_set]; exact hl)
      (fun j hj hjl => by
        rw [List.length_set] at hjl
        have e : sec (l.set i ⟨q, markedMark (sec l i).f1.length (q + 1), q + 1 + 2 * ((sec l i).f1.length : Int)⟩) j = sec l j := by
          unfold sec rd_T36
          simp only [List.getD_eq_getElem?_getD, Int.toNat_natCast]
          rw [List.getElem?_set_ne (by omega)]
        rw [e]
        exact hm j (by omega) hjl) (by omega) (by omega)
    refine ⟨r, ev_step (fun k => by simp only [laws_markSecretS.l0]; rfl) (ev_itep (by omega) (ev_itep (by omega) ?_)), hr0⟩
    rw [rd_sec, w0, w2, Int.toNat_natCast]
    refine ev_bind hk ?_
    rw [w1]
    exact hr
theorem markSecretS_ev (l : List ISecret) (hl : l.length ≤ 1048576) (hm : ∀ x ∈ l, x.f1.length ≤ 1048576) : ∃ r, Ev (fun k => laws_markSecretS.f k l 1) r ∧ 0 ≤ r := by
  obtain ⟨r, h1, h2⟩ := markSecretS_l0 l.length 0 l 1 (by omega) hl (fun j _ hj => hm _ (sec_mem l j hj)) (by omega) (by omega)
  exact ⟨r.1, ev_bind h1 (ev_some rfl), h2⟩
end Go.Proofs.Ytfghapankndioaa.PFnExactMarksOf
