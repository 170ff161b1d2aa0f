/- Lists of Mark: marks. -/
import Derived.Test.YtfghapankndioaaCvMarkFnExactMarksOf
namespace Go.Proofs.Ytfghapankndioaa.PFnExactMarksOf
open Go.RowKit Go.Proofs.YtfghapankndioaaW.PrintWords Go.Proofs.YtfghapankndioaaW.PrintLast Go.Proofs.Ytfghapankndioaa.EvLib
/-- d elements with running numbers. -/
def markedMark : Nat → Int → List IMark
  | 0, _ => []
  | d + 1, q => ⟨q, q + 1⟩ :: markedMark d (q + 1 + 1)
theorem markedMark_len : ∀ (d : Nat) (q : Int), (markedMark d q).length = d
  | 0, _ => rfl
  | d + 1, q => by rw [markedMark, List.length_cons, markedMark_len d]
theorem markMarkS_l0 : ∀ (d i : Nat) (l : List IMark) (q : Int), i + d = l.length → l.length ≤ 1048576 → 0 ≤ q → q ≤ 1000000000000000 + 2 * (i : Int) →
    Ev (fun k => laws_markMarkS.l0 k l q (i : Int)) (q + 2 * (d : Int), l.take i ++ markedMark d q) := by
  intro d
  induction d with
  | zero =>
    intro i l q hi hl h0 h1
    refine ev_step (fun k => by simp only [laws_markMarkS.l0]; rfl) (ev_iten (by omega) (ev_some ?_))
    rw [List.take_of_length_le (by omega)]
    simp [markedMark]
  | succ d ih =>
    intro i l q hi hl h0 h1
    have r1 : ∀ v, rd_T67 (l.set i v) (i : Int) = v := fun v => by
      unfold rd_T67
      rw [Int.toNat_natCast, List.getD_eq_getElem?_getD, List.getElem?_set_self (by omega)]
      rfl
    have w0 : wrap64 (q + 1) = q + 1 := wrap_id (by omega) (by omega)
    have w1 : wrap64 (q + 1 + 1) = q + 1 + 1 := wrap_id (by omega) (by omega)
    have e : ∀ k, laws_markMarkS.l0 (k + 1) l q (i : Int) = laws_markMarkS.l0 k (l.set i ⟨q, q + 1⟩) (q + 1 + 1) ((i + 1 : Nat) : Int) := fun k => by
      simp only [laws_markMarkS.l0]
      rw [if_pos (by omega), if_pos (by omega)]
      simp only [Option.bind_some, Int.toNat_natCast, List.set_set, r1, w0, w1, wrap_id (x := (i : Int) + 1) (by omega) (by omega)]
      rfl
    refine ev_step e (ev_eq (ih (i + 1) _ _ (by rw [List.length_set]; omega) (by rw [List.length_set]; exact hl) (by omega) (by omega)) ?_)
    rw [markedMark, List.take_succ_eq_append_getElem (by rw [List.length_set]; omega), List.take_set_of_le (Nat.le_refl _), List.getElem_set_self, List.append_assoc, List.singleton_append]
    congr 1
    omega
theorem markMarkS_ev (l : List IMark) (hl : l.length ≤ 1048576) : Ev (fun k => laws_markMarkS.f k l 1) (1 + 2 * (l.length : Int), markedMark l.length 1) := by
  unfold laws_markMarkS.f
  exact markMarkS_l0 l.length 0 l 1 (by omega) hl (by omega) (by omega)
theorem heldMarkS_l0 : ∀ (d i : Nat) (l : List IMark) (q : Int), i + d = l.length → l.length ≤ 1048576 → 0 ≤ q → q ≤ 1000000000000000 + 2 * (i : Int) → l.drop i = markedMark d q →
    Ev (fun k => laws_heldMarkS.l0 k l q (i : Int)) (q + 2 * (d : Int)) := by
  intro d
  induction d with
  | zero =>
    intro i l q hi hl h0 h1 _
    exact ev_step (fun k => by simp only [laws_heldMarkS.l0]; rfl) (ev_iten (by omega) (ev_some (by simp)))
  | succ d ih =>
    intro i l q hi hl h0 h1 hm
    rw [markedMark, List.drop_eq_getElem_cons (by omega)] at hm
    injection hm with hm1 hm2
    have r1 : rd_T67 l (i : Int) = ⟨q, q + 1⟩ := by
      unfold rd_T67
      rw [Int.toNat_natCast, List.getD_eq_getElem?_getD, List.getElem?_eq_getElem (by omega), Option.getD_some, hm1]
    have w0 : wrap64 (q + 1) = q + 1 := wrap_id (by omega) (by omega)
    have w1 : wrap64 (q + 1 + 1) = q + 1 + 1 := wrap_id (by omega) (by omega)
    have e : ∀ k, laws_heldMarkS.l0 (k + 1) l q (i : Int) = laws_heldMarkS.l0 k l (q + 1 + 1) ((i + 1 : Nat) : Int) := fun k => by
      simp only [laws_heldMarkS.l0]
      rw [if_pos (by omega), if_pos (by omega)]
      simp only [r1, w0, w1, wrap_id (x := (i : Int) + 1) (by omega) (by omega), if_true]
      rfl
    exact ev_step e (ev_eq (ih (i + 1) l _ (by omega) hl (by omega) (by omega) hm2) (by omega))
theorem heldMarkS_ev (n : Nat) (hn : n ≤ 1048576) : Ev (fun k => laws_heldMarkS.f k (markedMark n 1) 1) (1 + 2 * (n : Int)) := by
  unfold laws_heldMarkS.f
  exact heldMarkS_l0 n 0 (markedMark n 1) 1 (by rw [markedMark_len]; omega) (by rw [markedMark_len]; exact hn) (by omega) (by omega) rfl
theorem markMarkS_at (l : List IMark) (hl : l.length ≤ 1048576) (q : Int) (h0 : 0 ≤ q) (h1 : q ≤ 1000000000000000) : Ev (fun k => laws_markMarkS.f k l q) (q + 2 * (l.length : Int), markedMark l.length q) := by
  unfold laws_markMarkS.f
  exact markMarkS_l0 l.length 0 l q (by omega) hl h0 (by omega)
end Go.Proofs.Ytfghapankndioaa.PFnExactMarksOf
