/- Lists of whole numbers: marks. -/
import Derived.Test.YtglpmjcknhcjcaaStmFnExactGroupReports
import Derived.Test.YtglpmjcknhcjcaaEvLib
namespace Go.Proofs.Ytglpmjcknhcjcaa.PFnExactGroupReports
open Go.RowKit Go.Proofs.YtglpmjcknhcjcaaW.PrintWords Go.Proofs.YtglpmjcknhcjcaaW.PrintLast Go.Proofs.Ytglpmjcknhcjcaa.EvLib
/-- d running numbers. -/
def markedInt : Nat → Int → List Int
  | 0, _ => []
  | d + 1, q => q :: markedInt d (q + 1)
theorem markedInt_len : ∀ (d : Nat) (q : Int), (markedInt d q).length = d
  | 0, _ => rfl
  | d + 1, q => by rw [markedInt, List.length_cons, markedInt_len d]
theorem markIntS_l0 : ∀ (d i : Nat) (l : List Int) (q : Int), i + d = l.length → l.length ≤ 1048576 → 0 ≤ q → q ≤ 1 + (i : Int) →
    Ev (fun k => laws_markIntS.l0 k l q (i : Int)) (q + (d : Int), l.take i ++ markedInt d q) := by
  intro d
  induction d with
  | zero =>
    intro i l q hi hl h0 h1
    refine ev_step (fun k => by simp only [laws_markIntS.l0]; rfl) (ev_iten (by omega) (ev_some ?_))
    rw [List.take_of_length_le (by omega)]
    simp [markedInt]
  | succ d ih =>
    intro i l q hi hl h0 h1
    refine ev_step (fun k => by simp only [laws_markIntS.l0]; rfl) (ev_itep (by omega) (ev_itep (by omega) ?_))
    rw [wrap_id (x := (i : Int) + 1) (by omega) (by omega), wrap_id (x := q + 1) (by omega) (by omega), Int.toNat_natCast]
    refine ev_eq (ih (i + 1) _ _ (by rw [List.length_set]; omega) (by rw [List.length_set]; exact hl) (by omega) (by omega)) ?_
    rw [markedInt, List.take_succ_eq_append_getElem (by rw [List.length_set]; omega), List.take_set_of_le (Nat.le_refl _), List.getElem_set_self, List.append_assoc, List.singleton_append]
    congr 1
    omega
theorem markIntS_ev (l : List Int) (hl : l.length ≤ 1048576) : Ev (fun k => laws_markIntS.f k l 1) (1 + (l.length : Int), markedInt l.length 1) := by
  unfold laws_markIntS.f
  exact markIntS_l0 l.length 0 l 1 (by omega) hl (by omega) (by omega)
theorem heldIntS_l0 : ∀ (d i : Nat) (l : List Int) (q : Int), i + d = l.length → l.length ≤ 1048576 → 0 ≤ q → q ≤ 1 + (i : Int) → l.drop i = markedInt d q →
    Ev (fun k => laws_heldIntS.l0 k l q (i : Int)) (q + (d : Int)) := by
  intro d
  induction d with
  | zero =>
    intro i l q hi hl h0 h1 _
    exact ev_step (fun k => by simp only [laws_heldIntS.l0]; rfl) (ev_iten (by omega) (ev_some (by simp)))
  | succ d ih =>
    intro i l q hi hl h0 h1 hm
    rw [markedInt, List.drop_eq_getElem_cons (by omega)] at hm
    injection hm with hm1 hm2
    have r1 : rd l (i : Int) = q := by
      unfold rd
      rw [Int.toNat_natCast, List.getD_eq_getElem?_getD, List.getElem?_eq_getElem (by omega), Option.getD_some, hm1]
    refine ev_step (fun k => by simp only [laws_heldIntS.l0]; rfl) (ev_itep (by omega) (ev_itep (by omega) (ev_itep r1 ?_)))
    rw [wrap_id (x := (i : Int) + 1) (by omega) (by omega), wrap_id (x := q + 1) (by omega) (by omega)]
    exact ev_eq (ih (i + 1) l _ (by omega) hl (by omega) (by omega) hm2) (by omega)
theorem heldIntS_ev (n : Nat) (hn : n ≤ 1048576) : Ev (fun k => laws_heldIntS.f k (markedInt n 1) 1) (1 + (n : Int)) := by
  unfold laws_heldIntS.f
  exact heldIntS_l0 n 0 (markedInt n 1) 1 (by rw [markedInt_len]; omega) (by rw [markedInt_len]; exact hn) (by omega) (by omega) rfl
end Go.Proofs.Ytglpmjcknhcjcaa.PFnExactGroupReports
