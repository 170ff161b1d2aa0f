/- Lists of whole numbers: marks. -/
import Derived.Test.YtgejkcomoealgaaStmFnExactAccountsOf
import Derived.Test.YtgejkcomoealgaaEvLib
namespace Go.Proofs.Ytgejkcomoealgaa.PFnExactAccountsOf
open Go.RowKit Go.Proofs.YtgejkcomoealgaaW.PrintWords Go.Proofs.YtgejkcomoealgaaW.PrintLast Go.Proofs.Ytgejkcomoealgaa.EvLib
/-- d running numbers. -/
def markedIntB : Nat → Int → List Int
  | 0, _ => []
  | d + 1, q => q :: markedIntB d (q + 1)
theorem markedIntB_len : ∀ (d : Nat) (q : Int), (markedIntB d q).length = d
  | 0, _ => rfl
  | d + 1, q => by rw [markedIntB, List.length_cons, markedIntB_len d]
theorem markIntB_l0 : ∀ (d i : Nat) (l : List Int) (q : Int), i + d = l.length → l.length ≤ 4611686018427387000 → 0 ≤ q → q ≤ 1 + (i : Int) →
    Ev (fun k => laws_markIntS.l0 k l q (i : Int)) (q + (d : Int), l.take i ++ markedIntB d q) := by
  intro d
  induction d with
  | zero =>
    intro i l q hi hl h0 h1
    refine ev_step (fun k => by simp only [laws_markIntS.l0]; rfl) (ev_iten (by omega) (ev_some ?_))
    rw [List.take_of_length_le (by omega)]
    simp [markedIntB]
  | succ d ih =>
    intro i l q hi hl h0 h1
    refine ev_step (fun k => by simp only [laws_markIntS.l0]; rfl) (ev_itep (by omega) (ev_itep (by omega) ?_))
    rw [wrap_id (x := (i : Int) + 1) (by omega) (by omega), wrap_id (x := q + 1) (by omega) (by omega), Int.toNat_natCast]
    refine ev_eq (ih (i + 1) _ _ (by rw [List.length_set]; omega) (by rw [List.length_set]; exact hl) (by omega) (by omega)) ?_
    rw [markedIntB, List.take_succ_eq_append_getElem (by rw [List.length_set]; omega), List.take_set_of_le (Nat.le_refl _), List.getElem_set_self, List.append_assoc, List.singleton_append]
    congr 1
    omega
theorem markIntB_ev (l : List Int) (hl : l.length ≤ 4611686018427387000) : Ev (fun k => laws_markIntS.f k l 1) (1 + (l.length : Int), markedIntB l.length 1) := by
  unfold laws_markIntS.f
  exact markIntB_l0 l.length 0 l 1 (by omega) hl (by omega) (by omega)
theorem heldIntB_l0 : ∀ (d i : Nat) (l : List Int) (q : Int), i + d = l.length → l.length ≤ 4611686018427387000 → 0 ≤ q → q ≤ 1 + (i : Int) → l.drop i = markedIntB d q →
    Ev (fun k => laws_heldIntS.l0 k l q (i : Int)) (q + (d : Int)) := by
  intro d
  induction d with
  | zero =>
    intro i l q hi hl h0 h1 _
    exact ev_step (fun k => by simp only [laws_heldIntS.l0]; rfl) (ev_iten (by omega) (ev_some (by simp)))
  | succ d ih =>
    intro i l q hi hl h0 h1 hm
    rw [markedIntB, List.drop_eq_getElem_cons (by omega)] at hm
    injection hm with hm1 hm2
    have r1 : rd l (i : Int) = q := by
      unfold rd
      rw [Int.toNat_natCast, List.getD_eq_getElem?_getD, List.getElem?_eq_getElem (by omega), Option.getD_some, hm1]
    refine ev_step (fun k => by simp only [laws_heldIntS.l0]; rfl) (ev_itep (by omega) (ev_itep (by omega) (ev_itep r1 ?_)))
    rw [wrap_id (x := (i : Int) + 1) (by omega) (by omega), wrap_id (x := q + 1) (by omega) (by omega)]
    exact ev_eq (ih (i + 1) l _ (by omega) hl (by omega) (by omega) hm2) (by omega)
theorem heldIntB_ev (n : Nat) (hn : n ≤ 4611686018427387000) : Ev (fun k => laws_heldIntS.f k (markedIntB n 1) 1) (1 + (n : Int)) := by
  unfold laws_heldIntS.f
  exact heldIntB_l0 n 0 (markedIntB n 1) 1 (by rw [markedIntB_len]; omega) (by rw [markedIntB_len]; exact hn) (by omega) (by omega) rfl
end Go.Proofs.Ytgejkcomoealgaa.PFnExactAccountsOf
