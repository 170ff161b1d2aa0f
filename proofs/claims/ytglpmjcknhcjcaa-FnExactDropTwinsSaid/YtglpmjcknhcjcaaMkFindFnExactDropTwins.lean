/- Lists of Find: marks. -/
import Derived.Test.YtglpmjcknhcjcaaCvFindFnExactDropTwins
namespace Go.Proofs.Ytglpmjcknhcjcaa.PFnExactDropTwins
open Go.RowKit Go.Proofs.YtglpmjcknhcjcaaW.PrintWords Go.Proofs.YtglpmjcknhcjcaaW.PrintLast Go.Proofs.Ytglpmjcknhcjcaa.EvLib
/-- d elements with running numbers. -/
def markedFind : Nat → Int → List IFind
  | 0, _ => []
  | d + 1, q => ⟨⟨q, q + 1, q + 1 + 1, q + 1 + 1 + 1, q + 1 + 1 + 1 + 1⟩, q + 1 + 1 + 1 + 1 + 1, q + 1 + 1 + 1 + 1 + 1 + 1, q + 1 + 1 + 1 + 1 + 1 + 1 + 1⟩ :: markedFind d (q + 1 + 1 + 1 + 1 + 1 + 1 + 1 + 1)
theorem markedFind_len : ∀ (d : Nat) (q : Int), (markedFind d q).length = d
  | 0, _ => rfl
  | d + 1, q => by rw [markedFind, List.length_cons, markedFind_len d]
theorem markFindS_l0 : ∀ (d i : Nat) (l : List IFind) (q : Int), i + d = l.length → l.length ≤ 1048576 → 0 ≤ q → q ≤ 16777216 + 8 * (i : Int) →
    Ev (fun k => laws_markFindS.l0 k l q (i : Int)) (q + 8 * (d : Int), l.take i ++ markedFind d q) := by
  intro d
  induction d with
  | zero =>
    intro i l q hi hl h0 h1
    refine ev_step (fun k => by simp only [laws_markFindS.l0]; rfl) (ev_iten (by omega) (ev_some ?_))
    rw [List.take_of_length_le (by omega)]
    simp [markedFind]
  | succ d ih =>
    intro i l q hi hl h0 h1
    have r1 : ∀ v, rd_T58 (l.set i v) (i : Int) = v := fun v => by
      unfold rd_T58
      rw [Int.toNat_natCast, List.getD_eq_getElem?_getD, List.getElem?_set_self (by omega)]
      rfl
    have w0 : wrap64 (q + 1) = q + 1 := wrap_id (by omega) (by omega)
    have w1 : wrap64 (q + 1 + 1) = q + 1 + 1 := wrap_id (by omega) (by omega)
    have w2 : wrap64 (q + 1 + 1 + 1) = q + 1 + 1 + 1 := wrap_id (by omega) (by omega)
    have w3 : wrap64 (q + 1 + 1 + 1 + 1) = q + 1 + 1 + 1 + 1 := wrap_id (by omega) (by omega)
    have w4 : wrap64 (q + 1 + 1 + 1 + 1 + 1) = q + 1 + 1 + 1 + 1 + 1 := wrap_id (by omega) (by omega)
    have w5 : wrap64 (q + 1 + 1 + 1 + 1 + 1 + 1) = q + 1 + 1 + 1 + 1 + 1 + 1 := wrap_id (by omega) (by omega)
    have w6 : wrap64 (q + 1 + 1 + 1 + 1 + 1 + 1 + 1) = q + 1 + 1 + 1 + 1 + 1 + 1 + 1 := wrap_id (by omega) (by omega)
    have w7 : wrap64 (q + 1 + 1 + 1 + 1 + 1 + 1 + 1 + 1) = q + 1 + 1 + 1 + 1 + 1 + 1 + 1 + 1 := wrap_id (by omega) (by omega)
    have e : ∀ k, laws_markFindS.l0 (k + 1) l q (i : Int) = laws_markFindS.l0 k (l.set i ⟨⟨q, q + 1, q + 1 + 1, q + 1 + 1 + 1, q + 1 + 1 + 1 + 1⟩, q + 1 + 1 + 1 + 1 + 1, q + 1 + 1 + 1 + 1 + 1 + 1, q + 1 + 1 + 1 + 1 + 1 + 1 + 1⟩) (q + 1 + 1 + 1 + 1 + 1 + 1 + 1 + 1) ((i + 1 : Nat) : Int) := fun k => by
      simp only [laws_markFindS.l0]
      rw [if_pos (by omega), if_pos (by omega)]
      simp only [Option.bind_some, Int.toNat_natCast, List.set_set, r1, w0, w1, w2, w3, w4, w5, w6, w7, wrap_id (x := (i : Int) + 1) (by omega) (by omega)]
      rfl
    refine ev_step e (ev_eq (ih (i + 1) _ _ (by rw [List.length_set]; omega) (by rw [List.length_set]; exact hl) (by omega) (by omega)) ?_)
    rw [markedFind, List.take_succ_eq_append_getElem (by rw [List.length_set]; omega), List.take_set_of_le (Nat.le_refl _), List.getElem_set_self, List.append_assoc, List.singleton_append]
    congr 1
    omega
theorem markFindS_ev (l : List IFind) (hl : l.length ≤ 1048576) : Ev (fun k => laws_markFindS.f k l 1) (1 + 8 * (l.length : Int), markedFind l.length 1) := by
  unfold laws_markFindS.f
  exact markFindS_l0 l.length 0 l 1 (by omega) hl (by omega) (by omega)
theorem markFindS_evq (l : List IFind) (hl : l.length ≤ 1048576) (q : Int) (h0 : 0 ≤ q) (h1 : q ≤ 16777216) : Ev (fun k => laws_markFindS.f k l q) (q + 8 * (l.length : Int), markedFind l.length q) := by
  unfold laws_markFindS.f
  exact markFindS_l0 l.length 0 l q (by omega) hl h0 (by omega)
theorem heldFindS_l0 : ∀ (d i : Nat) (l : List IFind) (q : Int), i + d = l.length → l.length ≤ 1048576 → 0 ≤ q → q ≤ 16777216 + 8 * (i : Int) → l.drop i = markedFind d q →
    Ev (fun k => laws_heldFindS.l0 k l q (i : Int)) (q + 8 * (d : Int)) := by
  intro d
  induction d with
  | zero =>
    intro i l q hi hl h0 h1 _
    exact ev_step (fun k => by simp only [laws_heldFindS.l0]; rfl) (ev_iten (by omega) (ev_some (by simp)))
  | succ d ih =>
    intro i l q hi hl h0 h1 hm
    rw [markedFind, List.drop_eq_getElem_cons (by omega)] at hm
    injection hm with hm1 hm2
    have r1 : rd_T58 l (i : Int) = ⟨⟨q, q + 1, q + 1 + 1, q + 1 + 1 + 1, q + 1 + 1 + 1 + 1⟩, q + 1 + 1 + 1 + 1 + 1, q + 1 + 1 + 1 + 1 + 1 + 1, q + 1 + 1 + 1 + 1 + 1 + 1 + 1⟩ := by
      unfold rd_T58
      rw [Int.toNat_natCast, List.getD_eq_getElem?_getD, List.getElem?_eq_getElem (by omega), Option.getD_some, hm1]
    have w0 : wrap64 (q + 1) = q + 1 := wrap_id (by omega) (by omega)
    have w1 : wrap64 (q + 1 + 1) = q + 1 + 1 := wrap_id (by omega) (by omega)
    have w2 : wrap64 (q + 1 + 1 + 1) = q + 1 + 1 + 1 := wrap_id (by omega) (by omega)
    have w3 : wrap64 (q + 1 + 1 + 1 + 1) = q + 1 + 1 + 1 + 1 := wrap_id (by omega) (by omega)
    have w4 : wrap64 (q + 1 + 1 + 1 + 1 + 1) = q + 1 + 1 + 1 + 1 + 1 := wrap_id (by omega) (by omega)
    have w5 : wrap64 (q + 1 + 1 + 1 + 1 + 1 + 1) = q + 1 + 1 + 1 + 1 + 1 + 1 := wrap_id (by omega) (by omega)
    have w6 : wrap64 (q + 1 + 1 + 1 + 1 + 1 + 1 + 1) = q + 1 + 1 + 1 + 1 + 1 + 1 + 1 := wrap_id (by omega) (by omega)
    have w7 : wrap64 (q + 1 + 1 + 1 + 1 + 1 + 1 + 1 + 1) = q + 1 + 1 + 1 + 1 + 1 + 1 + 1 + 1 := wrap_id (by omega) (by omega)
    have e : ∀ k, laws_heldFindS.l0 (k + 1) l q (i : Int) = laws_heldFindS.l0 k l (q + 1 + 1 + 1 + 1 + 1 + 1 + 1 + 1) ((i + 1 : Nat) : Int) := fun k => by
      simp only [laws_heldFindS.l0]
      rw [if_pos (by omega), if_pos (by omega)]
      simp only [r1, w0, w1, w2, w3, w4, w5, w6, w7, wrap_id (x := (i : Int) + 1) (by omega) (by omega), if_true]
      rfl
    exact ev_step e (ev_eq (ih (i + 1) l _ (by omega) hl (by omega) (by omega) hm2) (by omega))
theorem heldFindS_ev (n : Nat) (hn : n ≤ 1048576) : Ev (fun k => laws_heldFindS.f k (markedFind n 1) 1) (1 + 8 * (n : Int)) := by
  unfold laws_heldFindS.f
  exact heldFindS_l0 n 0 (markedFind n 1) 1 (by rw [markedFind_len]; omega) (by rw [markedFind_len]; exact hn) (by omega) (by omega) rfl
end Go.Proofs.Ytglpmjcknhcjcaa.PFnExactDropTwins
