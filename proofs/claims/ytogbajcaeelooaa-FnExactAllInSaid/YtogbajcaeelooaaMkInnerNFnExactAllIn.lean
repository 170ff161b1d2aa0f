/- Lists of Inner: marks. -/
import Derived.Test.YtogbajcaeelooaaCvInnerFnExactAllIn
namespace Go.Proofs.Ytogbajcaeelooaa.PFnExactAllIn
open Go.RowKit Go.Proofs.YtogbajcaeelooaaW.PrintWords Go.Proofs.YtogbajcaeelooaaW.PrintLast Go.Proofs.Ytogbajcaeelooaa.EvLib
/-- d elements with running numbers. -/
def markedInner : Nat → Int → List IInner
  | 0, _ => []
  | d + 1, q => ⟨q, q + 1⟩ :: markedInner d (q + 1 + 1)
theorem markedInner_len : ∀ (d : Nat) (q : Int), (markedInner d q).length = d
  | 0, _ => rfl
  | d + 1, q => by rw [markedInner, List.length_cons, markedInner_len d]
theorem markInnerS_l0 : ∀ (d i : Nat) (l : List IInner) (q : Int), i + d = l.length → l.length ≤ 1048576 → 0 ≤ q → q ≤ 1 + 2 * (i : Int) →
    Ev (fun k => laws_markInnerS.l0 k l q (i : Int)) (q + 2 * (d : Int), l.take i ++ markedInner d q) := by
  intro d
  induction d with
  | zero =>
    intro i l q hi hl h0 h1
    refine ev_step (fun k => by simp only [laws_markInnerS.l0]; rfl) (ev_iten (by omega) (ev_some ?_))
    rw [List.take_of_length_le (by omega)]
    simp [markedInner]
  | succ d ih =>
    intro i l q hi hl h0 h1
    have r1 : ∀ v, rd_T48 (l.set i v) (i : Int) = v := fun v => by
      unfold rd_T48
      rw [Int.toNat_natCast, List.getD_eq_getElem?_getD, List.getElem?_set_self (by omega)]
      rfl
    have w0 : wrap64 (q + 1) = q + 1 := wrap_id (by omega) (by omega)
    have w1 : wrap64 (q + 1 + 1) = q + 1 + 1 := wrap_id (by omega) (by omega)
    have e : ∀ k, laws_markInnerS.l0 (k + 1) l q (i : Int) = laws_markInnerS.l0 k (l.set i ⟨q, q + 1⟩) (q + 1 + 1) ((i + 1 : Nat) : Int) := fun k => by
      simp only [laws_markInnerS.l0]
      rw [if_pos (by omega), if_pos (by omega)]
      simp only [Option.bind_some, Int.toNat_natCast, List.set_set, r1, w0, w1, wrap_id (x := (i : Int) + 1) (by omega) (by omega)]
      rfl
    refine ev_step e (ev_eq (ih (i + 1) _ _ (by rw [List.length_set]; omega) (by rw [List.length_set]; exact hl) (by omega) (by omega)) ?_)
    rw [markedInner, List.take_succ_eq_append_getElem (by rw [List.length_set]; omega), List.take_set_of_le (Nat.le_refl _), List.getElem_set_self, List.append_assoc, List.singleton_append]
    congr 1
    omega
theorem markInnerS_ev (l : List IInner) (hl : l.length ≤ 1048576) : Ev (fun k => laws_markInnerS.f k l 1) (1 + 2 * (l.length : Int), markedInner l.length 1) := by
  unfold laws_markInnerS.f
  exact markInnerS_l0 l.length 0 l 1 (by omega) hl (by omega) (by omega)
end Go.Proofs.Ytogbajcaeelooaa.PFnExactAllIn
