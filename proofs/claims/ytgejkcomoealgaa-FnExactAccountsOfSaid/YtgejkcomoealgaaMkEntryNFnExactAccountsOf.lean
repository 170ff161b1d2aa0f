/- Lists of Entry: marks. -/
import Derived.Test.YtgejkcomoealgaaCvEntryFnExactAccountsOf
namespace Go.Proofs.Ytgejkcomoealgaa.PFnExactAccountsOf
open Go.RowKit Go.Proofs.YtgejkcomoealgaaW.PrintWords Go.Proofs.YtgejkcomoealgaaW.PrintLast Go.Proofs.Ytgejkcomoealgaa.EvLib
/-- d elements with running numbers. -/
def markedEntry : Nat → Int → List IEntry
  | 0, _ => []
  | d + 1, q => ⟨q, q + 1, q + 1 + 1, q + 1 + 1 + 1⟩ :: markedEntry d (q + 1 + 1 + 1 + 1)
theorem markedEntry_len : ∀ (d : Nat) (q : Int), (markedEntry d q).length = d
  | 0, _ => rfl
  | d + 1, q => by rw [markedEntry, List.length_cons, markedEntry_len d]
theorem markEntryS_l0 : ∀ (d i : Nat) (l : List IEntry) (q : Int), i + d = l.length → l.length ≤ 1048576 → 0 ≤ q → q ≤ 16777216 + 4 * (i : Int) →
    Ev (fun k => laws_markEntryS.l0 k l q (i : Int)) (q + 4 * (d : Int), l.take i ++ markedEntry d q) := by
  intro d
  induction d with
  | zero =>
    intro i l q hi hl h0 h1
    refine ev_step (fun k => by simp only [laws_markEntryS.l0]; rfl) (ev_iten (by omega) (ev_some ?_))
    rw [List.take_of_length_le (by omega)]
    simp [markedEntry]
  | succ d ih =>
    intro i l q hi hl h0 h1
    have r1 : ∀ v, rd_T35 (l.set i v) (i : Int) = v := fun v => by
      unfold rd_T35
      rw [Int.toNat_natCast, List.getD_eq_getElem?_getD, List.getElem?_set_self (by omega)]
      rfl
    have w0 : wrap64 (q + 1) = q + 1 := wrap_id (by omega) (by omega)
    have w1 : wrap64 (q + 1 + 1) = q + 1 + 1 := wrap_id (by omega) (by omega)
    have w2 : wrap64 (q + 1 + 1 + 1) = q + 1 + 1 + 1 := wrap_id (by omega) (by omega)
    have w3 : wrap64 (q + 1 + 1 + 1 + 1) = q + 1 + 1 + 1 + 1 := wrap_id (by omega) (by omega)
    have e : ∀ k, laws_markEntryS.l0 (k + 1) l q (i : Int) = laws_markEntryS.l0 k (l.set i ⟨q, q + 1, q + 1 + 1, q + 1 + 1 + 1⟩) (q + 1 + 1 + 1 + 1) ((i + 1 : Nat) : Int) := fun k => by
      simp only [laws_markEntryS.l0]
      rw [if_pos (by omega), if_pos (by omega)]
      simp only [Option.bind_some, Int.toNat_natCast, List.set_set, r1, w0, w1, w2, w3, wrap_id (x := (i : Int) + 1) (by omega) (by omega)]
      rfl
    refine ev_step e (ev_eq (ih (i + 1) _ _ (by rw [List.length_set]; omega) (by rw [List.length_set]; exact hl) (by omega) (by omega)) ?_)
    rw [markedEntry, List.take_succ_eq_append_getElem (by rw [List.length_set]; omega), List.take_set_of_le (Nat.le_refl _), List.getElem_set_self, List.append_assoc, List.singleton_append]
    congr 1
    omega
theorem markEntryS_ev (l : List IEntry) (hl : l.length ≤ 1048576) : Ev (fun k => laws_markEntryS.f k l 1) (1 + 4 * (l.length : Int), markedEntry l.length 1) := by
  unfold laws_markEntryS.f
  exact markEntryS_l0 l.length 0 l 1 (by omega) hl (by omega) (by omega)
theorem markEntryS_evq (l : List IEntry) (hl : l.length ≤ 1048576) (q : Int) (h0 : 0 ≤ q) (h1 : q ≤ 16777216) : Ev (fun k => laws_markEntryS.f k l q) (q + 4 * (l.length : Int), markedEntry l.length q) := by
  unfold laws_markEntryS.f
  exact markEntryS_l0 l.length 0 l q (by omega) hl h0 (by omega)
end Go.Proofs.Ytgejkcomoealgaa.PFnExactAccountsOf
