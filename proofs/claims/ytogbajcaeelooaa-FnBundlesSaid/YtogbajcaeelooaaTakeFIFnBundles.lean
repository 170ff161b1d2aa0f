/- TakeFrom, by the program. -/
import Derived.Test.YtogbajcaeelooaaInnIFnBundles
import Derived.Test.YtogbajcaeelooaaInnUFnBundles
namespace Go.Proofs.Ytogbajcaeelooaa.PFnBundles
open Go.RowKit Go.Proofs.YtogbajcaeelooaaW.PrintWords Go.Proofs.YtogbajcaeelooaaW.PrintLast Go.Proofs.Ytogbajcaeelooaa.EvLib
theorem filter_erase {α : Type} (p : α → Bool) : ∀ (l : List α) (j : Nat) (hj : j < l.length), p l[j] = false → (∀ (q : Nat) (hq : q < l.length), q ≠ j → p l[q] = true) → l.filter p = l.eraseIdx j := by
  intro l
  induction l with
  | nil => intro j hj; simp at hj
  | cons x l ih =>
    intro j hj h0 h1
    cases j with
    | zero =>
      have hx : ¬ p x = true := by rw [show p x = false from h0]; simp
      rw [List.filter_cons_of_neg hx, List.eraseIdx_cons_zero, List.filter_eq_self]
      intro a ha
      obtain ⟨q, hq, rfl⟩ := List.mem_iff_getElem.1 ha
      exact h1 (q + 1) (by simp; omega) (by omega)
    | succ j =>
      have hx : p x = true := h1 0 (by simp) (by omega)
      rw [List.filter_cons_of_pos hx, List.eraseIdx_cons_succ, ih j (by simp at hj; omega) h0 (fun q hq hne => h1 (q + 1) (by simp; omega) (by omega))]
def offF (l : List IInner) (x : Int) : List IInner := l.filter (fun y => decide (y.f1 ≠ x))
def takeF (l : List IInner) (x : Int) : List IInner × Bool := if areInn l = true ∧ hasF x l = true then (offF l x, true) else (l, false)
theorem off_no {l : List IInner} {x : Int} (h : hasF x l = false) : offF l x = l := by
  unfold offF
  rw [List.filter_eq_self]
  intro y hy
  obtain ⟨i, hi, rfl⟩ := List.mem_iff_getElem.1 hy
  have := has_no h i hi
  rw [inn_get l i hi] at this
  simpa using this
theorem off_lt {l : List IInner} {x : Int} (h : hasF x l = true) : (offF l x).length < l.length := by
  unfold offF
  rw [List.length_filter_lt_length_iff_exists]
  obtain ⟨y, h1, h2⟩ := has_ex h
  exact ⟨y, h1, by simp [h2]⟩
theorem takeF_len (l : List IInner) (x : Int) : (takeF l x).1.length ≤ l.length := by
  unfold takeF
  split
  · exact List.length_filter_le _ _
  · exact Nat.le_refl _
theorem implTakeFrom_ev (l : List IInner) (hl : l.length ≤ 1048576) (x : Int) : Ev (fun k => impl_TakeFrom.f k l x) (takeF l x) := by
  unfold impl_TakeFrom.f
  have cl : impl_Inner_41.f l = some l := by unfold impl_Inner_41.f; rw [if_pos (by omega)]
  refine ev_bindc cl (ev_bindc rfl (ev_bind (implAreInners_ev l hl) (ev_ite (fun ha => ?_) (fun ha => ev_some ?_))))
  · rcases idxB_in (fun y : IInner => y.f1 == x) z48 l 0 with ⟨h1, h2⟩ | ⟨j, h1, h2, h3, h4⟩
    · have hn : hasF x l = false := by
        cases c : hasF x l with
        | false => rfl
        | true =>
          obtain ⟨y, h5, h6⟩ := has_ex c
          have := h2 y h5
          simp [h6] at this
      rw [h1]
      refine ev_itep (by omega) (ev_some ?_)
      unfold takeF
      rw [if_neg (fun z => by rw [hn] at z; cases z.2)]
    · have hx : (inn l j).f1 = x := beq_iff_eq.1 h3
      have hh := has_of j h1 hx
      rw [h2]
      refine ev_iten (by omega) (ev_itep (by omega) (ev_itep (by omega) (ev_some ?_)))
      unfold takeF
      rw [if_pos ⟨ha, hh⟩]
      congr 1
      rw [show (((0 + j : Nat) : Int)).toNat = j by omega]
      unfold offF
      symm
      refine filter_erase _ l j h1 ?_ (fun q hq hne => ?_)
      · rw [← inn_get l j h1]
        simp [hx]
      · rw [← inn_get l q hq]
        have : (inn l q).f1 ≠ x := by
          rcases Nat.lt_or_gt_of_ne hne with c | c
          · have := h4 q c
            exact fun e => by rw [show ((l.getD q z48).f1 == x) = true from beq_iff_eq.2 e] at this; cases this
          · intro e
            have h5 := are_once ha q hq
            rw [e] at h5
            have h6 := has_no h5 j (by rw [List.length_take]; omega)
            apply h6
            rw [← hx, inn_get _ j (by rw [List.length_take]; omega), inn_get l j h1, List.getElem_take]
        simpa using this
  · unfold takeF
    rw [if_neg (fun z => ha z.1)]
end Go.Proofs.Ytogbajcaeelooaa.PFnBundles
