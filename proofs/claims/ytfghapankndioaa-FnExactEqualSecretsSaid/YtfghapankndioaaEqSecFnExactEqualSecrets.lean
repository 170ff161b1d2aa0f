/- EqualSecrets, by the program and by the reference. -/
import Derived.Test.YtfghapankndioaaCvSecretFnExactEqualSecrets
namespace Go.Proofs.Ytfghapankndioaa.PFnExactEqualSecrets
open Go.RowKit Go.Proofs.YtfghapankndioaaW.PrintWords Go.Proofs.YtfghapankndioaaW.PrintLast Go.Proofs.Ytfghapankndioaa.EvLib
def all2 {α : Type} (p : α → α → Bool) : List α → List α → Bool
  | [], [] => true
  | x :: l, y :: m => p x y && all2 p l m
  | _, _ => false
theorem all2_len {α : Type} (p : α → α → Bool) : ∀ (l m : List α), l.length ≠ m.length → all2 p l m = false := by
  intro l
  induction l with
  | nil =>
    intro m h
    cases m with
    | nil => exact absurd rfl h
    | cons y m => rfl
  | cons x l ih =>
    intro m h
    cases m with
    | nil => rfl
    | cons y m => rw [all2, ih m (by simpa using h), Bool.and_false]
theorem ev_two {α : Type} (L : Nat → Int → Option Bool) (l m : List α) (z : α) (p : α → α → Bool) (hn : l.length ≤ 9223372036854775806) (he : l.length = m.length) (hend : ∀ k, L (k + 1) (l.length : Int) = some true)
    (hstep : ∀ i : Nat, i < l.length → ∀ r, Ev (fun k => L k (wrap64 ((i : Int) + 1))) r → Ev (fun k => L k (i : Int)) (p (l.getD i z) (m.getD i z) && r)) : Ev (fun k => L k 0) (all2 p l m) := by
  have key : ∀ d i : Nat, i + d = l.length → Ev (fun k => L k (i : Int)) (all2 p (l.drop i) (m.drop i)) := by
    intro d
    induction d with
    | zero =>
      intro i hi
      obtain rfl : i = l.length := by omega
      refine ev_step hend (ev_some ?_)
      rw [List.drop_of_length_le (Nat.le_refl _), List.drop_of_length_le (by omega), all2]
    | succ d ih =>
      intro i hi
      have h1 : l.drop i = l.getD i z :: l.drop (i + 1) := by rw [List.drop_eq_getElem_cons (by omega)]; simp [List.getD, show i < l.length by omega]
      have h2 : m.drop i = m.getD i z :: m.drop (i + 1) := by rw [List.drop_eq_getElem_cons (by omega)]; simp [List.getD, show i < m.length by omega]
      rw [h1, h2, all2]
      refine hstep i (by omega) _ ?_
      rw [wrap_id (by omega) (by omega)]
      exact ih (i + 1) (by omega)
  have := key l.length 0 (by omega)
  rwa [List.drop_zero, List.drop_zero] at this
def mkEq (x y : IMark) : Bool := !(!(x.f0 == y.f0) || !(x.f1 == y.f1))
theorem mk_step {g : Nat → Option Bool} (x y : IMark) {r : Bool} (h : Ev g r) : Ev (fun k => if (!(x.f0 == y.f0) || !(x.f1 == y.f1)) = true then some false else g k) (mkEq x y && r) := by
  refine ev_ite (fun c => ev_some ?_) (fun c => ?_)
  · unfold mkEq; rw [c]; rfl
  · have e : mkEq x y = true := by unfold mkEq; rw [Bool.eq_false_iff.mpr c]; rfl
    rw [e, Bool.true_and]
    exact h
theorem specMarks_ev (l m : List IMark) (hl : l.length ≤ 1048576) : Ev (fun k => spec_l31Marks.f k l m) (all2 mkEq l m) := by
  unfold spec_l31Marks.f
  refine ev_ite (fun c => ev_two (fun k i => spec_l31Marks.l0 k l m i) l m z67 mkEq (by omega) (by omega) (fun k => ?_) (fun i hi r hr => ?_)) (fun c => ev_some (all2_len _ _ _ (by omega)).symm)
  · simp only [spec_l31Marks.l0]
    rw [if_neg (by omega)]
  · exact ev_step (fun k => by simp only [spec_l31Marks.l0]; rfl) (ev_itep (by omega) (ev_itep (by omega) (ev_itep (by omega) (mk_step _ _ hr))))
theorem implMarks_ev (l m : List IMark) (hl : l.length ≤ 1048576) : Ev (fun k => impl_Mark.f k l m) (all2 mkEq l m) := by
  unfold impl_Mark.f
  refine ev_ite (fun c => ev_two (fun k i => impl_Mark.l0 k l m (l.length : Int) i) l m z67 mkEq (by omega) (by omega) (fun k => ?_) (fun i hi r hr => ?_)) (fun c => ev_some (all2_len _ _ _ (by omega)).symm)
  · simp only [impl_Mark.l0]
    rw [if_neg (by omega)]
  · exact ev_step (fun k => by simp only [impl_Mark.l0]; rfl) (ev_itep (by omega) (ev_itep (by omega) (ev_itep (by omega) (ev_itep (by omega) (mk_step _ _ hr)))))
def secEq (x y : ISecret) : Bool := decide (x.f0 = y.f0) && (decide (x.f2 = y.f2) && all2 mkEq x.f1 y.f1)
theorem specEqSecrets_ev (l m : List ISecret) (hl : l.length ≤ 1048576) (hm : ∀ x ∈ l, x.f1.length ≤ 1048576) : Ev (fun k => spec_EqualSecrets.f k l m) (all2 secEq l m) := by
  unfold spec_EqualSecrets.f
  refine ev_ite (fun c => ev_two (fun k i => spec_EqualSecrets.l0 k l m i) l m z36 secEq (by omega) (by omega) (fun k => ?_) (fun i hi r hr => ?_)) (fun c => ev_some (all2_len _ _ _ (by omega)).symm)
  · simp only [spec_EqualSecrets.l0]
    rw [if_neg (by omega)]
  · have hx := hm _ (getD_mem l i z36 hi)
    refine ev_step (fun k => by simp only [spec_EqualSecrets.l0]; rfl) (ev_itep (by omega) (ev_itep (by omega) (ev_itep (by omega) ?_)))
    unfold secEq
    refine ev_ite (fun c1 => ev_ite (fun c2 => ev_bind (specMarks_ev _ _ (by unfold rd_T36; rw [Int.toNat_natCast]; exact hx)) (ev_ite (fun c3 => ?_) (fun c3 => ev_some ?_))) (fun c2 => ev_some ?_)) (fun c1 => ev_some ?_)
    · have e : (decide ((l.getD i z36).f0 = (m.getD i z36).f0) && (decide ((l.getD i z36).f2 = (m.getD i z36).f2) && all2 mkEq (l.getD i z36).f1 (m.getD i z36).f1)) = true := by
        rw [Bool.and_eq_true, Bool.and_eq_true]
        exact ⟨decide_eq_true c1, decide_eq_true c2, c3⟩
      rw [e, Bool.true_and]
      exact hr
    · have e : all2 mkEq (l.getD i z36).f1 (m.getD i z36).f1 = false := Bool.eq_false_iff.mpr c3
      rw [e, Bool.and_false, Bool.and_false, Bool.false_and]
    · have e : decide ((l.getD i z36).f2 = (m.getD i z36).f2) = false := decide_eq_false c2
      rw [e, Bool.false_and, Bool.and_false, Bool.false_and]
    · have e : decide ((l.getD i z36).f0 = (m.getD i z36).f0) = false := decide_eq_false c1
      rw [e, Bool.false_and, Bool.false_and]
theorem implEq_ev (x y : ISecret) (hx : x.f1.length ≤ 1048576) : Ev (fun k => impl_EqualSecrets_1.f k x.f0 x.f1 x.f2 y.f0 y.f1 y.f2) (secEq x y) := by
  unfold impl_EqualSecrets_1.f secEq
  refine ev_ite (fun c1 => ev_ite (fun c2 => ev_bind (implMarks_ev _ _ hx) (ev_some ?_)) (fun c2 => ev_some ?_)) (fun c1 => ev_some ?_)
  · rw [decide_eq_true c1, decide_eq_true c2, Bool.true_and, Bool.true_and]
  · rw [decide_eq_false c2, Bool.false_and, Bool.and_false]
  · rw [decide_eq_false c1, Bool.false_and]
theorem implEqSecrets_ev (l m : List ISecret) (hl : l.length ≤ 1048576) (hm : ∀ x ∈ l, x.f1.length ≤ 1048576) : Ev (fun k => impl_EqualSecrets.f k l m) (all2 secEq l m) := by
  unfold impl_EqualSecrets.f impl_Secret.f
  refine ev_ite (fun c => ev_two (fun k i => impl_Secret.l0 k l m i) l m z36 secEq (by omega) (by omega) (fun k => ?_) (fun i hi r hr => ?_)) (fun c => ev_some (all2_len _ _ _ (by omega)).symm)
  · simp only [impl_Secret.l0]
    rw [if_neg (by omega)]
  · have hx := hm _ (getD_mem l i z36 hi)
    refine ev_step (fun k => by simp only [impl_Secret.l0]; rfl) (ev_itep (by omega) (ev_itep (by omega) (ev_itep (by omega) (ev_bind (implEq_ev _ _ (by unfold rd_T36; rw [Int.toNat_natCast]; exact hx)) ?_))))
    have ea : rd_T36 l (i : Int) = l.getD i z36 := by unfold rd_T36; rw [Int.toNat_natCast]
    have eb : rd_T36 m (i : Int) = m.getD i z36 := by unfold rd_T36; rw [Int.toNat_natCast]
    rw [ea, eb]
    refine ev_ite (fun c3 => ?_) (fun c3 => ev_some ?_)
    · rw [c3, Bool.true_and]; exact hr
    · rw [Bool.eq_false_iff.mpr c3, Bool.false_and]
end Go.Proofs.Ytfghapankndioaa.PFnExactEqualSecrets
