/- Sums over entries. -/
import Derived.Test.YtgejkcomoealgaaAreEntryDFnBooks
namespace Go.Proofs.Ytgejkcomoealgaa.PFnBooks
open Go.RowKit Go.Proofs.YtgejkcomoealgaaW.PrintWords Go.Proofs.YtgejkcomoealgaaW.PrintLast Go.Proofs.Ytgejkcomoealgaa.EvLib
def sumIf (p : IEntry → Bool) : List IEntry → Int
  | [] => 0
  | x :: l => (if p x = true then x.f2 else 0) + sumIf p l
def small (l : List IEntry) : Prop := ∀ x ∈ l, 1 ≤ x.f2 ∧ x.f2 ≤ 10000000
theorem small_of {l : List IEntry} (h : areEntry l = true) : small l := by
  intro x hx
  obtain ⟨i, hi, rfl⟩ := List.mem_iff_getElem.1 hx
  have := areEntry_ok h i hi
  unfold enOk at this
  simp only [Bool.and_eq_true, decide_eq_true_eq] at this
  have e : en l i = l[i] := by simp [en, List.getD, hi]
  rw [← e]
  exact this.2.2.2.1
theorem small_en {l : List IEntry} (h : small l) (i : Nat) (hi : i < l.length) : 1 ≤ (en l i).f2 ∧ (en l i).f2 ≤ 10000000 := by
  have e : en l i = l[i] := by simp [en, List.getD, hi]
  rw [e]
  exact h _ (List.getElem_mem hi)
theorem sumIf_in (p : IEntry → Bool) : ∀ l : List IEntry, small l → 0 ≤ sumIf p l ∧ sumIf p l ≤ 10000000 * l.length := by
  intro l
  induction l with
  | nil => intro _; simp [sumIf]
  | cons x l ih =>
    intro h
    have h1 := h x (by simp)
    have h2 := ih (fun y hy => h y (by simp [hy]))
    rw [sumIf, List.length_cons]
    split <;> omega
def paidBy (a : Int) (x : IEntry) : Bool := decide (x.f0 = a)
def paidTo (a : Int) (x : IEntry) : Bool := decide (x.f1 = a)
def totalPaid (l : List IEntry) (a : Int) : Int := if areEntry l = true then sumIf (paidBy a) l else 0
end Go.Proofs.Ytgejkcomoealgaa.PFnBooks
