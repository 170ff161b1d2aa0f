/- Lists of Entry: what is said of them. -/
import Derived.Test.YtgejkcomoealgaaCvEntryFnBooks
namespace Go.Proofs.Ytgejkcomoealgaa.PFnBooks
open Go.RowKit Go.Proofs.YtgejkcomoealgaaW.PrintWords Go.Proofs.YtgejkcomoealgaaW.PrintLast Go.Proofs.Ytgejkcomoealgaa.EvLib
def en (l : List IEntry) (i : Nat) : IEntry := l.getD i z35
theorem rd_en (l : List IEntry) (i : Nat) : rd_T35 l (i : Int) = en l i := by unfold rd_T35 en; rw [Int.toNat_natCast]
theorem rd_eni (l : List IEntry) (s : Int) : rd_T35 l s = en l s.toNat := rfl
theorem drop_en (l : List IEntry) (i : Nat) (h : i < l.length) : l.drop i = en l i :: l.drop (i + 1) := by
  rw [List.drop_eq_getElem_cons h]
  simp [en, List.getD, h]
def enOk (l : List IEntry) (i : Nat) : Bool := decide (0 ≤ (en l i).f0 ∧ (en l i).f0 ≤ 999) && (decide (0 ≤ (en l i).f1 ∧ (en l i).f1 ≤ 999) && (decide ((en l i).f0 ≠ (en l i).f1) && (decide (1 ≤ (en l i).f2 ∧ (en l i).f2 ≤ 10000000) && (decide (0 ≤ (en l i).f3 ∧ (en l i).f3 ≤ 100000) && (decide (i = 0) || decide ((en l (i - 1)).f3 ≤ (en l i).f3))))))
def areEntry (l : List IEntry) : Bool := (List.range l.length).all (enOk l) && decide (l.length ≤ 100)
theorem areEntry_ok {l : List IEntry} (h : areEntry l = true) (i : Nat) (hi : i < l.length) : enOk l i = true := by
  unfold areEntry at h
  rw [Bool.and_eq_true, List.all_eq_true] at h
  exact h.1 i (List.mem_range.mpr hi)
theorem areEntry_len {l : List IEntry} (h : areEntry l = true) : l.length ≤ 100 := by
  unfold areEntry at h
  rw [Bool.and_eq_true] at h
  exact of_decide_eq_true h.2
end Go.Proofs.Ytgejkcomoealgaa.PFnBooks
