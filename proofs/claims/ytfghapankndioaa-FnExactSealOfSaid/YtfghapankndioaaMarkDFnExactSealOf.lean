/- Marks: what is said of them. -/
import Derived.Test.YtfghapankndioaaCvMarkFnExactSealOf
namespace Go.Proofs.Ytfghapankndioaa.PFnExactSealOf
open Go.RowKit Go.Proofs.YtfghapankndioaaW.PrintWords Go.Proofs.YtfghapankndioaaW.PrintLast Go.Proofs.Ytfghapankndioaa.EvLib
def mkx (l : List IMark) (i : Nat) : IMark := l.getD i z67
theorem rd_mkx (l : List IMark) (i : Nat) : rd_T67 l (i : Int) = mkx l i := by unfold rd_T67 mkx; rw [Int.toNat_natCast]
theorem drop_mkx (l : List IMark) (i : Nat) (h : i < l.length) : l.drop i = mkx l i :: l.drop (i + 1) := by
  rw [List.drop_eq_getElem_cons h]
  simp [mkx, List.getD, h]
def mkOk (l : List IMark) (i : Nat) : Bool := decide (1 ≤ (mkx l i).f0 ∧ (mkx l i).f0 ≤ 20) && (decide (0 ≤ (mkx l i).f1 ∧ (mkx l i).f1 ≤ 99) && (decide (i = 0) || decide ((mkx l (i - 1)).f0 < (mkx l i).f0)))
def areMk (l : List IMark) : Bool := (List.range l.length).all (mkOk l) && decide (l.length ≤ 8)
def mkv (x : IMark) : List Int := [x.f0, x.f1]
def sealIn (l : List IMark) (salt : Int) : List Int := [salt] ++ l.flatMap mkv
theorem sealIn_len (l : List IMark) (salt : Int) : (sealIn l salt).length = 1 + 2 * l.length := by
  have : ∀ l : List IMark, (l.flatMap mkv).length = 2 * l.length := by
    intro l
    induction l with
    | nil => rfl
    | cons x l ih => rw [List.flatMap_cons, List.length_append, ih, List.length_cons]; simp [mkv]; omega
  unfold sealIn
  rw [List.length_append, this]
  simp
end Go.Proofs.Ytfghapankndioaa.PFnExactSealOf
