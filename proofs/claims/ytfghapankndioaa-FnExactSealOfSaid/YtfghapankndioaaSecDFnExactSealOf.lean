/- Secrets: what is said of them. -/
import Derived.Test.YtfghapankndioaaCvSecretFnExactSealOf
import Derived.Test.YtfghapankndioaaMarkDFnExactSealOf
namespace Go.Proofs.Ytfghapankndioaa.PFnExactSealOf
open Go.RowKit Go.Proofs.YtfghapankndioaaW.PrintWords Go.Proofs.YtfghapankndioaaW.PrintLast Go.Proofs.Ytfghapankndioaa.EvLib
def sec (l : List ISecret) (i : Nat) : ISecret := l.getD i z36
theorem rd_sec (l : List ISecret) (i : Nat) : rd_T36 l (i : Int) = sec l i := by unfold rd_T36 sec; rw [Int.toNat_natCast]
theorem sec_mem (l : List ISecret) (i : Nat) (h : i < l.length) : sec l i ∈ l := getD_mem _ _ _ h
def secIn (l : List ISecret) (i : Nat) : Bool := decide ((sec l i).f1.length ≠ 0) && (areMk (sec l i).f1 && decide (0 ≤ (sec l i).f2 ∧ (sec l i).f2 ≤ 1000000))
def secUp (l : List ISecret) (i : Nat) : Bool := decide (i = 0) || decide ((sec l (i - 1)).f0 < (sec l i).f0)
def secOk (l : List ISecret) (i : Nat) : Bool := decide (1 ≤ (sec l i).f0 ∧ (sec l i).f0 ≤ 999) && (secUp l i && secIn l i)
def areSec (l : List ISecret) : Bool := (List.range l.length).all (secOk l) && decide (l.length ≤ 20)
end Go.Proofs.Ytfghapankndioaa.PFnExactSealOf
