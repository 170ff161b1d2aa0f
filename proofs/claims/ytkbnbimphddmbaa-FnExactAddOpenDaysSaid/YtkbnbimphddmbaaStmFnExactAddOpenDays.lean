import Derived.Test.YtkbnbimphddmbaaOpn
import Derived.Test.YtkbnbimphddmbaaPFnExactAddOpenDaysx3
import Derived.KernelRfl
import Derived.Below
namespace Go.Proofs.Ytkbnbimphddmbaa.PFnExactAddOpenDays
open Go.RowKit Go.Proofs.YtkbnbimphddmbaaW.PrintWords Go.Proofs.YtkbnbimphddmbaaW.PrintLast Go.Proofs.YtkbnbimphddmbaaW.PrintMore
set_option linter.unusedVariables false

/-- THE ONE PURE STATEMENT of laws_FnExactAddOpenDays. -/
def laws_FnExactAddOpenDays.Pure : Prop := ∀ (l0 : List Bool) (a1 : Int) (a2 : Int), (l0.length ≤ maxLen ∧ ∀ y_ ∈ l0, True) → (Lit.int .i64 a1).wf = true → (Lit.int .i64 a2).wf = true → ∃ k, laws_FnExactAddOpenDays.f k l0 a1 a2 = some true
theorem laws_FnExactAddOpenDays.walk (P : laws_FnExactAddOpenDays.Pure) (A0 : Option Addr) (c0 : Nat) (l0 : List Bool) (a1 : Int) (a2 : Int) (w : World) (hr0 : Kd.C Kd.bool w A0 l0.length l0) (hc0 : l0.length ≤ c0) (w0 : (l0.length ≤ maxLen ∧ ∀ y_ ∈ l0, True)) (w1 : (Lit.int .i64 a1).wf = true) (w2 : (Lit.int .i64 a2).wf = true) :
    Calls Try.prog 10 #[.slice A0 l0.length c0, .int .i64 a1, .int .i64 a2] w fun e w' => e = .returned (.bool true) ∧ Below w.heap.size w w' := by
  obtain ⟨k, h⟩ := P l0 a1 a2 w0 w1 w2
  refine (laws_FnExactAddOpenDays.calls k A0 c0 l0 a1 a2 true w hr0 hc0 h).mono ?_
  rintro e w' ⟨rfl, hd⟩
  exact ⟨rfl, hd⟩
end Go.Proofs.Ytkbnbimphddmbaa.PFnExactAddOpenDays
