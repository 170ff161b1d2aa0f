import Derived.Test.YtkbnbimphddmbaaOpn
import Derived.Test.YtkbnbimphddmbaaPFnExactNextOpenx2
import Derived.KernelRfl
import Derived.Below
namespace Go.Proofs.Ytkbnbimphddmbaa.PFnExactNextOpen
open Go.RowKit Go.Proofs.YtkbnbimphddmbaaW.PrintWords Go.Proofs.YtkbnbimphddmbaaW.PrintLast Go.Proofs.YtkbnbimphddmbaaW.PrintMore
set_option linter.unusedVariables false

/-- THE ONE PURE STATEMENT of laws_FnExactNextOpen. -/
def laws_FnExactNextOpen.Pure : Prop := ∀ (l0 : List Bool) (a1 : Int), (l0.length ≤ maxLen ∧ ∀ y_ ∈ l0, True) → (Lit.int .i64 a1).wf = true → ∃ k, laws_FnExactNextOpen.f k l0 a1 = some true
theorem laws_FnExactNextOpen.walk (P : laws_FnExactNextOpen.Pure) (A0 : Option Addr) (c0 : Nat) (l0 : List Bool) (a1 : Int) (w : World) (hr0 : Kd.C Kd.bool w A0 l0.length l0) (hc0 : l0.length ≤ c0) (w0 : (l0.length ≤ maxLen ∧ ∀ y_ ∈ l0, True)) (w1 : (Lit.int .i64 a1).wf = true) :
    Calls Try.prog 8 #[.slice A0 l0.length c0, .int .i64 a1] w fun e w' => e = .returned (.bool true) ∧ Below w.heap.size w w' := by
  obtain ⟨k, h⟩ := P l0 a1 w0 w1
  refine (laws_FnExactNextOpen.calls k A0 c0 l0 a1 true w hr0 hc0 h).mono ?_
  rintro e w' ⟨rfl, hd⟩
  exact ⟨rfl, hd⟩
end Go.Proofs.Ytkbnbimphddmbaa.PFnExactNextOpen
