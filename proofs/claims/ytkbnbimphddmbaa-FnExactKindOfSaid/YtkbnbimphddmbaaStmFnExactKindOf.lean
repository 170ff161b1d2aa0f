import Derived.Test.YtkbnbimphddmbaaOpn
import Derived.Test.YtkbnbimphddmbaaPFnExactKindOfx1
import Derived.KernelRfl
import Derived.Below
namespace Go.Proofs.Ytkbnbimphddmbaa.PFnExactKindOf
open Go.RowKit Go.Proofs.YtkbnbimphddmbaaW.PrintWords Go.Proofs.YtkbnbimphddmbaaW.PrintLast Go.Proofs.YtkbnbimphddmbaaW.PrintMore
set_option linter.unusedVariables false

/-- THE ONE PURE STATEMENT of laws_FnExactKindOf. -/
def laws_FnExactKindOf.Pure : Prop := ∀ (a0 : ByteArray), a0.size ≤ maxLen → ∃ k, laws_FnExactKindOf.f k a0 = some true
theorem laws_FnExactKindOf.walk (P : laws_FnExactKindOf.Pure) (a0 : ByteArray) (w : World)  (w0 : a0.size ≤ maxLen) :
    Calls Try.prog 4 #[.string a0] w fun e w' => e = .returned (.bool true) ∧ Below w.heap.size w w' := by
  obtain ⟨k, h⟩ := P a0 w0
  refine (laws_FnExactKindOf.calls k a0 w  h).mono ?_
  rintro e w' ⟨rfl, hd⟩
  exact ⟨rfl, hd⟩
end Go.Proofs.Ytkbnbimphddmbaa.PFnExactKindOf
