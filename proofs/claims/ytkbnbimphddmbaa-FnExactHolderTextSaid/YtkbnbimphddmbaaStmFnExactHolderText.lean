import Derived.Test.YtkbnbimphddmbaaOpn
import Derived.Test.YtkbnbimphddmbaaPFnExactHolderTextx1
import Derived.KernelRfl
import Derived.Below
namespace Go.Proofs.Ytkbnbimphddmbaa.PFnExactHolderText
open Go.RowKit Go.Proofs.YtkbnbimphddmbaaW.PrintWords Go.Proofs.YtkbnbimphddmbaaW.PrintLast Go.Proofs.YtkbnbimphddmbaaW.PrintMore
set_option linter.unusedVariables false

/-- THE ONE PURE STATEMENT of laws_FnExactHolderText. -/
def laws_FnExactHolderText.Pure : Prop := ∀ (a0 : Int), (Lit.int .i64 a0).wf = true → laws_FnExactHolderText.f a0 = some true
theorem laws_FnExactHolderText.walk (P : laws_FnExactHolderText.Pure) (a0 : Int) (w : World)  (w0 : (Lit.int .i64 a0).wf = true) :
    Calls Try.prog 3 #[.int .i64 a0] w fun e w' => e = .returned (.bool true) ∧ Below w.heap.size w w' := by
  have h := P a0 w0
  refine (laws_FnExactHolderText.calls a0 w  h).mono ?_
  rintro e w' ⟨rfl, hd⟩
  exact ⟨rfl, hd⟩
end Go.Proofs.Ytkbnbimphddmbaa.PFnExactHolderText
