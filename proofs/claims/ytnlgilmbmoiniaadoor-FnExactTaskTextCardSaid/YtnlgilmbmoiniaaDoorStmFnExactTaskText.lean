import Derived.Test.YtnlgilmbmoiniaaDoorOpn
import Derived.Test.YtnlgilmbmoiniaaDoorPFnExactTaskTextx1
import Derived.KernelRfl
import Derived.Below
namespace Go.Proofs.YtnlgilmbmoiniaaDoor.PFnExactTaskText
open Go.RowKit Go.Proofs.YtnlgilmbmoiniaaDoorW.PrintWords Go.Proofs.YtnlgilmbmoiniaaDoorW.PrintLast Go.Proofs.YtnlgilmbmoiniaaDoorW.PrintMore
set_option linter.unusedVariables false

/-- THE ONE PURE STATEMENT of laws_FnExactTaskText. -/
def laws_FnExactTaskText.Pure : Prop := ∀ (a0_0 : Int) (a0_1 : Int) (a0_2 : Int), (Lit.int .i64 a0_0).wf = true → (Lit.int .i64 a0_1).wf = true → (Lit.int .i64 a0_2).wf = true → ∃ k, laws_FnExactTaskText.f k a0_0 a0_1 a0_2 = some true
theorem laws_FnExactTaskText.walk (P : laws_FnExactTaskText.Pure) (a0_0 : Int) (a0_1 : Int) (a0_2 : Int) (w : World)  (w0_0 : (Lit.int .i64 a0_0).wf = true) (w0_1 : (Lit.int .i64 a0_1).wf = true) (w0_2 : (Lit.int .i64 a0_2).wf = true) (TB_ : Ito.Tb w) :
    Calls Tryd.prog 4 #[.agg #[.int .i64 a0_0, .int .i64 a0_1, .int .i64 a0_2]] w fun e w' => e = .returned (.bool true) ∧ Below w.heap.size w w' := by
  obtain ⟨k, h⟩ := P a0_0 a0_1 a0_2 w0_0 w0_1 w0_2
  refine (laws_FnExactTaskText.calls k a0_0 a0_1 a0_2 w  h TB_).mono ?_
  rintro e w' ⟨rfl, hd⟩
  exact ⟨rfl, hd⟩
end Go.Proofs.YtnlgilmbmoiniaaDoor.PFnExactTaskText
