import Derived.Test.YtihnanfekchlhaaDoorOpn
import Derived.Test.YtihnanfekchlhaaDoorPFnExactParseListx3
import Derived.KernelRfl
import Derived.Below
namespace Go.Proofs.YtihnanfekchlhaaDoor.PFnExactParseList
open Go.RowKit Go.Proofs.YtihnanfekchlhaaDoorW.PrintWords Go.Proofs.YtihnanfekchlhaaDoorW.PrintLast Go.Proofs.YtihnanfekchlhaaDoorW.PrintMore
set_option linter.unusedVariables false

/-- THE ONE PURE STATEMENT of laws_FnExactParseList. -/
def laws_FnExactParseList.Pure : Prop := ∀ (a0 : ByteArray), a0.size ≤ maxLen → ∃ k, laws_FnExactParseList.f k a0 = some true
theorem laws_FnExactParseList.walk (P : laws_FnExactParseList.Pure) (a0 : ByteArray) (w : World)  (w0 : a0.size ≤ maxLen) (TB_ : (Itm.Tb false true) w) :
    Calls Tryd.prog 6 #[.string a0] w fun e w' => e = .returned (.bool true) ∧ Below w.heap.size w w' := by
  obtain ⟨k, h⟩ := P a0 w0
  refine (laws_FnExactParseList.calls k a0 w  h TB_).mono ?_
  rintro e w' ⟨rfl, hd⟩
  exact ⟨rfl, hd⟩
end Go.Proofs.YtihnanfekchlhaaDoor.PFnExactParseList
