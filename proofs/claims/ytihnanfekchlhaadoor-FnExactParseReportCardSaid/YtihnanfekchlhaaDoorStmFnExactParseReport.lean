import Derived.Test.YtihnanfekchlhaaDoorOpn
import Derived.Test.YtihnanfekchlhaaDoorPFnExactParseReportx8
import Derived.KernelRfl
import Derived.Below
namespace Go.Proofs.YtihnanfekchlhaaDoor.PFnExactParseReport
open Go.RowKit Go.Proofs.YtihnanfekchlhaaDoorW.PrintWords Go.Proofs.YtihnanfekchlhaaDoorW.PrintLast Go.Proofs.YtihnanfekchlhaaDoorW.PrintMore
set_option linter.unusedVariables false

/-- THE ONE PURE STATEMENT of laws_FnExactParseReport. -/
def laws_FnExactParseReport.Pure : Prop := ∀ (a0 : ByteArray), a0.size ≤ maxLen → ∃ k, laws_FnExactParseReport.f k a0 = some true
theorem laws_FnExactParseReport.walk (P : laws_FnExactParseReport.Pure) (a0 : ByteArray) (w : World)  (w0 : a0.size ≤ maxLen) (TB_ : (Itm.Tb true true) w) :
    Calls Tryd.prog 8 #[.string a0] w fun e w' => e = .returned (.bool true) ∧ Below w.heap.size w w' := by
  obtain ⟨k, h⟩ := P a0 w0
  refine (laws_FnExactParseReport.calls k a0 w  h TB_).mono ?_
  rintro e w' ⟨rfl, hd⟩
  exact ⟨rfl, hd⟩
end Go.Proofs.YtihnanfekchlhaaDoor.PFnExactParseReport
