import Derived.Test.YtihnanfekchlhaaDoorOpn
import Derived.Test.YtihnanfekchlhaaDoorPFnFormsx12
import Derived.KernelRfl
import Derived.Below
namespace Go.Proofs.YtihnanfekchlhaaDoor.PFnForms
open Go.RowKit Go.Proofs.YtihnanfekchlhaaDoorW.PrintWords Go.Proofs.YtihnanfekchlhaaDoorW.PrintLast Go.Proofs.YtihnanfekchlhaaDoorW.PrintMore
set_option linter.unusedVariables false

/-- THE ONE PURE STATEMENT of laws_FnForms. -/
def laws_FnForms.Pure : Prop := ∀ (l0 : List Int), (l0.length ≤ maxLen ∧ ∀ y_ ∈ l0, (Lit.int .u8 y_).wf = true) → ∃ k, laws_FnForms.f k l0 = some true
theorem laws_FnForms.walk (P : laws_FnForms.Pure) (A0 : Option Addr) (c0 : Nat) (l0 : List Int) (w : World) (hr0 : Kd.C (Kd.int .u8) w A0 l0.length l0) (hc0 : l0.length ≤ c0) (w0 : (l0.length ≤ maxLen ∧ ∀ y_ ∈ l0, (Lit.int .u8 y_).wf = true)) (TB_ : (Itm.Tb true true) w) :
    Calls Tryd.prog 3 #[.slice A0 l0.length c0] w fun e w' => e = .returned (.bool true) ∧ Below w.heap.size w w' := by
  obtain ⟨k, h⟩ := P l0 w0
  refine (laws_FnForms.calls k A0 c0 l0 w hr0 hc0 h TB_).mono ?_
  rintro e w' ⟨rfl, hd⟩
  exact ⟨rfl, hd⟩
end Go.Proofs.YtihnanfekchlhaaDoor.PFnForms
