import Derived.Test.YtogbajcaeelooaaOpn
import Derived.Test.YtogbajcaeelooaaPFnExactAllInx7
import Derived.KernelRfl
import Derived.Below
namespace Go.Proofs.Ytogbajcaeelooaa.PFnExactAllIn
open Go.RowKit Go.Proofs.YtogbajcaeelooaaW.PrintWords Go.Proofs.YtogbajcaeelooaaW.PrintLast Go.Proofs.YtogbajcaeelooaaW.PrintMore
set_option linter.unusedVariables false

set_option maxRecDepth 100000 in
theorem o50 (w : World) : Opn.Opn Try.prog w k50 50 (fun b : S50 => ((Lit.int .i64 b.f0).wf = true ∧ (Lit.int .i64 b.f1).wf = true)) :=
  Opn.opn_struct Try.underlying50 (by kernel_rfl) (Opn.opnL_iso (fun x : S50 => (x.f0, x.f1)) (fun p => (⟨p.1, p.2⟩ : S50)) (fun _ => rfl) (Opn.opnL_cons rfl (by kernel_rfl) (Opn.opn_int Try.underlying3) (Opn.opnL_one rfl (by kernel_rfl) (Opn.opn_int Try.underlying3))))
/-- THE ONE PURE STATEMENT of laws_FnExactAllIn. -/
def laws_FnExactAllIn.Pure : Prop := ∀ (l0 : List (S50)) (a1 : Int), (l0.length ≤ maxLen ∧ ∀ y_ ∈ l0, ((Lit.int .i64 y_.f0).wf = true ∧ (Lit.int .i64 y_.f1).wf = true)) → (Lit.int .i64 a1).wf = true → ∃ k, laws_FnExactAllIn.f k l0 a1 = some true
theorem laws_FnExactAllIn.walk (P : laws_FnExactAllIn.Pure) (A0 : Option Addr) (c0 : Nat) (l0 : List (S50)) (a1 : Int) (w : World) (hr0 : Kd.C k50 w A0 l0.length l0) (hc0 : l0.length ≤ c0) (w0 : (l0.length ≤ maxLen ∧ ∀ y_ ∈ l0, ((Lit.int .i64 y_.f0).wf = true ∧ (Lit.int .i64 y_.f1).wf = true))) (w1 : (Lit.int .i64 a1).wf = true) :
    Calls Try.prog 8 #[.slice A0 l0.length c0, .int .i64 a1] w fun e w' => e = .returned (.bool true) ∧ Below w.heap.size w w' := by
  obtain ⟨k, h⟩ := P l0 a1 w0 w1
  refine (laws_FnExactAllIn.calls k A0 c0 l0 a1 w hr0 hc0 h).mono ?_
  rintro e w' ⟨rfl, hd⟩
  exact ⟨rfl, hd⟩
end Go.Proofs.Ytogbajcaeelooaa.PFnExactAllIn
