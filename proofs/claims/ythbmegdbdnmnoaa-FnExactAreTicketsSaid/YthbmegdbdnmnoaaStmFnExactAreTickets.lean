import Derived.Test.YthbmegdbdnmnoaaOpn
import Derived.Test.YthbmegdbdnmnoaaPFnExactAreTicketsx5
import Derived.KernelRfl
import Derived.Below
namespace Go.Proofs.Ythbmegdbdnmnoaa.PFnExactAreTickets
open Go.RowKit Go.Proofs.YthbmegdbdnmnoaaW.PrintWords Go.Proofs.YthbmegdbdnmnoaaW.PrintLast Go.Proofs.YthbmegdbdnmnoaaW.PrintMore
set_option linter.unusedVariables false

theorem o48 (w : World) : Opn.Opn Try.prog w k48 48 (fun b : S48 => ((Lit.int .i64 b.f0).wf = true ∧ (Lit.int .i64 b.f1).wf = true ∧ (Lit.int .i64 b.f2).wf = true)) :=
  Opn.opn_struct Try.underlying48 (by kernel_rfl) (Opn.opnL_iso (fun x : S48 => (x.f0, x.f1, x.f2)) (fun p => (⟨p.1, p.2.1, p.2.2⟩ : S48)) (fun _ => rfl) (Opn.opnL_cons rfl (by kernel_rfl) (Opn.opn_int Try.underlying3) (Opn.opnL_cons rfl (by kernel_rfl) (Opn.opn_int Try.underlying3) (Opn.opnL_one rfl (by kernel_rfl) (Opn.opn_int Try.underlying3)))))
/-- THE ONE PURE STATEMENT of laws_FnExactAreTickets. -/
def laws_FnExactAreTickets.Pure : Prop := ∀ (l0 : List (S48)), (l0.length ≤ maxLen ∧ ∀ y_ ∈ l0, ((Lit.int .i64 y_.f0).wf = true ∧ (Lit.int .i64 y_.f1).wf = true ∧ (Lit.int .i64 y_.f2).wf = true)) → ∃ k, laws_FnExactAreTickets.f k l0 = some true
theorem laws_FnExactAreTickets.walk (P : laws_FnExactAreTickets.Pure) (A0 : Option Addr) (c0 : Nat) (l0 : List (S48)) (w : World) (hr0 : Kd.C k48 w A0 l0.length l0) (hc0 : l0.length ≤ c0) (w0 : (l0.length ≤ maxLen ∧ ∀ y_ ∈ l0, ((Lit.int .i64 y_.f0).wf = true ∧ (Lit.int .i64 y_.f1).wf = true ∧ (Lit.int .i64 y_.f2).wf = true))) :
    Calls Try.prog 3 #[.slice A0 l0.length c0] w fun e w' => e = .returned (.bool true) ∧ Below w.heap.size w w' := by
  obtain ⟨k, h⟩ := P l0 w0
  refine (laws_FnExactAreTickets.calls k A0 c0 l0 true w hr0 hc0 h).mono ?_
  rintro e w' ⟨rfl, hd⟩
  exact ⟨rfl, hd⟩
end Go.Proofs.Ythbmegdbdnmnoaa.PFnExactAreTickets
