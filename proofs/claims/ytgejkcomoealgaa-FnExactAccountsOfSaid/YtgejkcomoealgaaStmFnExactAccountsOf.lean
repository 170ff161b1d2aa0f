import Derived.Test.YtgejkcomoealgaaOpn
import Derived.Test.YtgejkcomoealgaaPFnExactAccountsOfx4
import Derived.KernelRfl
import Derived.Below
namespace Go.Proofs.Ytgejkcomoealgaa.PFnExactAccountsOf
open Go.RowKit Go.Proofs.YtgejkcomoealgaaW.PrintWords Go.Proofs.YtgejkcomoealgaaW.PrintLast Go.Proofs.YtgejkcomoealgaaW.PrintMore
set_option linter.unusedVariables false

set_option maxRecDepth 100000 in
theorem o32 (w : World) : Opn.Opn Try.prog w k32 32 (fun b : S32 => ((Lit.int .i64 b.f0).wf = true ∧ (Lit.int .i64 b.f1).wf = true ∧ (Lit.int .i64 b.f2).wf = true ∧ (Lit.int .i64 b.f3).wf = true)) :=
  Opn.opn_struct Try.underlying32 (by kernel_rfl) (Opn.opnL_iso (fun x : S32 => (x.f0, x.f1, x.f2, x.f3)) (fun p => (⟨p.1, p.2.1, p.2.2.1, p.2.2.2⟩ : S32)) (fun _ => rfl) (Opn.opnL_cons rfl (by kernel_rfl) (Opn.opn_int Try.underlying3) (Opn.opnL_cons rfl (by kernel_rfl) (Opn.opn_int Try.underlying3) (Opn.opnL_cons rfl (by kernel_rfl) (Opn.opn_int Try.underlying3) (Opn.opnL_one rfl (by kernel_rfl) (Opn.opn_int Try.underlying3))))))
/-- THE ONE PURE STATEMENT of laws_FnExactAccountsOf. -/
def laws_FnExactAccountsOf.Pure : Prop := ∀ (l0 : List (S32)), (l0.length ≤ maxLen ∧ ∀ y_ ∈ l0, ((Lit.int .i64 y_.f0).wf = true ∧ (Lit.int .i64 y_.f1).wf = true ∧ (Lit.int .i64 y_.f2).wf = true ∧ (Lit.int .i64 y_.f3).wf = true)) → ∃ k, laws_FnExactAccountsOf.f k l0 = some true
theorem laws_FnExactAccountsOf.walk (P : laws_FnExactAccountsOf.Pure) (A0 : Option Addr) (c0 : Nat) (l0 : List (S32)) (w : World) (hr0 : Kd.C k32 w A0 l0.length l0) (hc0 : l0.length ≤ c0) (w0 : (l0.length ≤ maxLen ∧ ∀ y_ ∈ l0, ((Lit.int .i64 y_.f0).wf = true ∧ (Lit.int .i64 y_.f1).wf = true ∧ (Lit.int .i64 y_.f2).wf = true ∧ (Lit.int .i64 y_.f3).wf = true))) :
    Calls Try.prog 8 #[.slice A0 l0.length c0] w fun e w' => e = .returned (.bool true) ∧ Below w.heap.size w w' := by
  obtain ⟨k, h⟩ := P l0 w0
  refine (laws_FnExactAccountsOf.calls k A0 c0 l0 w hr0 hc0 h).mono ?_
  rintro e w' ⟨rfl, hd⟩
  exact ⟨rfl, hd⟩
end Go.Proofs.Ytgejkcomoealgaa.PFnExactAccountsOf
