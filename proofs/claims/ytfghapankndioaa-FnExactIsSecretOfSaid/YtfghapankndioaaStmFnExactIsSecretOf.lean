import Derived.Test.YtfghapankndioaaOpn
import Derived.Test.YtfghapankndioaaPFnExactIsSecretOfx5
import Derived.KernelRfl
import Derived.Below
namespace Go.Proofs.Ytfghapankndioaa.PFnExactIsSecretOf
open Go.RowKit Go.Proofs.YtfghapankndioaaW.PrintWords Go.Proofs.YtfghapankndioaaW.PrintLast Go.Proofs.YtfghapankndioaaW.PrintMore
set_option linter.unusedVariables false

set_option maxRecDepth 100000 in
theorem o81 (w : World) : Opn.Opn Try.prog w k81 81 (fun b : S81 => ((Lit.int .i64 b.f0).wf = true ∧ (Lit.int .i64 b.f1).wf = true)) :=
  Opn.opn_struct Try.underlying81 (by kernel_rfl) (Opn.opnL_iso (fun x : S81 => (x.f0, x.f1)) (fun p => (⟨p.1, p.2⟩ : S81)) (fun _ => rfl) (Opn.opnL_cons rfl (by kernel_rfl) (Opn.opn_int Try.underlying3) (Opn.opnL_one rfl (by kernel_rfl) (Opn.opn_int Try.underlying3))))
/-- THE ONE PURE STATEMENT of laws_FnExactIsSecretOf. -/
def laws_FnExactIsSecretOf.Pure : Prop := ∀ (a0_0 : Int) (l0_1 : List (S81)) (a0_2 : Int) (a1 : Int), (Lit.int .i64 a0_0).wf = true → (l0_1.length ≤ maxLen ∧ ∀ y_ ∈ l0_1, ((Lit.int .i64 y_.f0).wf = true ∧ (Lit.int .i64 y_.f1).wf = true)) → (Lit.int .i64 a0_2).wf = true → (Lit.int .i64 a1).wf = true → ∃ k, laws_FnExactIsSecretOf.f k a0_0 l0_1 a0_2 a1 = some true
theorem laws_FnExactIsSecretOf.walk (P : laws_FnExactIsSecretOf.Pure) (a0_0 : Int) (A0_1 : Option Addr) (c0_1 : Nat) (l0_1 : List (S81)) (a0_2 : Int) (a1 : Int) (w : World) (hr0_1 : Kd.C k81 w A0_1 l0_1.length l0_1) (hc0_1 : l0_1.length ≤ c0_1) (w0_0 : (Lit.int .i64 a0_0).wf = true) (w0_1 : (l0_1.length ≤ maxLen ∧ ∀ y_ ∈ l0_1, ((Lit.int .i64 y_.f0).wf = true ∧ (Lit.int .i64 y_.f1).wf = true))) (w0_2 : (Lit.int .i64 a0_2).wf = true) (w1 : (Lit.int .i64 a1).wf = true) :
    Calls Try.prog 4 #[.agg #[.int .i64 a0_0, .slice A0_1 l0_1.length c0_1, .int .i64 a0_2], .int .i64 a1] w fun e w' => e = .returned (.bool true) ∧ Below w.heap.size w w' := by
  obtain ⟨k, h⟩ := P a0_0 l0_1 a0_2 a1 w0_0 w0_1 w0_2 w1
  refine (laws_FnExactIsSecretOf.calls k a0_0 A0_1 c0_1 l0_1 a0_2 a1 true w hr0_1 hc0_1 h).mono ?_
  rintro e w' ⟨rfl, hd⟩
  exact ⟨rfl, hd⟩
end Go.Proofs.Ytfghapankndioaa.PFnExactIsSecretOf
