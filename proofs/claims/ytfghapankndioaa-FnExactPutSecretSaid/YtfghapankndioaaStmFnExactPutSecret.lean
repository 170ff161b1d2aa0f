import Derived.Test.YtfghapankndioaaOpn
import Derived.Test.YtfghapankndioaaPFnExactPutSecretx12
import Derived.KernelRfl
import Derived.Below
namespace Go.Proofs.Ytfghapankndioaa.PFnExactPutSecret
open Go.RowKit Go.Proofs.YtfghapankndioaaW.PrintWords Go.Proofs.YtfghapankndioaaW.PrintLast Go.Proofs.YtfghapankndioaaW.PrintMore
set_option linter.unusedVariables false

set_option maxRecDepth 100000 in
theorem o81 (w : World) : Opn.Opn Try.prog w k81 81 (fun b : S81 => ((Lit.int .i64 b.f0).wf = true ∧ (Lit.int .i64 b.f1).wf = true)) :=
  Opn.opn_struct Try.underlying81 (by kernel_rfl) (Opn.opnL_iso (fun x : S81 => (x.f0, x.f1)) (fun p => (⟨p.1, p.2⟩ : S81)) (fun _ => rfl) (Opn.opnL_cons rfl (by kernel_rfl) (Opn.opn_int Try.underlying3) (Opn.opnL_one rfl (by kernel_rfl) (Opn.opn_int Try.underlying3))))
set_option maxRecDepth 100000 in
theorem o31 (w : World) : Opn.Opn Try.prog w k31 31 (fun b : S31 => ((Lit.int .i64 b.f0).wf = true ∧ (b.f1.length ≤ maxLen ∧ ∀ y_ ∈ b.f1, ((Lit.int .i64 y_.f0).wf = true ∧ (Lit.int .i64 y_.f1).wf = true)) ∧ (Lit.int .i64 b.f2).wf = true)) :=
  Opn.opn_struct Try.underlying31 (by kernel_rfl) (Opn.opnL_iso (fun x : S31 => (x.f0, x.f1, x.f2)) (fun p => (⟨p.1, p.2.1, p.2.2⟩ : S31)) (fun _ => rfl) (Opn.opnL_cons rfl (by kernel_rfl) (Opn.opn_int Try.underlying3) (Opn.opnL_cons rfl (by kernel_rfl) (Opn.opn_slice Try.underlying29 (by kernel_rfl) (o81 _)) (Opn.opnL_one rfl (by kernel_rfl) (Opn.opn_int Try.underlying3)))))
/-- THE ONE PURE STATEMENT of laws_FnExactPutSecret. -/
def laws_FnExactPutSecret.Pure : Prop := ∀ (l0 : List (S31)) (a1_0 : Int) (l1_1 : List (S81)) (a1_2 : Int), (l0.length ≤ maxLen ∧ ∀ y_ ∈ l0, ((Lit.int .i64 y_.f0).wf = true ∧ (y_.f1.length ≤ maxLen ∧ ∀ z_ ∈ y_.f1, ((Lit.int .i64 z_.f0).wf = true ∧ (Lit.int .i64 z_.f1).wf = true)) ∧ (Lit.int .i64 y_.f2).wf = true)) → (Lit.int .i64 a1_0).wf = true → (l1_1.length ≤ maxLen ∧ ∀ y_ ∈ l1_1, ((Lit.int .i64 y_.f0).wf = true ∧ (Lit.int .i64 y_.f1).wf = true)) → (Lit.int .i64 a1_2).wf = true → ∃ k, laws_FnExactPutSecret.f k l0 a1_0 l1_1 a1_2 = some true
theorem laws_FnExactPutSecret.walk (P : laws_FnExactPutSecret.Pure) (A0 : Option Addr) (c0 : Nat) (l0 : List (S31)) (a1_0 : Int) (A1_1 : Option Addr) (c1_1 : Nat) (l1_1 : List (S81)) (a1_2 : Int) (w : World) (hr0 : Kd.C k31 w A0 l0.length l0) (hc0 : l0.length ≤ c0) (hr1_1 : Kd.C k81 w A1_1 l1_1.length l1_1) (hc1_1 : l1_1.length ≤ c1_1) (w0 : (l0.length ≤ maxLen ∧ ∀ y_ ∈ l0, ((Lit.int .i64 y_.f0).wf = true ∧ (y_.f1.length ≤ maxLen ∧ ∀ z_ ∈ y_.f1, ((Lit.int .i64 z_.f0).wf = true ∧ (Lit.int .i64 z_.f1).wf = true)) ∧ (Lit.int .i64 y_.f2).wf = true))) (w1_0 : (Lit.int .i64 a1_0).wf = true) (w1_1 : (l1_1.length ≤ maxLen ∧ ∀ y_ ∈ l1_1, ((Lit.int .i64 y_.f0).wf = true ∧ (Lit.int .i64 y_.f1).wf = true))) (w1_2 : (Lit.int .i64 a1_2).wf = true) :
    Calls Try.prog 8 #[.slice A0 l0.length c0, .agg #[.int .i64 a1_0, .slice A1_1 l1_1.length c1_1, .int .i64 a1_2]] w fun e w' => e = .returned (.bool true) ∧ Below w.heap.size w w' := by
  obtain ⟨k, h⟩ := P l0 a1_0 l1_1 a1_2 w0 w1_0 w1_1 w1_2
  refine (laws_FnExactPutSecret.calls k A0 c0 l0 a1_0 A1_1 c1_1 l1_1 a1_2 w hr0 hc0 hr1_1 hc1_1 h).mono ?_
  rintro e w' ⟨rfl, hd⟩
  exact ⟨rfl, hd⟩
end Go.Proofs.Ytfghapankndioaa.PFnExactPutSecret
