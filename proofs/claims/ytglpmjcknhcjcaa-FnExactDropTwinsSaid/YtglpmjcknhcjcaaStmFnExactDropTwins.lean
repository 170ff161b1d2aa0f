import Derived.Test.YtglpmjcknhcjcaaOpn
import Derived.Test.YtglpmjcknhcjcaaPFnExactDropTwinsx9
import Derived.KernelRfl
import Derived.Below
namespace Go.Proofs.Ytglpmjcknhcjcaa.PFnExactDropTwins
open Go.RowKit Go.Proofs.YtglpmjcknhcjcaaW.PrintWords Go.Proofs.YtglpmjcknhcjcaaW.PrintLast Go.Proofs.YtglpmjcknhcjcaaW.PrintMore
set_option linter.unusedVariables false

set_option maxRecDepth 100000 in
theorem o69 (w : World) : Opn.Opn Try.prog w k69 69 (fun b : S69 => ((Lit.int .i64 b.f0).wf = true ∧ (Lit.int .i64 b.f1).wf = true ∧ (Lit.int .i64 b.f2).wf = true ∧ (Lit.int .i64 b.f3).wf = true ∧ (Lit.int .i64 b.f4).wf = true)) :=
  Opn.opn_struct Try.underlying69 (by kernel_rfl) (Opn.opnL_iso (fun x : S69 => (x.f0, x.f1, x.f2, x.f3, x.f4)) (fun p => (⟨p.1, p.2.1, p.2.2.1, p.2.2.2.1, p.2.2.2.2⟩ : S69)) (fun _ => rfl) (Opn.opnL_cons rfl (by kernel_rfl) (Opn.opn_int Try.underlying3) (Opn.opnL_cons rfl (by kernel_rfl) (Opn.opn_int Try.underlying3) (Opn.opnL_cons rfl (by kernel_rfl) (Opn.opn_int Try.underlying3) (Opn.opnL_cons rfl (by kernel_rfl) (Opn.opn_int Try.underlying3) (Opn.opnL_one rfl (by kernel_rfl) (Opn.opn_int Try.underlying3)))))))
set_option maxRecDepth 100000 in
theorem o71 (w : World) : Opn.Opn Try.prog w k71 71 (fun b : S71 => (((Lit.int .i64 b.f0.f0).wf = true ∧ (Lit.int .i64 b.f0.f1).wf = true ∧ (Lit.int .i64 b.f0.f2).wf = true ∧ (Lit.int .i64 b.f0.f3).wf = true ∧ (Lit.int .i64 b.f0.f4).wf = true) ∧ (Lit.int .i64 b.f1).wf = true ∧ (Lit.int .i64 b.f2).wf = true ∧ (Lit.int .i64 b.f3).wf = true)) :=
  Opn.opn_struct Try.underlying71 (by kernel_rfl) (Opn.opnL_iso (fun x : S71 => (x.f0, x.f1, x.f2, x.f3)) (fun p => (⟨p.1, p.2.1, p.2.2.1, p.2.2.2⟩ : S71)) (fun _ => rfl) (Opn.opnL_cons (d := k69) (wf := fun b : S69 => ((Lit.int .i64 b.f0).wf = true ∧ (Lit.int .i64 b.f1).wf = true ∧ (Lit.int .i64 b.f2).wf = true ∧ (Lit.int .i64 b.f3).wf = true ∧ (Lit.int .i64 b.f4).wf = true)) rfl (by kernel_rfl) (o69 _) (Opn.opnL_cons rfl (by kernel_rfl) (Opn.opn_int Try.underlying3) (Opn.opnL_cons rfl (by kernel_rfl) (Opn.opn_int Try.underlying3) (Opn.opnL_one rfl (by kernel_rfl) (Opn.opn_int Try.underlying3))))))
/-- THE ONE PURE STATEMENT of laws_FnExactDropTwins. -/
def laws_FnExactDropTwins.Pure : Prop := ∀ (l0 : List (S71)), (l0.length ≤ maxLen ∧ ∀ y_ ∈ l0, (((Lit.int .i64 y_.f0.f0).wf = true ∧ (Lit.int .i64 y_.f0.f1).wf = true ∧ (Lit.int .i64 y_.f0.f2).wf = true ∧ (Lit.int .i64 y_.f0.f3).wf = true ∧ (Lit.int .i64 y_.f0.f4).wf = true) ∧ (Lit.int .i64 y_.f1).wf = true ∧ (Lit.int .i64 y_.f2).wf = true ∧ (Lit.int .i64 y_.f3).wf = true)) → ∃ k, laws_FnExactDropTwins.f k l0 = some true
theorem laws_FnExactDropTwins.walk (P : laws_FnExactDropTwins.Pure) (A0 : Option Addr) (c0 : Nat) (l0 : List (S71)) (w : World) (hr0 : Kd.C k71 w A0 l0.length l0) (hc0 : l0.length ≤ c0) (w0 : (l0.length ≤ maxLen ∧ ∀ y_ ∈ l0, (((Lit.int .i64 y_.f0.f0).wf = true ∧ (Lit.int .i64 y_.f0.f1).wf = true ∧ (Lit.int .i64 y_.f0.f2).wf = true ∧ (Lit.int .i64 y_.f0.f3).wf = true ∧ (Lit.int .i64 y_.f0.f4).wf = true) ∧ (Lit.int .i64 y_.f1).wf = true ∧ (Lit.int .i64 y_.f2).wf = true ∧ (Lit.int .i64 y_.f3).wf = true))) :
    Calls Try.prog 5 #[.slice A0 l0.length c0] w fun e w' => e = .returned (.bool true) ∧ Below w.heap.size w w' := by
  obtain ⟨k, h⟩ := P l0 w0
  refine (laws_FnExactDropTwins.calls k A0 c0 l0 w hr0 hc0 h).mono ?_
  rintro e w' ⟨rfl, hd⟩
  exact ⟨rfl, hd⟩
end Go.Proofs.Ytglpmjcknhcjcaa.PFnExactDropTwins
