import Derived.Test.YtglpmjcknhcjcaaOpn
import Derived.Test.YtglpmjcknhcjcaaPFnExactGroupReportsx14
import Derived.KernelRfl
import Derived.Below
namespace Go.Proofs.Ytglpmjcknhcjcaa.PFnExactGroupReports
open Go.RowKit Go.Proofs.YtglpmjcknhcjcaaW.PrintWords Go.Proofs.YtglpmjcknhcjcaaW.PrintLast Go.Proofs.YtglpmjcknhcjcaaW.PrintMore
set_option linter.unusedVariables false

set_option maxRecDepth 100000 in
theorem o34 (w : World) : Opn.Opn Try.prog w k34 34 (fun b : S34 => ((Lit.int .i64 b.f0).wf = true ∧ (Lit.int .i64 b.f1).wf = true)) :=
  Opn.opn_struct Try.underlying34 (by kernel_rfl) (Opn.opnL_iso (fun x : S34 => (x.f0, x.f1)) (fun p => (⟨p.1, p.2⟩ : S34)) (fun _ => rfl) (Opn.opnL_cons rfl (by kernel_rfl) (Opn.opn_int Try.underlying3) (Opn.opnL_one rfl (by kernel_rfl) (Opn.opn_int Try.underlying3))))
set_option maxRecDepth 100000 in
theorem o36 (w : World) : Opn.Opn Try.prog w k36 36 (fun b : S36 => ((Lit.int .i64 b.f0).wf = true ∧ (Lit.int .i64 b.f1).wf = true ∧ (b.f2.length ≤ maxLen ∧ ∀ y_ ∈ b.f2, (Lit.int .i64 y_).wf = true) ∧ (Lit.int .i64 b.f3).wf = true ∧ (Lit.int .i64 b.f4).wf = true ∧ (b.f5.length ≤ maxLen ∧ ∀ y_ ∈ b.f5, (Lit.int .i64 y_).wf = true) ∧ ((Lit.int .i64 b.f6.f0).wf = true ∧ (Lit.int .i64 b.f6.f1).wf = true))) :=
  Opn.opn_struct Try.underlying36 (by kernel_rfl) (Opn.opnL_iso (fun x : S36 => (x.f0, x.f1, x.f2, x.f3, x.f4, x.f5, x.f6)) (fun p => (⟨p.1, p.2.1, p.2.2.1, p.2.2.2.1, p.2.2.2.2.1, p.2.2.2.2.2.1, p.2.2.2.2.2.2⟩ : S36)) (fun _ => rfl) (Opn.opnL_cons rfl (by kernel_rfl) (Opn.opn_int Try.underlying3) (Opn.opnL_cons rfl (by kernel_rfl) (Opn.opn_int Try.underlying3) (Opn.opnL_cons rfl (by kernel_rfl) (Opn.opn_slice Try.underlying24 (by kernel_rfl) (Opn.opn_int Try.underlying3)) (Opn.opnL_cons rfl (by kernel_rfl) (Opn.opn_int Try.underlying3) (Opn.opnL_cons rfl (by kernel_rfl) (Opn.opn_int Try.underlying3) (Opn.opnL_cons rfl (by kernel_rfl) (Opn.opn_slice Try.underlying24 (by kernel_rfl) (Opn.opn_int Try.underlying3)) (Opn.opnL_one (d := k34) (wf := fun b : S34 => ((Lit.int .i64 b.f0).wf = true ∧ (Lit.int .i64 b.f1).wf = true)) rfl (by kernel_rfl) (o34 _)))))))))
/-- THE ONE PURE STATEMENT of laws_FnExactGroupReports. -/
def laws_FnExactGroupReports.Pure : Prop := ∀ (l0 : List (S36)), (l0.length ≤ maxLen ∧ ∀ y_ ∈ l0, ((Lit.int .i64 y_.f0).wf = true ∧ (Lit.int .i64 y_.f1).wf = true ∧ (y_.f2.length ≤ maxLen ∧ ∀ z_ ∈ y_.f2, (Lit.int .i64 z_).wf = true) ∧ (Lit.int .i64 y_.f3).wf = true ∧ (Lit.int .i64 y_.f4).wf = true ∧ (y_.f5.length ≤ maxLen ∧ ∀ z_ ∈ y_.f5, (Lit.int .i64 z_).wf = true) ∧ ((Lit.int .i64 y_.f6.f0).wf = true ∧ (Lit.int .i64 y_.f6.f1).wf = true))) → ∃ k, laws_FnExactGroupReports.f k l0 = some true
theorem laws_FnExactGroupReports.walk (P : laws_FnExactGroupReports.Pure) (A0 : Option Addr) (c0 : Nat) (l0 : List (S36)) (w : World) (hr0 : Kd.C k36 w A0 l0.length l0) (hc0 : l0.length ≤ c0) (w0 : (l0.length ≤ maxLen ∧ ∀ y_ ∈ l0, ((Lit.int .i64 y_.f0).wf = true ∧ (Lit.int .i64 y_.f1).wf = true ∧ (y_.f2.length ≤ maxLen ∧ ∀ z_ ∈ y_.f2, (Lit.int .i64 z_).wf = true) ∧ (Lit.int .i64 y_.f3).wf = true ∧ (Lit.int .i64 y_.f4).wf = true ∧ (y_.f5.length ≤ maxLen ∧ ∀ z_ ∈ y_.f5, (Lit.int .i64 z_).wf = true) ∧ ((Lit.int .i64 y_.f6.f0).wf = true ∧ (Lit.int .i64 y_.f6.f1).wf = true)))) :
    Calls Try.prog 6 #[.slice A0 l0.length c0] w fun e w' => e = .returned (.bool true) ∧ Below w.heap.size w w' := by
  obtain ⟨k, h⟩ := P l0 w0
  refine (laws_FnExactGroupReports.calls k A0 c0 l0 w hr0 hc0 h).mono ?_
  rintro e w' ⟨rfl, hd⟩
  exact ⟨rfl, hd⟩
end Go.Proofs.Ytglpmjcknhcjcaa.PFnExactGroupReports
