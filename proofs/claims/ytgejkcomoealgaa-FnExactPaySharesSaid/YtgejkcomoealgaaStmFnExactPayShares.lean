import Derived.Test.YtgejkcomoealgaaOpn
import Derived.Test.YtgejkcomoealgaaPFnExactPaySharesx9
import Derived.KernelRfl
import Derived.Below
namespace Go.Proofs.Ytgejkcomoealgaa.PFnExactPayShares
open Go.RowKit Go.Proofs.YtgejkcomoealgaaW.PrintWords Go.Proofs.YtgejkcomoealgaaW.PrintLast Go.Proofs.YtgejkcomoealgaaW.PrintMore
set_option linter.unusedVariables false

set_option maxRecDepth 100000 in
theorem o32 (w : World) : Opn.Opn Try.prog w k32 32 (fun b : S32 => ((Lit.int .i64 b.f0).wf = true ∧ (Lit.int .i64 b.f1).wf = true ∧ (Lit.int .i64 b.f2).wf = true ∧ (Lit.int .i64 b.f3).wf = true)) :=
  Opn.opn_struct Try.underlying32 (by kernel_rfl) (Opn.opnL_iso (fun x : S32 => (x.f0, x.f1, x.f2, x.f3)) (fun p => (⟨p.1, p.2.1, p.2.2.1, p.2.2.2⟩ : S32)) (fun _ => rfl) (Opn.opnL_cons rfl (by kernel_rfl) (Opn.opn_int Try.underlying3) (Opn.opnL_cons rfl (by kernel_rfl) (Opn.opn_int Try.underlying3) (Opn.opnL_cons rfl (by kernel_rfl) (Opn.opn_int Try.underlying3) (Opn.opnL_one rfl (by kernel_rfl) (Opn.opn_int Try.underlying3))))))
set_option maxRecDepth 100000 in
theorem o64 (w : World) : Opn.Opn Try.prog w k64 64 (fun b : S64 => ((Lit.int .i64 b.f0).wf = true ∧ (Lit.int .i64 b.f1).wf = true)) :=
  Opn.opn_struct Try.underlying64 (by kernel_rfl) (Opn.opnL_iso (fun x : S64 => (x.f0, x.f1)) (fun p => (⟨p.1, p.2⟩ : S64)) (fun _ => rfl) (Opn.opnL_cons rfl (by kernel_rfl) (Opn.opn_int Try.underlying3) (Opn.opnL_one rfl (by kernel_rfl) (Opn.opn_int Try.underlying3))))
/-- THE ONE PURE STATEMENT of laws_FnExactPayShares. -/
def laws_FnExactPayShares.Pure : Prop := ∀ (l0 : List (S32)) (a1 : Int) (l2 : List (S64)) (a3 : Int), (l0.length ≤ maxLen ∧ ∀ y_ ∈ l0, ((Lit.int .i64 y_.f0).wf = true ∧ (Lit.int .i64 y_.f1).wf = true ∧ (Lit.int .i64 y_.f2).wf = true ∧ (Lit.int .i64 y_.f3).wf = true)) → (Lit.int .i64 a1).wf = true → (l2.length ≤ maxLen ∧ ∀ y_ ∈ l2, ((Lit.int .i64 y_.f0).wf = true ∧ (Lit.int .i64 y_.f1).wf = true)) → (Lit.int .i64 a3).wf = true → ∃ k, laws_FnExactPayShares.f k l0 a1 l2 a3 = some true
theorem laws_FnExactPayShares.walk (P : laws_FnExactPayShares.Pure) (A0 : Option Addr) (c0 : Nat) (l0 : List (S32)) (a1 : Int) (A2 : Option Addr) (c2 : Nat) (l2 : List (S64)) (a3 : Int) (w : World) (hr0 : Kd.C k32 w A0 l0.length l0) (hc0 : l0.length ≤ c0) (hr2 : Kd.C k64 w A2 l2.length l2) (hc2 : l2.length ≤ c2) (w0 : (l0.length ≤ maxLen ∧ ∀ y_ ∈ l0, ((Lit.int .i64 y_.f0).wf = true ∧ (Lit.int .i64 y_.f1).wf = true ∧ (Lit.int .i64 y_.f2).wf = true ∧ (Lit.int .i64 y_.f3).wf = true))) (w1 : (Lit.int .i64 a1).wf = true) (w2 : (l2.length ≤ maxLen ∧ ∀ y_ ∈ l2, ((Lit.int .i64 y_.f0).wf = true ∧ (Lit.int .i64 y_.f1).wf = true))) (w3 : (Lit.int .i64 a3).wf = true) :
    Calls Try.prog 7 #[.slice A0 l0.length c0, .int .i64 a1, .slice A2 l2.length c2, .int .i64 a3] w fun e w' => e = .returned (.bool true) ∧ Below w.heap.size w w' := by
  obtain ⟨k, h⟩ := P l0 a1 l2 a3 w0 w1 w2 w3
  refine (laws_FnExactPayShares.calls k A0 c0 l0 a1 A2 c2 l2 a3 w hr0 hc0 hr2 hc2 h).mono ?_
  rintro e w' ⟨rfl, hd⟩
  exact ⟨rfl, hd⟩
end Go.Proofs.Ytgejkcomoealgaa.PFnExactPayShares
