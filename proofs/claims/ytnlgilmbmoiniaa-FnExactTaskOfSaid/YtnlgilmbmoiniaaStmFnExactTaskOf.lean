import Derived.Test.YtnlgilmbmoiniaaOpn
import Derived.Test.YtnlgilmbmoiniaaPFnExactTaskOfx9
import Derived.KernelRfl
import Derived.Below
namespace Go.Proofs.Ytnlgilmbmoiniaa.PFnExactTaskOf
open Go.RowKit Go.Proofs.YtnlgilmbmoiniaaW.PrintWords Go.Proofs.YtnlgilmbmoiniaaW.PrintLast Go.Proofs.YtnlgilmbmoiniaaW.PrintMore
set_option linter.unusedVariables false

set_option maxRecDepth 100000 in
theorem o71 (w : World) : Opn.Opn Try.prog w k71 71 (fun b : S71 => ((Lit.int .i64 b.f0).wf = true ∧ (Lit.int .i64 b.f1).wf = true ∧ (Lit.int .i64 b.f2).wf = true ∧ (Lit.int .i64 b.f3).wf = true ∧ (Lit.int .i64 b.f4).wf = true)) :=
  Opn.opn_struct Try.underlying71 (by kernel_rfl) (Opn.opnL_iso (fun x : S71 => (x.f0, x.f1, x.f2, x.f3, x.f4)) (fun p => (⟨p.1, p.2.1, p.2.2.1, p.2.2.2.1, p.2.2.2.2⟩ : S71)) (fun _ => rfl) (Opn.opnL_cons rfl (by kernel_rfl) (Opn.opn_int Try.underlying3) (Opn.opnL_cons rfl (by kernel_rfl) (Opn.opn_int Try.underlying3) (Opn.opnL_cons rfl (by kernel_rfl) (Opn.opn_int Try.underlying3) (Opn.opnL_cons rfl (by kernel_rfl) (Opn.opn_int Try.underlying3) (Opn.opnL_one rfl (by kernel_rfl) (Opn.opn_int Try.underlying3)))))))
/-- THE ONE PURE STATEMENT of laws_FnExactTaskOf. -/
def laws_FnExactTaskOf.Pure : Prop := ∀ (a0_0 : Int) (a0_1 : Int) (a0_2 : Int) (a0_3 : Int) (a0_4 : Int) (a0_5 : Int) (a0_6 : Int) (a0_7 : Int) (l1 : List (S71)) (l2 : List Bool) (a3 : Int), (Lit.int .i64 a0_0).wf = true → (Lit.int .i64 a0_1).wf = true → (Lit.int .i64 a0_2).wf = true → (Lit.int .i64 a0_3).wf = true → (Lit.int .i64 a0_4).wf = true → (Lit.int .i64 a0_5).wf = true → (Lit.int .i64 a0_6).wf = true → (Lit.int .i64 a0_7).wf = true → (l1.length ≤ maxLen ∧ ∀ y_ ∈ l1, ((Lit.int .i64 y_.f0).wf = true ∧ (Lit.int .i64 y_.f1).wf = true ∧ (Lit.int .i64 y_.f2).wf = true ∧ (Lit.int .i64 y_.f3).wf = true ∧ (Lit.int .i64 y_.f4).wf = true)) → (l2.length ≤ maxLen ∧ ∀ y_ ∈ l2, True) → (Lit.int .i64 a3).wf = true → ∃ k, laws_FnExactTaskOf.f k a0_0 a0_1 a0_2 a0_3 a0_4 a0_5 a0_6 a0_7 l1 l2 a3 = some true
theorem laws_FnExactTaskOf.walk (P : laws_FnExactTaskOf.Pure) (a0_0 : Int) (a0_1 : Int) (a0_2 : Int) (a0_3 : Int) (a0_4 : Int) (a0_5 : Int) (a0_6 : Int) (a0_7 : Int) (A1 : Option Addr) (c1 : Nat) (l1 : List (S71)) (A2 : Option Addr) (c2 : Nat) (l2 : List Bool) (a3 : Int) (w : World) (hr1 : Kd.C k71 w A1 l1.length l1) (hc1 : l1.length ≤ c1) (hr2 : Kd.C Kd.bool w A2 l2.length l2) (hc2 : l2.length ≤ c2) (w0_0 : (Lit.int .i64 a0_0).wf = true) (w0_1 : (Lit.int .i64 a0_1).wf = true) (w0_2 : (Lit.int .i64 a0_2).wf = true) (w0_3 : (Lit.int .i64 a0_3).wf = true) (w0_4 : (Lit.int .i64 a0_4).wf = true) (w0_5 : (Lit.int .i64 a0_5).wf = true) (w0_6 : (Lit.int .i64 a0_6).wf = true) (w0_7 : (Lit.int .i64 a0_7).wf = true) (w1 : (l1.length ≤ maxLen ∧ ∀ y_ ∈ l1, ((Lit.int .i64 y_.f0).wf = true ∧ (Lit.int .i64 y_.f1).wf = true ∧ (Lit.int .i64 y_.f2).wf = true ∧ (Lit.int .i64 y_.f3).wf = true ∧ (Lit.int .i64 y_.f4).wf = true))) (w2 : (l2.length ≤ maxLen ∧ ∀ y_ ∈ l2, True)) (w3 : (Lit.int .i64 a3).wf = true) :
    Calls Try.prog 6 #[.agg #[.int .i64 a0_0, .int .i64 a0_1, .int .i64 a0_2, .int .i64 a0_3, .int .i64 a0_4, .int .i64 a0_5, .int .i64 a0_6, .int .i64 a0_7], .slice A1 l1.length c1, .slice A2 l2.length c2, .int .i64 a3] w fun e w' => e = .returned (.bool true) ∧ Below w.heap.size w w' := by
  obtain ⟨k, h⟩ := P a0_0 a0_1 a0_2 a0_3 a0_4 a0_5 a0_6 a0_7 l1 l2 a3 w0_0 w0_1 w0_2 w0_3 w0_4 w0_5 w0_6 w0_7 w1 w2 w3
  refine (laws_FnExactTaskOf.calls k a0_0 a0_1 a0_2 a0_3 a0_4 a0_5 a0_6 a0_7 A1 c1 l1 A2 c2 l2 a3 w hr1 hc1 hr2 hc2 h).mono ?_
  rintro e w' ⟨rfl, hd⟩
  exact ⟨rfl, hd⟩
end Go.Proofs.Ytnlgilmbmoiniaa.PFnExactTaskOf
