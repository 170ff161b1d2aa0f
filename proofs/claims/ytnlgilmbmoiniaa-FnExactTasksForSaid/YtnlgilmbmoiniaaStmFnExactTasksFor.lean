import Derived.Test.YtnlgilmbmoiniaaOpn
import Derived.Test.YtnlgilmbmoiniaaPFnExactTasksForx18
import Derived.KernelRfl
import Derived.Below
namespace Go.Proofs.Ytnlgilmbmoiniaa.PFnExactTasksFor
open Go.RowKit Go.Proofs.YtnlgilmbmoiniaaW.PrintWords Go.Proofs.YtnlgilmbmoiniaaW.PrintLast Go.Proofs.YtnlgilmbmoiniaaW.PrintMore
set_option linter.unusedVariables false

set_option maxRecDepth 100000 in
theorem o50 (w : World) : Opn.Opn Try.prog w k50 50 (fun b : S50 => ((Lit.int .i64 b.f0).wf = true ∧ (Lit.int .i64 b.f1).wf = true ∧ (Lit.int .i64 b.f2).wf = true ∧ (Lit.int .i64 b.f3).wf = true ∧ (Lit.int .i64 b.f4).wf = true)) :=
  Opn.opn_struct Try.underlying50 (by kernel_rfl) (Opn.opnL_iso (fun x : S50 => (x.f0, x.f1, x.f2, x.f3, x.f4)) (fun p => (⟨p.1, p.2.1, p.2.2.1, p.2.2.2.1, p.2.2.2.2⟩ : S50)) (fun _ => rfl) (Opn.opnL_cons rfl (by kernel_rfl) (Opn.opn_int Try.underlying3) (Opn.opnL_cons rfl (by kernel_rfl) (Opn.opn_int Try.underlying3) (Opn.opnL_cons rfl (by kernel_rfl) (Opn.opn_int Try.underlying3) (Opn.opnL_cons rfl (by kernel_rfl) (Opn.opn_int Try.underlying3) (Opn.opnL_one rfl (by kernel_rfl) (Opn.opn_int Try.underlying3)))))))
set_option maxRecDepth 100000 in
theorem o52 (w : World) : Opn.Opn Try.prog w k52 52 (fun b : S52 => (((Lit.int .i64 b.f0.f0).wf = true ∧ (Lit.int .i64 b.f0.f1).wf = true ∧ (Lit.int .i64 b.f0.f2).wf = true ∧ (Lit.int .i64 b.f0.f3).wf = true ∧ (Lit.int .i64 b.f0.f4).wf = true) ∧ (Lit.int .i64 b.f1).wf = true ∧ (Lit.int .i64 b.f2).wf = true ∧ (Lit.int .i64 b.f3).wf = true)) :=
  Opn.opn_struct Try.underlying52 (by kernel_rfl) (Opn.opnL_iso (fun x : S52 => (x.f0, x.f1, x.f2, x.f3)) (fun p => (⟨p.1, p.2.1, p.2.2.1, p.2.2.2⟩ : S52)) (fun _ => rfl) (Opn.opnL_cons (d := k50) (wf := fun b : S50 => ((Lit.int .i64 b.f0).wf = true ∧ (Lit.int .i64 b.f1).wf = true ∧ (Lit.int .i64 b.f2).wf = true ∧ (Lit.int .i64 b.f3).wf = true ∧ (Lit.int .i64 b.f4).wf = true)) rfl (by kernel_rfl) (o50 _) (Opn.opnL_cons rfl (by kernel_rfl) (Opn.opn_int Try.underlying3) (Opn.opnL_cons rfl (by kernel_rfl) (Opn.opn_int Try.underlying3) (Opn.opnL_one rfl (by kernel_rfl) (Opn.opn_int Try.underlying3))))))
set_option maxRecDepth 100000 in
theorem o71 (w : World) : Opn.Opn Try.prog w k71 71 (fun b : S71 => ((Lit.int .i64 b.f0).wf = true ∧ (Lit.int .i64 b.f1).wf = true ∧ (Lit.int .i64 b.f2).wf = true ∧ (Lit.int .i64 b.f3).wf = true ∧ (Lit.int .i64 b.f4).wf = true)) :=
  Opn.opn_struct Try.underlying71 (by kernel_rfl) (Opn.opnL_iso (fun x : S71 => (x.f0, x.f1, x.f2, x.f3, x.f4)) (fun p => (⟨p.1, p.2.1, p.2.2.1, p.2.2.2.1, p.2.2.2.2⟩ : S71)) (fun _ => rfl) (Opn.opnL_cons rfl (by kernel_rfl) (Opn.opn_int Try.underlying3) (Opn.opnL_cons rfl (by kernel_rfl) (Opn.opn_int Try.underlying3) (Opn.opnL_cons rfl (by kernel_rfl) (Opn.opn_int Try.underlying3) (Opn.opnL_cons rfl (by kernel_rfl) (Opn.opn_int Try.underlying3) (Opn.opnL_one rfl (by kernel_rfl) (Opn.opn_int Try.underlying3)))))))
/-- THE ONE PURE STATEMENT of laws_FnExactTasksFor. -/
def laws_FnExactTasksFor.Pure : Prop := ∀ (l0 : List (S52)) (l1 : List (S71)) (l2 : List Bool) (a3 : Int), (l0.length ≤ maxLen ∧ ∀ y_ ∈ l0, (((Lit.int .i64 y_.f0.f0).wf = true ∧ (Lit.int .i64 y_.f0.f1).wf = true ∧ (Lit.int .i64 y_.f0.f2).wf = true ∧ (Lit.int .i64 y_.f0.f3).wf = true ∧ (Lit.int .i64 y_.f0.f4).wf = true) ∧ (Lit.int .i64 y_.f1).wf = true ∧ (Lit.int .i64 y_.f2).wf = true ∧ (Lit.int .i64 y_.f3).wf = true)) → (l1.length ≤ maxLen ∧ ∀ y_ ∈ l1, ((Lit.int .i64 y_.f0).wf = true ∧ (Lit.int .i64 y_.f1).wf = true ∧ (Lit.int .i64 y_.f2).wf = true ∧ (Lit.int .i64 y_.f3).wf = true ∧ (Lit.int .i64 y_.f4).wf = true)) → (l2.length ≤ maxLen ∧ ∀ y_ ∈ l2, True) → (Lit.int .i64 a3).wf = true → ∃ k, laws_FnExactTasksFor.f k l0 l1 l2 a3 = some true
theorem laws_FnExactTasksFor.walk (P : laws_FnExactTasksFor.Pure) (A0 : Option Addr) (c0 : Nat) (l0 : List (S52)) (A1 : Option Addr) (c1 : Nat) (l1 : List (S71)) (A2 : Option Addr) (c2 : Nat) (l2 : List Bool) (a3 : Int) (w : World) (hr0 : Kd.C k52 w A0 l0.length l0) (hc0 : l0.length ≤ c0) (hr1 : Kd.C k71 w A1 l1.length l1) (hc1 : l1.length ≤ c1) (hr2 : Kd.C Kd.bool w A2 l2.length l2) (hc2 : l2.length ≤ c2) (w0 : (l0.length ≤ maxLen ∧ ∀ y_ ∈ l0, (((Lit.int .i64 y_.f0.f0).wf = true ∧ (Lit.int .i64 y_.f0.f1).wf = true ∧ (Lit.int .i64 y_.f0.f2).wf = true ∧ (Lit.int .i64 y_.f0.f3).wf = true ∧ (Lit.int .i64 y_.f0.f4).wf = true) ∧ (Lit.int .i64 y_.f1).wf = true ∧ (Lit.int .i64 y_.f2).wf = true ∧ (Lit.int .i64 y_.f3).wf = true))) (w1 : (l1.length ≤ maxLen ∧ ∀ y_ ∈ l1, ((Lit.int .i64 y_.f0).wf = true ∧ (Lit.int .i64 y_.f1).wf = true ∧ (Lit.int .i64 y_.f2).wf = true ∧ (Lit.int .i64 y_.f3).wf = true ∧ (Lit.int .i64 y_.f4).wf = true))) (w2 : (l2.length ≤ maxLen ∧ ∀ y_ ∈ l2, True)) (w3 : (Lit.int .i64 a3).wf = true) :
    Calls Try.prog 4 #[.slice A0 l0.length c0, .slice A1 l1.length c1, .slice A2 l2.length c2, .int .i64 a3] w fun e w' => e = .returned (.bool true) ∧ Below w.heap.size w w' := by
  obtain ⟨k, h⟩ := P l0 l1 l2 a3 w0 w1 w2 w3
  refine (laws_FnExactTasksFor.calls k A0 c0 l0 A1 c1 l1 A2 c2 l2 a3 w hr0 hc0 hr1 hc1 hr2 hc2 h).mono ?_
  rintro e w' ⟨rfl, hd⟩
  exact ⟨rfl, hd⟩
end Go.Proofs.Ytnlgilmbmoiniaa.PFnExactTasksFor
