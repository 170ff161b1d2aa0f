import Derived.Test.YthbmegdbdnmnoaaOpn
import Derived.Test.YthbmegdbdnmnoaaPFnExactCallAllx7
import Derived.KernelRfl
import Derived.Below
namespace Go.Proofs.Ythbmegdbdnmnoaa.PFnExactCallAll
open Go.RowKit Go.Proofs.YthbmegdbdnmnoaaW.PrintWords Go.Proofs.YthbmegdbdnmnoaaW.PrintLast Go.Proofs.YthbmegdbdnmnoaaW.PrintMore
set_option linter.unusedVariables false

set_option maxRecDepth 100000 in
theorem o48 (w : World) : Opn.Opn Try.prog w k48 48 (fun b : S48 => ((Lit.int .i64 b.f0).wf = true ∧ (Lit.int .i64 b.f1).wf = true ∧ (Lit.int .i64 b.f2).wf = true)) :=
  Opn.opn_struct Try.underlying48 (by kernel_rfl) (Opn.opnL_iso (fun x : S48 => (x.f0, x.f1, x.f2)) (fun p => (⟨p.1, p.2.1, p.2.2⟩ : S48)) (fun _ => rfl) (Opn.opnL_cons rfl (by kernel_rfl) (Opn.opn_int Try.underlying3) (Opn.opnL_cons rfl (by kernel_rfl) (Opn.opn_int Try.underlying3) (Opn.opnL_one rfl (by kernel_rfl) (Opn.opn_int Try.underlying3)))))
/-- THE ONE PURE STATEMENT of laws_FnExactCallAll. -/
def laws_FnExactCallAll.Pure : Prop := ∀ (l0 : List (S48)) (a1 : Int) (a2 : Int), (l0.length ≤ maxLen ∧ ∀ y_ ∈ l0, ((Lit.int .i64 y_.f0).wf = true ∧ (Lit.int .i64 y_.f1).wf = true ∧ (Lit.int .i64 y_.f2).wf = true)) → (Lit.int .i64 a1).wf = true → (Lit.int .i64 a2).wf = true → ∃ k, laws_FnExactCallAll.f k l0 a1 a2 = some true
theorem laws_FnExactCallAll.walk (P : laws_FnExactCallAll.Pure) (A0 : Option Addr) (c0 : Nat) (l0 : List (S48)) (a1 : Int) (a2 : Int) (w : World) (hr0 : Kd.C k48 w A0 l0.length l0) (hc0 : l0.length ≤ c0) (w0 : (l0.length ≤ maxLen ∧ ∀ y_ ∈ l0, ((Lit.int .i64 y_.f0).wf = true ∧ (Lit.int .i64 y_.f1).wf = true ∧ (Lit.int .i64 y_.f2).wf = true))) (w1 : (Lit.int .i64 a1).wf = true) (w2 : (Lit.int .i64 a2).wf = true) :
    Calls Try.prog 8 #[.slice A0 l0.length c0, .int .i64 a1, .int .i64 a2] w fun e w' => e = .returned (.bool true) ∧ Below w.heap.size w w' := by
  obtain ⟨k, h⟩ := P l0 a1 a2 w0 w1 w2
  refine (laws_FnExactCallAll.calls k A0 c0 l0 a1 a2 w hr0 hc0 h).mono ?_
  rintro e w' ⟨rfl, hd⟩
  exact ⟨rfl, hd⟩
end Go.Proofs.Ythbmegdbdnmnoaa.PFnExactCallAll
