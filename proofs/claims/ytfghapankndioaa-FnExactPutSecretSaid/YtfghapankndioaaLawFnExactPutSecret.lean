/-
  FnExactPutSecret: for every input the law's Go function returns true and leaves its arguments as they were. No condition beside the row's own cells.
-/
import Derived.Test.YtfghapankndioaaRows
import Derived.Test.YtfghapankndioaaStmFnExactPutSecret
import Derived.Test.YtfghapankndioaaPureFnExactPutSecret
import Derived.WalkKit
import Derived.ProofKit
import Derived.OpenShut
import Derived.ShutString
import Derived.ChangeOld
import Derived.Below
import Derived.SizedLaws
namespace Go.Proofs.Ytfghapankndioaa.fnExactPutSecret
open Go.ChangeShapes Go.WideShapes Go.ChangeAt Go.RowKit Go.Proofs.Ytfghapankndioaa.PFnExactPutSecret Go.Proofs.YtfghapankndioaaW.PrintWords
open Go.ChangeMaps (open_string shut_string)
set_option linter.unusedVariables false
theorem own : ownKnob Try.prog.godebug = none := by kernel_rfl
theorem laidOut : laidOutB Try.prog = true := by kernel_rfl
set_option maxRecDepth 100000 in
theorem lifted (os : Os) (started : os.Started) (H : Type) (enc : TypeId × Value → H) :
    ReturnsInHanded {} Try.checked os 8 .any (Rows.fnExactPutSecretSpec.pre6 enc Try.prog Try.f8 Rows.fnExactPutSecretRow.domain false) (Rows.fnExactPutSecretSpec.post enc Try.prog Try.f8 false true false false) := by
  refine returnsInHanded_of_change_sized (C := Try.checked) own started (by kernel_rfl) Try.func8
    (ChangeSpec.witness6 (enc := enc) (C := Try.checked) false ⟨#[], #[.slice none 0 0, .agg #[.int .i64 0, .slice none 0 0, .int .i64 0]], []⟩ 8 (by kernel_rfl) (by kernel_rfl) (by kernel_rfl) (by kernel_rfl)) ?_
  intro W base args ds gs before hval0 hW hcnd hsz0 _
  have hval : ∀ (j : Nat) t v, Try.f8.params[j]? = some t → args[j]? = some v → Value.okWide Try.prog W .any base t v := hval0
  have hW' := hW
  obtain ⟨p, q, hA0, hV, rfl, hfz, hnd⟩ := hW
  have hA : DataW.TrodAll enc Try.prog W 0 (fun _ => true) true Try.f8.params.toList args.toList ds p := hA0
  rw [Try.params8] at hA hval
  obtain ⟨v0, vs0, d0, ds0, p0, q0, hargs, rfl, rfl, h0, r0⟩ := trodAll_cons hA
  obtain ⟨v1, vs1, d1, ds1, p1, q1, rfl, rfl, rfl, h1, r1⟩ := trodAll_cons r0
  obtain ⟨rfl, rfl, rfl⟩ := trodAll_nil r1
  obtain rfl : args = #[v0, v1] := by cases args; simp_all
  obtain ⟨rfl, rfl⟩ := trodVars_none hV
  have k0 := h0
  have lt0 : ∀ x ∈ p0, x.block < W.heap.size := by obtain ⟨m, hm⟩ := k0; exact DataW.trod_lt m _ _ _ hm
  obtain ⟨a0, len0, cap0, rfl⟩ := okWide_slice Try.underlying22 (hval 0 22 v0 rfl rfl)
  obtain ⟨l0, hK0, w0⟩ := Opn.opened (Opn.opn_slice Try.underlying22 (by kernel_rfl) (o31 _)) h0
  obtain ⟨A0, c0, hcs0, hc0, hr0⟩ := hK0
  simp [Value.cells] at hcs0
  obtain ⟨rfl, rfl, rfl⟩ := hcs0
  have k1 := h1
  have lt1 : ∀ x ∈ p1, x.block < W.heap.size := by obtain ⟨m, hm⟩ := k1; exact DataW.trod_lt m _ _ _ hm
  obtain ⟨cs1, rfl⟩ := Opn.okWide_agg Try.underlying31 (hval 1 31 v1 rfl rfl)
  obtain ⟨l1, hK1, w1⟩ := Opn.opened (d := (Kd.pair (Kd.int .i64) (Kd.pair (Kd.slice 81 k81) (Kd.int .i64)))) (Opn.opn_struct Try.underlying31 (by kernel_rfl) (Opn.opnL_cons rfl (by kernel_rfl) (Opn.opn_int Try.underlying3) (Opn.opnL_cons rfl (by kernel_rfl) (Opn.opn_slice Try.underlying29 (by kernel_rfl) (o81 _)) (Opn.opnL_one rfl (by kernel_rfl) (Opn.opn_int Try.underlying3))))) h1
  obtain ⟨_, _, hcs1, rfl, ⟨_, _, rfl, ⟨A1_1_, c1_1_, rfl, hl1_1_, hr1_1_⟩, rfl⟩⟩ := hK1
  obtain rfl : cs1 = #[.int .i64 l1.1, .slice A1_1_ l1.2.1.length c1_1_, .int .i64 l1.2.2] := Array.toList_inj.mp hcs1
  clear hA0 hval0 hsz0
  refine (PFnExactPutSecret.laws_FnExactPutSecret.walk Pure.FnExactPutSecret a0 cap0 l0 l1.1 A1_1_ c1_1_ l1.2.1 l1.2.2 W hr0 hc0 hr1_1_ hl1_1_ w0 w1.1 w1.2.1 w1.2.2).mono fun e W' ⟨he, bel⟩ => ?_
  subst he
  exact ⟨_, rfl, _, _, _, [], _, [], hW', trodAll_mk1 (shut_bool Try.underlying4 _), (trodAll_cons_mk (Below.trod laidOut (by kernel_rfl) (of_decide_eq_true (by kernel_rfl)) k0 bel lt0) (trodAll_cons_mk (Below.trod laidOut (by kernel_rfl) (of_decide_eq_true (by kernel_rfl)) k1 bel lt1) trodAll_mk0)), rfl, bel.frame _, fun h => by cases h⟩
theorem over : Rows.fnExactPutSecretRow.holds Try.pinned (OpenSpec.ofChange Rows.fnExactPutSecretSpec) :=
  OpenClaim.holds_of_wide 8 Try.f8 rfl rfl rfl rfl rfl rfl rfl ⟨rfl, rfl, rfl, rfl, rfl⟩ rfl rfl rfl rfl rfl (by kernel_rfl) Try.func8 (by kernel_rfl)
    (of_decide_eq_true (by kernel_rfl)) (by unfold Func.isWrapper; first | (rw [if_pos (by decide +kernel)]; kernel_rfl) | (rw [if_neg (by decide +kernel)]; exact ⟨rfl, rfl⟩))
    (fun os started H enc _ => lifted os started H enc)
theorem proved : Rows.FnExactPutSecretSaid := over
end Go.Proofs.Ytfghapankndioaa.fnExactPutSecret
namespace Go.Proofs.Ytfghapankndioaa
/-- The row, under a short name, for the claim. -/
theorem fnExactPutSecret_holds : Rows.FnExactPutSecretSaid := fnExactPutSecret.proved
#print axioms fnExactPutSecret_holds
end Go.Proofs.Ytfghapankndioaa
