/-
  FnExactAreTwins: for every input the law's Go function returns true and leaves its arguments as they were. No condition beside the row's own cells.
-/
import Derived.Test.YtkbnbimphddmbaaRows
import Derived.Test.YtkbnbimphddmbaaStmFnExactAreTwins
import Derived.Test.YtkbnbimphddmbaaPureFnExactAreTwins
import Derived.WalkKit
import Derived.ProofKit
import Derived.OpenShut
import Derived.ShutString
import Derived.ChangeOld
import Derived.Below
import Derived.SizedLaws
namespace Go.Proofs.Ytkbnbimphddmbaa.fnExactAreTwins
open Go.ChangeShapes Go.WideShapes Go.ChangeAt Go.RowKit Go.Proofs.Ytkbnbimphddmbaa.PFnExactAreTwins Go.Proofs.YtkbnbimphddmbaaW.PrintWords
open Go.ChangeMaps (open_string shut_string)
set_option linter.unusedVariables false
theorem own : ownKnob Try.prog.godebug = none := by kernel_rfl
theorem laidOut : laidOutB Try.prog = true := by kernel_rfl
set_option maxRecDepth 100000 in
theorem lifted (os : Os) (started : os.Started) (H : Type) (enc : TypeId × Value → H) :
    ReturnsInHanded {} Try.checked os 6 .any (Rows.fnExactAreTwinsSpec.pre6 enc Try.prog Try.f6 Rows.fnExactAreTwinsRow.domain false) (Rows.fnExactAreTwinsSpec.post enc Try.prog Try.f6 false true false false) := by
  refine returnsInHanded_of_change_sized (C := Try.checked) own started (by kernel_rfl) Try.func6
    (ChangeSpec.witness6 (enc := enc) (C := Try.checked) false ⟨#[], #[.agg #[.int .i64 0, .int .i64 0, .int .i64 0, .int .i64 0, .int .i64 0, .int .i64 0, .int .i64 0, .int .i64 0], .agg #[.int .i64 0, .int .i64 0, .int .i64 0, .int .i64 0, .int .i64 0, .int .i64 0, .int .i64 0, .int .i64 0]], []⟩ 8 (by kernel_rfl) (by kernel_rfl) (by kernel_rfl) (by kernel_rfl)) ?_
  intro W base args ds gs before hval0 hW hcnd hsz0 _
  have hval : ∀ (j : Nat) t v, Try.f6.params[j]? = some t → args[j]? = some v → Value.okWide Try.prog W .any base t v := hval0
  have hW' := hW
  obtain ⟨p, q, hA0, hV, rfl, hfz, hnd⟩ := hW
  have hA : DataW.TrodAll enc Try.prog W 0 (fun _ => true) true Try.f6.params.toList args.toList ds p := hA0
  rw [Try.params6] at hA hval
  obtain ⟨v0, vs0, d0, ds0, p0, q0, hargs, rfl, rfl, h0, r0⟩ := trodAll_cons hA
  obtain ⟨v1, vs1, d1, ds1, p1, q1, rfl, rfl, rfl, h1, r1⟩ := trodAll_cons r0
  obtain ⟨rfl, rfl, rfl⟩ := trodAll_nil r1
  obtain rfl : args = #[v0, v1] := by cases args; simp_all
  obtain ⟨rfl, rfl⟩ := trodVars_none hV
  have k0 := h0
  have lt0 : ∀ x ∈ p0, x.block < W.heap.size := by obtain ⟨m, hm⟩ := k0; exact DataW.trod_lt m _ _ _ hm
  obtain ⟨cs0, rfl⟩ := Opn.okWide_agg Try.underlying33 (hval 0 33 v0 rfl rfl)
  obtain ⟨l0, hK0, w0⟩ := Opn.opened (d := (Kd.pair (Kd.pair (Kd.int .i64) (Kd.pair (Kd.int .i64) (Kd.pair (Kd.int .i64) (Kd.pair (Kd.int .i64) (Kd.int .i64))))) (Kd.pair (Kd.int .i64) (Kd.pair (Kd.int .i64) (Kd.int .i64))))) (Opn.opn_struct Try.underlying33 (by kernel_rfl) (Opn.opnL_cons rfl (by kernel_rfl) (Opn.opn_struct Try.underlying31 (by kernel_rfl) (Opn.opnL_cons rfl (by kernel_rfl) (Opn.opn_int Try.underlying3) (Opn.opnL_cons rfl (by kernel_rfl) (Opn.opn_int Try.underlying3) (Opn.opnL_cons rfl (by kernel_rfl) (Opn.opn_int Try.underlying3) (Opn.opnL_cons rfl (by kernel_rfl) (Opn.opn_int Try.underlying3) (Opn.opnL_one rfl (by kernel_rfl) (Opn.opn_int Try.underlying3))))))) (Opn.opnL_cons rfl (by kernel_rfl) (Opn.opn_int Try.underlying3) (Opn.opnL_cons rfl (by kernel_rfl) (Opn.opn_int Try.underlying3) (Opn.opnL_one rfl (by kernel_rfl) (Opn.opn_int Try.underlying3)))))) h0
  obtain ⟨_, _, hcs0, ⟨_, _, rfl, rfl, ⟨_, _, rfl, rfl, ⟨_, _, rfl, rfl, ⟨_, _, rfl, rfl, rfl⟩⟩⟩⟩, ⟨_, _, rfl, rfl, ⟨_, _, rfl, rfl, rfl⟩⟩⟩ := hK0
  obtain rfl : cs0 = #[.int .i64 l0.1.1, .int .i64 l0.1.2.1, .int .i64 l0.1.2.2.1, .int .i64 l0.1.2.2.2.1, .int .i64 l0.1.2.2.2.2, .int .i64 l0.2.1, .int .i64 l0.2.2.1, .int .i64 l0.2.2.2] := Array.toList_inj.mp hcs0
  have k1 := h1
  have lt1 : ∀ x ∈ p1, x.block < W.heap.size := by obtain ⟨m, hm⟩ := k1; exact DataW.trod_lt m _ _ _ hm
  obtain ⟨cs1, rfl⟩ := Opn.okWide_agg Try.underlying33 (hval 1 33 v1 rfl rfl)
  obtain ⟨l1, hK1, w1⟩ := Opn.opened (d := (Kd.pair (Kd.pair (Kd.int .i64) (Kd.pair (Kd.int .i64) (Kd.pair (Kd.int .i64) (Kd.pair (Kd.int .i64) (Kd.int .i64))))) (Kd.pair (Kd.int .i64) (Kd.pair (Kd.int .i64) (Kd.int .i64))))) (Opn.opn_struct Try.underlying33 (by kernel_rfl) (Opn.opnL_cons rfl (by kernel_rfl) (Opn.opn_struct Try.underlying31 (by kernel_rfl) (Opn.opnL_cons rfl (by kernel_rfl) (Opn.opn_int Try.underlying3) (Opn.opnL_cons rfl (by kernel_rfl) (Opn.opn_int Try.underlying3) (Opn.opnL_cons rfl (by kernel_rfl) (Opn.opn_int Try.underlying3) (Opn.opnL_cons rfl (by kernel_rfl) (Opn.opn_int Try.underlying3) (Opn.opnL_one rfl (by kernel_rfl) (Opn.opn_int Try.underlying3))))))) (Opn.opnL_cons rfl (by kernel_rfl) (Opn.opn_int Try.underlying3) (Opn.opnL_cons rfl (by kernel_rfl) (Opn.opn_int Try.underlying3) (Opn.opnL_one rfl (by kernel_rfl) (Opn.opn_int Try.underlying3)))))) h1
  obtain ⟨_, _, hcs1, ⟨_, _, rfl, rfl, ⟨_, _, rfl, rfl, ⟨_, _, rfl, rfl, ⟨_, _, rfl, rfl, rfl⟩⟩⟩⟩, ⟨_, _, rfl, rfl, ⟨_, _, rfl, rfl, rfl⟩⟩⟩ := hK1
  obtain rfl : cs1 = #[.int .i64 l1.1.1, .int .i64 l1.1.2.1, .int .i64 l1.1.2.2.1, .int .i64 l1.1.2.2.2.1, .int .i64 l1.1.2.2.2.2, .int .i64 l1.2.1, .int .i64 l1.2.2.1, .int .i64 l1.2.2.2] := Array.toList_inj.mp hcs1
  clear hA0 hval0 hsz0
  refine (PFnExactAreTwins.laws_FnExactAreTwins.walk Pure.FnExactAreTwins l0.1.1 l0.1.2.1 l0.1.2.2.1 l0.1.2.2.2.1 l0.1.2.2.2.2 l0.2.1 l0.2.2.1 l0.2.2.2 l1.1.1 l1.1.2.1 l1.1.2.2.1 l1.1.2.2.2.1 l1.1.2.2.2.2 l1.2.1 l1.2.2.1 l1.2.2.2 W  w0.1.1 w0.1.2.1 w0.1.2.2.1 w0.1.2.2.2.1 w0.1.2.2.2.2 w0.2.1 w0.2.2.1 w0.2.2.2 w1.1.1 w1.1.2.1 w1.1.2.2.1 w1.1.2.2.2.1 w1.1.2.2.2.2 w1.2.1 w1.2.2.1 w1.2.2.2).mono fun e W' ⟨he, bel⟩ => ?_
  subst he
  exact ⟨_, rfl, _, _, _, [], _, [], hW', trodAll_mk1 (shut_bool Try.underlying4 _), (trodAll_cons_mk (Below.trod laidOut (by kernel_rfl) (of_decide_eq_true (by kernel_rfl)) k0 bel lt0) (trodAll_cons_mk (Below.trod laidOut (by kernel_rfl) (of_decide_eq_true (by kernel_rfl)) k1 bel lt1) trodAll_mk0)), rfl, bel.frame _, fun h => by cases h⟩
theorem over : Rows.fnExactAreTwinsRow.holds Try.pinned (OpenSpec.ofChange Rows.fnExactAreTwinsSpec) :=
  OpenClaim.holds_of_wide 6 Try.f6 rfl rfl rfl rfl rfl rfl rfl ⟨rfl, rfl, rfl, rfl, rfl⟩ rfl rfl rfl rfl rfl (by kernel_rfl) Try.func6 (by kernel_rfl)
    (of_decide_eq_true (by kernel_rfl)) (by unfold Func.isWrapper; first | (rw [if_pos (by decide +kernel)]; kernel_rfl) | (rw [if_neg (by decide +kernel)]; exact ⟨rfl, rfl⟩))
    (fun os started H enc _ => lifted os started H enc)
theorem proved : Rows.FnExactAreTwinsSaid := over
end Go.Proofs.Ytkbnbimphddmbaa.fnExactAreTwins
namespace Go.Proofs.Ytkbnbimphddmbaa
/-- The row, under a short name, for the claim. -/
theorem fnExactAreTwins_holds : Rows.FnExactAreTwinsSaid := fnExactAreTwins.proved
#print axioms fnExactAreTwins_holds
end Go.Proofs.Ytkbnbimphddmbaa
