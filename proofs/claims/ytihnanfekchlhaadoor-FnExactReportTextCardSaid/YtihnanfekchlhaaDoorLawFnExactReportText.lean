/-
  FnExactReportText: for every input the law's Go function returns true and leaves its arguments as they were. No condition beside the row's own cells.
-/
import Derived.Test.YtihnanfekchlhaaDoorCards
import Derived.Test.YtihnanfekchlhaaDoorTie
import Derived.Lay
import Derived.LaidMore
import Derived.SevenTiedAt
import Derived.Stop.Joined
import Derived.Stop.LaidErr
import Derived.Test.YtihnanfekchlhaaDoorRows
import Derived.Test.YtihnanfekchlhaaDoorStmFnExactReportText
import Derived.Test.YtihnanfekchlhaaDoorPureFnExactReportText
import Derived.WalkKit
import Derived.ProofKit
import Derived.OpenShut
import Derived.ShutString
import Derived.ChangeOld
import Derived.Below
import Derived.SizedLaws
namespace Go.Proofs.YtihnanfekchlhaaDoor.fnExactReportText
open Go.ChangeShapes Go.WideShapes Go.ChangeAt Go.RowKit Go.Proofs.YtihnanfekchlhaaDoor.PFnExactReportText Go.Proofs.YtihnanfekchlhaaDoorW.PrintWords
open Go.ChangeMaps (open_string shut_string)
set_option linter.unusedVariables false
theorem own : ownKnob Tryd.prog.godebug = none := by kernel_rfl
theorem laidOut : laidOutB Tryd.prog = true := by kernel_rfl
set_option maxRecDepth 100000 in
theorem lifted (os : Os) (started : os.Started) (H : Type) (enc : TypeId × Value → H) :
    ReturnsInHanded {} Tryd.checked os 7 .any (fun w args => (Rows.fnExactReportTextSpec.pre enc Tryd.prog Tryd.f7 Rows.fnExactReportTextRow.domain false w args ∧ laidMetH Tryd.prog Rows.fnExactReportTextRow.laid w) ∧ sizedMet enc Tryd.prog Tryd.f7 (OpenSpec.ofChange Rows.fnExactReportTextSpec) false w args) (Rows.fnExactReportTextSpec.post enc Tryd.prog Tryd.f7 false true false false) := by
  refine returnsInHanded_of_change_and (C := Tryd.checked) (X := (fun w _ => laidMetH Tryd.prog Rows.fnExactReportTextRow.laid w)) (fun _ _ _ hh h => h.of_heap hh) own started (by kernel_rfl) Tryd.func7
    (ChangeSpec.witness_shaped (enc := enc) (C := Tryd.checked) (os := os) (X := (fun w _ => laidMetH Tryd.prog Rows.fnExactReportTextRow.laid w)) false (World.laidAll Tryd.prog os Rows.fnExactReportTextRow.laid) #[.agg #[.int .i64 0, .int .i64 0, .slice none 0 0, .int .i64 0, .int .i64 0, .slice none 0 0, .int .i64 0, .int .i64 0]] 8 (World.laidAll_os _ _ _)
      (World.shaped_of_ZipB (by kernel_rfl) (by kernel_rfl)) (by kernel_rfl) (by kernel_rfl) (by kernel_rfl)
      (by rw [MakeChecks.laidMetH_plain _ _ _ (by kernel_rfl)]; exact laidMet_laidAll _ (by kernel_rfl) (by kernel_rfl))) ?_
  intro W base args ds gs before hval0 hW hcnd hsz0 hL _
  have TB_ : (Itm.Tb true false) W := by
    rw [MakeChecks.laidMetH_plain _ _ _ (by kernel_rfl)] at hL
    exact ⟨fun _ => Itm.tab_of hL.tail.tail, fun e => by cases e⟩
  have hval : ∀ (j : Nat) t v, Tryd.f7.params[j]? = some t → args[j]? = some v → Value.okWide Tryd.prog W .any base t v := hval0
  have hW' := hW
  obtain ⟨p, q, hA0, hV, rfl, hfz, hnd⟩ := hW
  have hA : DataW.TrodAll enc Tryd.prog W 0 (fun _ => true) true Tryd.f7.params.toList args.toList ds p := hA0
  rw [Tryd.params7] at hA hval
  obtain ⟨v0, vs0, d0, ds0, p0, q0, hargs, rfl, rfl, h0, r0⟩ := trodAll_cons hA
  obtain ⟨rfl, rfl, rfl⟩ := trodAll_nil r0
  obtain rfl : args = #[v0] := by cases args; simp_all
  obtain ⟨rfl, rfl⟩ := trodVars_none hV
  have k0 := h0
  have lt0 : ∀ x ∈ p0, x.block < W.heap.size := by obtain ⟨m, hm⟩ := k0; exact DataW.trod_lt m _ _ _ hm
  obtain ⟨cs0, rfl⟩ := Opn.okWide_agg Tryd.underlying61 (hval 0 61 v0 rfl rfl)
  obtain ⟨l0, hK0, w0⟩ := Opn.opened (d := (Kd.pair (Kd.int .i64) (Kd.pair (Kd.int .i64) (Kd.pair (Kd.slice 3 (Kd.int .i64)) (Kd.pair (Kd.int .i64) (Kd.pair (Kd.int .i64) (Kd.pair (Kd.slice 3 (Kd.int .i64)) (Kd.pair (Kd.int .i64) (Kd.int .i64))))))))) (Opn.opn_struct Tryd.underlying61 (by kernel_rfl) (Opn.opnL_cons rfl (by kernel_rfl) (Opn.opn_int Tryd.underlying3) (Opn.opnL_cons rfl (by kernel_rfl) (Opn.opn_int Tryd.underlying3) (Opn.opnL_cons rfl (by kernel_rfl) (Opn.opn_slice Tryd.underlying24 (by kernel_rfl) (Opn.opn_int Tryd.underlying3)) (Opn.opnL_cons rfl (by kernel_rfl) (Opn.opn_int Tryd.underlying3) (Opn.opnL_cons rfl (by kernel_rfl) (Opn.opn_int Tryd.underlying3) (Opn.opnL_cons rfl (by kernel_rfl) (Opn.opn_slice Tryd.underlying24 (by kernel_rfl) (Opn.opn_int Tryd.underlying3)) (Opn.opnL_one rfl (by kernel_rfl) (Opn.opn_struct Tryd.underlying59 (by kernel_rfl) (Opn.opnL_cons rfl (by kernel_rfl) (Opn.opn_int Tryd.underlying3) (Opn.opnL_one rfl (by kernel_rfl) (Opn.opn_int Tryd.underlying3)))))))))))) h0
  obtain ⟨_, _, hcs0, rfl, ⟨_, _, rfl, rfl, ⟨_, _, rfl, ⟨A0_2_, c0_2_, rfl, hl0_2_, hr0_2_⟩, ⟨_, _, rfl, rfl, ⟨_, _, rfl, rfl, ⟨_, _, rfl, ⟨A0_5_, c0_5_, rfl, hl0_5_, hr0_5_⟩, ⟨_, _, rfl, rfl, rfl⟩⟩⟩⟩⟩⟩⟩ := hK0
  obtain rfl : cs0 = #[.int .i64 l0.1, .int .i64 l0.2.1, .slice A0_2_ l0.2.2.1.length c0_2_, .int .i64 l0.2.2.2.1, .int .i64 l0.2.2.2.2.1, .slice A0_5_ l0.2.2.2.2.2.1.length c0_5_, .int .i64 l0.2.2.2.2.2.2.1, .int .i64 l0.2.2.2.2.2.2.2] := Array.toList_inj.mp hcs0
  clear hA0 hval0 hsz0
  refine (PFnExactReportText.laws_FnExactReportText.walk Pure.FnExactReportText l0.1 l0.2.1 A0_2_ c0_2_ l0.2.2.1 l0.2.2.2.1 l0.2.2.2.2.1 A0_5_ c0_5_ l0.2.2.2.2.2.1 l0.2.2.2.2.2.2.1 l0.2.2.2.2.2.2.2 W hr0_2_ hl0_2_ hr0_5_ hl0_5_ w0.1 w0.2.1 w0.2.2.1 w0.2.2.2.1 w0.2.2.2.2.1 w0.2.2.2.2.2.1 w0.2.2.2.2.2.2.1 w0.2.2.2.2.2.2.2 TB_).mono fun e W' ⟨he, bel⟩ => ?_
  subst he
  exact ⟨_, rfl, _, _, _, [], _, [], hW', trodAll_mk1 (shut_bool Tryd.underlying4 _), (trodAll_cons_mk (Below.trod laidOut (by kernel_rfl) (of_decide_eq_true (by kernel_rfl)) k0 bel lt0) trodAll_mk0), rfl, bel.frame _, fun h => by cases h⟩
theorem over : Rows.fnExactReportTextRow.holds Tryd.pinned (OpenSpec.ofChange Rows.fnExactReportTextSpec) :=
  OpenClaim.holds_of_wide 7 Tryd.f7 rfl rfl rfl rfl rfl rfl rfl ⟨rfl, rfl, rfl, rfl, rfl⟩ rfl rfl rfl rfl rfl (by kernel_rfl) Tryd.func7 (by kernel_rfl)
    (of_decide_eq_true (by kernel_rfl)) (by unfold Func.isWrapper; first | (rw [if_pos (by decide +kernel)]; kernel_rfl) | (rw [if_neg (by decide +kernel)]; exact ⟨rfl, rfl⟩))
    (fun os started H enc _ => lifted os started H enc)
theorem proved : Rows.FnExactReportTextSaid := over
theorem card : Rows.FnExactReportTextCardSaid :=
  Claim7.holds_tied_plain_at .later [] [.data, .data, .data] true (true, "0b51e1f703e6078f2c4a9914f9c57e8ef079b8e275cde77450d3efc86e7c82c7") false proved (fun _ h => by cases h) (by kernel_rfl) (fun _ h => by cases h) fnExactReportText_row_tie rfl ⟨rfl, rfl⟩ (by kernel_rfl) rfl
    (fun f fn hf hfn => by
      obtain rfl : f = 7 := Option.some.inj ((show Tryd.prog.funcNamed "loop.example/g03007/laws.FnExactReportText" = some 7 by kernel_rfl).symm.trans hf) |>.symm
      obtain rfl : fn = Tryd.f7 := (Option.some.inj (Tryd.func7.symm.trans hfn)).symm
      exact ⟨by kernel_rfl, fun j t ht => by
        rw [Tryd.params7] at ht
        have hm : t ∈ [61] := by simpa using Array.mem_of_getElem? ht
        have hall : ([61].all fun u => !Tryd.prog.wantsStandIn u) = true := by kernel_rfl
        exact (show Tryd.prog.wantsStandIn t = false by simpa using List.all_eq_true.1 hall t hm)⟩)
    (by kernel_rfl)
end Go.Proofs.YtihnanfekchlhaaDoor.fnExactReportText
namespace Go.Proofs.YtihnanfekchlhaaDoor
/-- The row, under a short name, for the claim. -/
theorem fnExactReportText_holds : Rows.FnExactReportTextCardSaid := fnExactReportText.card
#print axioms fnExactReportText_holds
end Go.Proofs.YtihnanfekchlhaaDoor
