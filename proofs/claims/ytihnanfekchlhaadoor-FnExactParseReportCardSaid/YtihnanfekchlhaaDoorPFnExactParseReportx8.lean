-- Written for this claim by a program (a printer turned to this claim); Lean checks it.
import Derived.Test.YtihnanfekchlhaaDoorPFnExactParseReportx0
import Derived.Test.YtihnanfekchlhaaDoorPFnExactParseReportx3
import Derived.Test.YtihnanfekchlhaaDoorPFnExactParseReportx4
import Derived.Test.YtihnanfekchlhaaDoorPFnExactParseReportx7
namespace Go.Proofs.YtihnanfekchlhaaDoor.PFnExactParseReport
open Go.RowKit Go.Proofs.YtihnanfekchlhaaDoorW.PrintWords Go.Proofs.YtihnanfekchlhaaDoorW.PrintLast Go.Proofs.YtihnanfekchlhaaDoorW.PrintMore
attribute [local go_sem] max2_int min2_int max_two min_two max_three min_three max_four min_four   -- for this text's walks alone
set_option linter.unusedVariables false
set_option linter.unusedSimpArgs false

/-! ### laws_FnExactParseReport: function 8 -/
mutual
def laws_FnExactParseReport.j0 : Nat → ByteArray → Bool → Bool → Int → Int → List Int → Int → Int → List Int → Int → Int → Int → Int → List Int → Int → Int → List Int → Int → Int → Option (Bool)
 | 0, _, _, _, _, _, _, _, _, _, _, _, _, _, _, _, _, _, _, _ => none
 | k + 1, x0, x4, x32, x330000, x330001, x330002, x330003, x330004, x330005, x330006, x330007, x344000, x344001, x344002, x344003, x344004, x344005, x344006, x344007 => if x32 = true then (some false) else ((laws_markReport.f k x344000 x344001 x344002 x344003 x344004 x344005 x344006 x344007 1).bind fun bt345 => ((laws_heldReport.f k x344000 x344001 bt345.2.1 x344003 x344004 bt345.2.2 x344006 x344007 1).bind fun t348 => (if t348 < 0 then (some false) else (if t348 = bt345.1 then ((impl_ParseReport.f k x0).bind fun bt349 => ((laws_eqReport.f k bt349.1 bt349.2.1 bt349.2.2.1 bt349.2.2.2.1 bt349.2.2.2.2.1 bt349.2.2.2.2.2.1 bt349.2.2.2.2.2.2.1 bt349.2.2.2.2.2.2.2.1 x330000 x330001 x330002 x330003 x330004 x330005 x330006 x330007).bind fun t363 => (if t363 = true then (laws_FnExactParseReport.j1 k bt345.1 (bt349.2.2.2.2.2.2.2.2 != x4) x344000 x344001 bt345.2.1 x344003 x344004 bt345.2.2 x344006 x344007) else (laws_FnExactParseReport.j1 k bt345.1 true x344000 x344001 bt345.2.1 x344003 x344004 bt345.2.2 x344006 x344007)))) else (some false)))))
def laws_FnExactParseReport.j1 : Nat → Int → Bool → Int → Int → List Int → Int → Int → List Int → Int → Int → Option (Bool)
 | 0, _, _, _, _, _, _, _, _, _, _ => none
 | k + 1, x7, x57, x344000, x344001, x344002, x344003, x344004, x344005, x344006, x344007 => if x57 = true then (some false) else ((laws_heldReport.f k x344000 x344001 x344002 x344003 x344004 x344005 x344006 x344007 1).bind fun t364 => (if t364 < 0 then (some false) else (if t364 = x7 then (some true) else (some false))))
end
def laws_FnExactParseReport.f (k : Nat) (a0 : ByteArray) : Option (Bool) := if (a0.size : Int) > 1048576 then (some true) else ((spec_ParseReport.f k a0).bind fun bt316 => ((impl_ParseReport.f k a0).bind fun bt330 => ((laws_eqReport.f k bt330.1 bt330.2.1 bt330.2.2.1 bt330.2.2.2.1 bt330.2.2.2.2.1 bt330.2.2.2.2.2.1 bt330.2.2.2.2.2.2.1 bt330.2.2.2.2.2.2.2.1 bt316.1 bt316.2.1 bt316.2.2.1 bt316.2.2.2.1 bt316.2.2.2.2.1 bt316.2.2.2.2.2.1 bt316.2.2.2.2.2.2.1 bt316.2.2.2.2.2.2.2.1).bind fun t344 => (if t344 = true then (laws_FnExactParseReport.j0 k a0 bt316.2.2.2.2.2.2.2.2 (bt330.2.2.2.2.2.2.2.2 != bt316.2.2.2.2.2.2.2.2) bt316.1 bt316.2.1 bt316.2.2.1 bt316.2.2.2.1 bt316.2.2.2.2.1 bt316.2.2.2.2.2.1 bt316.2.2.2.2.2.2.1 bt316.2.2.2.2.2.2.2.1 bt330.1 bt330.2.1 bt330.2.2.1 bt330.2.2.2.1 bt330.2.2.2.2.1 bt330.2.2.2.2.2.1 bt330.2.2.2.2.2.2.1 bt330.2.2.2.2.2.2.2.1) else (laws_FnExactParseReport.j0 k a0 bt316.2.2.2.2.2.2.2.2 true bt316.1 bt316.2.1 bt316.2.2.1 bt316.2.2.2.1 bt316.2.2.2.2.1 bt316.2.2.2.2.2.1 bt316.2.2.2.2.2.2.1 bt316.2.2.2.2.2.2.2.1 bt330.1 bt330.2.1 bt330.2.2.1 bt330.2.2.2.1 bt330.2.2.2.2.1 bt330.2.2.2.2.2.1 bt330.2.2.2.2.2.2.1 bt330.2.2.2.2.2.2.2.1)))))
theorem laws_FnExactParseReport.mono_l : ∀ k, (∀ y0 y1 y2 y3 y4 y5 y6 y7 y8 y9 y10 y11 y12 y13 y14 y15 y16 y17 y18, LeO (laws_FnExactParseReport.j0 k y0 y1 y2 y3 y4 y5 y6 y7 y8 y9 y10 y11 y12 y13 y14 y15 y16 y17 y18) (laws_FnExactParseReport.j0 (k + 1) y0 y1 y2 y3 y4 y5 y6 y7 y8 y9 y10 y11 y12 y13 y14 y15 y16 y17 y18)) ∧ (∀ y0 y1 y2 y3 y4 y5 y6 y7 y8 y9, LeO (laws_FnExactParseReport.j1 k y0 y1 y2 y3 y4 y5 y6 y7 y8 y9) (laws_FnExactParseReport.j1 (k + 1) y0 y1 y2 y3 y4 y5 y6 y7 y8 y9))
 | 0 => ⟨fun _ _ _ _ _ _ _ _ _ _ _ _ _ _ _ _ _ _ _ r h => by simp [laws_FnExactParseReport.j0] at h, fun _ _ _ _ _ _ _ _ _ _ r h => by simp [laws_FnExactParseReport.j1] at h⟩
 | k + 1 => by
  obtain ⟨ih0, ih1⟩ := laws_FnExactParseReport.mono_l k
  refine ⟨?_, ?_⟩
  ·
   intro y0 y1 y2 y3 y4 y5 y6 y7 y8 y9 y10 y11 y12 y13 y14 y15 y16 y17 y18
   unfold laws_FnExactParseReport.j0
   repeat' first
   | (with_reducible exact ih0 _ _ _ _ _ _ _ _ _ _ _ _ _ _ _ _ _ _ _)
   | (with_reducible exact ih1 _ _ _ _ _ _ _ _ _ _)
   | (with_reducible exact impl_ParseReport.mono _ _)
   | (with_reducible exact laws_eqReport.mono _ _ _ _ _ _ _ _ _ _ _ _ _ _ _ _ _)
   | (with_reducible exact laws_heldReport.mono _ _ _ _ _ _ _ _ _ _)
   | (with_reducible exact laws_markReport.mono _ _ _ _ _ _ _ _ _ _)
   | (with_reducible exact spec_ParseReport.mono _ _)
   | (with_reducible exact LeO.refl _)
   | (with_reducible exact LeO.none _)
   | (with_reducible refine LeO.ite ?_ ?_)
   | (with_reducible refine LeO.bind ?_ (fun _ => ?_))
   | exact ih0 _ _ _ _ _ _ _ _ _ _ _ _ _ _ _ _ _ _ _
   | exact ih1 _ _ _ _ _ _ _ _ _ _
   | exact impl_ParseReport.mono _ _
   | exact laws_eqReport.mono _ _ _ _ _ _ _ _ _ _ _ _ _ _ _ _ _
   | exact laws_heldReport.mono _ _ _ _ _ _ _ _ _ _
   | exact laws_markReport.mono _ _ _ _ _ _ _ _ _ _
   | exact spec_ParseReport.mono _ _
   | exact LeO.none _
   | refine LeO.ite ?_ ?_
   | refine LeO.bind ?_ (fun _ => ?_)
  ·
   intro y0 y1 y2 y3 y4 y5 y6 y7 y8 y9
   unfold laws_FnExactParseReport.j1
   repeat' first
   | (with_reducible exact ih0 _ _ _ _ _ _ _ _ _ _ _ _ _ _ _ _ _ _ _)
   | (with_reducible exact ih1 _ _ _ _ _ _ _ _ _ _)
   | (with_reducible exact impl_ParseReport.mono _ _)
   | (with_reducible exact laws_eqReport.mono _ _ _ _ _ _ _ _ _ _ _ _ _ _ _ _ _)
   | (with_reducible exact laws_heldReport.mono _ _ _ _ _ _ _ _ _ _)
   | (with_reducible exact laws_markReport.mono _ _ _ _ _ _ _ _ _ _)
   | (with_reducible exact spec_ParseReport.mono _ _)
   | (with_reducible exact LeO.refl _)
   | (with_reducible exact LeO.none _)
   | (with_reducible refine LeO.ite ?_ ?_)
   | (with_reducible refine LeO.bind ?_ (fun _ => ?_))
   | exact ih0 _ _ _ _ _ _ _ _ _ _ _ _ _ _ _ _ _ _ _
   | exact ih1 _ _ _ _ _ _ _ _ _ _
   | exact impl_ParseReport.mono _ _
   | exact laws_eqReport.mono _ _ _ _ _ _ _ _ _ _ _ _ _ _ _ _ _
   | exact laws_heldReport.mono _ _ _ _ _ _ _ _ _ _
   | exact laws_markReport.mono _ _ _ _ _ _ _ _ _ _
   | exact spec_ParseReport.mono _ _
   | exact LeO.none _
   | refine LeO.ite ?_ ?_
   | refine LeO.bind ?_ (fun _ => ?_)
theorem laws_FnExactParseReport.mono : ∀ a0 k, LeO (laws_FnExactParseReport.f k a0) (laws_FnExactParseReport.f (k + 1) a0) := by
 intro a0 k
 obtain ⟨ih0, ih1⟩ := laws_FnExactParseReport.mono_l k
 unfold laws_FnExactParseReport.f
 repeat' first
   | (with_reducible exact ih0 _ _ _ _ _ _ _ _ _ _ _ _ _ _ _ _ _ _ _)
   | (with_reducible exact ih1 _ _ _ _ _ _ _ _ _ _)
   | (with_reducible exact impl_ParseReport.mono _ _)
   | (with_reducible exact laws_eqReport.mono _ _ _ _ _ _ _ _ _ _ _ _ _ _ _ _ _)
   | (with_reducible exact laws_heldReport.mono _ _ _ _ _ _ _ _ _ _)
   | (with_reducible exact laws_markReport.mono _ _ _ _ _ _ _ _ _ _)
   | (with_reducible exact spec_ParseReport.mono _ _)
   | (with_reducible exact LeO.refl _)
   | (with_reducible exact LeO.none _)
   | (with_reducible refine LeO.ite ?_ ?_)
   | (with_reducible refine LeO.bind ?_ (fun _ => ?_))
   | exact ih0 _ _ _ _ _ _ _ _ _ _ _ _ _ _ _ _ _ _ _
   | exact ih1 _ _ _ _ _ _ _ _ _ _
   | exact impl_ParseReport.mono _ _
   | exact laws_eqReport.mono _ _ _ _ _ _ _ _ _ _ _ _ _ _ _ _ _
   | exact laws_heldReport.mono _ _ _ _ _ _ _ _ _ _
   | exact laws_markReport.mono _ _ _ _ _ _ _ _ _ _
   | exact spec_ParseReport.mono _ _
   | exact LeO.none _
   | refine LeO.ite ?_ ?_
   | refine LeO.bind ?_ (fun _ => ?_)
theorem y114_ {P : Prop} (h : P := by (with_reducible repeat (first | apply Kd.R_alloc | apply Kd.R_drewN | apply Kd.R_drew)); exact (Kd.R_mono (Kd.R_far (p := ⟨gb362, 7, none⟩) (Kd.R_far (p := ⟨gb362, 6, none⟩) (Kd.R_far (p := ⟨gb362, 5, none⟩) (Kd.R_far (p := ⟨gb362, 4, none⟩) (Kd.R_far (p := ⟨gb362, 3, none⟩) (Kd.R_far (p := ⟨gb362, 2, none⟩) (Kd.R_far (p := ⟨gb362, 1, none⟩) (Kd.R_far (p := ⟨gb362, 0, none⟩) (Kd.R_types HO_330002.out BK362.out (by decide)) (fun _ hk => hk.2) (.int .i64 t349)) (fun _ hk => hk.2) (.int .i64 t350)) (fun _ hk => hk.2) (.slice Ao44 t351.length co44)) (fun _ hk => hk.2) (.int .i64 t354)) (fun _ hk => hk.2) (.int .i64 t355)) (fun _ hk => hk.2) (.slice Ao45 t356.length co45)) (fun _ hk => hk.2) (.int .i64 t359)) (fun _ hk => hk.2) (.int .i64 t360)) (fun _ h_ => h_.1))) : P := h
theorem y115_ {P : Prop} (h : P := by (with_reducible repeat (first | apply Kd.R_alloc | apply Kd.R_drewN | apply Kd.R_drew)); exact (Kd.R_mono (Kd.R_far (p := ⟨gb362, 7, none⟩) (Kd.R_far (p := ⟨gb362, 6, none⟩) (Kd.R_far (p := ⟨gb362, 5, none⟩) (Kd.R_far (p := ⟨gb362, 4, none⟩) (Kd.R_far (p := ⟨gb362, 3, none⟩) (Kd.R_far (p := ⟨gb362, 2, none⟩) (Kd.R_far (p := ⟨gb362, 1, none⟩) (Kd.R_far (p := ⟨gb362, 0, none⟩) (Kd.R_types HO_330005.out BK362.out (by decide)) (fun _ hk => hk.2) (.int .i64 t349)) (fun _ hk => hk.2) (.int .i64 t350)) (fun _ hk => hk.2) (.slice Ao44 t351.length co44)) (fun _ hk => hk.2) (.int .i64 t354)) (fun _ hk => hk.2) (.int .i64 t355)) (fun _ hk => hk.2) (.slice Ao45 t356.length co45)) (fun _ hk => hk.2) (.int .i64 t359)) (fun _ hk => hk.2) (.int .i64 t360)) (fun _ h_ => h_.1))) : P := h
theorem y116_ {P : Prop} (h : P := by (with_reducible repeat (first | apply Kd.R_alloc | apply Kd.R_drewN | apply Kd.R_drew)); exact (Kd.R_mono (Kd.R_far (p := ⟨gb343, 7, none⟩) (Kd.R_far (p := ⟨gb343, 6, none⟩) (Kd.R_far (p := ⟨gb343, 5, none⟩) (Kd.R_far (p := ⟨gb343, 4, none⟩) (Kd.R_far (p := ⟨gb343, 3, none⟩) (Kd.R_far (p := ⟨gb343, 2, none⟩) (Kd.R_far (p := ⟨gb343, 1, none⟩) (Kd.R_far (p := ⟨gb343, 0, none⟩) (Kd.R_types HO334.out BK343.out (by decide)) (fun _ hk => hk.2) (.int .i64 t330)) (fun _ hk => hk.2) (.int .i64 t331)) (fun _ hk => hk.2) (.slice Ao15 t332.length co15)) (fun _ hk => hk.2) (.int .i64 t335)) (fun _ hk => hk.2) (.int .i64 t336)) (fun _ hk => hk.2) (.slice Ao16 t337.length co16)) (fun _ hk => hk.2) (.int .i64 t340)) (fun _ hk => hk.2) (.int .i64 t341)) (fun _ h_ => h_.1))) : P := h
theorem y117_ {P : Prop} (h : P := by (with_reducible repeat (first | apply Kd.R_alloc | apply Kd.R_drewN | apply Kd.R_drew)); exact (Kd.R_mono (Kd.R_far (p := ⟨gb343, 7, none⟩) (Kd.R_far (p := ⟨gb343, 6, none⟩) (Kd.R_far (p := ⟨gb343, 5, none⟩) (Kd.R_far (p := ⟨gb343, 4, none⟩) (Kd.R_far (p := ⟨gb343, 3, none⟩) (Kd.R_far (p := ⟨gb343, 2, none⟩) (Kd.R_far (p := ⟨gb343, 1, none⟩) (Kd.R_far (p := ⟨gb343, 0, none⟩) (Kd.R_types HO339.out BK343.out (by decide)) (fun _ hk => hk.2) (.int .i64 t330)) (fun _ hk => hk.2) (.int .i64 t331)) (fun _ hk => hk.2) (.slice Ao15 t332.length co15)) (fun _ hk => hk.2) (.int .i64 t335)) (fun _ hk => hk.2) (.int .i64 t336)) (fun _ hk => hk.2) (.slice Ao16 t337.length co16)) (fun _ hk => hk.2) (.int .i64 t340)) (fun _ hk => hk.2) (.int .i64 t341)) (fun _ h_ => h_.1))) : P := h
theorem y118_ {P : Prop} (h : P := by (with_reducible repeat (first | apply Kd.R_alloc | apply Kd.R_drewN | apply Kd.R_drew)); exact (Kd.R_mono (Kd.R_far (p := ⟨gb343, 7, none⟩) (Kd.R_far (p := ⟨gb343, 6, none⟩) (Kd.R_far (p := ⟨gb343, 5, none⟩) (Kd.R_far (p := ⟨gb343, 4, none⟩) (Kd.R_far (p := ⟨gb343, 3, none⟩) (Kd.R_far (p := ⟨gb343, 2, none⟩) (Kd.R_far (p := ⟨gb343, 1, none⟩) (Kd.R_far (p := ⟨gb343, 0, none⟩) (Kd.R_types HO320.out BK343.out (by decide)) (fun _ hk => hk.2) (.int .i64 t330)) (fun _ hk => hk.2) (.int .i64 t331)) (fun _ hk => hk.2) (.slice Ao15 t332.length co15)) (fun _ hk => hk.2) (.int .i64 t335)) (fun _ hk => hk.2) (.int .i64 t336)) (fun _ hk => hk.2) (.slice Ao16 t337.length co16)) (fun _ hk => hk.2) (.int .i64 t340)) (fun _ hk => hk.2) (.int .i64 t341)) (fun _ h_ => h_.1))) : P := h
theorem y119_ {P : Prop} (h : P := by (with_reducible repeat (first | apply Kd.R_alloc | apply Kd.R_drewN | apply Kd.R_drew)); exact (Kd.R_mono (Kd.R_far (p := ⟨gb343, 7, none⟩) (Kd.R_far (p := ⟨gb343, 6, none⟩) (Kd.R_far (p := ⟨gb343, 5, none⟩) (Kd.R_far (p := ⟨gb343, 4, none⟩) (Kd.R_far (p := ⟨gb343, 3, none⟩) (Kd.R_far (p := ⟨gb343, 2, none⟩) (Kd.R_far (p := ⟨gb343, 1, none⟩) (Kd.R_far (p := ⟨gb343, 0, none⟩) (Kd.R_types HO325.out BK343.out (by decide)) (fun _ hk => hk.2) (.int .i64 t330)) (fun _ hk => hk.2) (.int .i64 t331)) (fun _ hk => hk.2) (.slice Ao15 t332.length co15)) (fun _ hk => hk.2) (.int .i64 t335)) (fun _ hk => hk.2) (.int .i64 t336)) (fun _ hk => hk.2) (.slice Ao16 t337.length co16)) (fun _ hk => hk.2) (.int .i64 t340)) (fun _ hk => hk.2) (.int .i64 t341)) (fun _ h_ => h_.1))) : P := h
theorem y120_ {P : Prop} (h : P := by (with_reducible repeat (first | apply Kd.R_alloc | apply Kd.R_drewN | apply Kd.R_drew)); exact (Kd.R_mono (Kd.R_far (p := ⟨gb362, 7, none⟩) (Kd.R_far (p := ⟨gb362, 6, none⟩) (Kd.R_far (p := ⟨gb362, 5, none⟩) (Kd.R_far (p := ⟨gb362, 4, none⟩) (Kd.R_far (p := ⟨gb362, 3, none⟩) (Kd.R_far (p := ⟨gb362, 2, none⟩) (Kd.R_far (p := ⟨gb362, 1, none⟩) (Kd.R_far (p := ⟨gb362, 0, none⟩) (Kd.R_types HO353.out BK362.out (by decide)) (fun _ hk => hk.2) (.int .i64 t349)) (fun _ hk => hk.2) (.int .i64 t350)) (fun _ hk => hk.2) (.slice Ao44 t351.length co44)) (fun _ hk => hk.2) (.int .i64 t354)) (fun _ hk => hk.2) (.int .i64 t355)) (fun _ hk => hk.2) (.slice Ao45 t356.length co45)) (fun _ hk => hk.2) (.int .i64 t359)) (fun _ hk => hk.2) (.int .i64 t360)) (fun _ h_ => h_.1))) : P := h
theorem y121_ {P : Prop} (h : P := by (with_reducible repeat (first | apply Kd.R_alloc | apply Kd.R_drewN | apply Kd.R_drew)); exact (Kd.R_mono (Kd.R_far (p := ⟨gb362, 7, none⟩) (Kd.R_far (p := ⟨gb362, 6, none⟩) (Kd.R_far (p := ⟨gb362, 5, none⟩) (Kd.R_far (p := ⟨gb362, 4, none⟩) (Kd.R_far (p := ⟨gb362, 3, none⟩) (Kd.R_far (p := ⟨gb362, 2, none⟩) (Kd.R_far (p := ⟨gb362, 1, none⟩) (Kd.R_far (p := ⟨gb362, 0, none⟩) (Kd.R_types HO358.out BK362.out (by decide)) (fun _ hk => hk.2) (.int .i64 t349)) (fun _ hk => hk.2) (.int .i64 t350)) (fun _ hk => hk.2) (.slice Ao44 t351.length co44)) (fun _ hk => hk.2) (.int .i64 t354)) (fun _ hk => hk.2) (.int .i64 t355)) (fun _ hk => hk.2) (.slice Ao45 t356.length co45)) (fun _ hk => hk.2) (.int .i64 t359)) (fun _ hk => hk.2) (.int .i64 t360)) (fun _ h_ => h_.1))) : P := h
theorem y122_ {P : Prop} (h : P := by (with_reducible repeat (first | refine blk_drewN ?_ _ | refine blk_drew ?_ | refine blk_alloc ?_ _)); refine blk_put (cs := #[.int .i64 t330, .int .i64 t331, .slice Ao15 t332.length co15, .int .i64 t335, .int .i64 t336, .slice Ao16 t337.length co16, .int .i64 t340, .int .i64 0]) ?_ 7 _ rfl; (with_reducible repeat (first | refine blk_drewN ?_ _ | refine blk_drew ?_ | refine blk_alloc ?_ _)); refine blk_put (cs := #[.int .i64 t330, .int .i64 t331, .slice Ao15 t332.length co15, .int .i64 t335, .int .i64 t336, .slice Ao16 t337.length co16, .int .i64 0, .int .i64 0]) ?_ 6 _ rfl; (with_reducible repeat (first | refine blk_drewN ?_ _ | refine blk_drew ?_ | refine blk_alloc ?_ _)); refine blk_put (cs := #[.int .i64 t330, .int .i64 t331, .slice Ao15 t332.length co15, .int .i64 t335, .int .i64 t336, .slice none 0 0, .int .i64 0, .int .i64 0]) ?_ 5 _ rfl; (with_reducible repeat (first | refine blk_drewN ?_ _ | refine blk_drew ?_ | refine blk_alloc ?_ _)); refine blk_put (cs := #[.int .i64 t330, .int .i64 t331, .slice Ao15 t332.length co15, .int .i64 t335, .int .i64 0, .slice none 0 0, .int .i64 0, .int .i64 0]) ?_ 4 _ rfl; (with_reducible repeat (first | refine blk_drewN ?_ _ | refine blk_drew ?_ | refine blk_alloc ?_ _)); refine blk_put (cs := #[.int .i64 t330, .int .i64 t331, .slice Ao15 t332.length co15, .int .i64 0, .int .i64 0, .slice none 0 0, .int .i64 0, .int .i64 0]) ?_ 3 _ rfl; (with_reducible repeat (first | refine blk_drewN ?_ _ | refine blk_drew ?_ | refine blk_alloc ?_ _)); refine blk_put (cs := #[.int .i64 t330, .int .i64 t331, .slice none 0 0, .int .i64 0, .int .i64 0, .slice none 0 0, .int .i64 0, .int .i64 0]) ?_ 2 _ rfl; (with_reducible repeat (first | refine blk_drewN ?_ _ | refine blk_drew ?_ | refine blk_alloc ?_ _)); refine blk_put (cs := #[.int .i64 t330, .int .i64 0, .slice none 0 0, .int .i64 0, .int .i64 0, .slice none 0 0, .int .i64 0, .int .i64 0]) ?_ 1 _ rfl; (with_reducible repeat (first | refine blk_drewN ?_ _ | refine blk_drew ?_ | refine blk_alloc ?_ _)); refine blk_put (cs := #[.int .i64 0, .int .i64 0, .slice none 0 0, .int .i64 0, .int .i64 0, .slice none 0 0, .int .i64 0, .int .i64 0]) ?_ 0 _ rfl; (with_reducible repeat (first | refine blk_drewN ?_ _ | refine blk_drew ?_ | refine blk_alloc ?_ _)); exact BK343.out) : P := h
theorem y123_ {P : Prop} (h : P := by (with_reducible repeat (first | refine blk_drewN ?_ _ | refine blk_drew ?_ | refine blk_alloc ?_ _)); refine blk_put (cs := #[.int .i64 t349, .int .i64 t350, .slice Ao44 t351.length co44, .int .i64 t354, .int .i64 t355, .slice Ao45 t356.length co45, .int .i64 t359, .int .i64 0]) ?_ 7 _ rfl; (with_reducible repeat (first | refine blk_drewN ?_ _ | refine blk_drew ?_ | refine blk_alloc ?_ _)); refine blk_put (cs := #[.int .i64 t349, .int .i64 t350, .slice Ao44 t351.length co44, .int .i64 t354, .int .i64 t355, .slice Ao45 t356.length co45, .int .i64 0, .int .i64 0]) ?_ 6 _ rfl; (with_reducible repeat (first | refine blk_drewN ?_ _ | refine blk_drew ?_ | refine blk_alloc ?_ _)); refine blk_put (cs := #[.int .i64 t349, .int .i64 t350, .slice Ao44 t351.length co44, .int .i64 t354, .int .i64 t355, .slice none 0 0, .int .i64 0, .int .i64 0]) ?_ 5 _ rfl; (with_reducible repeat (first | refine blk_drewN ?_ _ | refine blk_drew ?_ | refine blk_alloc ?_ _)); refine blk_put (cs := #[.int .i64 t349, .int .i64 t350, .slice Ao44 t351.length co44, .int .i64 t354, .int .i64 0, .slice none 0 0, .int .i64 0, .int .i64 0]) ?_ 4 _ rfl; (with_reducible repeat (first | refine blk_drewN ?_ _ | refine blk_drew ?_ | refine blk_alloc ?_ _)); refine blk_put (cs := #[.int .i64 t349, .int .i64 t350, .slice Ao44 t351.length co44, .int .i64 0, .int .i64 0, .slice none 0 0, .int .i64 0, .int .i64 0]) ?_ 3 _ rfl; (with_reducible repeat (first | refine blk_drewN ?_ _ | refine blk_drew ?_ | refine blk_alloc ?_ _)); refine blk_put (cs := #[.int .i64 t349, .int .i64 t350, .slice none 0 0, .int .i64 0, .int .i64 0, .slice none 0 0, .int .i64 0, .int .i64 0]) ?_ 2 _ rfl; (with_reducible repeat (first | refine blk_drewN ?_ _ | refine blk_drew ?_ | refine blk_alloc ?_ _)); refine blk_put (cs := #[.int .i64 t349, .int .i64 0, .slice none 0 0, .int .i64 0, .int .i64 0, .slice none 0 0, .int .i64 0, .int .i64 0]) ?_ 1 _ rfl; (with_reducible repeat (first | refine blk_drewN ?_ _ | refine blk_drew ?_ | refine blk_alloc ?_ _)); refine blk_put (cs := #[.int .i64 0, .int .i64 0, .slice none 0 0, .int .i64 0, .int .i64 0, .slice none 0 0, .int .i64 0, .int .i64 0]) ?_ 0 _ rfl; (with_reducible repeat (first | refine blk_drewN ?_ _ | refine blk_drew ?_ | refine blk_alloc ?_ _)); exact BK362.out) : P := h
theorem y124_ {P : Prop} (h : P := by repeat (first | (with_reducible first | exact HB.out | apply below_alloc | apply pw_below_drewN | apply below_drew1 | refine below_set ?_ GE329.out | refine below_set ?_ GE343.out) | exact HB.out)) : P := h
theorem y125_ {P : Prop} (h : P := by (with_reducible repeat (first | apply Kd.R_alloc | apply Kd.R_drewN | apply Kd.R_drew)); exact (Kd.R_mono (Kd.R_far (p := ⟨gb329, 7, none⟩) (Kd.R_far (p := ⟨gb329, 6, none⟩) (Kd.R_far (p := ⟨gb329, 5, none⟩) (Kd.R_far (p := ⟨gb329, 4, none⟩) (Kd.R_far (p := ⟨gb329, 3, none⟩) (Kd.R_far (p := ⟨gb329, 2, none⟩) (Kd.R_far (p := ⟨gb329, 1, none⟩) (Kd.R_far (p := ⟨gb329, 0, none⟩) (Kd.R_types HO320.out BK329.out (by decide)) (fun _ hk => hk.2) (.int .i64 t316)) (fun _ hk => hk.2) (.int .i64 t317)) (fun _ hk => hk.2) (.slice Ao9 t318.length co9)) (fun _ hk => hk.2) (.int .i64 t321)) (fun _ hk => hk.2) (.int .i64 t322)) (fun _ hk => hk.2) (.slice Ao10 t323.length co10)) (fun _ hk => hk.2) (.int .i64 t326)) (fun _ hk => hk.2) (.int .i64 t327)) (fun _ h_ => h_.1))) : P := h
theorem y126_ {P : Prop} (h : P := by (with_reducible repeat (first | apply Kd.R_alloc | apply Kd.R_drewN | apply Kd.R_drew)); exact (Kd.R_mono (Kd.R_far (p := ⟨gb329, 7, none⟩) (Kd.R_far (p := ⟨gb329, 6, none⟩) (Kd.R_far (p := ⟨gb329, 5, none⟩) (Kd.R_far (p := ⟨gb329, 4, none⟩) (Kd.R_far (p := ⟨gb329, 3, none⟩) (Kd.R_far (p := ⟨gb329, 2, none⟩) (Kd.R_far (p := ⟨gb329, 1, none⟩) (Kd.R_far (p := ⟨gb329, 0, none⟩) (Kd.R_types HO325.out BK329.out (by decide)) (fun _ hk => hk.2) (.int .i64 t316)) (fun _ hk => hk.2) (.int .i64 t317)) (fun _ hk => hk.2) (.slice Ao9 t318.length co9)) (fun _ hk => hk.2) (.int .i64 t321)) (fun _ hk => hk.2) (.int .i64 t322)) (fun _ hk => hk.2) (.slice Ao10 t323.length co10)) (fun _ hk => hk.2) (.int .i64 t326)) (fun _ hk => hk.2) (.int .i64 t327)) (fun _ h_ => h_.1))) : P := h
theorem y127_ {P : Prop} (h : P := by (with_reducible repeat (first | refine blk_drewN ?_ _ | refine blk_drew ?_ | refine blk_alloc ?_ _)); refine blk_far ?_ NB329_343.out _; (with_reducible repeat (first | refine blk_drewN ?_ _ | refine blk_drew ?_ | refine blk_alloc ?_ _)); refine blk_far ?_ NB329_343.out _; (with_reducible repeat (first | refine blk_drewN ?_ _ | refine blk_drew ?_ | refine blk_alloc ?_ _)); refine blk_far ?_ NB329_343.out _; (with_reducible repeat (first | refine blk_drewN ?_ _ | refine blk_drew ?_ | refine blk_alloc ?_ _)); refine blk_far ?_ NB329_343.out _; (with_reducible repeat (first | refine blk_drewN ?_ _ | refine blk_drew ?_ | refine blk_alloc ?_ _)); refine blk_far ?_ NB329_343.out _; (with_reducible repeat (first | refine blk_drewN ?_ _ | refine blk_drew ?_ | refine blk_alloc ?_ _)); refine blk_far ?_ NB329_343.out _; (with_reducible repeat (first | refine blk_drewN ?_ _ | refine blk_drew ?_ | refine blk_alloc ?_ _)); refine blk_far ?_ NB329_343.out _; (with_reducible repeat (first | refine blk_drewN ?_ _ | refine blk_drew ?_ | refine blk_alloc ?_ _)); refine blk_far ?_ NB329_343.out _; (with_reducible repeat (first | refine blk_drewN ?_ _ | refine blk_drew ?_ | refine blk_alloc ?_ _)); exact BK329.out) : P := h
theorem y128_ {P : Prop} (h : P := by (with_reducible repeat (first | refine blk_drewN ?_ _ | refine blk_drew ?_ | refine blk_alloc ?_ _)); refine blk_far ?_ NB329_362.out _; (with_reducible repeat (first | refine blk_drewN ?_ _ | refine blk_drew ?_ | refine blk_alloc ?_ _)); refine blk_far ?_ NB329_362.out _; (with_reducible repeat (first | refine blk_drewN ?_ _ | refine blk_drew ?_ | refine blk_alloc ?_ _)); refine blk_far ?_ NB329_362.out _; (with_reducible repeat (first | refine blk_drewN ?_ _ | refine blk_drew ?_ | refine blk_alloc ?_ _)); refine blk_far ?_ NB329_362.out _; (with_reducible repeat (first | refine blk_drewN ?_ _ | refine blk_drew ?_ | refine blk_alloc ?_ _)); refine blk_far ?_ NB329_362.out _; (with_reducible repeat (first | refine blk_drewN ?_ _ | refine blk_drew ?_ | refine blk_alloc ?_ _)); refine blk_far ?_ NB329_362.out _; (with_reducible repeat (first | refine blk_drewN ?_ _ | refine blk_drew ?_ | refine blk_alloc ?_ _)); refine blk_far ?_ NB329_362.out _; (with_reducible repeat (first | refine blk_drewN ?_ _ | refine blk_drew ?_ | refine blk_alloc ?_ _)); refine blk_far ?_ NB329_362.out _; (with_reducible repeat (first | refine blk_drewN ?_ _ | refine blk_drew ?_ | refine blk_alloc ?_ _)); exact BK329.out) : P := h
theorem y129_ {P : Prop} (h : P := by (with_reducible repeat (first | refine blk_drewN ?_ _ | refine blk_drew ?_ | refine blk_alloc ?_ _)); refine blk_far ?_ NB343_362.out _; (with_reducible repeat (first | refine blk_drewN ?_ _ | refine blk_drew ?_ | refine blk_alloc ?_ _)); refine blk_far ?_ NB343_362.out _; (with_reducible repeat (first | refine blk_drewN ?_ _ | refine blk_drew ?_ | refine blk_alloc ?_ _)); refine blk_far ?_ NB343_362.out _; (with_reducible repeat (first | refine blk_drewN ?_ _ | refine blk_drew ?_ | refine blk_alloc ?_ _)); refine blk_far ?_ NB343_362.out _; (with_reducible repeat (first | refine blk_drewN ?_ _ | refine blk_drew ?_ | refine blk_alloc ?_ _)); refine blk_far ?_ NB343_362.out _; (with_reducible repeat (first | refine blk_drewN ?_ _ | refine blk_drew ?_ | refine blk_alloc ?_ _)); refine blk_far ?_ NB343_362.out _; (with_reducible repeat (first | refine blk_drewN ?_ _ | refine blk_drew ?_ | refine blk_alloc ?_ _)); refine blk_far ?_ NB343_362.out _; (with_reducible repeat (first | refine blk_drewN ?_ _ | refine blk_drew ?_ | refine blk_alloc ?_ _)); refine blk_far ?_ NB343_362.out _; (with_reducible repeat (first | refine blk_drewN ?_ _ | refine blk_drew ?_ | refine blk_alloc ?_ _)); exact BK343.out) : P := h
theorem y130_ {P : Prop} (h : P := by (try simp only [List.map_toArray, List.map_cons, List.map_nil]); first | done | rfl | (simp only [List.length_drop, List.length_take]; rfl)) : P := h
theorem y131_ {P : Prop} (h : P := by (with_reducible repeat (first | refine blk_drewN ?_ _ | refine blk_drew ?_ | refine blk_alloc ?_ _)); exact BK329.out) : P := h
theorem y132_ {P : Prop} (h : P := by repeat (first | (with_reducible first | exact HB.out | apply below_alloc | apply pw_below_drewN | apply below_drew1 | refine below_set ?_ GE329.out | refine below_set ?_ GE343.out | refine below_set ?_ GE362.out) | exact HB.out)) : P := h
theorem y133_ {P : Prop} (h : P := by repeat (first | (with_reducible first | exact HB.out | apply below_alloc | apply pw_below_drewN | apply below_drew1 | refine below_set ?_ GE329.out) | exact HB.out)) : P := h
theorem y134_ {P : Prop} (h : P := by (with_reducible repeat (first | apply Kd.R_alloc | apply Kd.R_drewN | apply Kd.R_drew)); exact (Kd.R_mono (Kd.R_far (p := ⟨gb362, 7, none⟩) (Kd.R_far (p := ⟨gb362, 6, none⟩) (Kd.R_far (p := ⟨gb362, 5, none⟩) (Kd.R_far (p := ⟨gb362, 4, none⟩) (Kd.R_far (p := ⟨gb362, 3, none⟩) (Kd.R_far (p := ⟨gb362, 2, none⟩) (Kd.R_far (p := ⟨gb362, 1, none⟩) (Kd.R_far (p := ⟨gb362, 0, none⟩) (Kd.R_types HO_344002.out BK362.out (by decide)) (fun _ hk => hk.2) (.int .i64 t349)) (fun _ hk => hk.2) (.int .i64 t350)) (fun _ hk => hk.2) (.slice Ao44 t351.length co44)) (fun _ hk => hk.2) (.int .i64 t354)) (fun _ hk => hk.2) (.int .i64 t355)) (fun _ hk => hk.2) (.slice Ao45 t356.length co45)) (fun _ hk => hk.2) (.int .i64 t359)) (fun _ hk => hk.2) (.int .i64 t360)) (fun _ h_ => h_.1))) : P := h
theorem y135_ {P : Prop} (h : P := by (with_reducible repeat (first | apply Kd.R_alloc | apply Kd.R_drewN | apply Kd.R_drew)); exact (Kd.R_mono (Kd.R_far (p := ⟨gb362, 7, none⟩) (Kd.R_far (p := ⟨gb362, 6, none⟩) (Kd.R_far (p := ⟨gb362, 5, none⟩) (Kd.R_far (p := ⟨gb362, 4, none⟩) (Kd.R_far (p := ⟨gb362, 3, none⟩) (Kd.R_far (p := ⟨gb362, 2, none⟩) (Kd.R_far (p := ⟨gb362, 1, none⟩) (Kd.R_far (p := ⟨gb362, 0, none⟩) (Kd.R_types HO_344005.out BK362.out (by decide)) (fun _ hk => hk.2) (.int .i64 t349)) (fun _ hk => hk.2) (.int .i64 t350)) (fun _ hk => hk.2) (.slice Ao44 t351.length co44)) (fun _ hk => hk.2) (.int .i64 t354)) (fun _ hk => hk.2) (.int .i64 t355)) (fun _ hk => hk.2) (.slice Ao45 t356.length co45)) (fun _ hk => hk.2) (.int .i64 t359)) (fun _ hk => hk.2) (.int .i64 t360)) (fun _ h_ => h_.1))) : P := h
theorem y136_ {P : Prop} (h : P := by (with_reducible repeat (first | refine blk_drewN ?_ _ | refine blk_drew ?_ | refine blk_alloc ?_ _)); exact BK343.out) : P := h
theorem y137_ {P : Prop} (h : P := by repeat (first | (with_reducible first | exact HB.out | apply below_alloc | apply pw_below_drewN | apply below_drew1) | exact HB.out)) : P := h
theorem y138_ {P : Prop} (h : P := by (with_reducible repeat (first | apply Kd.R_alloc | apply Kd.R_drewN | apply Kd.R_drew)); exact HO_330002.out) : P := h
theorem y139_ {P : Prop} (h : P := by (with_reducible repeat (first | apply Kd.R_alloc | apply Kd.R_drewN | apply Kd.R_drew)); exact HO_330005.out) : P := h
theorem y140_ {P : Prop} (h : P := by (with_reducible repeat (first | apply Kd.R_alloc | apply Kd.R_drewN | apply Kd.R_drew)); exact HO_344002.out) : P := h
theorem y141_ {P : Prop} (h : P := by (with_reducible repeat (first | apply Kd.R_alloc | apply Kd.R_drewN | apply Kd.R_drew)); exact HO_344005.out) : P := h
theorem y142_ {P : Prop} (h : P := by repeat (first | (with_reducible first | exact HB.out | apply below_alloc | apply pw_below_drewN | apply below_drew1 | refine below_set ?_ GE329.out | refine below_set ?_ GE343.out | refine below_set ?_ GE362.out) | exact HB.out)) : P := h
set_option maxHeartbeats 8000000 in
set_option maxRecDepth 100000 in
theorem laws_FnExactParseReport.calls (k : Nat) (a0 : ByteArray) (w : World) (h : laws_FnExactParseReport.f k a0 = some true) (TB_ : (Itm.Tb true true) w) :
  Calls Tryd.prog 8 #[.string a0] w fun e w' => e = .returned (.bool true) ∧ Below w.heap.size w w' := by
 have hu28 := Tryd.underlying28
 have HB := Aside0.mk (Below.refl w.heap.size w)
 have H : (if (a0.size : Int) > 1048576 then (some true) else ((spec_ParseReport.f k a0).bind fun bt316 => ((impl_ParseReport.f k a0).bind fun bt330 => ((laws_eqReport.f k bt330.1 bt330.2.1 bt330.2.2.1 bt330.2.2.2.1 bt330.2.2.2.2.1 bt330.2.2.2.2.2.1 bt330.2.2.2.2.2.2.1 bt330.2.2.2.2.2.2.2.1 bt316.1 bt316.2.1 bt316.2.2.1 bt316.2.2.2.1 bt316.2.2.2.2.1 bt316.2.2.2.2.2.1 bt316.2.2.2.2.2.2.1 bt316.2.2.2.2.2.2.2.1).bind fun t344 => (if t344 = true then (laws_FnExactParseReport.j0 k a0 bt316.2.2.2.2.2.2.2.2 (bt330.2.2.2.2.2.2.2.2 != bt316.2.2.2.2.2.2.2.2) bt316.1 bt316.2.1 bt316.2.2.1 bt316.2.2.2.1 bt316.2.2.2.2.1 bt316.2.2.2.2.2.1 bt316.2.2.2.2.2.2.1 bt316.2.2.2.2.2.2.2.1 bt330.1 bt330.2.1 bt330.2.2.1 bt330.2.2.2.1 bt330.2.2.2.2.1 bt330.2.2.2.2.2.1 bt330.2.2.2.2.2.2.1 bt330.2.2.2.2.2.2.2.1) else (laws_FnExactParseReport.j0 k a0 bt316.2.2.2.2.2.2.2.2 true bt316.1 bt316.2.1 bt316.2.2.1 bt316.2.2.2.1 bt316.2.2.2.2.1 bt316.2.2.2.2.2.1 bt316.2.2.2.2.2.2.1 bt316.2.2.2.2.2.2.2.1 bt330.1 bt330.2.1 bt330.2.2.1 bt330.2.2.2.1 bt330.2.2.2.2.1 bt330.2.2.2.2.2.1 bt330.2.2.2.2.2.2.1 bt330.2.2.2.2.2.2.2.1)))))) = some true := h
 clear h
 by_cases c2 : (a0.size : Int) > 1048576
 ·
  rw [if_pos c2] at H
  have c2b0 : decide (1048576 < (a0.size : Int)) = true := decide_eq_true c2
  have c2b1 : decide (1048576 < a0.size) = true := decide_eq_true (by omega)
  clear c2
  first | (obtain rfl := Option.some.inj H) | (have Hr_ := Option.some.inj H; clear H)
  go_enter Tryd.func8, Tryd.ntmps8
  go_wp2
  go_ret
  exact ⟨by first | rfl | (simp [errW_none, errW_some] <;> rfl) | (simp [*, errW_none, errW_some] <;> rfl), by repeat (first | (with_reducible first | exact HB.out | apply below_alloc | apply pw_below_drewN | apply below_drew1) | exact HB.out)⟩
 ·
  rw [if_neg c2] at H
  have c2b0 : decide (1048576 < (a0.size : Int)) = false := decide_eq_false c2
  have c2b1 : decide (1048576 < a0.size) = false := decide_eq_false (by omega)
  clear c2
  replace H := Option.bind_eq_some_iff.mp H
  obtain ⟨⟨t316, t317, t318, t321, t322, t323, t326, t327, t328⟩, A30, H⟩ := H
  replace H : ((impl_ParseReport.f k a0).bind fun bt330 => ((laws_eqReport.f k bt330.1 bt330.2.1 bt330.2.2.1 bt330.2.2.2.1 bt330.2.2.2.2.1 bt330.2.2.2.2.2.1 bt330.2.2.2.2.2.2.1 bt330.2.2.2.2.2.2.2.1 t316 t317 t318 t321 t322 t323 t326 t327).bind fun t344 => (if t344 = true then (laws_FnExactParseReport.j0 k a0 t328 (bt330.2.2.2.2.2.2.2.2 != t328) t316 t317 t318 t321 t322 t323 t326 t327 bt330.1 bt330.2.1 bt330.2.2.1 bt330.2.2.2.1 bt330.2.2.2.2.1 bt330.2.2.2.2.2.1 bt330.2.2.2.2.2.2.1 bt330.2.2.2.2.2.2.2.1) else (laws_FnExactParseReport.j0 k a0 t328 true t316 t317 t318 t321 t322 t323 t326 t327 bt330.1 bt330.2.1 bt330.2.2.1 bt330.2.2.2.1 bt330.2.2.2.2.1 bt330.2.2.2.2.2.1 bt330.2.2.2.2.2.2.1 bt330.2.2.2.2.2.2.2.1)))) = some true := H
  have A3 := Aside0.mk A30
  clear A30
  replace H := Option.bind_eq_some_iff.mp H
  obtain ⟨⟨t330, t331, t332, t335, t336, t337, t340, t341, t342⟩, A40, H⟩ := H
  replace H : ((laws_eqReport.f k t330 t331 t332 t335 t336 t337 t340 t341 t316 t317 t318 t321 t322 t323 t326 t327).bind fun t344 => (if t344 = true then (laws_FnExactParseReport.j0 k a0 t328 (t342 != t328) t316 t317 t318 t321 t322 t323 t326 t327 t330 t331 t332 t335 t336 t337 t340 t341) else (laws_FnExactParseReport.j0 k a0 t328 true t316 t317 t318 t321 t322 t323 t326 t327 t330 t331 t332 t335 t336 t337 t340 t341))) = some true := H
  have A4 := Aside0.mk A40
  clear A40
  have HC5 := Aside0.mk H
  clear H
  go_enter Tryd.func8, Tryd.ntmps8
  go_upto_region 5 with (first | ((with_reducible refine gate_callee (f := 39) rfl ?_); refine goesL_ (some 16) rfl rfl Tryd.func39 (by kernel_rfl) rfl #[.string a0] rfl y130_ ?_; (with_reducible refine (spec_ParseReport.calls k a0 t316 t317 t318 t321 t322 t323 t326 t327 t328 _ A3.out).mono ?_); rintro e w6 ⟨v319, v324, rfl, ho0, ho1, hb⟩; refine ⟨_, rfl, ?_⟩; have n0_ := Aside0.mk (Kd.R_lower ho0 (below_size y137_)); have n1_ := Aside0.mk (Kd.R_lower ho1 (below_size y137_)); have n2_ := Aside0.mk (below_step y137_ hb); clear HB; have HO320 := n0_; have HO325 := n1_; have HB := n2_; clear n0_ n1_ n2_; (try clear hb); (try clear hb2); (try clear hk); (try clear hi); (try clear ho0); (try clear ho1)) | ((with_reducible refine gate_dst (N := 3) rfl ?_); refine box_event ?hg (N := 3) ?hd (cs := #[.int .i64 0, .int .i64 0, .slice none 0 0, .int .i64 0, .int .i64 0, .slice none 0 0, .int .i64 0, .int .i64 0]) (t := 28) ?hr ?_; (case hd => rfl); (case hg => rfl); (case hr => first | (go_simp; done) | (go_simp; rfl)); intro gb329 hg w7 hbox hb; have n0_ := Aside0.mk (Kd.R_below (by (with_reducible repeat (first | apply Kd.R_alloc | apply Kd.R_drewN | apply Kd.R_drew)); exact HO320.out) hb); have n1_ := Aside0.mk (Kd.R_below (by (with_reducible repeat (first | apply Kd.R_alloc | apply Kd.R_drewN | apply Kd.R_drew)); exact HO325.out) hb); have n2_ := Aside0.mk (below_step y137_ hb); have n3_ := Aside0.mk (hbox); have n4_ := Aside0.mk ((by rw [hg]; exact (below_size y137_) : w.heap.size ≤ gb329)); have n5_ := Aside0.mk ((by rw [hg]; exact (below_size y137_) : w.heap.size ≤ gb329)); clear HO320; clear HO325; clear HB; have HO320 := n0_; have HO325 := n1_; have HB := n2_; have BK329 := n3_; have GW329 := n4_; have GE329 := n5_; clear n0_ n1_ n2_ n3_ n4_ n5_; clear hb hbox hg; have hcz8_0 : w7.cell? ⟨gb329, 0, none⟩ = some (.int .i64 0) := (blk_cell BK329.out 0).trans rfl; have hcz8_1 : w7.cell? ⟨gb329, 1, none⟩ = some (.int .i64 0) := (blk_cell BK329.out 1).trans rfl; have hcz8_2 : w7.cell? ⟨gb329, 2, none⟩ = some (.slice none 0 0) := (blk_cell BK329.out 2).trans rfl; have hcz8_3 : w7.cell? ⟨gb329, 3, none⟩ = some (.int .i64 0) := (blk_cell BK329.out 3).trans rfl; have hcz8_4 : w7.cell? ⟨gb329, 4, none⟩ = some (.int .i64 0) := (blk_cell BK329.out 4).trans rfl; have hcz8_5 : w7.cell? ⟨gb329, 5, none⟩ = some (.slice none 0 0) := (blk_cell BK329.out 5).trans rfl; have hcz8_6 : w7.cell? ⟨gb329, 6, none⟩ = some (.int .i64 0) := (blk_cell BK329.out 6).trans rfl; have hcz8_7 : w7.cell? ⟨gb329, 7, none⟩ = some (.int .i64 0) := (blk_cell BK329.out 7).trans rfl; have hfz8_0 := blk_frozen BK329.out 0; have hfz8_1 := blk_frozen BK329.out 1; have hfz8_2 := blk_frozen BK329.out 2; have hfz8_3 := blk_frozen BK329.out 3; have hfz8_4 := blk_frozen BK329.out 4; have hfz8_5 := blk_frozen BK329.out 5; have hfz8_6 := blk_frozen BK329.out 6; have hfz8_7 := blk_frozen BK329.out 7; obtain ⟨Ao9, co9, eo9⟩ := Kd.R_slice HO320.out; subst eo9; obtain ⟨Ao10, co10, eo10⟩ := Kd.R_slice HO325.out; subst eo10) | ((with_reducible refine gate_callee (f := 11) rfl ?_); refine goesL_ (some 21) rfl rfl Tryd.func11 (by kernel_rfl) rfl #[.string a0] rfl y130_ ?_; (with_reducible refine (impl_ParseReport.calls k a0 t330 t331 t332 t335 t336 t337 t340 t341 t342 _ A4.out (TB_.below y132_)).mono ?_); rintro e w11 ⟨v333, v338, rfl, ho0, ho1, hb⟩; refine ⟨_, rfl, ?_⟩; have n0_ := Aside0.mk (Kd.R_mono (Kd.R_told (Kd.R_told (Kd.R_old y125_ hb) (Kd.R_base ho0)) (Kd.R_base ho1)) (fun _ h_ => h_.1)); have n1_ := Aside0.mk (Kd.R_mono (Kd.R_told (Kd.R_told (Kd.R_old y126_ hb) (Kd.R_base ho0)) (Kd.R_base ho1)) (fun _ h_ => h_.1)); have n2_ := Aside0.mk (Kd.R_lower (Kd.R_new' (Kd.R_new' ho0 (Kd.R_lt y125_)) (Kd.R_lt y126_)) (below_size y133_)); have n3_ := Aside0.mk (Kd.R_lower (Kd.R_new' (Kd.R_new' ho1 (Kd.R_lt y125_)) (Kd.R_lt y126_)) (below_size y133_)); have n4_ := Aside0.mk (blk_below (g := gb329) (o := .cells #[.int .i64 t316, .int .i64 t317, .slice Ao9 t318.length co9, .int .i64 t321, .int .i64 t322, .slice Ao10 t323.length co10, .int .i64 t326, .int .i64 t327] 28 (0, 0)) (by (with_reducible repeat (first | refine blk_drewN ?_ _ | refine blk_drew ?_ | refine blk_alloc ?_ _)); refine blk_put (cs := #[.int .i64 t316, .int .i64 t317, .slice Ao9 t318.length co9, .int .i64 t321, .int .i64 t322, .slice Ao10 t323.length co10, .int .i64 t326, .int .i64 0]) ?_ 7 _ rfl; (with_reducible repeat (first | refine blk_drewN ?_ _ | refine blk_drew ?_ | refine blk_alloc ?_ _)); refine blk_put (cs := #[.int .i64 t316, .int .i64 t317, .slice Ao9 t318.length co9, .int .i64 t321, .int .i64 t322, .slice Ao10 t323.length co10, .int .i64 0, .int .i64 0]) ?_ 6 _ rfl; (with_reducible repeat (first | refine blk_drewN ?_ _ | refine blk_drew ?_ | refine blk_alloc ?_ _)); refine blk_put (cs := #[.int .i64 t316, .int .i64 t317, .slice Ao9 t318.length co9, .int .i64 t321, .int .i64 t322, .slice none 0 0, .int .i64 0, .int .i64 0]) ?_ 5 _ rfl; (with_reducible repeat (first | refine blk_drewN ?_ _ | refine blk_drew ?_ | refine blk_alloc ?_ _)); refine blk_put (cs := #[.int .i64 t316, .int .i64 t317, .slice Ao9 t318.length co9, .int .i64 t321, .int .i64 0, .slice none 0 0, .int .i64 0, .int .i64 0]) ?_ 4 _ rfl; (with_reducible repeat (first | refine blk_drewN ?_ _ | refine blk_drew ?_ | refine blk_alloc ?_ _)); refine blk_put (cs := #[.int .i64 t316, .int .i64 t317, .slice Ao9 t318.length co9, .int .i64 0, .int .i64 0, .slice none 0 0, .int .i64 0, .int .i64 0]) ?_ 3 _ rfl; (with_reducible repeat (first | refine blk_drewN ?_ _ | refine blk_drew ?_ | refine blk_alloc ?_ _)); refine blk_put (cs := #[.int .i64 t316, .int .i64 t317, .slice none 0 0, .int .i64 0, .int .i64 0, .slice none 0 0, .int .i64 0, .int .i64 0]) ?_ 2 _ rfl; (with_reducible repeat (first | refine blk_drewN ?_ _ | refine blk_drew ?_ | refine blk_alloc ?_ _)); refine blk_put (cs := #[.int .i64 t316, .int .i64 0, .slice none 0 0, .int .i64 0, .int .i64 0, .slice none 0 0, .int .i64 0, .int .i64 0]) ?_ 1 _ rfl; (with_reducible repeat (first | refine blk_drewN ?_ _ | refine blk_drew ?_ | refine blk_alloc ?_ _)); refine blk_put (cs := #[.int .i64 0, .int .i64 0, .slice none 0 0, .int .i64 0, .int .i64 0, .slice none 0 0, .int .i64 0, .int .i64 0]) ?_ 0 _ rfl; (with_reducible repeat (first | refine blk_drewN ?_ _ | refine blk_drew ?_ | refine blk_alloc ?_ _)); exact BK329.out) hb); have n5_ := Aside0.mk (below_step y133_ hb); clear HO320; clear HO325; clear BK329; clear HB; have HO320 := n0_; have HO325 := n1_; have HO334 := n2_; have HO339 := n3_; have BK329 := n4_; have HB := n5_; clear n0_ n1_ n2_ n3_ n4_ n5_; (try clear hb); (try clear hb2); (try clear hk); (try clear hi); (try clear ho0); (try clear ho1)) | ((with_reducible refine gate_dst (N := 5) rfl ?_); refine box_event ?hg (N := 5) ?hd (cs := #[.int .i64 0, .int .i64 0, .slice none 0 0, .int .i64 0, .int .i64 0, .slice none 0 0, .int .i64 0, .int .i64 0]) (t := 28) ?hr ?_; (case hd => rfl); (case hg => rfl); (case hr => first | (go_simp; done) | (go_simp; rfl)); intro gb343 hg w12 hbox hb; have n0_ := Aside0.mk (Kd.R_below (by (with_reducible repeat (first | apply Kd.R_alloc | apply Kd.R_drewN | apply Kd.R_drew)); exact HO320.out) hb); have n1_ := Aside0.mk (Kd.R_below (by (with_reducible repeat (first | apply Kd.R_alloc | apply Kd.R_drewN | apply Kd.R_drew)); exact HO325.out) hb); have n2_ := Aside0.mk (Kd.R_below (by (with_reducible repeat (first | apply Kd.R_alloc | apply Kd.R_drewN | apply Kd.R_drew)); exact HO334.out) hb); have n3_ := Aside0.mk (Kd.R_below (by (with_reducible repeat (first | apply Kd.R_alloc | apply Kd.R_drewN | apply Kd.R_drew)); exact HO339.out) hb); have n4_ := Aside0.mk (blk_below (g := gb329) (o := .cells #[.int .i64 t316, .int .i64 t317, .slice Ao9 t318.length co9, .int .i64 t321, .int .i64 t322, .slice Ao10 t323.length co10, .int .i64 t326, .int .i64 t327] 28 (0, 0)) y131_ hb); have n5_ := Aside0.mk (below_step y133_ hb); have n6_ := Aside0.mk (hbox); have n7_ := Aside0.mk ((by rw [hg]; exact (below_size y133_) : w.heap.size ≤ gb343)); have n8_ := Aside0.mk ((by rw [hg]; exact (below_size y133_) : w.heap.size ≤ gb343)); have n9_ := Aside0.mk ((by rw [hg]; exact Nat.ne_of_lt (blk_lt (g := gb329) (o := .cells #[.int .i64 t316, .int .i64 t317, .slice Ao9 t318.length co9, .int .i64 t321, .int .i64 t322, .slice Ao10 t323.length co10, .int .i64 t326, .int .i64 t327] 28 (0, 0)) y131_) : gb329 ≠ gb343)); have n10_ := Aside0.mk ((by rw [hg]; exact Nat.ne_of_gt (blk_lt (g := gb329) (o := .cells #[.int .i64 t316, .int .i64 t317, .slice Ao9 t318.length co9, .int .i64 t321, .int .i64 t322, .slice Ao10 t323.length co10, .int .i64 t326, .int .i64 t327] 28 (0, 0)) y131_) : gb343 ≠ gb329)); clear HO320; clear HO325; clear HO334; clear HO339; clear BK329; clear HB; have HO320 := n0_; have HO325 := n1_; have HO334 := n2_; have HO339 := n3_; have BK329 := n4_; have HB := n5_; have BK343 := n6_; have GW343 := n7_; have GE343 := n8_; have NB329_343 := n9_; have NB343_329 := n10_; clear n0_ n1_ n2_ n3_ n4_ n5_ n6_ n7_ n8_ n9_ n10_; clear hb hbox hg; have hnb13 := NB343_329.out; have hnc13 := NB329_343.out; have hcz14_0 : w12.cell? ⟨gb343, 0, none⟩ = some (.int .i64 0) := (blk_cell BK343.out 0).trans rfl; have hcz14_1 : w12.cell? ⟨gb343, 1, none⟩ = some (.int .i64 0) := (blk_cell BK343.out 1).trans rfl; have hcz14_2 : w12.cell? ⟨gb343, 2, none⟩ = some (.slice none 0 0) := (blk_cell BK343.out 2).trans rfl; have hcz14_3 : w12.cell? ⟨gb343, 3, none⟩ = some (.int .i64 0) := (blk_cell BK343.out 3).trans rfl; have hcz14_4 : w12.cell? ⟨gb343, 4, none⟩ = some (.int .i64 0) := (blk_cell BK343.out 4).trans rfl; have hcz14_5 : w12.cell? ⟨gb343, 5, none⟩ = some (.slice none 0 0) := (blk_cell BK343.out 5).trans rfl; have hcz14_6 : w12.cell? ⟨gb343, 6, none⟩ = some (.int .i64 0) := (blk_cell BK343.out 6).trans rfl; have hcz14_7 : w12.cell? ⟨gb343, 7, none⟩ = some (.int .i64 0) := (blk_cell BK343.out 7).trans rfl; have hfz14_0 := blk_frozen BK343.out 0; have hfz14_1 := blk_frozen BK343.out 1; have hfz14_2 := blk_frozen BK343.out 2; have hfz14_3 := blk_frozen BK343.out 3; have hfz14_4 := blk_frozen BK343.out 4; have hfz14_5 := blk_frozen BK343.out 5; have hfz14_6 := blk_frozen BK343.out 6; have hfz14_7 := blk_frozen BK343.out 7; obtain ⟨Ao15, co15, eo15⟩ := Kd.R_slice HO334.out; subst eo15; obtain ⟨Ao16, co16, eo16⟩ := Kd.R_slice HO339.out; subst eo16))
  (try simp only [Act.put, List.setIfInBounds_toArray, List.set_cons_zero, List.set_cons_succ])
  go_cut [32] (fun v32 wc => ∃ (kq : Nat) (x32_4 : Bool), v32 = .bool x32_4 ∧ Aside0 (laws_FnExactParseReport.j0 kq a0 t328 x32_4 t316 t317 t318 t321 t322 t323 t326 t327 t330 t331 t332 t335 t336 t337 t340 t341 = some true) ∧ Aside0 (kq ≤ k) ∧ Aside0 (Kd.R (Kd.int .i64) 3 wc w.heap.size (fun k_ => some k_ ≠ ((.slice Ao10 t323.length co10) : Value).ownBlock ∧ some k_ ≠ ((.slice Ao15 t332.length co15) : Value).ownBlock ∧ some k_ ≠ ((.slice Ao16 t337.length co16) : Value).ownBlock) (.slice Ao9 t318.length co9) t318) ∧ Aside0 (Kd.R (Kd.int .i64) 3 wc w.heap.size (fun k_ => some k_ ≠ ((.slice Ao9 t318.length co9) : Value).ownBlock ∧ some k_ ≠ ((.slice Ao15 t332.length co15) : Value).ownBlock ∧ some k_ ≠ ((.slice Ao16 t337.length co16) : Value).ownBlock) (.slice Ao10 t323.length co10) t323) ∧ Aside0 (Kd.R (Kd.int .i64) 3 wc w.heap.size (fun k_ => some k_ ≠ ((.slice Ao9 t318.length co9) : Value).ownBlock ∧ some k_ ≠ ((.slice Ao10 t323.length co10) : Value).ownBlock ∧ some k_ ≠ ((.slice Ao16 t337.length co16) : Value).ownBlock) (.slice Ao15 t332.length co15) t332) ∧ Aside0 (Kd.R (Kd.int .i64) 3 wc w.heap.size (fun k_ => some k_ ≠ ((.slice Ao9 t318.length co9) : Value).ownBlock ∧ some k_ ≠ ((.slice Ao10 t323.length co10) : Value).ownBlock ∧ some k_ ≠ ((.slice Ao15 t332.length co15) : Value).ownBlock) (.slice Ao16 t337.length co16) t337) ∧ Aside0 (wc.heap[gb329]? = some (.cells #[.int .i64 t316, .int .i64 t317, (.slice Ao9 t318.length co9), .int .i64 t321, .int .i64 t322, (.slice Ao10 t323.length co10), .int .i64 t326, .int .i64 t327] 28 (0, 0))) ∧ Aside0 (wc.heap[gb343]? = some (.cells #[.int .i64 t330, .int .i64 t331, (.slice Ao15 t332.length co15), .int .i64 t335, .int .i64 t336, (.slice Ao16 t337.length co16), .int .i64 t340, .int .i64 t341] 28 (0, 0))) ∧ Aside0 (Below w.heap.size w wc))
  case first =>
   have H := HC5.out
   clear HC5
   replace H := Option.bind_eq_some_iff.mp H
   obtain ⟨t344, A170, H⟩ := H
   replace H : (if t344 = true then (laws_FnExactParseReport.j0 k a0 t328 (t342 != t328) t316 t317 t318 t321 t322 t323 t326 t327 t330 t331 t332 t335 t336 t337 t340 t341) else (laws_FnExactParseReport.j0 k a0 t328 true t316 t317 t318 t321 t322 t323 t326 t327 t330 t331 t332 t335 t336 t337 t340 t341)) = some true := H
   have A17 := Aside0.mk A170
   clear A170
   by_cases c18 : t344 = true
   ·
    subst c18
    have H1 : (laws_FnExactParseReport.j0 k a0 t328 (t342 != t328) t316 t317 t318 t321 t322 t323 t326 t327 t330 t331 t332 t335 t336 t337 t340 t341) = some true := by rw [if_pos rfl] at H; exact H
    clear H
    have H := H1
    clear H1
    have H' := Aside0.mk H
    clear H
    have hnb19 := NB343_329.out
    have hnc19 := NB329_343.out
    have hcz20_0 : w12.cell? ⟨gb343, 0, none⟩ = some (.int .i64 0) := (blk_cell BK343.out 0).trans rfl
    have hcz20_1 : w12.cell? ⟨gb343, 1, none⟩ = some (.int .i64 0) := (blk_cell BK343.out 1).trans rfl
    have hcz20_2 : w12.cell? ⟨gb343, 2, none⟩ = some (.slice none 0 0) := (blk_cell BK343.out 2).trans rfl
    have hcz20_3 : w12.cell? ⟨gb343, 3, none⟩ = some (.int .i64 0) := (blk_cell BK343.out 3).trans rfl
    have hcz20_4 : w12.cell? ⟨gb343, 4, none⟩ = some (.int .i64 0) := (blk_cell BK343.out 4).trans rfl
    have hcz20_5 : w12.cell? ⟨gb343, 5, none⟩ = some (.slice none 0 0) := (blk_cell BK343.out 5).trans rfl
    have hcz20_6 : w12.cell? ⟨gb343, 6, none⟩ = some (.int .i64 0) := (blk_cell BK343.out 6).trans rfl
    have hcz20_7 : w12.cell? ⟨gb343, 7, none⟩ = some (.int .i64 0) := (blk_cell BK343.out 7).trans rfl
    have hfz20_0 := blk_frozen BK343.out 0
    have hfz20_1 := blk_frozen BK343.out 1
    have hfz20_2 := blk_frozen BK343.out 2
    have hfz20_3 := blk_frozen BK343.out 3
    have hfz20_4 := blk_frozen BK343.out 4
    have hfz20_5 := blk_frozen BK343.out 5
    have hfz20_6 := blk_frozen BK343.out 6
    have hfz20_7 := blk_frozen BK343.out 7
    have hcz21_0 : w12.cell? ⟨gb329, 0, none⟩ = some (.int .i64 t316) := (blk_cell BK329.out 0).trans rfl
    have hcz21_1 : w12.cell? ⟨gb329, 1, none⟩ = some (.int .i64 t317) := (blk_cell BK329.out 1).trans rfl
    have hcz21_2 : w12.cell? ⟨gb329, 2, none⟩ = some (.slice Ao9 t318.length co9) := (blk_cell BK329.out 2).trans rfl
    have hcz21_3 : w12.cell? ⟨gb329, 3, none⟩ = some (.int .i64 t321) := (blk_cell BK329.out 3).trans rfl
    have hcz21_4 : w12.cell? ⟨gb329, 4, none⟩ = some (.int .i64 t322) := (blk_cell BK329.out 4).trans rfl
    have hcz21_5 : w12.cell? ⟨gb329, 5, none⟩ = some (.slice Ao10 t323.length co10) := (blk_cell BK329.out 5).trans rfl
    have hcz21_6 : w12.cell? ⟨gb329, 6, none⟩ = some (.int .i64 t326) := (blk_cell BK329.out 6).trans rfl
    have hcz21_7 : w12.cell? ⟨gb329, 7, none⟩ = some (.int .i64 t327) := (blk_cell BK329.out 7).trans rfl
    have hfz21_0 := blk_frozen BK329.out 0
    have hfz21_1 := blk_frozen BK329.out 1
    have hfz21_2 := blk_frozen BK329.out 2
    have hfz21_3 := blk_frozen BK329.out 3
    have hfz21_4 := blk_frozen BK329.out 4
    have hfz21_5 := blk_frozen BK329.out 5
    have hfz21_6 := blk_frozen BK329.out 6
    have hfz21_7 := blk_frozen BK329.out 7
    go_wp2_with (first | ((with_reducible refine gate_callee (f := 38) rfl ?_); refine goesL_ (some 26) rfl rfl Tryd.func38 (by kernel_rfl) rfl #[.agg #[.int .i64 t330, .int .i64 t331, .slice Ao15 t332.length co15, .int .i64 t335, .int .i64 t336, .slice Ao16 t337.length co16, .int .i64 t340, .int .i64 t341], .agg #[.int .i64 t316, .int .i64 t317, .slice Ao9 t318.length co9, .int .i64 t321, .int .i64 t322, .slice Ao10 t323.length co10, .int .i64 t326, .int .i64 t327]] rfl y130_ ?_; (with_reducible refine (laws_eqReport.calls k t330 t331 _ _ t332 t335 t336 _ _ t337 t340 t341 t316 t317 _ _ t318 t321 t322 _ _ t323 t326 t327 true _ ?side1 ?side2 ?side3 ?side4 ?side5 ?side6 ?side7 ?side8 A17.out).mono ?_); (case side1 => refine (Kd.R_reads' (e := 3) (base := w.heap.size) (ok := fun k_ => ((some k_ ≠ (.slice Ao16 t337.length co16 : Value).ownBlock ∧ some k_ ≠ (.slice Ao9 t318.length co9 : Value).ownBlock) ∧ some k_ ≠ (.slice Ao10 t323.length co10 : Value).ownBlock)) (n := t332.length) (c := co15) ?_).2.2; exact y116_); (case side2 => exact (Kd.R_reads' HO334.out).2.1); (case side3 => refine (Kd.R_reads' (e := 3) (base := w.heap.size) (ok := fun k_ => ((some k_ ≠ (.slice Ao15 t332.length co15 : Value).ownBlock ∧ some k_ ≠ (.slice Ao9 t318.length co9 : Value).ownBlock) ∧ some k_ ≠ (.slice Ao10 t323.length co10 : Value).ownBlock)) (n := t337.length) (c := co16) ?_).2.2; exact y117_); (case side4 => exact (Kd.R_reads' HO339.out).2.1); (case side5 => refine (Kd.R_reads' (e := 3) (base := w.heap.size) (ok := fun k_ => ((some k_ ≠ (.slice Ao10 t323.length co10 : Value).ownBlock ∧ some k_ ≠ (.slice Ao15 t332.length co15 : Value).ownBlock) ∧ some k_ ≠ (.slice Ao16 t337.length co16 : Value).ownBlock)) (n := t318.length) (c := co9) ?_).2.2; exact y118_); (case side6 => exact (Kd.R_reads' HO320.out).2.1); (case side7 => refine (Kd.R_reads' (e := 3) (base := w.heap.size) (ok := fun k_ => ((some k_ ≠ (.slice Ao9 t318.length co9 : Value).ownBlock ∧ some k_ ≠ (.slice Ao15 t332.length co15 : Value).ownBlock) ∧ some k_ ≠ (.slice Ao16 t337.length co16 : Value).ownBlock)) (n := t323.length) (c := co10) ?_).2.2; exact y119_); (case side8 => exact (Kd.R_reads' HO325.out).2.1); rintro e w22 ⟨rfl, hb⟩; refine ⟨_, rfl, ?_⟩; have n0_ := Aside0.mk (Kd.R_below y118_ hb); have n1_ := Aside0.mk (Kd.R_below y119_ hb); have n2_ := Aside0.mk (Kd.R_below y116_ hb); have n3_ := Aside0.mk (Kd.R_below y117_ hb); have n4_ := Aside0.mk (blk_below (g := gb329) (o := .cells #[.int .i64 t316, .int .i64 t317, .slice Ao9 t318.length co9, .int .i64 t321, .int .i64 t322, .slice Ao10 t323.length co10, .int .i64 t326, .int .i64 t327] 28 (0, 0)) y127_ hb); have n5_ := Aside0.mk (blk_below (g := gb343) (o := .cells #[.int .i64 t330, .int .i64 t331, .slice Ao15 t332.length co15, .int .i64 t335, .int .i64 t336, .slice Ao16 t337.length co16, .int .i64 t340, .int .i64 t341] 28 (0, 0)) y122_ hb); have n6_ := Aside0.mk (below_step y124_ hb); clear HO320; clear HO325; clear HO334; clear HO339; clear BK329; clear BK343; clear HB; have HO320 := n0_; have HO325 := n1_; have HO334 := n2_; have HO339 := n3_; have BK329 := n4_; have BK343 := n5_; have HB := n6_; clear n0_ n1_ n2_ n3_ n4_ n5_ n6_; (try clear hb); (try clear hb2); (try clear hk); (try clear hi)))
    go_meet
    case rel => exact ⟨_, ((t342 != t328)), (by first | rfl | (simp; done) | (simp [*]; done)), H', ⟨by first | omega | exact Nat.le_refl _⟩, ⟨by (with_reducible repeat (first | apply Kd.R_alloc | apply Kd.R_drewN | apply Kd.R_drew)); exact Kd.R_mono HO320.out (fun _ hk => ⟨hk.1.1, ⟨hk.1.2, hk.2⟩⟩)⟩, ⟨by (with_reducible repeat (first | apply Kd.R_alloc | apply Kd.R_drewN | apply Kd.R_drew)); exact Kd.R_mono HO325.out (fun _ hk => ⟨hk.1.1, ⟨hk.1.2, hk.2⟩⟩)⟩, ⟨by (with_reducible repeat (first | apply Kd.R_alloc | apply Kd.R_drewN | apply Kd.R_drew)); exact Kd.R_mono HO334.out (fun _ hk => ⟨hk.1.2, ⟨hk.2, hk.1.1⟩⟩)⟩, ⟨by (with_reducible repeat (first | apply Kd.R_alloc | apply Kd.R_drewN | apply Kd.R_drew)); exact Kd.R_mono HO339.out (fun _ hk => ⟨hk.1.2, ⟨hk.2, hk.1.1⟩⟩)⟩, ⟨by (with_reducible repeat (first | refine blk_drewN ?_ _ | refine blk_drew ?_ | refine blk_alloc ?_ _)); exact BK329.out⟩, ⟨by (with_reducible repeat (first | refine blk_drewN ?_ _ | refine blk_drew ?_ | refine blk_alloc ?_ _)); exact BK343.out⟩, ⟨by repeat (first | (with_reducible first | exact HB.out | apply below_alloc | apply pw_below_drewN | apply below_drew1 | refine below_set ?_ GE329.out | refine below_set ?_ GE343.out) | exact HB.out)⟩⟩
   ·
    replace c18 := Bool.eq_false_iff.mpr c18
    subst c18
    have H1 : (laws_FnExactParseReport.j0 k a0 t328 true t316 t317 t318 t321 t322 t323 t326 t327 t330 t331 t332 t335 t336 t337 t340 t341) = some true := by rw [if_neg (show ¬ (false = true) by decide)] at H; exact H
    clear H
    have H := H1
    clear H1
    have H' := Aside0.mk H
    clear H
    have hnb23 := NB343_329.out
    have hnc23 := NB329_343.out
    have hcz24_0 : w12.cell? ⟨gb343, 0, none⟩ = some (.int .i64 0) := (blk_cell BK343.out 0).trans rfl
    have hcz24_1 : w12.cell? ⟨gb343, 1, none⟩ = some (.int .i64 0) := (blk_cell BK343.out 1).trans rfl
    have hcz24_2 : w12.cell? ⟨gb343, 2, none⟩ = some (.slice none 0 0) := (blk_cell BK343.out 2).trans rfl
    have hcz24_3 : w12.cell? ⟨gb343, 3, none⟩ = some (.int .i64 0) := (blk_cell BK343.out 3).trans rfl
    have hcz24_4 : w12.cell? ⟨gb343, 4, none⟩ = some (.int .i64 0) := (blk_cell BK343.out 4).trans rfl
    have hcz24_5 : w12.cell? ⟨gb343, 5, none⟩ = some (.slice none 0 0) := (blk_cell BK343.out 5).trans rfl
    have hcz24_6 : w12.cell? ⟨gb343, 6, none⟩ = some (.int .i64 0) := (blk_cell BK343.out 6).trans rfl
    have hcz24_7 : w12.cell? ⟨gb343, 7, none⟩ = some (.int .i64 0) := (blk_cell BK343.out 7).trans rfl
    have hfz24_0 := blk_frozen BK343.out 0
    have hfz24_1 := blk_frozen BK343.out 1
    have hfz24_2 := blk_frozen BK343.out 2
    have hfz24_3 := blk_frozen BK343.out 3
    have hfz24_4 := blk_frozen BK343.out 4
    have hfz24_5 := blk_frozen BK343.out 5
    have hfz24_6 := blk_frozen BK343.out 6
    have hfz24_7 := blk_frozen BK343.out 7
    have hcz25_0 : w12.cell? ⟨gb329, 0, none⟩ = some (.int .i64 t316) := (blk_cell BK329.out 0).trans rfl
    have hcz25_1 : w12.cell? ⟨gb329, 1, none⟩ = some (.int .i64 t317) := (blk_cell BK329.out 1).trans rfl
    have hcz25_2 : w12.cell? ⟨gb329, 2, none⟩ = some (.slice Ao9 t318.length co9) := (blk_cell BK329.out 2).trans rfl
    have hcz25_3 : w12.cell? ⟨gb329, 3, none⟩ = some (.int .i64 t321) := (blk_cell BK329.out 3).trans rfl
    have hcz25_4 : w12.cell? ⟨gb329, 4, none⟩ = some (.int .i64 t322) := (blk_cell BK329.out 4).trans rfl
    have hcz25_5 : w12.cell? ⟨gb329, 5, none⟩ = some (.slice Ao10 t323.length co10) := (blk_cell BK329.out 5).trans rfl
    have hcz25_6 : w12.cell? ⟨gb329, 6, none⟩ = some (.int .i64 t326) := (blk_cell BK329.out 6).trans rfl
    have hcz25_7 : w12.cell? ⟨gb329, 7, none⟩ = some (.int .i64 t327) := (blk_cell BK329.out 7).trans rfl
    have hfz25_0 := blk_frozen BK329.out 0
    have hfz25_1 := blk_frozen BK329.out 1
    have hfz25_2 := blk_frozen BK329.out 2
    have hfz25_3 := blk_frozen BK329.out 3
    have hfz25_4 := blk_frozen BK329.out 4
    have hfz25_5 := blk_frozen BK329.out 5
    have hfz25_6 := blk_frozen BK329.out 6
    have hfz25_7 := blk_frozen BK329.out 7
    go_wp2_with (first | ((with_reducible refine gate_callee (f := 38) rfl ?_); refine goesL_ (some 26) rfl rfl Tryd.func38 (by kernel_rfl) rfl #[.agg #[.int .i64 t330, .int .i64 t331, .slice Ao15 t332.length co15, .int .i64 t335, .int .i64 t336, .slice Ao16 t337.length co16, .int .i64 t340, .int .i64 t341], .agg #[.int .i64 t316, .int .i64 t317, .slice Ao9 t318.length co9, .int .i64 t321, .int .i64 t322, .slice Ao10 t323.length co10, .int .i64 t326, .int .i64 t327]] rfl y130_ ?_; (with_reducible refine (laws_eqReport.calls k t330 t331 _ _ t332 t335 t336 _ _ t337 t340 t341 t316 t317 _ _ t318 t321 t322 _ _ t323 t326 t327 false _ ?side1 ?side2 ?side3 ?side4 ?side5 ?side6 ?side7 ?side8 A17.out).mono ?_); (case side1 => refine (Kd.R_reads' (e := 3) (base := w.heap.size) (ok := fun k_ => ((some k_ ≠ (.slice Ao16 t337.length co16 : Value).ownBlock ∧ some k_ ≠ (.slice Ao9 t318.length co9 : Value).ownBlock) ∧ some k_ ≠ (.slice Ao10 t323.length co10 : Value).ownBlock)) (n := t332.length) (c := co15) ?_).2.2; exact y116_); (case side2 => exact (Kd.R_reads' HO334.out).2.1); (case side3 => refine (Kd.R_reads' (e := 3) (base := w.heap.size) (ok := fun k_ => ((some k_ ≠ (.slice Ao15 t332.length co15 : Value).ownBlock ∧ some k_ ≠ (.slice Ao9 t318.length co9 : Value).ownBlock) ∧ some k_ ≠ (.slice Ao10 t323.length co10 : Value).ownBlock)) (n := t337.length) (c := co16) ?_).2.2; exact y117_); (case side4 => exact (Kd.R_reads' HO339.out).2.1); (case side5 => refine (Kd.R_reads' (e := 3) (base := w.heap.size) (ok := fun k_ => ((some k_ ≠ (.slice Ao10 t323.length co10 : Value).ownBlock ∧ some k_ ≠ (.slice Ao15 t332.length co15 : Value).ownBlock) ∧ some k_ ≠ (.slice Ao16 t337.length co16 : Value).ownBlock)) (n := t318.length) (c := co9) ?_).2.2; exact y118_); (case side6 => exact (Kd.R_reads' HO320.out).2.1); (case side7 => refine (Kd.R_reads' (e := 3) (base := w.heap.size) (ok := fun k_ => ((some k_ ≠ (.slice Ao9 t318.length co9 : Value).ownBlock ∧ some k_ ≠ (.slice Ao15 t332.length co15 : Value).ownBlock) ∧ some k_ ≠ (.slice Ao16 t337.length co16 : Value).ownBlock)) (n := t323.length) (c := co10) ?_).2.2; exact y119_); (case side8 => exact (Kd.R_reads' HO325.out).2.1); rintro e w26 ⟨rfl, hb⟩; refine ⟨_, rfl, ?_⟩; have n0_ := Aside0.mk (Kd.R_below y118_ hb); have n1_ := Aside0.mk (Kd.R_below y119_ hb); have n2_ := Aside0.mk (Kd.R_below y116_ hb); have n3_ := Aside0.mk (Kd.R_below y117_ hb); have n4_ := Aside0.mk (blk_below (g := gb329) (o := .cells #[.int .i64 t316, .int .i64 t317, .slice Ao9 t318.length co9, .int .i64 t321, .int .i64 t322, .slice Ao10 t323.length co10, .int .i64 t326, .int .i64 t327] 28 (0, 0)) y127_ hb); have n5_ := Aside0.mk (blk_below (g := gb343) (o := .cells #[.int .i64 t330, .int .i64 t331, .slice Ao15 t332.length co15, .int .i64 t335, .int .i64 t336, .slice Ao16 t337.length co16, .int .i64 t340, .int .i64 t341] 28 (0, 0)) y122_ hb); have n6_ := Aside0.mk (below_step y124_ hb); clear HO320; clear HO325; clear HO334; clear HO339; clear BK329; clear BK343; clear HB; have HO320 := n0_; have HO325 := n1_; have HO334 := n2_; have HO339 := n3_; have BK329 := n4_; have BK343 := n5_; have HB := n6_; clear n0_ n1_ n2_ n3_ n4_ n5_ n6_; (try clear hb); (try clear hb2); (try clear hk); (try clear hi)))
    go_meet
    case rel => exact ⟨_, (true), (by first | rfl | (simp; done) | (simp [*]; done)), H', ⟨by first | omega | exact Nat.le_refl _⟩, ⟨by (with_reducible repeat (first | apply Kd.R_alloc | apply Kd.R_drewN | apply Kd.R_drew)); exact Kd.R_mono HO320.out (fun _ hk => ⟨hk.1.1, ⟨hk.1.2, hk.2⟩⟩)⟩, ⟨by (with_reducible repeat (first | apply Kd.R_alloc | apply Kd.R_drewN | apply Kd.R_drew)); exact Kd.R_mono HO325.out (fun _ hk => ⟨hk.1.1, ⟨hk.1.2, hk.2⟩⟩)⟩, ⟨by (with_reducible repeat (first | apply Kd.R_alloc | apply Kd.R_drewN | apply Kd.R_drew)); exact Kd.R_mono HO334.out (fun _ hk => ⟨hk.1.2, ⟨hk.2, hk.1.1⟩⟩)⟩, ⟨by (with_reducible repeat (first | apply Kd.R_alloc | apply Kd.R_drewN | apply Kd.R_drew)); exact Kd.R_mono HO339.out (fun _ hk => ⟨hk.1.2, ⟨hk.2, hk.1.1⟩⟩)⟩, ⟨by (with_reducible repeat (first | refine blk_drewN ?_ _ | refine blk_drew ?_ | refine blk_alloc ?_ _)); exact BK329.out⟩, ⟨by (with_reducible repeat (first | refine blk_drewN ?_ _ | refine blk_drew ?_ | refine blk_alloc ?_ _)); exact BK343.out⟩, ⟨by repeat (first | (with_reducible first | exact HB.out | apply below_alloc | apply pw_below_drewN | apply below_drew1 | refine below_set ?_ GE329.out | refine below_set ?_ GE343.out) | exact HB.out)⟩⟩
  case rest =>
   clear HC5
   try clear c1
   try clear c2
   try clear c2b0
   try clear c2b1
   try clear p2
   try clear c3
   try clear c8
   try clear c11
   try clear c13
   try clear c18
   try clear c19
   try clear c23
   try clear hcz14_0
   try clear hcz14_1
   try clear hcz14_2
   try clear hcz14_3
   try clear hcz14_4
   try clear hcz14_5
   try clear hcz14_6
   try clear hcz14_7
   try clear hcz20_0
   try clear hcz20_1
   try clear hcz20_2
   try clear hcz20_3
   try clear hcz20_4
   try clear hcz20_5
   try clear hcz20_6
   try clear hcz20_7
   try clear hcz21_0
   try clear hcz21_1
   try clear hcz21_2
   try clear hcz21_3
   try clear hcz21_4
   try clear hcz21_5
   try clear hcz21_6
   try clear hcz21_7
   try clear hcz24_0
   try clear hcz24_1
   try clear hcz24_2
   try clear hcz24_3
   try clear hcz24_4
   try clear hcz24_5
   try clear hcz24_6
   try clear hcz24_7
   try clear hcz25_0
   try clear hcz25_1
   try clear hcz25_2
   try clear hcz25_3
   try clear hcz25_4
   try clear hcz25_5
   try clear hcz25_6
   try clear hcz25_7
   try clear hcz8_0
   try clear hcz8_1
   try clear hcz8_2
   try clear hcz8_3
   try clear hcz8_4
   try clear hcz8_5
   try clear hcz8_6
   try clear hcz8_7
   try clear hfz14_0
   try clear hfz14_1
   try clear hfz14_2
   try clear hfz14_3
   try clear hfz14_4
   try clear hfz14_5
   try clear hfz14_6
   try clear hfz14_7
   try clear hfz20_0
   try clear hfz20_1
   try clear hfz20_2
   try clear hfz20_3
   try clear hfz20_4
   try clear hfz20_5
   try clear hfz20_6
   try clear hfz20_7
   try clear hfz21_0
   try clear hfz21_1
   try clear hfz21_2
   try clear hfz21_3
   try clear hfz21_4
   try clear hfz21_5
   try clear hfz21_6
   try clear hfz21_7
   try clear hfz24_0
   try clear hfz24_1
   try clear hfz24_2
   try clear hfz24_3
   try clear hfz24_4
   try clear hfz24_5
   try clear hfz24_6
   try clear hfz24_7
   try clear hfz25_0
   try clear hfz25_1
   try clear hfz25_2
   try clear hfz25_3
   try clear hfz25_4
   try clear hfz25_5
   try clear hfz25_6
   try clear hfz25_7
   try clear hfz8_0
   try clear hfz8_1
   try clear hfz8_2
   try clear hfz8_3
   try clear hfz8_4
   try clear hfz8_5
   try clear hfz8_6
   try clear hfz8_7
   obtain ⟨kq, x32_4, rfl, HA, HJ4, HO_330002, HO_330005, HO_344002, HO_344005, BK329, BK343, HB⟩ := hcut
   cases kq with
   | zero => exact absurd HA.out (by simp [laws_FnExactParseReport.j0])
   | succ kj4 =>
    have H := HA.out
    clear HA
    simp only [laws_FnExactParseReport.j0] at H
    by_cases c27 : x32_4 = true
    ·
     subst c27
     have H1 : (some false) = some true := by rw [if_pos rfl] at H; exact H
     clear H
     have H := H1
     clear H1
     exact absurd H (by simp)
    ·
     replace c27 := Bool.eq_false_iff.mpr c27
     subst c27
     have H1 : ((laws_markReport.f kj4 t330 t331 t332 t335 t336 t337 t340 t341 1).bind fun bt345 => ((laws_heldReport.f kj4 t330 t331 bt345.2.1 t335 t336 bt345.2.2 t340 t341 1).bind fun t348 => (if t348 < 0 then (some false) else (if t348 = bt345.1 then ((impl_ParseReport.f kj4 a0).bind fun bt349 => ((laws_eqReport.f kj4 bt349.1 bt349.2.1 bt349.2.2.1 bt349.2.2.2.1 bt349.2.2.2.2.1 bt349.2.2.2.2.2.1 bt349.2.2.2.2.2.2.1 bt349.2.2.2.2.2.2.2.1 t316 t317 t318 t321 t322 t323 t326 t327).bind fun t363 => (if t363 = true then (laws_FnExactParseReport.j1 kj4 bt345.1 (bt349.2.2.2.2.2.2.2.2 != t328) t330 t331 bt345.2.1 t335 t336 bt345.2.2 t340 t341) else (laws_FnExactParseReport.j1 kj4 bt345.1 true t330 t331 bt345.2.1 t335 t336 bt345.2.2 t340 t341)))) else (some false))))) = some true := by rw [if_neg (show ¬ (false = true) by decide)] at H; exact H
     clear H
     have H := H1
     clear H1
     replace H := Option.bind_eq_some_iff.mp H
     obtain ⟨⟨t345, t346, t347⟩, A280, H⟩ := H
     replace H : ((laws_heldReport.f kj4 t330 t331 t346 t335 t336 t347 t340 t341 1).bind fun t348 => (if t348 < 0 then (some false) else (if t348 = t345 then ((impl_ParseReport.f kj4 a0).bind fun bt349 => ((laws_eqReport.f kj4 bt349.1 bt349.2.1 bt349.2.2.1 bt349.2.2.2.1 bt349.2.2.2.2.1 bt349.2.2.2.2.2.1 bt349.2.2.2.2.2.2.1 bt349.2.2.2.2.2.2.2.1 t316 t317 t318 t321 t322 t323 t326 t327).bind fun t363 => (if t363 = true then (laws_FnExactParseReport.j1 kj4 t345 (bt349.2.2.2.2.2.2.2.2 != t328) t330 t331 t346 t335 t336 t347 t340 t341) else (laws_FnExactParseReport.j1 kj4 t345 true t330 t331 t346 t335 t336 t347 t340 t341)))) else (some false)))) = some true := H
     have A28 := Aside0.mk A280
     clear A280
     replace H := Option.bind_eq_some_iff.mp H
     obtain ⟨t348, A290, H⟩ := H
     replace H : (if t348 < 0 then (some false) else (if t348 = t345 then ((impl_ParseReport.f kj4 a0).bind fun bt349 => ((laws_eqReport.f kj4 bt349.1 bt349.2.1 bt349.2.2.1 bt349.2.2.2.1 bt349.2.2.2.2.1 bt349.2.2.2.2.2.1 bt349.2.2.2.2.2.2.1 bt349.2.2.2.2.2.2.2.1 t316 t317 t318 t321 t322 t323 t326 t327).bind fun t363 => (if t363 = true then (laws_FnExactParseReport.j1 kj4 t345 (bt349.2.2.2.2.2.2.2.2 != t328) t330 t331 t346 t335 t336 t347 t340 t341) else (laws_FnExactParseReport.j1 kj4 t345 true t330 t331 t346 t335 t336 t347 t340 t341)))) else (some false))) = some true := H
     have A29 := Aside0.mk A290
     clear A290
     by_cases c30 : t348 < 0
     ·
      rw [if_pos c30] at H
      have c30b0 : decide (t348 < 0) = true := decide_eq_true c30
      clear c30
      exact absurd H (by simp)
     ·
      rw [if_neg c30] at H
      have c30b0 : decide (t348 < 0) = false := decide_eq_false c30
      clear c30
      by_cases c31 : t348 = t345
      ·
       rw [if_pos c31] at H
       have c31b0 : (t348 == t345) = true := beq_iff_eq.mpr c31
       have c31b1 : (t348 != t345) = false := bne_eq_false_iff_eq.mpr c31
       clear c31
       replace H := Option.bind_eq_some_iff.mp H
       obtain ⟨⟨t349, t350, t351, t354, t355, t356, t359, t360, t361⟩, A320, H⟩ := H
       replace H : ((laws_eqReport.f kj4 t349 t350 t351 t354 t355 t356 t359 t360 t316 t317 t318 t321 t322 t323 t326 t327).bind fun t363 => (if t363 = true then (laws_FnExactParseReport.j1 kj4 t345 (t361 != t328) t330 t331 t346 t335 t336 t347 t340 t341) else (laws_FnExactParseReport.j1 kj4 t345 true t330 t331 t346 t335 t336 t347 t340 t341))) = some true := H
       have A32 := Aside0.mk A320
       clear A320
       have HC33 := Aside0.mk H
       clear H
       have hnb34 := NB343_329.out
       have hnc34 := NB329_343.out
       have hcz35_0 : wc.cell? ⟨gb343, 0, none⟩ = some (.int .i64 t330) := (blk_cell BK343.out 0).trans rfl
       have hcz35_1 : wc.cell? ⟨gb343, 1, none⟩ = some (.int .i64 t331) := (blk_cell BK343.out 1).trans rfl
       have hcz35_2 : wc.cell? ⟨gb343, 2, none⟩ = some (.slice Ao15 t332.length co15) := (blk_cell BK343.out 2).trans rfl
       have hcz35_3 : wc.cell? ⟨gb343, 3, none⟩ = some (.int .i64 t335) := (blk_cell BK343.out 3).trans rfl
       have hcz35_4 : wc.cell? ⟨gb343, 4, none⟩ = some (.int .i64 t336) := (blk_cell BK343.out 4).trans rfl
       have hcz35_5 : wc.cell? ⟨gb343, 5, none⟩ = some (.slice Ao16 t337.length co16) := (blk_cell BK343.out 5).trans rfl
       have hcz35_6 : wc.cell? ⟨gb343, 6, none⟩ = some (.int .i64 t340) := (blk_cell BK343.out 6).trans rfl
       have hcz35_7 : wc.cell? ⟨gb343, 7, none⟩ = some (.int .i64 t341) := (blk_cell BK343.out 7).trans rfl
       have hfz35_0 := blk_frozen BK343.out 0
       have hfz35_1 := blk_frozen BK343.out 1
       have hfz35_2 := blk_frozen BK343.out 2
       have hfz35_3 := blk_frozen BK343.out 3
       have hfz35_4 := blk_frozen BK343.out 4
       have hfz35_5 := blk_frozen BK343.out 5
       have hfz35_6 := blk_frozen BK343.out 6
       have hfz35_7 := blk_frozen BK343.out 7
       go_upto_region 16 with (first | ((with_reducible refine gate_callee (f := 40) rfl ?_); refine goesL_ (some 35) rfl rfl Tryd.func40 (by kernel_rfl) rfl #[.agg #[.int .i64 t330, .int .i64 t331, .slice Ao15 t332.length co15, .int .i64 t335, .int .i64 t336, .slice Ao16 t337.length co16, .int .i64 t340, .int .i64 t341], .int .i64 1] rfl y130_ ?_; (with_reducible refine (laws_markReport.calls kj4 t330 t331 (fun k_ => some k_ = (.slice Ao15 t332.length co15 : Value).ownBlock) (.slice Ao15 t332.length co15) t332 t335 t336 (fun k_ => some k_ = (.slice Ao16 t337.length co16 : Value).ownBlock) (.slice Ao16 t337.length co16) t337 t340 t341 1 t345 t346 t347 w _ ?side1 ?side2 ?side3 ?side4 ?side5 A28.out).mono ?_); (case side1 => repeat (first | (with_reducible first | exact HB.out | apply below_alloc | apply pw_below_drewN | apply below_drew1 | refine below_set ?_ GE329.out | refine below_set ?_ GE343.out) | exact HB.out)); (case side2 => exact Kd.R_tight rfl HO_344002.out); (case side3 => exact fun k_ e_ => (HO_344002.out.1 k_ e_.symm).2.2); (case side4 => exact Kd.R_tight rfl HO_344005.out); (case side5 => exact fun k_ e_ => (HO_344005.out.1 k_ e_.symm).2.2); rintro e w36 ⟨rfl, hy0, hy1, hb, hkp⟩; refine ⟨_, rfl, ?_⟩; have n0_ := Aside0.mk (Kd.R_mono (ok' := fun k_ => some k_ ≠ (.slice Ao10 t323.length co10 : Value).ownBlock ∧ some k_ ≠ (.slice Ao15 t332.length co15 : Value).ownBlock ∧ some k_ ≠ (.slice Ao16 t337.length co16 : Value).ownBlock) (Kd.R_keptB (HO_330002.out) hkp (fun k_ hk_ hs_ => Or.elim hs_ (fun e_ => (hk_.2.1) e_) (fun e_ => (hk_.2.2) e_))) (fun k_ hk_ => ⟨hk_.1.1, hk_.1.2.1, hk_.1.2.2⟩)); have n1_ := Aside0.mk (Kd.R_mono (ok' := fun k_ => some k_ ≠ (.slice Ao9 t318.length co9 : Value).ownBlock ∧ some k_ ≠ (.slice Ao15 t332.length co15 : Value).ownBlock ∧ some k_ ≠ (.slice Ao16 t337.length co16 : Value).ownBlock) (Kd.R_keptB (HO_330005.out) hkp (fun k_ hk_ hs_ => Or.elim hs_ (fun e_ => (hk_.2.1) e_) (fun e_ => (hk_.2.2) e_))) (fun k_ hk_ => ⟨hk_.1.1, hk_.1.2.1, hk_.1.2.2⟩)); have n2_ := Aside0.mk (Kd.R_reok rfl hy0 (fun k_ e_ => HO_344002.out.1 k_ e_)); have n3_ := Aside0.mk (Kd.R_reok rfl hy1 (fun k_ e_ => HO_344005.out.1 k_ e_)); have n4_ := Aside0.mk (blk_kept y131_ hkp (fun hs_ => Or.elim hs_ (fun e_ => (fun e_ => (Kd.R_ne HO_344002.out BK329.out (by decide)) e_) e_) (fun e_ => (fun e_ => (Kd.R_ne HO_344005.out BK329.out (by decide)) e_) e_))); have n5_ := Aside0.mk (blk_kept y136_ hkp (fun hs_ => Or.elim hs_ (fun e_ => (fun e_ => (Kd.R_ne HO_344002.out BK343.out (by decide)) e_) e_) (fun e_ => (fun e_ => (Kd.R_ne HO_344005.out BK343.out (by decide)) e_) e_))); have n6_ := Aside0.mk (hb); clear HO_330002; clear HO_330005; clear HO_344002; clear HO_344005; clear BK329; clear BK343; clear HB; have HO_330002 := n0_; have HO_330005 := n1_; have HO_344002 := n2_; have HO_344005 := n3_; have BK329 := n4_; have BK343 := n5_; have HB := n6_; clear n0_ n1_ n2_ n3_ n4_ n5_ n6_; (try clear hb); (try clear hkp); (try clear hy0); (try clear hy1); have hcz37_0 : w36.cell? ⟨gb343, 0, none⟩ = some (.int .i64 t330) := (blk_cell BK343.out 0).trans rfl; have hcz37_1 : w36.cell? ⟨gb343, 1, none⟩ = some (.int .i64 t331) := (blk_cell BK343.out 1).trans rfl; have hcz37_2 : w36.cell? ⟨gb343, 2, none⟩ = some (.slice Ao15 t332.length co15) := (blk_cell BK343.out 2).trans rfl; have hcz37_3 : w36.cell? ⟨gb343, 3, none⟩ = some (.int .i64 t335) := (blk_cell BK343.out 3).trans rfl; have hcz37_4 : w36.cell? ⟨gb343, 4, none⟩ = some (.int .i64 t336) := (blk_cell BK343.out 4).trans rfl; have hcz37_5 : w36.cell? ⟨gb343, 5, none⟩ = some (.slice Ao16 t337.length co16) := (blk_cell BK343.out 5).trans rfl; have hcz37_6 : w36.cell? ⟨gb343, 6, none⟩ = some (.int .i64 t340) := (blk_cell BK343.out 6).trans rfl; have hcz37_7 : w36.cell? ⟨gb343, 7, none⟩ = some (.int .i64 t341) := (blk_cell BK343.out 7).trans rfl; have hfz37_0 := blk_frozen BK343.out 0; have hfz37_1 := blk_frozen BK343.out 1; have hfz37_2 := blk_frozen BK343.out 2; have hfz37_3 := blk_frozen BK343.out 3; have hfz37_4 := blk_frozen BK343.out 4; have hfz37_5 := blk_frozen BK343.out 5; have hfz37_6 := blk_frozen BK343.out 6; have hfz37_7 := blk_frozen BK343.out 7) | ((with_reducible refine gate_callee (f := 41) rfl ?_); refine goesL_ (some 38) rfl rfl Tryd.func41 (by kernel_rfl) rfl #[.agg #[.int .i64 t330, .int .i64 t331, .slice Ao15 t346.length co15, .int .i64 t335, .int .i64 t336, .slice Ao16 t347.length co16, .int .i64 t340, .int .i64 t341], .int .i64 1] rfl (by (try simp only [List.map_toArray, List.map_cons, List.map_nil]); first | done | (rw [show t346.length = t332.length from (Kd.R_reads' HO_344002.out).1.symm, show t347.length = t337.length from (Kd.R_reads' HO_344005.out).1.symm] <;> rfl) | rfl | (simp only [List.length_drop, List.length_take]; rfl)) ?_; (with_reducible refine (laws_heldReport.calls kj4 t330 t331 _ _ t346 t335 t336 _ _ t347 t340 t341 1 t348 _ ?side1 ?side2 ?side3 ?side4 A29.out).mono ?_); (case side1 => repeat (first | exact (Kd.R_reads' HO_344002.out).2.2 | (with_reducible refine Kd.C_alloc ?_ _) | (with_reducible refine Kd.C_drewN ?_ _) | (with_reducible refine Kd.C_drew ?_))); (case side2 => rw [show t346.length = t332.length from (Kd.R_reads' HO_344002.out).1.symm]; exact (Kd.R_reads' HO_344002.out).2.1); (case side3 => repeat (first | exact (Kd.R_reads' HO_344005.out).2.2 | (with_reducible refine Kd.C_alloc ?_ _) | (with_reducible refine Kd.C_drewN ?_ _) | (with_reducible refine Kd.C_drew ?_))); (case side4 => rw [show t347.length = t337.length from (Kd.R_reads' HO_344005.out).1.symm]; exact (Kd.R_reads' HO_344005.out).2.1); rintro e w38 ⟨rfl, hb⟩; refine ⟨_, rfl, ?_⟩; have n0_ := Aside0.mk (Kd.R_below y138_ hb); have n1_ := Aside0.mk (Kd.R_below y139_ hb); have n2_ := Aside0.mk (Kd.R_below y140_ hb); have n3_ := Aside0.mk (Kd.R_below y141_ hb); have n4_ := Aside0.mk (blk_below (g := gb329) (o := .cells #[.int .i64 t316, .int .i64 t317, .slice Ao9 t318.length co9, .int .i64 t321, .int .i64 t322, .slice Ao10 t323.length co10, .int .i64 t326, .int .i64 t327] 28 (0, 0)) y131_ hb); have n5_ := Aside0.mk (blk_below (g := gb343) (o := .cells #[.int .i64 t330, .int .i64 t331, .slice Ao15 t332.length co15, .int .i64 t335, .int .i64 t336, .slice Ao16 t337.length co16, .int .i64 t340, .int .i64 t341] 28 (0, 0)) y136_ hb); have n6_ := Aside0.mk (below_step y124_ hb); clear HO_330002; clear HO_330005; clear HO_344002; clear HO_344005; clear BK329; clear BK343; clear HB; have HO_330002 := n0_; have HO_330005 := n1_; have HO_344002 := n2_; have HO_344005 := n3_; have BK329 := n4_; have BK343 := n5_; have HB := n6_; clear n0_ n1_ n2_ n3_ n4_ n5_ n6_; (try clear hb); (try clear hb2); (try clear hk); (try clear hi)) | ((with_reducible refine gate_callee (f := 11) rfl ?_); refine goesL_ (some 46) rfl rfl Tryd.func11 (by kernel_rfl) rfl #[.string a0] rfl y130_ ?_; (with_reducible refine (impl_ParseReport.calls kj4 a0 t349 t350 t351 t354 t355 t356 t359 t360 t361 _ A32.out (TB_.below y132_)).mono ?_); rintro e w39 ⟨v352, v357, rfl, ho0, ho1, hb⟩; refine ⟨_, rfl, ?_⟩; have n0_ := Aside0.mk (Kd.R_mono (Kd.R_told (Kd.R_told (Kd.R_old y138_ hb) (Kd.R_base ho0)) (Kd.R_base ho1)) (fun _ h_ => h_.1)); have n1_ := Aside0.mk (Kd.R_mono (Kd.R_told (Kd.R_told (Kd.R_old y139_ hb) (Kd.R_base ho0)) (Kd.R_base ho1)) (fun _ h_ => h_.1)); have n2_ := Aside0.mk (Kd.R_mono (Kd.R_told (Kd.R_told (Kd.R_old y140_ hb) (Kd.R_base ho0)) (Kd.R_base ho1)) (fun _ h_ => h_.1)); have n3_ := Aside0.mk (Kd.R_mono (Kd.R_told (Kd.R_told (Kd.R_old y141_ hb) (Kd.R_base ho0)) (Kd.R_base ho1)) (fun _ h_ => h_.1)); have n4_ := Aside0.mk (Kd.R_lower (Kd.R_new' (Kd.R_new' (Kd.R_new' (Kd.R_new' ho0 (Kd.R_lt y138_)) (Kd.R_lt y139_)) (Kd.R_lt y140_)) (Kd.R_lt y141_)) (below_size y124_)); have n5_ := Aside0.mk (Kd.R_lower (Kd.R_new' (Kd.R_new' (Kd.R_new' (Kd.R_new' ho1 (Kd.R_lt y138_)) (Kd.R_lt y139_)) (Kd.R_lt y140_)) (Kd.R_lt y141_)) (below_size y124_)); have n6_ := Aside0.mk (blk_below (g := gb329) (o := .cells #[.int .i64 t316, .int .i64 t317, .slice Ao9 t318.length co9, .int .i64 t321, .int .i64 t322, .slice Ao10 t323.length co10, .int .i64 t326, .int .i64 t327] 28 (0, 0)) y131_ hb); have n7_ := Aside0.mk (blk_below (g := gb343) (o := .cells #[.int .i64 t330, .int .i64 t331, .slice Ao15 t332.length co15, .int .i64 t335, .int .i64 t336, .slice Ao16 t337.length co16, .int .i64 t340, .int .i64 t341] 28 (0, 0)) y136_ hb); have n8_ := Aside0.mk (below_step y124_ hb); clear HO_330002; clear HO_330005; clear HO_344002; clear HO_344005; clear BK329; clear BK343; clear HB; have HO_330002 := n0_; have HO_330005 := n1_; have HO_344002 := n2_; have HO_344005 := n3_; have HO353 := n4_; have HO358 := n5_; have BK329 := n6_; have BK343 := n7_; have HB := n8_; clear n0_ n1_ n2_ n3_ n4_ n5_ n6_ n7_ n8_; (try clear hb); (try clear hb2); (try clear hk); (try clear hi); (try clear ho0); (try clear ho1)) | ((with_reducible refine gate_dst (N := 9) rfl ?_); refine box_event ?hg (N := 9) ?hd (cs := #[.int .i64 0, .int .i64 0, .slice none 0 0, .int .i64 0, .int .i64 0, .slice none 0 0, .int .i64 0, .int .i64 0]) (t := 28) ?hr ?_; (case hd => rfl); (case hg => rfl); (case hr => first | (go_simp; done) | (go_simp; rfl)); intro gb362 hg w40 hbox hb; have n0_ := Aside0.mk (Kd.R_below y138_ hb); have n1_ := Aside0.mk (Kd.R_below y139_ hb); have n2_ := Aside0.mk (Kd.R_below y140_ hb); have n3_ := Aside0.mk (Kd.R_below y141_ hb); have n4_ := Aside0.mk (Kd.R_below (by (with_reducible repeat (first | apply Kd.R_alloc | apply Kd.R_drewN | apply Kd.R_drew)); exact HO353.out) hb); have n5_ := Aside0.mk (Kd.R_below (by (with_reducible repeat (first | apply Kd.R_alloc | apply Kd.R_drewN | apply Kd.R_drew)); exact HO358.out) hb); have n6_ := Aside0.mk (blk_below (g := gb329) (o := .cells #[.int .i64 t316, .int .i64 t317, .slice Ao9 t318.length co9, .int .i64 t321, .int .i64 t322, .slice Ao10 t323.length co10, .int .i64 t326, .int .i64 t327] 28 (0, 0)) y131_ hb); have n7_ := Aside0.mk (blk_below (g := gb343) (o := .cells #[.int .i64 t330, .int .i64 t331, .slice Ao15 t332.length co15, .int .i64 t335, .int .i64 t336, .slice Ao16 t337.length co16, .int .i64 t340, .int .i64 t341] 28 (0, 0)) y136_ hb); have n8_ := Aside0.mk (below_step y124_ hb); have n9_ := Aside0.mk (hbox); have n10_ := Aside0.mk ((by rw [hg]; exact (below_size y124_) : w.heap.size ≤ gb362)); have n11_ := Aside0.mk ((by rw [hg]; exact (below_size y124_) : w.heap.size ≤ gb362)); have n12_ := Aside0.mk ((by rw [hg]; exact Nat.ne_of_lt (blk_lt (g := gb329) (o := .cells #[.int .i64 t316, .int .i64 t317, .slice Ao9 t318.length co9, .int .i64 t321, .int .i64 t322, .slice Ao10 t323.length co10, .int .i64 t326, .int .i64 t327] 28 (0, 0)) y131_) : gb329 ≠ gb362)); have n13_ := Aside0.mk ((by rw [hg]; exact Nat.ne_of_gt (blk_lt (g := gb329) (o := .cells #[.int .i64 t316, .int .i64 t317, .slice Ao9 t318.length co9, .int .i64 t321, .int .i64 t322, .slice Ao10 t323.length co10, .int .i64 t326, .int .i64 t327] 28 (0, 0)) y131_) : gb362 ≠ gb329)); have n14_ := Aside0.mk ((by rw [hg]; exact Nat.ne_of_lt (blk_lt (g := gb343) (o := .cells #[.int .i64 t330, .int .i64 t331, .slice Ao15 t332.length co15, .int .i64 t335, .int .i64 t336, .slice Ao16 t337.length co16, .int .i64 t340, .int .i64 t341] 28 (0, 0)) y136_) : gb343 ≠ gb362)); have n15_ := Aside0.mk ((by rw [hg]; exact Nat.ne_of_gt (blk_lt (g := gb343) (o := .cells #[.int .i64 t330, .int .i64 t331, .slice Ao15 t332.length co15, .int .i64 t335, .int .i64 t336, .slice Ao16 t337.length co16, .int .i64 t340, .int .i64 t341] 28 (0, 0)) y136_) : gb362 ≠ gb343)); clear HO_330002; clear HO_330005; clear HO_344002; clear HO_344005; clear HO353; clear HO358; clear BK329; clear BK343; clear HB; have HO_330002 := n0_; have HO_330005 := n1_; have HO_344002 := n2_; have HO_344005 := n3_; have HO353 := n4_; have HO358 := n5_; have BK329 := n6_; have BK343 := n7_; have HB := n8_; have BK362 := n9_; have GW362 := n10_; have GE362 := n11_; have NB329_362 := n12_; have NB362_329 := n13_; have NB343_362 := n14_; have NB362_343 := n15_; clear n0_ n1_ n2_ n3_ n4_ n5_ n6_ n7_ n8_ n9_ n10_ n11_ n12_ n13_ n14_ n15_; clear hb hbox hg; have hnb41 := NB362_329.out; have hnc41 := NB329_362.out; have hnb42 := NB362_343.out; have hnc42 := NB343_362.out; have hcz43_0 : w40.cell? ⟨gb362, 0, none⟩ = some (.int .i64 0) := (blk_cell BK362.out 0).trans rfl; have hcz43_1 : w40.cell? ⟨gb362, 1, none⟩ = some (.int .i64 0) := (blk_cell BK362.out 1).trans rfl; have hcz43_2 : w40.cell? ⟨gb362, 2, none⟩ = some (.slice none 0 0) := (blk_cell BK362.out 2).trans rfl; have hcz43_3 : w40.cell? ⟨gb362, 3, none⟩ = some (.int .i64 0) := (blk_cell BK362.out 3).trans rfl; have hcz43_4 : w40.cell? ⟨gb362, 4, none⟩ = some (.int .i64 0) := (blk_cell BK362.out 4).trans rfl; have hcz43_5 : w40.cell? ⟨gb362, 5, none⟩ = some (.slice none 0 0) := (blk_cell BK362.out 5).trans rfl; have hcz43_6 : w40.cell? ⟨gb362, 6, none⟩ = some (.int .i64 0) := (blk_cell BK362.out 6).trans rfl; have hcz43_7 : w40.cell? ⟨gb362, 7, none⟩ = some (.int .i64 0) := (blk_cell BK362.out 7).trans rfl; have hfz43_0 := blk_frozen BK362.out 0; have hfz43_1 := blk_frozen BK362.out 1; have hfz43_2 := blk_frozen BK362.out 2; have hfz43_3 := blk_frozen BK362.out 3; have hfz43_4 := blk_frozen BK362.out 4; have hfz43_5 := blk_frozen BK362.out 5; have hfz43_6 := blk_frozen BK362.out 6; have hfz43_7 := blk_frozen BK362.out 7; obtain ⟨Ao44, co44, eo44⟩ := Kd.R_slice HO353.out; subst eo44; obtain ⟨Ao45, co45, eo45⟩ := Kd.R_slice HO358.out; subst eo45))
       (try simp only [Act.put, List.setIfInBounds_toArray, List.set_cons_zero, List.set_cons_succ])
       go_cut [57] (fun v57 wc => ∃ (kq : Nat) (x57_32 : Bool), v57 = .bool x57_32 ∧ Aside0 (laws_FnExactParseReport.j1 kq t345 x57_32 t330 t331 t346 t335 t336 t347 t340 t341 = some true) ∧ Aside0 (kq ≤ kj4) ∧ Aside0 (Kd.R (Kd.int .i64) 3 wc w.heap.size (fun k_ => some k_ ≠ ((.slice Ao10 t323.length co10) : Value).ownBlock ∧ some k_ ≠ ((.slice Ao15 t332.length co15) : Value).ownBlock ∧ some k_ ≠ ((.slice Ao16 t337.length co16) : Value).ownBlock ∧ some k_ ≠ ((.slice Ao44 t351.length co44) : Value).ownBlock ∧ some k_ ≠ ((.slice Ao45 t356.length co45) : Value).ownBlock) (.slice Ao9 t318.length co9) t318) ∧ Aside0 (Kd.R (Kd.int .i64) 3 wc w.heap.size (fun k_ => some k_ ≠ ((.slice Ao9 t318.length co9) : Value).ownBlock ∧ some k_ ≠ ((.slice Ao15 t332.length co15) : Value).ownBlock ∧ some k_ ≠ ((.slice Ao16 t337.length co16) : Value).ownBlock ∧ some k_ ≠ ((.slice Ao44 t351.length co44) : Value).ownBlock ∧ some k_ ≠ ((.slice Ao45 t356.length co45) : Value).ownBlock) (.slice Ao10 t323.length co10) t323) ∧ Aside0 (Kd.R (Kd.int .i64) 3 wc w.heap.size (fun k_ => some k_ ≠ ((.slice Ao9 t318.length co9) : Value).ownBlock ∧ some k_ ≠ ((.slice Ao10 t323.length co10) : Value).ownBlock ∧ some k_ ≠ ((.slice Ao16 t337.length co16) : Value).ownBlock ∧ some k_ ≠ ((.slice Ao44 t351.length co44) : Value).ownBlock ∧ some k_ ≠ ((.slice Ao45 t356.length co45) : Value).ownBlock) (.slice Ao15 t332.length co15) t346) ∧ Aside0 (Kd.R (Kd.int .i64) 3 wc w.heap.size (fun k_ => some k_ ≠ ((.slice Ao9 t318.length co9) : Value).ownBlock ∧ some k_ ≠ ((.slice Ao10 t323.length co10) : Value).ownBlock ∧ some k_ ≠ ((.slice Ao15 t332.length co15) : Value).ownBlock ∧ some k_ ≠ ((.slice Ao44 t351.length co44) : Value).ownBlock ∧ some k_ ≠ ((.slice Ao45 t356.length co45) : Value).ownBlock) (.slice Ao16 t337.length co16) t347) ∧ Aside0 (Kd.R (Kd.int .i64) 3 wc w.heap.size (fun k_ => some k_ ≠ ((.slice Ao9 t318.length co9) : Value).ownBlock ∧ some k_ ≠ ((.slice Ao10 t323.length co10) : Value).ownBlock ∧ some k_ ≠ ((.slice Ao15 t332.length co15) : Value).ownBlock ∧ some k_ ≠ ((.slice Ao16 t337.length co16) : Value).ownBlock ∧ some k_ ≠ ((.slice Ao45 t356.length co45) : Value).ownBlock) (.slice Ao44 t351.length co44) t351) ∧ Aside0 (Kd.R (Kd.int .i64) 3 wc w.heap.size (fun k_ => some k_ ≠ ((.slice Ao9 t318.length co9) : Value).ownBlock ∧ some k_ ≠ ((.slice Ao10 t323.length co10) : Value).ownBlock ∧ some k_ ≠ ((.slice Ao15 t332.length co15) : Value).ownBlock ∧ some k_ ≠ ((.slice Ao16 t337.length co16) : Value).ownBlock ∧ some k_ ≠ ((.slice Ao44 t351.length co44) : Value).ownBlock) (.slice Ao45 t356.length co45) t356) ∧ Aside0 (wc.heap[gb329]? = some (.cells #[.int .i64 t316, .int .i64 t317, (.slice Ao9 t318.length co9), .int .i64 t321, .int .i64 t322, (.slice Ao10 t323.length co10), .int .i64 t326, .int .i64 t327] 28 (0, 0))) ∧ Aside0 (wc.heap[gb343]? = some (.cells #[.int .i64 t330, .int .i64 t331, (.slice Ao15 t332.length co15), .int .i64 t335, .int .i64 t336, (.slice Ao16 t337.length co16), .int .i64 t340, .int .i64 t341] 28 (0, 0))) ∧ Aside0 (wc.heap[gb362]? = some (.cells #[.int .i64 t349, .int .i64 t350, (.slice Ao44 t351.length co44), .int .i64 t354, .int .i64 t355, (.slice Ao45 t356.length co45), .int .i64 t359, .int .i64 t360] 28 (0, 0))) ∧ Aside0 (Below w.heap.size w wc))
       case first =>
        have H := HC33.out
        clear HC33
        replace H := Option.bind_eq_some_iff.mp H
        obtain ⟨t363, A460, H⟩ := H
        replace H : (if t363 = true then (laws_FnExactParseReport.j1 kj4 t345 (t361 != t328) t330 t331 t346 t335 t336 t347 t340 t341) else (laws_FnExactParseReport.j1 kj4 t345 true t330 t331 t346 t335 t336 t347 t340 t341)) = some true := H
        have A46 := Aside0.mk A460
        clear A460
        by_cases c47 : t363 = true
        ·
         subst c47
         have H1 : (laws_FnExactParseReport.j1 kj4 t345 (t361 != t328) t330 t331 t346 t335 t336 t347 t340 t341) = some true := by rw [if_pos rfl] at H; exact H
         clear H
         have H := H1
         clear H1
         have H' := Aside0.mk H
         clear H
         have hnb48 := NB362_329.out
         have hnc48 := NB329_362.out
         have hnb49 := NB362_343.out
         have hnc49 := NB343_362.out
         have hcz50_0 : w40.cell? ⟨gb362, 0, none⟩ = some (.int .i64 0) := (blk_cell BK362.out 0).trans rfl
         have hcz50_1 : w40.cell? ⟨gb362, 1, none⟩ = some (.int .i64 0) := (blk_cell BK362.out 1).trans rfl
         have hcz50_2 : w40.cell? ⟨gb362, 2, none⟩ = some (.slice none 0 0) := (blk_cell BK362.out 2).trans rfl
         have hcz50_3 : w40.cell? ⟨gb362, 3, none⟩ = some (.int .i64 0) := (blk_cell BK362.out 3).trans rfl
         have hcz50_4 : w40.cell? ⟨gb362, 4, none⟩ = some (.int .i64 0) := (blk_cell BK362.out 4).trans rfl
         have hcz50_5 : w40.cell? ⟨gb362, 5, none⟩ = some (.slice none 0 0) := (blk_cell BK362.out 5).trans rfl
         have hcz50_6 : w40.cell? ⟨gb362, 6, none⟩ = some (.int .i64 0) := (blk_cell BK362.out 6).trans rfl
         have hcz50_7 : w40.cell? ⟨gb362, 7, none⟩ = some (.int .i64 0) := (blk_cell BK362.out 7).trans rfl
         have hfz50_0 := blk_frozen BK362.out 0
         have hfz50_1 := blk_frozen BK362.out 1
         have hfz50_2 := blk_frozen BK362.out 2
         have hfz50_3 := blk_frozen BK362.out 3
         have hfz50_4 := blk_frozen BK362.out 4
         have hfz50_5 := blk_frozen BK362.out 5
         have hfz50_6 := blk_frozen BK362.out 6
         have hfz50_7 := blk_frozen BK362.out 7
         have hnb51 := NB329_343.out
         have hnc51 := NB343_329.out
         have hcz52_0 : w40.cell? ⟨gb329, 0, none⟩ = some (.int .i64 t316) := (blk_cell BK329.out 0).trans rfl
         have hcz52_1 : w40.cell? ⟨gb329, 1, none⟩ = some (.int .i64 t317) := (blk_cell BK329.out 1).trans rfl
         have hcz52_2 : w40.cell? ⟨gb329, 2, none⟩ = some (.slice Ao9 t318.length co9) := (blk_cell BK329.out 2).trans rfl
         have hcz52_3 : w40.cell? ⟨gb329, 3, none⟩ = some (.int .i64 t321) := (blk_cell BK329.out 3).trans rfl
         have hcz52_4 : w40.cell? ⟨gb329, 4, none⟩ = some (.int .i64 t322) := (blk_cell BK329.out 4).trans rfl
         have hcz52_5 : w40.cell? ⟨gb329, 5, none⟩ = some (.slice Ao10 t323.length co10) := (blk_cell BK329.out 5).trans rfl
         have hcz52_6 : w40.cell? ⟨gb329, 6, none⟩ = some (.int .i64 t326) := (blk_cell BK329.out 6).trans rfl
         have hcz52_7 : w40.cell? ⟨gb329, 7, none⟩ = some (.int .i64 t327) := (blk_cell BK329.out 7).trans rfl
         have hfz52_0 := blk_frozen BK329.out 0
         have hfz52_1 := blk_frozen BK329.out 1
         have hfz52_2 := blk_frozen BK329.out 2
         have hfz52_3 := blk_frozen BK329.out 3
         have hfz52_4 := blk_frozen BK329.out 4
         have hfz52_5 := blk_frozen BK329.out 5
         have hfz52_6 := blk_frozen BK329.out 6
         have hfz52_7 := blk_frozen BK329.out 7
         go_wp2_with (first | ((with_reducible refine gate_callee (f := 38) rfl ?_); refine goesL_ (some 51) rfl rfl Tryd.func38 (by kernel_rfl) rfl #[.agg #[.int .i64 t349, .int .i64 t350, .slice Ao44 t351.length co44, .int .i64 t354, .int .i64 t355, .slice Ao45 t356.length co45, .int .i64 t359, .int .i64 t360], .agg #[.int .i64 t316, .int .i64 t317, .slice Ao9 t318.length co9, .int .i64 t321, .int .i64 t322, .slice Ao10 t323.length co10, .int .i64 t326, .int .i64 t327]] rfl y130_ ?_; (with_reducible refine (laws_eqReport.calls kj4 t349 t350 _ _ t351 t354 t355 _ _ t356 t359 t360 t316 t317 _ _ t318 t321 t322 _ _ t323 t326 t327 true _ ?side1 ?side2 ?side3 ?side4 ?side5 ?side6 ?side7 ?side8 A46.out).mono ?_); (case side1 => refine (Kd.R_reads' (e := 3) (base := w.heap.size) (ok := fun k_ => ((((some k_ ≠ (.slice Ao45 t356.length co45 : Value).ownBlock ∧ some k_ ≠ (.slice Ao9 t318.length co9 : Value).ownBlock) ∧ some k_ ≠ (.slice Ao10 t323.length co10 : Value).ownBlock) ∧ some k_ ≠ (.slice Ao15 t332.length co15 : Value).ownBlock) ∧ some k_ ≠ (.slice Ao16 t337.length co16 : Value).ownBlock)) (n := t351.length) (c := co44) ?_).2.2; exact y120_); (case side2 => exact (Kd.R_reads' HO353.out).2.1); (case side3 => refine (Kd.R_reads' (e := 3) (base := w.heap.size) (ok := fun k_ => ((((some k_ ≠ (.slice Ao44 t351.length co44 : Value).ownBlock ∧ some k_ ≠ (.slice Ao9 t318.length co9 : Value).ownBlock) ∧ some k_ ≠ (.slice Ao10 t323.length co10 : Value).ownBlock) ∧ some k_ ≠ (.slice Ao15 t332.length co15 : Value).ownBlock) ∧ some k_ ≠ (.slice Ao16 t337.length co16 : Value).ownBlock)) (n := t356.length) (c := co45) ?_).2.2; exact y121_); (case side4 => exact (Kd.R_reads' HO358.out).2.1); (case side5 => refine (Kd.R_reads' (e := 3) (base := w.heap.size) (ok := fun k_ => (((some k_ ≠ (.slice Ao10 t323.length co10 : Value).ownBlock ∧ (some k_ ≠ (.slice Ao15 t332.length co15 : Value).ownBlock ∧ some k_ ≠ (.slice Ao16 t337.length co16 : Value).ownBlock)) ∧ some k_ ≠ (.slice Ao44 t351.length co44 : Value).ownBlock) ∧ some k_ ≠ (.slice Ao45 t356.length co45 : Value).ownBlock)) (n := t318.length) (c := co9) ?_).2.2; exact y114_); (case side6 => exact (Kd.R_reads' HO_330002.out).2.1); (case side7 => refine (Kd.R_reads' (e := 3) (base := w.heap.size) (ok := fun k_ => (((some k_ ≠ (.slice Ao9 t318.length co9 : Value).ownBlock ∧ (some k_ ≠ (.slice Ao15 t332.length co15 : Value).ownBlock ∧ some k_ ≠ (.slice Ao16 t337.length co16 : Value).ownBlock)) ∧ some k_ ≠ (.slice Ao44 t351.length co44 : Value).ownBlock) ∧ some k_ ≠ (.slice Ao45 t356.length co45 : Value).ownBlock)) (n := t323.length) (c := co10) ?_).2.2; exact y115_); (case side8 => exact (Kd.R_reads' HO_330005.out).2.1); rintro e w53 ⟨rfl, hb⟩; refine ⟨_, rfl, ?_⟩; have n0_ := Aside0.mk (Kd.R_below y114_ hb); have n1_ := Aside0.mk (Kd.R_below y115_ hb); have n2_ := Aside0.mk (Kd.R_below y134_ hb); have n3_ := Aside0.mk (Kd.R_below y135_ hb); have n4_ := Aside0.mk (Kd.R_below y120_ hb); have n5_ := Aside0.mk (Kd.R_below y121_ hb); have n6_ := Aside0.mk (blk_below (g := gb329) (o := .cells #[.int .i64 t316, .int .i64 t317, .slice Ao9 t318.length co9, .int .i64 t321, .int .i64 t322, .slice Ao10 t323.length co10, .int .i64 t326, .int .i64 t327] 28 (0, 0)) y128_ hb); have n7_ := Aside0.mk (blk_below (g := gb343) (o := .cells #[.int .i64 t330, .int .i64 t331, .slice Ao15 t332.length co15, .int .i64 t335, .int .i64 t336, .slice Ao16 t337.length co16, .int .i64 t340, .int .i64 t341] 28 (0, 0)) y129_ hb); have n8_ := Aside0.mk (blk_below (g := gb362) (o := .cells #[.int .i64 t349, .int .i64 t350, .slice Ao44 t351.length co44, .int .i64 t354, .int .i64 t355, .slice Ao45 t356.length co45, .int .i64 t359, .int .i64 t360] 28 (0, 0)) y123_ hb); have n9_ := Aside0.mk (below_step y132_ hb); clear HO_330002; clear HO_330005; clear HO_344002; clear HO_344005; clear HO353; clear HO358; clear BK329; clear BK343; clear BK362; clear HB; have HO_330002 := n0_; have HO_330005 := n1_; have HO_344002 := n2_; have HO_344005 := n3_; have HO353 := n4_; have HO358 := n5_; have BK329 := n6_; have BK343 := n7_; have BK362 := n8_; have HB := n9_; clear n0_ n1_ n2_ n3_ n4_ n5_ n6_ n7_ n8_ n9_; (try clear hb); (try clear hb2); (try clear hk); (try clear hi)))
         go_meet
         case rel => exact ⟨_, ((t361 != t328)), (by first | rfl | (simp; done) | (simp [*]; done)), H', ⟨by have := HJ4.out; first | omega | exact Nat.le_refl _⟩, ⟨by (with_reducible repeat (first | apply Kd.R_alloc | apply Kd.R_drewN | apply Kd.R_drew)); exact Kd.R_mono HO_330002.out (fun _ hk => ⟨hk.1.1.1, ⟨hk.1.1.2.1, ⟨hk.1.1.2.2, ⟨hk.1.2, hk.2⟩⟩⟩⟩)⟩, ⟨by (with_reducible repeat (first | apply Kd.R_alloc | apply Kd.R_drewN | apply Kd.R_drew)); exact Kd.R_mono HO_330005.out (fun _ hk => ⟨hk.1.1.1, ⟨hk.1.1.2.1, ⟨hk.1.1.2.2, ⟨hk.1.2, hk.2⟩⟩⟩⟩)⟩, ⟨by (with_reducible repeat (first | apply Kd.R_alloc | apply Kd.R_drewN | apply Kd.R_drew)); exact Kd.R_mono HO_344002.out (fun _ hk => ⟨hk.1.1.1, ⟨hk.1.1.2.1, ⟨hk.1.1.2.2, ⟨hk.1.2, hk.2⟩⟩⟩⟩)⟩, ⟨by (with_reducible repeat (first | apply Kd.R_alloc | apply Kd.R_drewN | apply Kd.R_drew)); exact Kd.R_mono HO_344005.out (fun _ hk => ⟨hk.1.1.1, ⟨hk.1.1.2.1, ⟨hk.1.1.2.2, ⟨hk.1.2, hk.2⟩⟩⟩⟩)⟩, ⟨by (with_reducible repeat (first | apply Kd.R_alloc | apply Kd.R_drewN | apply Kd.R_drew)); exact Kd.R_mono HO353.out (fun _ hk => ⟨hk.1.1.1.2, ⟨hk.1.1.2, ⟨hk.1.2, ⟨hk.2, hk.1.1.1.1⟩⟩⟩⟩)⟩, ⟨by (with_reducible repeat (first | apply Kd.R_alloc | apply Kd.R_drewN | apply Kd.R_drew)); exact Kd.R_mono HO358.out (fun _ hk => ⟨hk.1.1.1.2, ⟨hk.1.1.2, ⟨hk.1.2, ⟨hk.2, hk.1.1.1.1⟩⟩⟩⟩)⟩, ⟨by (with_reducible repeat (first | refine blk_drewN ?_ _ | refine blk_drew ?_ | refine blk_alloc ?_ _)); exact BK329.out⟩, ⟨by (with_reducible repeat (first | refine blk_drewN ?_ _ | refine blk_drew ?_ | refine blk_alloc ?_ _)); exact BK343.out⟩, ⟨by (with_reducible repeat (first | refine blk_drewN ?_ _ | refine blk_drew ?_ | refine blk_alloc ?_ _)); exact BK362.out⟩, ⟨y142_⟩⟩
        ·
         replace c47 := Bool.eq_false_iff.mpr c47
         subst c47
         have H1 : (laws_FnExactParseReport.j1 kj4 t345 true t330 t331 t346 t335 t336 t347 t340 t341) = some true := by rw [if_neg (show ¬ (false = true) by decide)] at H; exact H
         clear H
         have H := H1
         clear H1
         have H' := Aside0.mk H
         clear H
         have hnb54 := NB362_329.out
         have hnc54 := NB329_362.out
         have hnb55 := NB362_343.out
         have hnc55 := NB343_362.out
         have hcz56_0 : w40.cell? ⟨gb362, 0, none⟩ = some (.int .i64 0) := (blk_cell BK362.out 0).trans rfl
         have hcz56_1 : w40.cell? ⟨gb362, 1, none⟩ = some (.int .i64 0) := (blk_cell BK362.out 1).trans rfl
         have hcz56_2 : w40.cell? ⟨gb362, 2, none⟩ = some (.slice none 0 0) := (blk_cell BK362.out 2).trans rfl
         have hcz56_3 : w40.cell? ⟨gb362, 3, none⟩ = some (.int .i64 0) := (blk_cell BK362.out 3).trans rfl
         have hcz56_4 : w40.cell? ⟨gb362, 4, none⟩ = some (.int .i64 0) := (blk_cell BK362.out 4).trans rfl
         have hcz56_5 : w40.cell? ⟨gb362, 5, none⟩ = some (.slice none 0 0) := (blk_cell BK362.out 5).trans rfl
         have hcz56_6 : w40.cell? ⟨gb362, 6, none⟩ = some (.int .i64 0) := (blk_cell BK362.out 6).trans rfl
         have hcz56_7 : w40.cell? ⟨gb362, 7, none⟩ = some (.int .i64 0) := (blk_cell BK362.out 7).trans rfl
         have hfz56_0 := blk_frozen BK362.out 0
         have hfz56_1 := blk_frozen BK362.out 1
         have hfz56_2 := blk_frozen BK362.out 2
         have hfz56_3 := blk_frozen BK362.out 3
         have hfz56_4 := blk_frozen BK362.out 4
         have hfz56_5 := blk_frozen BK362.out 5
         have hfz56_6 := blk_frozen BK362.out 6
         have hfz56_7 := blk_frozen BK362.out 7
         have hnb57 := NB329_343.out
         have hnc57 := NB343_329.out
         have hcz58_0 : w40.cell? ⟨gb329, 0, none⟩ = some (.int .i64 t316) := (blk_cell BK329.out 0).trans rfl
         have hcz58_1 : w40.cell? ⟨gb329, 1, none⟩ = some (.int .i64 t317) := (blk_cell BK329.out 1).trans rfl
         have hcz58_2 : w40.cell? ⟨gb329, 2, none⟩ = some (.slice Ao9 t318.length co9) := (blk_cell BK329.out 2).trans rfl
         have hcz58_3 : w40.cell? ⟨gb329, 3, none⟩ = some (.int .i64 t321) := (blk_cell BK329.out 3).trans rfl
         have hcz58_4 : w40.cell? ⟨gb329, 4, none⟩ = some (.int .i64 t322) := (blk_cell BK329.out 4).trans rfl
         have hcz58_5 : w40.cell? ⟨gb329, 5, none⟩ = some (.slice Ao10 t323.length co10) := (blk_cell BK329.out 5).trans rfl
         have hcz58_6 : w40.cell? ⟨gb329, 6, none⟩ = some (.int .i64 t326) := (blk_cell BK329.out 6).trans rfl
         have hcz58_7 : w40.cell? ⟨gb329, 7, none⟩ = some (.int .i64 t327) := (blk_cell BK329.out 7).trans rfl
         have hfz58_0 := blk_frozen BK329.out 0
         have hfz58_1 := blk_frozen BK329.out 1
         have hfz58_2 := blk_frozen BK329.out 2
         have hfz58_3 := blk_frozen BK329.out 3
         have hfz58_4 := blk_frozen BK329.out 4
         have hfz58_5 := blk_frozen BK329.out 5
         have hfz58_6 := blk_frozen BK329.out 6
         have hfz58_7 := blk_frozen BK329.out 7
         go_wp2_with (first | ((with_reducible refine gate_callee (f := 38) rfl ?_); refine goesL_ (some 51) rfl rfl Tryd.func38 (by kernel_rfl) rfl #[.agg #[.int .i64 t349, .int .i64 t350, .slice Ao44 t351.length co44, .int .i64 t354, .int .i64 t355, .slice Ao45 t356.length co45, .int .i64 t359, .int .i64 t360], .agg #[.int .i64 t316, .int .i64 t317, .slice Ao9 t318.length co9, .int .i64 t321, .int .i64 t322, .slice Ao10 t323.length co10, .int .i64 t326, .int .i64 t327]] rfl y130_ ?_; (with_reducible refine (laws_eqReport.calls kj4 t349 t350 _ _ t351 t354 t355 _ _ t356 t359 t360 t316 t317 _ _ t318 t321 t322 _ _ t323 t326 t327 false _ ?side1 ?side2 ?side3 ?side4 ?side5 ?side6 ?side7 ?side8 A46.out).mono ?_); (case side1 => refine (Kd.R_reads' (e := 3) (base := w.heap.size) (ok := fun k_ => ((((some k_ ≠ (.slice Ao45 t356.length co45 : Value).ownBlock ∧ some k_ ≠ (.slice Ao9 t318.length co9 : Value).ownBlock) ∧ some k_ ≠ (.slice Ao10 t323.length co10 : Value).ownBlock) ∧ some k_ ≠ (.slice Ao15 t332.length co15 : Value).ownBlock) ∧ some k_ ≠ (.slice Ao16 t337.length co16 : Value).ownBlock)) (n := t351.length) (c := co44) ?_).2.2; exact y120_); (case side2 => exact (Kd.R_reads' HO353.out).2.1); (case side3 => refine (Kd.R_reads' (e := 3) (base := w.heap.size) (ok := fun k_ => ((((some k_ ≠ (.slice Ao44 t351.length co44 : Value).ownBlock ∧ some k_ ≠ (.slice Ao9 t318.length co9 : Value).ownBlock) ∧ some k_ ≠ (.slice Ao10 t323.length co10 : Value).ownBlock) ∧ some k_ ≠ (.slice Ao15 t332.length co15 : Value).ownBlock) ∧ some k_ ≠ (.slice Ao16 t337.length co16 : Value).ownBlock)) (n := t356.length) (c := co45) ?_).2.2; exact y121_); (case side4 => exact (Kd.R_reads' HO358.out).2.1); (case side5 => refine (Kd.R_reads' (e := 3) (base := w.heap.size) (ok := fun k_ => (((some k_ ≠ (.slice Ao10 t323.length co10 : Value).ownBlock ∧ (some k_ ≠ (.slice Ao15 t332.length co15 : Value).ownBlock ∧ some k_ ≠ (.slice Ao16 t337.length co16 : Value).ownBlock)) ∧ some k_ ≠ (.slice Ao44 t351.length co44 : Value).ownBlock) ∧ some k_ ≠ (.slice Ao45 t356.length co45 : Value).ownBlock)) (n := t318.length) (c := co9) ?_).2.2; exact y114_); (case side6 => exact (Kd.R_reads' HO_330002.out).2.1); (case side7 => refine (Kd.R_reads' (e := 3) (base := w.heap.size) (ok := fun k_ => (((some k_ ≠ (.slice Ao9 t318.length co9 : Value).ownBlock ∧ (some k_ ≠ (.slice Ao15 t332.length co15 : Value).ownBlock ∧ some k_ ≠ (.slice Ao16 t337.length co16 : Value).ownBlock)) ∧ some k_ ≠ (.slice Ao44 t351.length co44 : Value).ownBlock) ∧ some k_ ≠ (.slice Ao45 t356.length co45 : Value).ownBlock)) (n := t323.length) (c := co10) ?_).2.2; exact y115_); (case side8 => exact (Kd.R_reads' HO_330005.out).2.1); rintro e w59 ⟨rfl, hb⟩; refine ⟨_, rfl, ?_⟩; have n0_ := Aside0.mk (Kd.R_below y114_ hb); have n1_ := Aside0.mk (Kd.R_below y115_ hb); have n2_ := Aside0.mk (Kd.R_below y134_ hb); have n3_ := Aside0.mk (Kd.R_below y135_ hb); have n4_ := Aside0.mk (Kd.R_below y120_ hb); have n5_ := Aside0.mk (Kd.R_below y121_ hb); have n6_ := Aside0.mk (blk_below (g := gb329) (o := .cells #[.int .i64 t316, .int .i64 t317, .slice Ao9 t318.length co9, .int .i64 t321, .int .i64 t322, .slice Ao10 t323.length co10, .int .i64 t326, .int .i64 t327] 28 (0, 0)) y128_ hb); have n7_ := Aside0.mk (blk_below (g := gb343) (o := .cells #[.int .i64 t330, .int .i64 t331, .slice Ao15 t332.length co15, .int .i64 t335, .int .i64 t336, .slice Ao16 t337.length co16, .int .i64 t340, .int .i64 t341] 28 (0, 0)) y129_ hb); have n8_ := Aside0.mk (blk_below (g := gb362) (o := .cells #[.int .i64 t349, .int .i64 t350, .slice Ao44 t351.length co44, .int .i64 t354, .int .i64 t355, .slice Ao45 t356.length co45, .int .i64 t359, .int .i64 t360] 28 (0, 0)) y123_ hb); have n9_ := Aside0.mk (below_step y132_ hb); clear HO_330002; clear HO_330005; clear HO_344002; clear HO_344005; clear HO353; clear HO358; clear BK329; clear BK343; clear BK362; clear HB; have HO_330002 := n0_; have HO_330005 := n1_; have HO_344002 := n2_; have HO_344005 := n3_; have HO353 := n4_; have HO358 := n5_; have BK329 := n6_; have BK343 := n7_; have BK362 := n8_; have HB := n9_; clear n0_ n1_ n2_ n3_ n4_ n5_ n6_ n7_ n8_ n9_; (try clear hb); (try clear hb2); (try clear hk); (try clear hi)))
         go_meet
         case rel => exact ⟨_, (true), (by first | rfl | (simp; done) | (simp [*]; done)), H', ⟨by have := HJ4.out; first | omega | exact Nat.le_refl _⟩, ⟨by (with_reducible repeat (first | apply Kd.R_alloc | apply Kd.R_drewN | apply Kd.R_drew)); exact Kd.R_mono HO_330002.out (fun _ hk => ⟨hk.1.1.1, ⟨hk.1.1.2.1, ⟨hk.1.1.2.2, ⟨hk.1.2, hk.2⟩⟩⟩⟩)⟩, ⟨by (with_reducible repeat (first | apply Kd.R_alloc | apply Kd.R_drewN | apply Kd.R_drew)); exact Kd.R_mono HO_330005.out (fun _ hk => ⟨hk.1.1.1, ⟨hk.1.1.2.1, ⟨hk.1.1.2.2, ⟨hk.1.2, hk.2⟩⟩⟩⟩)⟩, ⟨by (with_reducible repeat (first | apply Kd.R_alloc | apply Kd.R_drewN | apply Kd.R_drew)); exact Kd.R_mono HO_344002.out (fun _ hk => ⟨hk.1.1.1, ⟨hk.1.1.2.1, ⟨hk.1.1.2.2, ⟨hk.1.2, hk.2⟩⟩⟩⟩)⟩, ⟨by (with_reducible repeat (first | apply Kd.R_alloc | apply Kd.R_drewN | apply Kd.R_drew)); exact Kd.R_mono HO_344005.out (fun _ hk => ⟨hk.1.1.1, ⟨hk.1.1.2.1, ⟨hk.1.1.2.2, ⟨hk.1.2, hk.2⟩⟩⟩⟩)⟩, ⟨by (with_reducible repeat (first | apply Kd.R_alloc | apply Kd.R_drewN | apply Kd.R_drew)); exact Kd.R_mono HO353.out (fun _ hk => ⟨hk.1.1.1.2, ⟨hk.1.1.2, ⟨hk.1.2, ⟨hk.2, hk.1.1.1.1⟩⟩⟩⟩)⟩, ⟨by (with_reducible repeat (first | apply Kd.R_alloc | apply Kd.R_drewN | apply Kd.R_drew)); exact Kd.R_mono HO358.out (fun _ hk => ⟨hk.1.1.1.2, ⟨hk.1.1.2, ⟨hk.1.2, ⟨hk.2, hk.1.1.1.1⟩⟩⟩⟩)⟩, ⟨by (with_reducible repeat (first | refine blk_drewN ?_ _ | refine blk_drew ?_ | refine blk_alloc ?_ _)); exact BK329.out⟩, ⟨by (with_reducible repeat (first | refine blk_drewN ?_ _ | refine blk_drew ?_ | refine blk_alloc ?_ _)); exact BK343.out⟩, ⟨by (with_reducible repeat (first | refine blk_drewN ?_ _ | refine blk_drew ?_ | refine blk_alloc ?_ _)); exact BK362.out⟩, ⟨y142_⟩⟩
       case rest =>
        clear HC33
        try clear c1
        try clear c2
        try clear c2b0
        try clear c2b1
        try clear p2
        try clear c3
        try clear c4
        try clear c5
        try clear c8
        try clear c11
        try clear c13
        try clear c18
        try clear c19
        try clear c23
        try clear c27
        try clear c30
        try clear c30b0
        try clear c31
        try clear c31b0
        try clear c31b1
        try clear c34
        try clear c38
        try clear c39
        try clear c40
        try clear c41
        try clear c42
        try clear c47
        try clear c48
        try clear c49
        try clear c51
        try clear c54
        try clear c55
        try clear c57
        try clear hcz14_0
        try clear hcz14_1
        try clear hcz14_2
        try clear hcz14_3
        try clear hcz14_4
        try clear hcz14_5
        try clear hcz14_6
        try clear hcz14_7
        try clear hcz20_0
        try clear hcz20_1
        try clear hcz20_2
        try clear hcz20_3
        try clear hcz20_4
        try clear hcz20_5
        try clear hcz20_6
        try clear hcz20_7
        try clear hcz21_0
        try clear hcz21_1
        try clear hcz21_2
        try clear hcz21_3
        try clear hcz21_4
        try clear hcz21_5
        try clear hcz21_6
        try clear hcz21_7
        try clear hcz24_0
        try clear hcz24_1
        try clear hcz24_2
        try clear hcz24_3
        try clear hcz24_4
        try clear hcz24_5
        try clear hcz24_6
        try clear hcz24_7
        try clear hcz25_0
        try clear hcz25_1
        try clear hcz25_2
        try clear hcz25_3
        try clear hcz25_4
        try clear hcz25_5
        try clear hcz25_6
        try clear hcz25_7
        try clear hcz35_0
        try clear hcz35_1
        try clear hcz35_2
        try clear hcz35_3
        try clear hcz35_4
        try clear hcz35_5
        try clear hcz35_6
        try clear hcz35_7
        try clear hcz37_0
        try clear hcz37_1
        try clear hcz37_2
        try clear hcz37_3
        try clear hcz37_4
        try clear hcz37_5
        try clear hcz37_6
        try clear hcz37_7
        try clear hcz43_0
        try clear hcz43_1
        try clear hcz43_2
        try clear hcz43_3
        try clear hcz43_4
        try clear hcz43_5
        try clear hcz43_6
        try clear hcz43_7
        try clear hcz50_0
        try clear hcz50_1
        try clear hcz50_2
        try clear hcz50_3
        try clear hcz50_4
        try clear hcz50_5
        try clear hcz50_6
        try clear hcz50_7
        try clear hcz52_0
        try clear hcz52_1
        try clear hcz52_2
        try clear hcz52_3
        try clear hcz52_4
        try clear hcz52_5
        try clear hcz52_6
        try clear hcz52_7
        try clear hcz56_0
        try clear hcz56_1
        try clear hcz56_2
        try clear hcz56_3
        try clear hcz56_4
        try clear hcz56_5
        try clear hcz56_6
        try clear hcz56_7
        try clear hcz58_0
        try clear hcz58_1
        try clear hcz58_2
        try clear hcz58_3
        try clear hcz58_4
        try clear hcz58_5
        try clear hcz58_6
        try clear hcz58_7
        try clear hcz8_0
        try clear hcz8_1
        try clear hcz8_2
        try clear hcz8_3
        try clear hcz8_4
        try clear hcz8_5
        try clear hcz8_6
        try clear hcz8_7
        try clear hfz14_0
        try clear hfz14_1
        try clear hfz14_2
        try clear hfz14_3
        try clear hfz14_4
        try clear hfz14_5
        try clear hfz14_6
        try clear hfz14_7
        try clear hfz20_0
        try clear hfz20_1
        try clear hfz20_2
        try clear hfz20_3
        try clear hfz20_4
        try clear hfz20_5
        try clear hfz20_6
        try clear hfz20_7
        try clear hfz21_0
        try clear hfz21_1
        try clear hfz21_2
        try clear hfz21_3
        try clear hfz21_4
        try clear hfz21_5
        try clear hfz21_6
        try clear hfz21_7
        try clear hfz24_0
        try clear hfz24_1
        try clear hfz24_2
        try clear hfz24_3
        try clear hfz24_4
        try clear hfz24_5
        try clear hfz24_6
        try clear hfz24_7
        try clear hfz25_0
        try clear hfz25_1
        try clear hfz25_2
        try clear hfz25_3
        try clear hfz25_4
        try clear hfz25_5
        try clear hfz25_6
        try clear hfz25_7
        try clear hfz35_0
        try clear hfz35_1
        try clear hfz35_2
        try clear hfz35_3
        try clear hfz35_4
        try clear hfz35_5
        try clear hfz35_6
        try clear hfz35_7
        try clear hfz37_0
        try clear hfz37_1
        try clear hfz37_2
        try clear hfz37_3
        try clear hfz37_4
        try clear hfz37_5
        try clear hfz37_6
        try clear hfz37_7
        try clear hfz43_0
        try clear hfz43_1
        try clear hfz43_2
        try clear hfz43_3
        try clear hfz43_4
        try clear hfz43_5
        try clear hfz43_6
        try clear hfz43_7
        try clear hfz50_0
        try clear hfz50_1
        try clear hfz50_2
        try clear hfz50_3
        try clear hfz50_4
        try clear hfz50_5
        try clear hfz50_6
        try clear hfz50_7
        try clear hfz52_0
        try clear hfz52_1
        try clear hfz52_2
        try clear hfz52_3
        try clear hfz52_4
        try clear hfz52_5
        try clear hfz52_6
        try clear hfz52_7
        try clear hfz56_0
        try clear hfz56_1
        try clear hfz56_2
        try clear hfz56_3
        try clear hfz56_4
        try clear hfz56_5
        try clear hfz56_6
        try clear hfz56_7
        try clear hfz58_0
        try clear hfz58_1
        try clear hfz58_2
        try clear hfz58_3
        try clear hfz58_4
        try clear hfz58_5
        try clear hfz58_6
        try clear hfz58_7
        try clear hfz8_0
        try clear hfz8_1
        try clear hfz8_2
        try clear hfz8_3
        try clear hfz8_4
        try clear hfz8_5
        try clear hfz8_6
        try clear hfz8_7
        try clear p2
        obtain ⟨kq, x57_32, rfl, HA, HJ32, HO_330002, HO_330005, HO_344002, HO_344005, HO_363002, HO_363005, BK329, BK343, BK362, HB⟩ := hcut
        have hl344002_32 := (Kd.R_reads' HO_344002.out).1
        rw [hl344002_32] at HO_344002
        (try simp only [hl344002_32])
        (try simp only [hl344002_32] at BK329)
        (try simp only [hl344002_32] at BK343)
        (try simp only [hl344002_32] at BK362)
        (try simp only [hl344002_32] at HO_330002)
        (try simp only [hl344002_32] at HO_330005)
        (try simp only [hl344002_32] at HO_344005)
        (try simp only [hl344002_32] at HO_363002)
        (try simp only [hl344002_32] at HO_363005)
        have hl344005_32 := (Kd.R_reads' HO_344005.out).1
        rw [hl344005_32] at HO_344005
        (try simp only [hl344005_32])
        (try simp only [hl344005_32] at BK329)
        (try simp only [hl344005_32] at BK343)
        (try simp only [hl344005_32] at BK362)
        (try simp only [hl344005_32] at HO_330002)
        (try simp only [hl344005_32] at HO_330005)
        (try simp only [hl344005_32] at HO_344002)
        (try simp only [hl344005_32] at HO_363002)
        (try simp only [hl344005_32] at HO_363005)
        cases kq with
        | zero => exact absurd HA.out (by simp [laws_FnExactParseReport.j1])
        | succ kj32 =>
         have H := HA.out
         clear HA
         simp only [laws_FnExactParseReport.j1] at H
         by_cases c60 : x57_32 = true
         ·
          subst c60
          have H1 : (some false) = some true := by rw [if_pos rfl] at H; exact H
          clear H
          have H := H1
          clear H1
          exact absurd H (by simp)
         ·
          replace c60 := Bool.eq_false_iff.mpr c60
          subst c60
          have H1 : ((laws_heldReport.f kj32 t330 t331 t346 t335 t336 t347 t340 t341 1).bind fun t364 => (if t364 < 0 then (some false) else (if t364 = t345 then (some true) else (some false)))) = some true := by rw [if_neg (show ¬ (false = true) by decide)] at H; exact H
          clear H
          have H := H1
          clear H1
          replace H := Option.bind_eq_some_iff.mp H
          obtain ⟨t364, A610, H⟩ := H
          replace H : (if t364 < 0 then (some false) else (if t364 = t345 then (some true) else (some false))) = some true := H
          have A61 := Aside0.mk A610
          clear A610
          by_cases c62 : t364 < 0
          ·
           rw [if_pos c62] at H
           have c62b0 : decide (t364 < 0) = true := decide_eq_true c62
           clear c62
           exact absurd H (by simp)
          ·
           rw [if_neg c62] at H
           have c62b0 : decide (t364 < 0) = false := decide_eq_false c62
           clear c62
           by_cases c63 : t364 = t345
           ·
            rw [if_pos c63] at H
            have c63b0 : (t364 == t345) = true := beq_iff_eq.mpr c63
            have c63b1 : (t364 != t345) = false := bne_eq_false_iff_eq.mpr c63
            clear c63
            first | (obtain rfl := Option.some.inj H) | (have Hr_ := Option.some.inj H; clear H)
            have hnb64 := NB343_329.out
            have hnc64 := NB329_343.out
            have hnb65 := NB343_362.out
            have hnc65 := NB362_343.out
            have hcz66_0 : wc.cell? ⟨gb343, 0, none⟩ = some (.int .i64 t330) := (blk_cell BK343.out 0).trans rfl
            have hcz66_1 : wc.cell? ⟨gb343, 1, none⟩ = some (.int .i64 t331) := (blk_cell BK343.out 1).trans rfl
            have hcz66_2 : wc.cell? ⟨gb343, 2, none⟩ = some (.slice Ao15 t346.length co15) := (blk_cell BK343.out 2).trans rfl
            have hcz66_3 : wc.cell? ⟨gb343, 3, none⟩ = some (.int .i64 t335) := (blk_cell BK343.out 3).trans rfl
            have hcz66_4 : wc.cell? ⟨gb343, 4, none⟩ = some (.int .i64 t336) := (blk_cell BK343.out 4).trans rfl
            have hcz66_5 : wc.cell? ⟨gb343, 5, none⟩ = some (.slice Ao16 t347.length co16) := (blk_cell BK343.out 5).trans rfl
            have hcz66_6 : wc.cell? ⟨gb343, 6, none⟩ = some (.int .i64 t340) := (blk_cell BK343.out 6).trans rfl
            have hcz66_7 : wc.cell? ⟨gb343, 7, none⟩ = some (.int .i64 t341) := (blk_cell BK343.out 7).trans rfl
            have hfz66_0 := blk_frozen BK343.out 0
            have hfz66_1 := blk_frozen BK343.out 1
            have hfz66_2 := blk_frozen BK343.out 2
            have hfz66_3 := blk_frozen BK343.out 3
            have hfz66_4 := blk_frozen BK343.out 4
            have hfz66_5 := blk_frozen BK343.out 5
            have hfz66_6 := blk_frozen BK343.out 6
            have hfz66_7 := blk_frozen BK343.out 7
            go_wp2_with (first | ((with_reducible refine gate_callee (f := 41) rfl ?_); refine goesL_ (some 60) rfl rfl Tryd.func41 (by kernel_rfl) rfl #[.agg #[.int .i64 t330, .int .i64 t331, .slice Ao15 t346.length co15, .int .i64 t335, .int .i64 t336, .slice Ao16 t347.length co16, .int .i64 t340, .int .i64 t341], .int .i64 1] rfl y130_ ?_; (with_reducible refine (laws_heldReport.calls kj32 t330 t331 _ _ t346 t335 t336 _ _ t347 t340 t341 1 t364 _ ?side1 ?side2 ?side3 ?side4 A61.out).mono ?_); (case side1 => repeat (first | exact (Kd.R_reads' HO_344002.out).2.2 | (with_reducible refine Kd.C_alloc ?_ _) | (with_reducible refine Kd.C_drewN ?_ _) | (with_reducible refine Kd.C_drew ?_))); (case side2 => exact (Kd.R_reads' HO_344002.out).2.1); (case side3 => repeat (first | exact (Kd.R_reads' HO_344005.out).2.2 | (with_reducible refine Kd.C_alloc ?_ _) | (with_reducible refine Kd.C_drewN ?_ _) | (with_reducible refine Kd.C_drew ?_))); (case side4 => exact (Kd.R_reads' HO_344005.out).2.1); rintro e w67 ⟨rfl, hb⟩; refine ⟨_, rfl, ?_⟩; have n0_ := Aside0.mk (Kd.R_below y138_ hb); have n1_ := Aside0.mk (Kd.R_below y139_ hb); have n2_ := Aside0.mk (Kd.R_below y140_ hb); have n3_ := Aside0.mk (Kd.R_below y141_ hb); have n4_ := Aside0.mk (Kd.R_below (by (with_reducible repeat (first | apply Kd.R_alloc | apply Kd.R_drewN | apply Kd.R_drew)); exact HO_363002.out) hb); have n5_ := Aside0.mk (Kd.R_below (by (with_reducible repeat (first | apply Kd.R_alloc | apply Kd.R_drewN | apply Kd.R_drew)); exact HO_363005.out) hb); have n6_ := Aside0.mk (blk_below (g := gb329) (o := .cells #[.int .i64 t316, .int .i64 t317, .slice Ao9 t318.length co9, .int .i64 t321, .int .i64 t322, .slice Ao10 t323.length co10, .int .i64 t326, .int .i64 t327] 28 (0, 0)) y131_ hb); have n7_ := Aside0.mk (blk_below (g := gb343) (o := .cells #[.int .i64 t330, .int .i64 t331, .slice Ao15 t346.length co15, .int .i64 t335, .int .i64 t336, .slice Ao16 t347.length co16, .int .i64 t340, .int .i64 t341] 28 (0, 0)) y136_ hb); have n8_ := Aside0.mk (blk_below (g := gb362) (o := .cells #[.int .i64 t349, .int .i64 t350, .slice Ao44 t351.length co44, .int .i64 t354, .int .i64 t355, .slice Ao45 t356.length co45, .int .i64 t359, .int .i64 t360] 28 (0, 0)) (by (with_reducible repeat (first | refine blk_drewN ?_ _ | refine blk_drew ?_ | refine blk_alloc ?_ _)); exact BK362.out) hb); have n9_ := Aside0.mk (below_step y132_ hb); clear HO_330002; clear HO_330005; clear HO_344002; clear HO_344005; clear HO_363002; clear HO_363005; clear BK329; clear BK343; clear BK362; clear HB; have HO_330002 := n0_; have HO_330005 := n1_; have HO_344002 := n2_; have HO_344005 := n3_; have HO_363002 := n4_; have HO_363005 := n5_; have BK329 := n6_; have BK343 := n7_; have BK362 := n8_; have HB := n9_; clear n0_ n1_ n2_ n3_ n4_ n5_ n6_ n7_ n8_ n9_; (try clear hb); (try clear hb2); (try clear hk); (try clear hi)))
            go_ret
            exact ⟨by first | rfl | (simp [errW_none, errW_some] <;> rfl) | (simp [*, errW_none, errW_some] <;> rfl), y142_⟩
           ·
            rw [if_neg c63] at H
            have c63b0 : (t364 == t345) = false := beq_eq_false_iff_ne.mpr c63
            have c63b1 : (t364 != t345) = true := bne_iff_ne.mpr c63
            exact absurd H (by simp)
      ·
       rw [if_neg c31] at H
       have c31b0 : (t348 == t345) = false := beq_eq_false_iff_ne.mpr c31
       have c31b1 : (t348 != t345) = true := bne_iff_ne.mpr c31
       exact absurd H (by simp)

end Go.Proofs.YtihnanfekchlhaaDoor.PFnExactParseReport
