-- Written for this claim by a program (a printer turned to this claim); Lean checks it.
import Derived.Test.YtkbnbimphddmbaaPFnCalendarsx0
import Derived.Test.YtkbnbimphddmbaaPFnCalendarsx1
import Derived.Test.YtkbnbimphddmbaaPFnCalendarsx2
import Derived.Test.YtkbnbimphddmbaaPFnCalendarsx3
import Derived.Test.YtkbnbimphddmbaaPFnCalendarsx4
namespace Go.Proofs.Ytkbnbimphddmbaa.PFnCalendars
open Go.RowKit Go.Proofs.YtkbnbimphddmbaaW.PrintWords Go.Proofs.YtkbnbimphddmbaaW.PrintLast Go.Proofs.YtkbnbimphddmbaaW.PrintMore
attribute [local go_sem] max2_int min2_int max_two min_two max_three min_three max_four min_four   -- for this text's walks alone
set_option linter.unusedVariables false
set_option linter.unusedSimpArgs false

/-! ### laws_FnCalendars: function 12 -/
mutual
def laws_FnCalendars.j0 : Nat → List Int → List Bool → Int → Int → Int → Bool → Option (Bool)
  | 0, _, _, _, _, _, _ => none
  | k + 1, x0, x3, x4, x5, x6, x42 => if x42 = true then (some false) else (if x6 ≥ 0 then (if x6 ≤ 10000 then ((impl_OpenDaysBetween.f k x3 (wrap64 (x4 + 1)) x6).bind fun t387 => (if t387 = x5 then (laws_FnCalendars.j1 k x0 false) else (laws_FnCalendars.j1 k x0 (decide (x5 > 0))))) else (laws_FnCalendars.j1 k x0 false)) else (laws_FnCalendars.j1 k x0 false))
def laws_FnCalendars.j1 : Nat → List Int → Bool → Option (Bool)
  | 0, _, _ => none
  | k + 1, x0, x61 => if x61 = true then (some false) else ((spec_DrawNextOpen.f k x0).bind fun bt388 => ((impl_NextOpen.f k bt388.1 bt388.2).bind fun t392 => ((impl_IsCalendar.f k bt388.1).bind fun t393 => (if t393 = true then (if bt388.2 ≥ 0 then (if ((decide (t392 ≥ 0)) != (decide (bt388.2 ≤ 100000))) = true then (laws_FnCalendars.j2 k x0 bt388.1 bt388.2 t392 true) else (if t392 ≥ 0 then (if t392 < bt388.2 then (laws_FnCalendars.j2 k x0 bt388.1 bt388.2 t392 true) else (laws_FnCalendars.j2 k x0 bt388.1 bt388.2 t392 (decide (t392 > (wrap64 (bt388.2 + 6)))))) else (laws_FnCalendars.j2 k x0 bt388.1 bt388.2 t392 false))) else (if ((decide (t392 ≥ 0)) != false) = true then (laws_FnCalendars.j2 k x0 bt388.1 bt388.2 t392 true) else (if t392 ≥ 0 then (if t392 < bt388.2 then (laws_FnCalendars.j2 k x0 bt388.1 bt388.2 t392 true) else (laws_FnCalendars.j2 k x0 bt388.1 bt388.2 t392 (decide (t392 > (wrap64 (bt388.2 + 6)))))) else (laws_FnCalendars.j2 k x0 bt388.1 bt388.2 t392 false)))) else (if ((decide (t392 ≥ 0)) != false) = true then (laws_FnCalendars.j2 k x0 bt388.1 bt388.2 t392 true) else (if t392 ≥ 0 then (if t392 < bt388.2 then (laws_FnCalendars.j2 k x0 bt388.1 bt388.2 t392 true) else (laws_FnCalendars.j2 k x0 bt388.1 bt388.2 t392 (decide (t392 > (wrap64 (bt388.2 + 6)))))) else (laws_FnCalendars.j2 k x0 bt388.1 bt388.2 t392 false)))))))
def laws_FnCalendars.j2 : Nat → List Int → List Bool → Int → Int → Bool → Option (Bool)
  | 0, _, _, _, _, _ => none
  | k + 1, x0, x7, x8, x9, x97 => if x97 = true then (some false) else (laws_FnCalendars.l0 k x0 x7 x9 x8)
def laws_FnCalendars.l0 : Nat → List Int → List Bool → Int → Int → Option (Bool)
  | 0, _, _, _, _ => none
  | k + 1, x0, x7, x9, x10 => if x9 ≥ 0 then (laws_FnCalendars.j4 k x0 x7 x9 x10 (decide (x10 < x9))) else (laws_FnCalendars.j4 k x0 x7 x9 x10 false)
def laws_FnCalendars.j4 : Nat → List Int → List Bool → Int → Int → Bool → Option (Bool)
  | 0, _, _, _, _, _ => none
  | k + 1, x0, x7, x9, x10, x105 => if x105 = true then ((impl_IsOpen.f k x7 x10).bind fun t394 => (if t394 = true then (some false) else (laws_FnCalendars.l0 k x0 x7 x9 (wrap64 (x10 + 1))))) else ((spec_DrawLastDay.f k x0).bind fun bt395 => ((impl_LastDay.f k bt395.1 bt395.2.1 bt395.2.2.1 bt395.2.2.2.1 bt395.2.2.2.2.1 bt395.2.2.2.2.2.1 bt395.2.2.2.2.2.2.1 bt395.2.2.2.2.2.2.2.1 bt395.2.2.2.2.2.2.2.2).bind fun t407 => (if t407 = (-1) then (some true) else ((impl_IsOpen.f k bt395.1 t407).bind fun t408 => (if t408 = true then ((impl_DueHour.f k bt395.2.1 bt395.2.2.1 bt395.2.2.2.1 bt395.2.2.2.2.1 bt395.2.2.2.2.2.1 bt395.2.2.2.2.2.2.1 bt395.2.2.2.2.2.2.2.1 bt395.2.2.2.2.2.2.2.2).bind fun t409 => (some (decide ((wrap64 (t407 * 24)) ≥ (wrap64 (t409 - 24)))))) else (some false))))))
end
def laws_FnCalendars.f (k : Nat) (l0 : List Int) : Option (Bool) := (laws_big.f l0).bind fun t379 => (if t379 = true then (some true) else ((spec_DrawAddOpenDays.f k l0).bind fun bt380 => ((impl_AddOpenDays.f k bt380.1 bt380.2.1 bt380.2.2).bind fun t385 => (if t385 ≥ 0 then (if t385 < bt380.2.1 then (laws_FnCalendars.j0 k l0 bt380.1 bt380.2.1 bt380.2.2 t385 true) else (if t385 ≤ 100000 then ((impl_IsOpen.f k bt380.1 t385).bind fun t386 => (laws_FnCalendars.j0 k l0 bt380.1 bt380.2.1 bt380.2.2 t385 (!t386))) else (laws_FnCalendars.j0 k l0 bt380.1 bt380.2.1 bt380.2.2 t385 false))) else (laws_FnCalendars.j0 k l0 bt380.1 bt380.2.1 bt380.2.2 t385 false)))))
theorem laws_FnCalendars.mono_l : ∀ k, (∀ y0 y1 y2 y3 y4 y5, LeO (laws_FnCalendars.j0 k y0 y1 y2 y3 y4 y5) (laws_FnCalendars.j0 (k + 1) y0 y1 y2 y3 y4 y5)) ∧ (∀ y0 y1, LeO (laws_FnCalendars.j1 k y0 y1) (laws_FnCalendars.j1 (k + 1) y0 y1)) ∧ (∀ y0 y1 y2 y3 y4, LeO (laws_FnCalendars.j2 k y0 y1 y2 y3 y4) (laws_FnCalendars.j2 (k + 1) y0 y1 y2 y3 y4)) ∧ (∀ y0 y1 y2 y3, LeO (laws_FnCalendars.l0 k y0 y1 y2 y3) (laws_FnCalendars.l0 (k + 1) y0 y1 y2 y3)) ∧ (∀ y0 y1 y2 y3 y4, LeO (laws_FnCalendars.j4 k y0 y1 y2 y3 y4) (laws_FnCalendars.j4 (k + 1) y0 y1 y2 y3 y4))
  | 0 => ⟨fun _ _ _ _ _ _ r h => by simp [laws_FnCalendars.j0] at h, fun _ _ r h => by simp [laws_FnCalendars.j1] at h, fun _ _ _ _ _ r h => by simp [laws_FnCalendars.j2] at h, fun _ _ _ _ r h => by simp [laws_FnCalendars.l0] at h, fun _ _ _ _ _ r h => by simp [laws_FnCalendars.j4] at h⟩
  | k + 1 => by
    obtain ⟨ih0, ih1, ih2, ih3, ih4⟩ := laws_FnCalendars.mono_l k
    refine ⟨?_, ?_, ?_, ?_, ?_⟩
    · intro y0 y1 y2 y3 y4 y5
      unfold laws_FnCalendars.j0
      repeat' first
      | (with_reducible exact ih0 _ _ _ _ _ _)
      | (with_reducible exact ih1 _ _)
      | (with_reducible exact ih2 _ _ _ _ _)
      | (with_reducible exact ih3 _ _ _ _)
      | (with_reducible exact ih4 _ _ _ _ _)
      | (with_reducible exact impl_AddOpenDays.mono _ _ _ _)
      | (with_reducible exact impl_DueHour.mono _ _ _ _ _ _ _ _ _)
      | (with_reducible exact impl_IsCalendar.mono _ _)
      | (with_reducible exact impl_IsOpen.mono _ _ _)
      | (with_reducible exact impl_LastDay.mono _ _ _ _ _ _ _ _ _ _)
      | (with_reducible exact impl_NextOpen.mono _ _ _)
      | (with_reducible exact impl_OpenDaysBetween.mono _ _ _ _)
      | (with_reducible exact spec_DrawAddOpenDays.mono _ _)
      | (with_reducible exact spec_DrawLastDay.mono _ _)
      | (with_reducible exact spec_DrawNextOpen.mono _ _)
      | (with_reducible exact LeO.refl _)
      | (with_reducible exact LeO.none _)
      | (with_reducible refine LeO.ite ?_ ?_)
      | (with_reducible refine LeO.bind ?_ (fun _ => ?_))
      | exact ih0 _ _ _ _ _ _
      | exact ih1 _ _
      | exact ih2 _ _ _ _ _
      | exact ih3 _ _ _ _
      | exact ih4 _ _ _ _ _
      | exact impl_AddOpenDays.mono _ _ _ _
      | exact impl_DueHour.mono _ _ _ _ _ _ _ _ _
      | exact impl_IsCalendar.mono _ _
      | exact impl_IsOpen.mono _ _ _
      | exact impl_LastDay.mono _ _ _ _ _ _ _ _ _ _
      | exact impl_NextOpen.mono _ _ _
      | exact impl_OpenDaysBetween.mono _ _ _ _
      | exact spec_DrawAddOpenDays.mono _ _
      | exact spec_DrawLastDay.mono _ _
      | exact spec_DrawNextOpen.mono _ _
      | exact LeO.none _
      | refine LeO.ite ?_ ?_
      | refine LeO.bind ?_ (fun _ => ?_)
    · intro y0 y1
      unfold laws_FnCalendars.j1
      repeat' first
      | (with_reducible exact ih0 _ _ _ _ _ _)
      | (with_reducible exact ih1 _ _)
      | (with_reducible exact ih2 _ _ _ _ _)
      | (with_reducible exact ih3 _ _ _ _)
      | (with_reducible exact ih4 _ _ _ _ _)
      | (with_reducible exact impl_AddOpenDays.mono _ _ _ _)
      | (with_reducible exact impl_DueHour.mono _ _ _ _ _ _ _ _ _)
      | (with_reducible exact impl_IsCalendar.mono _ _)
      | (with_reducible exact impl_IsOpen.mono _ _ _)
      | (with_reducible exact impl_LastDay.mono _ _ _ _ _ _ _ _ _ _)
      | (with_reducible exact impl_NextOpen.mono _ _ _)
      | (with_reducible exact impl_OpenDaysBetween.mono _ _ _ _)
      | (with_reducible exact spec_DrawAddOpenDays.mono _ _)
      | (with_reducible exact spec_DrawLastDay.mono _ _)
      | (with_reducible exact spec_DrawNextOpen.mono _ _)
      | (with_reducible exact LeO.refl _)
      | (with_reducible exact LeO.none _)
      | (with_reducible refine LeO.ite ?_ ?_)
      | (with_reducible refine LeO.bind ?_ (fun _ => ?_))
      | exact ih0 _ _ _ _ _ _
      | exact ih1 _ _
      | exact ih2 _ _ _ _ _
      | exact ih3 _ _ _ _
      | exact ih4 _ _ _ _ _
      | exact impl_AddOpenDays.mono _ _ _ _
      | exact impl_DueHour.mono _ _ _ _ _ _ _ _ _
      | exact impl_IsCalendar.mono _ _
      | exact impl_IsOpen.mono _ _ _
      | exact impl_LastDay.mono _ _ _ _ _ _ _ _ _ _
      | exact impl_NextOpen.mono _ _ _
      | exact impl_OpenDaysBetween.mono _ _ _ _
      | exact spec_DrawAddOpenDays.mono _ _
      | exact spec_DrawLastDay.mono _ _
      | exact spec_DrawNextOpen.mono _ _
      | exact LeO.none _
      | refine LeO.ite ?_ ?_
      | refine LeO.bind ?_ (fun _ => ?_)
    · intro y0 y1 y2 y3 y4
      unfold laws_FnCalendars.j2
      repeat' first
      | (with_reducible exact ih0 _ _ _ _ _ _)
      | (with_reducible exact ih1 _ _)
      | (with_reducible exact ih2 _ _ _ _ _)
      | (with_reducible exact ih3 _ _ _ _)
      | (with_reducible exact ih4 _ _ _ _ _)
      | (with_reducible exact impl_AddOpenDays.mono _ _ _ _)
      | (with_reducible exact impl_DueHour.mono _ _ _ _ _ _ _ _ _)
      | (with_reducible exact impl_IsCalendar.mono _ _)
      | (with_reducible exact impl_IsOpen.mono _ _ _)
      | (with_reducible exact impl_LastDay.mono _ _ _ _ _ _ _ _ _ _)
      | (with_reducible exact impl_NextOpen.mono _ _ _)
      | (with_reducible exact impl_OpenDaysBetween.mono _ _ _ _)
      | (with_reducible exact spec_DrawAddOpenDays.mono _ _)
      | (with_reducible exact spec_DrawLastDay.mono _ _)
      | (with_reducible exact spec_DrawNextOpen.mono _ _)
      | (with_reducible exact LeO.refl _)
      | (with_reducible exact LeO.none _)
      | (with_reducible refine LeO.ite ?_ ?_)
      | (with_reducible refine LeO.bind ?_ (fun _ => ?_))
      | exact ih0 _ _ _ _ _ _
      | exact ih1 _ _
      | exact ih2 _ _ _ _ _
      | exact ih3 _ _ _ _
      | exact ih4 _ _ _ _ _
      | exact impl_AddOpenDays.mono _ _ _ _
      | exact impl_DueHour.mono _ _ _ _ _ _ _ _ _
      | exact impl_IsCalendar.mono _ _
      | exact impl_IsOpen.mono _ _ _
      | exact impl_LastDay.mono _ _ _ _ _ _ _ _ _ _
      | exact impl_NextOpen.mono _ _ _
      | exact impl_OpenDaysBetween.mono _ _ _ _
      | exact spec_DrawAddOpenDays.mono _ _
      | exact spec_DrawLastDay.mono _ _
      | exact spec_DrawNextOpen.mono _ _
      | exact LeO.none _
      | refine LeO.ite ?_ ?_
      | refine LeO.bind ?_ (fun _ => ?_)
    · intro y0 y1 y2 y3
      unfold laws_FnCalendars.l0
      repeat' first
      | (with_reducible exact ih0 _ _ _ _ _ _)
      | (with_reducible exact ih1 _ _)
      | (with_reducible exact ih2 _ _ _ _ _)
      | (with_reducible exact ih3 _ _ _ _)
      | (with_reducible exact ih4 _ _ _ _ _)
      | (with_reducible exact impl_AddOpenDays.mono _ _ _ _)
      | (with_reducible exact impl_DueHour.mono _ _ _ _ _ _ _ _ _)
      | (with_reducible exact impl_IsCalendar.mono _ _)
      | (with_reducible exact impl_IsOpen.mono _ _ _)
      | (with_reducible exact impl_LastDay.mono _ _ _ _ _ _ _ _ _ _)
      | (with_reducible exact impl_NextOpen.mono _ _ _)
      | (with_reducible exact impl_OpenDaysBetween.mono _ _ _ _)
      | (with_reducible exact spec_DrawAddOpenDays.mono _ _)
      | (with_reducible exact spec_DrawLastDay.mono _ _)
      | (with_reducible exact spec_DrawNextOpen.mono _ _)
      | (with_reducible exact LeO.refl _)
      | (with_reducible exact LeO.none _)
      | (with_reducible refine LeO.ite ?_ ?_)
      | (with_reducible refine LeO.bind ?_ (fun _ => ?_))
      | exact ih0 _ _ _ _ _ _
      | exact ih1 _ _
      | exact ih2 _ _ _ _ _
      | exact ih3 _ _ _ _
      | exact ih4 _ _ _ _ _
      | exact impl_AddOpenDays.mono _ _ _ _
      | exact impl_DueHour.mono _ _ _ _ _ _ _ _ _
      | exact impl_IsCalendar.mono _ _
      | exact impl_IsOpen.mono _ _ _
      | exact impl_LastDay.mono _ _ _ _ _ _ _ _ _ _
      | exact impl_NextOpen.mono _ _ _
      | exact impl_OpenDaysBetween.mono _ _ _ _
      | exact spec_DrawAddOpenDays.mono _ _
      | exact spec_DrawLastDay.mono _ _
      | exact spec_DrawNextOpen.mono _ _
      | exact LeO.none _
      | refine LeO.ite ?_ ?_
      | refine LeO.bind ?_ (fun _ => ?_)
    · intro y0 y1 y2 y3 y4
      unfold laws_FnCalendars.j4
      repeat' first
      | (with_reducible exact ih0 _ _ _ _ _ _)
      | (with_reducible exact ih1 _ _)
      | (with_reducible exact ih2 _ _ _ _ _)
      | (with_reducible exact ih3 _ _ _ _)
      | (with_reducible exact ih4 _ _ _ _ _)
      | (with_reducible exact impl_AddOpenDays.mono _ _ _ _)
      | (with_reducible exact impl_DueHour.mono _ _ _ _ _ _ _ _ _)
      | (with_reducible exact impl_IsCalendar.mono _ _)
      | (with_reducible exact impl_IsOpen.mono _ _ _)
      | (with_reducible exact impl_LastDay.mono _ _ _ _ _ _ _ _ _ _)
      | (with_reducible exact impl_NextOpen.mono _ _ _)
      | (with_reducible exact impl_OpenDaysBetween.mono _ _ _ _)
      | (with_reducible exact spec_DrawAddOpenDays.mono _ _)
      | (with_reducible exact spec_DrawLastDay.mono _ _)
      | (with_reducible exact spec_DrawNextOpen.mono _ _)
      | (with_reducible exact LeO.refl _)
      | (with_reducible exact LeO.none _)
      | (with_reducible refine LeO.ite ?_ ?_)
      | (with_reducible refine LeO.bind ?_ (fun _ => ?_))
      | exact ih0 _ _ _ _ _ _
      | exact ih1 _ _
      | exact ih2 _ _ _ _ _
      | exact ih3 _ _ _ _
      | exact ih4 _ _ _ _ _
      | exact impl_AddOpenDays.mono _ _ _ _
      | exact impl_DueHour.mono _ _ _ _ _ _ _ _ _
      | exact impl_IsCalendar.mono _ _
      | exact impl_IsOpen.mono _ _ _
      | exact impl_LastDay.mono _ _ _ _ _ _ _ _ _ _
      | exact impl_NextOpen.mono _ _ _
      | exact impl_OpenDaysBetween.mono _ _ _ _
      | exact spec_DrawAddOpenDays.mono _ _
      | exact spec_DrawLastDay.mono _ _
      | exact spec_DrawNextOpen.mono _ _
      | exact LeO.none _
      | refine LeO.ite ?_ ?_
      | refine LeO.bind ?_ (fun _ => ?_)
theorem laws_FnCalendars.mono : ∀ a0 k, LeO (laws_FnCalendars.f k a0) (laws_FnCalendars.f (k + 1) a0) := by
  intro a0 k
  obtain ⟨ih0, ih1, ih2, ih3, ih4⟩ := laws_FnCalendars.mono_l k
  unfold laws_FnCalendars.f
  repeat' first
      | (with_reducible exact ih0 _ _ _ _ _ _)
      | (with_reducible exact ih1 _ _)
      | (with_reducible exact ih2 _ _ _ _ _)
      | (with_reducible exact ih3 _ _ _ _)
      | (with_reducible exact ih4 _ _ _ _ _)
      | (with_reducible exact impl_AddOpenDays.mono _ _ _ _)
      | (with_reducible exact impl_DueHour.mono _ _ _ _ _ _ _ _ _)
      | (with_reducible exact impl_IsCalendar.mono _ _)
      | (with_reducible exact impl_IsOpen.mono _ _ _)
      | (with_reducible exact impl_LastDay.mono _ _ _ _ _ _ _ _ _ _)
      | (with_reducible exact impl_NextOpen.mono _ _ _)
      | (with_reducible exact impl_OpenDaysBetween.mono _ _ _ _)
      | (with_reducible exact spec_DrawAddOpenDays.mono _ _)
      | (with_reducible exact spec_DrawLastDay.mono _ _)
      | (with_reducible exact spec_DrawNextOpen.mono _ _)
      | (with_reducible exact LeO.refl _)
      | (with_reducible exact LeO.none _)
      | (with_reducible refine LeO.ite ?_ ?_)
      | (with_reducible refine LeO.bind ?_ (fun _ => ?_))
      | exact ih0 _ _ _ _ _ _
      | exact ih1 _ _
      | exact ih2 _ _ _ _ _
      | exact ih3 _ _ _ _
      | exact ih4 _ _ _ _ _
      | exact impl_AddOpenDays.mono _ _ _ _
      | exact impl_DueHour.mono _ _ _ _ _ _ _ _ _
      | exact impl_IsCalendar.mono _ _
      | exact impl_IsOpen.mono _ _ _
      | exact impl_LastDay.mono _ _ _ _ _ _ _ _ _ _
      | exact impl_NextOpen.mono _ _ _
      | exact impl_OpenDaysBetween.mono _ _ _ _
      | exact spec_DrawAddOpenDays.mono _ _
      | exact spec_DrawLastDay.mono _ _
      | exact spec_DrawNextOpen.mono _ _
      | exact LeO.none _
      | refine LeO.ite ?_ ?_
      | refine LeO.bind ?_ (fun _ => ?_)
set_option maxHeartbeats 8000000 in
set_option maxRecDepth 100000 in
theorem laws_FnCalendars.calls (k : Nat) (A0 : Option Addr) (c0 : Nat) (l0 : List Int) (r : Bool) (w : World) (hr0 : Kd.C (Kd.int .u8) w A0 l0.length l0) (hc0 : l0.length ≤ c0) (h : laws_FnCalendars.f k l0 = some r) :
    Calls Try.prog 12 #[.slice A0 l0.length c0] w fun e w' => e = .returned (.bool r) ∧ Below w.heap.size w w' := by
  have hu37 := Try.underlying37
  have HR0 := Aside0.mk hr0
  have HC0 := Aside0.mk hc0
  clear hr0 hc0
  have HB := Aside0.mk (Below.refl w.heap.size w)
  have H : ((laws_big.f l0).bind fun t379 => (if t379 = true then (some true) else ((spec_DrawAddOpenDays.f k l0).bind fun bt380 => ((impl_AddOpenDays.f k bt380.1 bt380.2.1 bt380.2.2).bind fun t385 => (if t385 ≥ 0 then (if t385 < bt380.2.1 then (laws_FnCalendars.j0 k l0 bt380.1 bt380.2.1 bt380.2.2 t385 true) else (if t385 ≤ 100000 then ((impl_IsOpen.f k bt380.1 t385).bind fun t386 => (laws_FnCalendars.j0 k l0 bt380.1 bt380.2.1 bt380.2.2 t385 (!t386))) else (laws_FnCalendars.j0 k l0 bt380.1 bt380.2.1 bt380.2.2 t385 false))) else (laws_FnCalendars.j0 k l0 bt380.1 bt380.2.1 bt380.2.2 t385 false)))))) = some r := h
  clear h
  replace H := Option.bind_eq_some_iff.mp H
  obtain ⟨t379, A20, H⟩ := H
  replace H : (if t379 = true then (some true) else ((spec_DrawAddOpenDays.f k l0).bind fun bt380 => ((impl_AddOpenDays.f k bt380.1 bt380.2.1 bt380.2.2).bind fun t385 => (if t385 ≥ 0 then (if t385 < bt380.2.1 then (laws_FnCalendars.j0 k l0 bt380.1 bt380.2.1 bt380.2.2 t385 true) else (if t385 ≤ 100000 then ((impl_IsOpen.f k bt380.1 t385).bind fun t386 => (laws_FnCalendars.j0 k l0 bt380.1 bt380.2.1 bt380.2.2 t385 (!t386))) else (laws_FnCalendars.j0 k l0 bt380.1 bt380.2.1 bt380.2.2 t385 false))) else (laws_FnCalendars.j0 k l0 bt380.1 bt380.2.1 bt380.2.2 t385 false))))) = some r := H
  have A2 := Aside0.mk A20
  clear A20
  by_cases c3 : t379 = true
  · subst c3
    have H1 : (some true) = some r := by rw [if_pos rfl] at H; exact H
    clear H
    have H := H1
    clear H1
    obtain rfl := Option.some.inj H
    go_enter Try.func12, Try.ntmps12
    go_wp2_with (first | ((with_reducible refine gate_callee (f := 34) rfl ?_); refine goesL_ (some 15) rfl rfl Try.func34 (by kernel_rfl) rfl #[.slice A0 l0.length c0] rfl (by (try simp only [List.map_toArray, List.map_cons, List.map_nil]); first | done | rfl | (simp only [List.length_drop, List.length_take]; rfl)) ?_; (with_reducible refine (laws_big.calls _ _ l0 true _ ?side1 ?side2 A2.out).mono ?_); (case side1 => repeat (first | exact HR0.out | (with_reducible refine Kd.C_alloc ?_ _) | (with_reducible refine Kd.C_drewN ?_ _) | (with_reducible refine Kd.C_drew ?_))); (case side2 => exact HC0.out); rintro e w' ⟨rfl, ⟨nd, rfl⟩⟩; refine ⟨_, rfl, ?_⟩))
    go_ret
    exact ⟨by first | rfl | (simp [errW_none, errW_some] <;> rfl) | (simp [*, errW_none, errW_some] <;> rfl), by repeat (first | (with_reducible first | exact HB.out | apply below_alloc | apply pw_below_drewN | apply below_drew1) | exact HB.out)⟩
  · replace c3 := Bool.eq_false_iff.mpr c3
    subst c3
    have H1 : ((spec_DrawAddOpenDays.f k l0).bind fun bt380 => ((impl_AddOpenDays.f k bt380.1 bt380.2.1 bt380.2.2).bind fun t385 => (if t385 ≥ 0 then (if t385 < bt380.2.1 then (laws_FnCalendars.j0 k l0 bt380.1 bt380.2.1 bt380.2.2 t385 true) else (if t385 ≤ 100000 then ((impl_IsOpen.f k bt380.1 t385).bind fun t386 => (laws_FnCalendars.j0 k l0 bt380.1 bt380.2.1 bt380.2.2 t385 (!t386))) else (laws_FnCalendars.j0 k l0 bt380.1 bt380.2.1 bt380.2.2 t385 false))) else (laws_FnCalendars.j0 k l0 bt380.1 bt380.2.1 bt380.2.2 t385 false)))) = some r := by rw [if_neg (show ¬ (false = true) by decide)] at H; exact H
    clear H
    have H := H1
    clear H1
    replace H := Option.bind_eq_some_iff.mp H
    obtain ⟨⟨t380, t381, t382⟩, A40, H⟩ := H
    replace H : ((impl_AddOpenDays.f k t380 t381 t382).bind fun t385 => (if t385 ≥ 0 then (if t385 < t381 then (laws_FnCalendars.j0 k l0 t380 t381 t382 t385 true) else (if t385 ≤ 100000 then ((impl_IsOpen.f k t380 t385).bind fun t386 => (laws_FnCalendars.j0 k l0 t380 t381 t382 t385 (!t386))) else (laws_FnCalendars.j0 k l0 t380 t381 t382 t385 false))) else (laws_FnCalendars.j0 k l0 t380 t381 t382 t385 false))) = some r := H
    have A4 := Aside0.mk A40
    clear A40
    replace H := Option.bind_eq_some_iff.mp H
    obtain ⟨t385, A50, H⟩ := H
    replace H : (if t385 ≥ 0 then (if t385 < t381 then (laws_FnCalendars.j0 k l0 t380 t381 t382 t385 true) else (if t385 ≤ 100000 then ((impl_IsOpen.f k t380 t385).bind fun t386 => (laws_FnCalendars.j0 k l0 t380 t381 t382 t385 (!t386))) else (laws_FnCalendars.j0 k l0 t380 t381 t382 t385 false))) else (laws_FnCalendars.j0 k l0 t380 t381 t382 t385 false)) = some r := H
    have A5 := Aside0.mk A50
    clear A50
    have HC6 := Aside0.mk H
    clear H
    go_enter Try.func12, Try.ntmps12
    go_upto_region 5 with (first | ((with_reducible refine gate_callee (f := 34) rfl ?_); refine goesL_ (some 15) rfl rfl Try.func34 (by kernel_rfl) rfl #[.slice A0 l0.length c0] rfl (by (try simp only [List.map_toArray, List.map_cons, List.map_nil]); first | done | rfl | (simp only [List.length_drop, List.length_take]; rfl)) ?_; (with_reducible refine (laws_big.calls _ _ l0 false _ ?side1 ?side2 A2.out).mono ?_); (case side1 => repeat (first | exact HR0.out | (with_reducible refine Kd.C_alloc ?_ _) | (with_reducible refine Kd.C_drewN ?_ _) | (with_reducible refine Kd.C_drew ?_))); (case side2 => exact HC0.out); rintro e w' ⟨rfl, ⟨nd, rfl⟩⟩; refine ⟨_, rfl, ?_⟩) | ((with_reducible refine gate_callee (f := 35) rfl ?_); refine goesL_ (some 18) rfl rfl Try.func35 (by kernel_rfl) rfl #[.slice A0 l0.length c0] rfl (by (try simp only [List.map_toArray, List.map_cons, List.map_nil]); first | done | rfl | (simp only [List.length_drop, List.length_take]; rfl)) ?_; (with_reducible refine (spec_DrawAddOpenDays.calls k _ _ l0 t380 t381 t382 _ ?side1 ?side2 A4.out).mono ?_); (case side1 => repeat (first | exact HR0.out | (with_reducible refine Kd.C_alloc ?_ _) | (with_reducible refine Kd.C_drewN ?_ _) | (with_reducible refine Kd.C_drew ?_))); (case side2 => exact HC0.out); rintro e w7 ⟨v383, rfl, ho0, hb⟩; refine ⟨_, rfl, ?_⟩; have n0_ := Aside0.mk (Kd.R_lower ho0 (below_size (by repeat (first | (with_reducible first | exact HB.out | apply below_alloc | apply pw_below_drewN | apply below_drew1) | exact HB.out)))); have n1_ := Aside0.mk (below_step (by repeat (first | (with_reducible first | exact HB.out | apply below_alloc | apply pw_below_drewN | apply below_drew1) | exact HB.out)) hb); clear HB; have HO384 := n0_; have HB := n1_; clear n0_ n1_; (try clear hb); (try clear hb2); (try clear hk); (try clear hi); (try clear ho0); obtain ⟨Ao8, co8, eo8⟩ := Kd.R_slice HO384.out; subst eo8) | ((with_reducible refine gate_callee (f := 31) rfl ?_); refine goesL_ (some 25) rfl rfl Try.func31 (by kernel_rfl) rfl #[.slice Ao8 t380.length co8, .int .i64 t381, .int .i64 t382] rfl (by (try simp only [List.map_toArray, List.map_cons, List.map_nil]); first | done | rfl | (simp only [List.length_drop, List.length_take]; rfl)) ?_; (with_reducible refine (impl_AddOpenDays.calls k _ _ t380 t381 t382 t385 _ ?side1 ?side2 A5.out).mono ?_); (case side1 => repeat (first | exact (Kd.R_reads' HO384.out).2.2 | (with_reducible refine Kd.C_alloc ?_ _) | (with_reducible refine Kd.C_drewN ?_ _) | (with_reducible refine Kd.C_drew ?_))); (case side2 => exact (Kd.R_reads' HO384.out).2.1); rintro e w' ⟨rfl, ⟨nd, rfl⟩⟩; refine ⟨_, rfl, ?_⟩))
    (try simp only [Act.put, List.setIfInBounds_toArray, List.set_cons_zero, List.set_cons_succ])
    go_cut [42] (fun v42 wc => ∃ (kq : Nat) (x42_5 : Bool), v42 = .bool x42_5 ∧ Aside0 (laws_FnCalendars.j0 kq l0 t380 t381 t382 t385 x42_5 = some r) ∧ Aside0 (kq ≤ k) ∧ Aside0 (Kd.R Kd.bool 4 wc w.heap.size (fun _ => True) (.slice Ao8 t380.length co8) t380) ∧ Aside0 (Below w.heap.size w wc))
    case first =>
      have H := HC6.out
      clear HC6
      by_cases c9 : t385 ≥ 0
      · rw [if_pos c9] at H
        have c9b0 : decide (0 ≤ t385) = true := decide_eq_true c9
        clear c9
        (first | rw [c9b0] | (simp only [i64_w, i32_w]; rw [c9b0]) | skip)
        by_cases c10 : t385 < t381
        · rw [if_pos c10] at H
          have c10b0 : decide (t385 < t381) = true := decide_eq_true c10
          clear c10
          have H' := Aside0.mk H
          clear H
          go_wp2
          go_meet
          case rel => exact ⟨_, (true), (by first | rfl | (simp; done) | (simp [*]; done)), H', ⟨by first | omega | exact Nat.le_refl _⟩, ⟨by (with_reducible repeat (first | apply Kd.R_alloc | apply Kd.R_drewN | apply Kd.R_drew)); exact HO384.out⟩, ⟨by repeat (first | (with_reducible first | exact HB.out | apply below_alloc | apply pw_below_drewN | apply below_drew1) | exact HB.out)⟩⟩
        · rw [if_neg c10] at H
          have c10b0 : decide (t385 < t381) = false := decide_eq_false c10
          clear c10
          by_cases c11 : t385 ≤ 100000
          · rw [if_pos c11] at H
            have c11b0 : decide (t385 ≤ 100000) = true := decide_eq_true c11
            clear c11
            replace H := Option.bind_eq_some_iff.mp H
            obtain ⟨t386, A120, H⟩ := H
            replace H : (laws_FnCalendars.j0 k l0 t380 t381 t382 t385 (!t386)) = some r := H
            have A12 := Aside0.mk A120
            clear A120
            have H' := Aside0.mk H
            clear H
            go_wp2_with (first | (go_at_call 25; (with_reducible refine (impl_IsOpen.calls k _ _ t380 t385 t386 _ ?side1 ?side2 A12.out).mono ?_); (case side1 => repeat (first | exact (Kd.R_reads' HO384.out).2.2 | (with_reducible refine Kd.C_alloc ?_ _) | (with_reducible refine Kd.C_drewN ?_ _) | (with_reducible refine Kd.C_drew ?_))); (case side2 => exact (Kd.R_reads' HO384.out).2.1); rintro e w' ⟨rfl, ⟨nd, rfl⟩⟩))
            go_meet
            case rel => exact ⟨_, (!t386), (by first | rfl | (simp; done) | (simp [*]; done)), H', ⟨by first | omega | exact Nat.le_refl _⟩, ⟨by (with_reducible repeat (first | apply Kd.R_alloc | apply Kd.R_drewN | apply Kd.R_drew)); exact HO384.out⟩, ⟨by repeat (first | (with_reducible first | exact HB.out | apply below_alloc | apply pw_below_drewN | apply below_drew1) | exact HB.out)⟩⟩
          · rw [if_neg c11] at H
            have c11b0 : decide (t385 ≤ 100000) = false := decide_eq_false c11
            clear c11
            have H' := Aside0.mk H
            clear H
            go_wp2
            go_meet
            case rel => exact ⟨_, (false), (by first | rfl | (simp; done) | (simp [*]; done)), H', ⟨by first | omega | exact Nat.le_refl _⟩, ⟨by (with_reducible repeat (first | apply Kd.R_alloc | apply Kd.R_drewN | apply Kd.R_drew)); exact HO384.out⟩, ⟨by repeat (first | (with_reducible first | exact HB.out | apply below_alloc | apply pw_below_drewN | apply below_drew1) | exact HB.out)⟩⟩
      · rw [if_neg c9] at H
        have c9b0 : decide (0 ≤ t385) = false := decide_eq_false c9
        clear c9
        (first | rw [c9b0] | (simp only [i64_w, i32_w]; rw [c9b0]) | skip)
        have H' := Aside0.mk H
        clear H
        go_wp2
        go_meet
        case rel => exact ⟨_, (false), (by first | rfl | (simp; done) | (simp [*]; done)), H', ⟨by first | omega | exact Nat.le_refl _⟩, ⟨by (with_reducible repeat (first | apply Kd.R_alloc | apply Kd.R_drewN | apply Kd.R_drew)); exact HO384.out⟩, ⟨by repeat (first | (with_reducible first | exact HB.out | apply below_alloc | apply pw_below_drewN | apply below_drew1) | exact HB.out)⟩⟩
    case rest =>
      clear HC6
      try clear c1
      try clear p2
      try clear c3
      try clear c9
      try clear c9b0
      try clear c10
      try clear c10b0
      try clear c11
      try clear c11b0
      try clear c12
      obtain ⟨kq, x42_5, rfl, HA, HJ5, HO_3, HB⟩ := hcut
      cases kq with
      | zero => exact absurd HA.out (by simp [laws_FnCalendars.j0])
      | succ kj5 =>
        have H := HA.out
        clear HA
        simp only [laws_FnCalendars.j0] at H
        by_cases c13 : x42_5 = true
        · subst c13
          have H1 : (some false) = some r := by rw [if_pos rfl] at H; exact H
          clear H
          have H := H1
          clear H1
          obtain rfl := Option.some.inj H
          go_wp2
          go_ret
          exact ⟨by first | rfl | (simp [errW_none, errW_some] <;> rfl) | (simp [*, errW_none, errW_some] <;> rfl), by repeat (first | (with_reducible first | exact HB.out | apply below_alloc | apply pw_below_drewN | apply below_drew1) | exact HB.out)⟩
        · replace c13 := Bool.eq_false_iff.mpr c13
          subst c13
          have H1 : (if t385 ≥ 0 then (if t385 ≤ 10000 then ((impl_OpenDaysBetween.f kj5 t380 (wrap64 (t381 + 1)) t385).bind fun t387 => (if t387 = t382 then (laws_FnCalendars.j1 kj5 l0 false) else (laws_FnCalendars.j1 kj5 l0 (decide (t382 > 0))))) else (laws_FnCalendars.j1 kj5 l0 false)) else (laws_FnCalendars.j1 kj5 l0 false)) = some r := by rw [if_neg (show ¬ (false = true) by decide)] at H; exact H
          clear H
          have H := H1
          clear H1
          have HC14 := Aside0.mk H
          clear H
          go_upto_region 7 with (fail)
          go_cut [61] (fun v61 wc => ∃ (kq : Nat) (x61_13 : Bool), v61 = .bool x61_13 ∧ Aside0 (laws_FnCalendars.j1 kq l0 x61_13 = some r) ∧ Aside0 (kq ≤ kj5) ∧ Aside0 (Below w.heap.size w wc))
          case first =>
            have H := HC14.out
            clear HC14
            by_cases c15 : t385 ≥ 0
            · rw [if_pos c15] at H
              have c15b0 : decide (0 ≤ t385) = true := decide_eq_true c15
              clear c15
              (first | rw [c15b0] | (simp only [i64_w, i32_w]; rw [c15b0]) | skip)
              by_cases c16 : t385 ≤ 10000
              · rw [if_pos c16] at H
                have c16b0 : decide (t385 ≤ 10000) = true := decide_eq_true c16
                clear c16
                replace H := Option.bind_eq_some_iff.mp H
                obtain ⟨t387, A170, H⟩ := H
                replace H : (if t387 = t382 then (laws_FnCalendars.j1 kj5 l0 false) else (laws_FnCalendars.j1 kj5 l0 (decide (t382 > 0)))) = some r := H
                have A17 := Aside0.mk A170
                clear A170
                by_cases c18 : t387 = t382
                · rw [if_pos c18] at H
                  have c18b0 : (t387 == t382) = true := beq_iff_eq.mpr c18
                  have c18b1 : (t387 != t382) = false := bne_eq_false_iff_eq.mpr c18
                  clear c18
                  have H' := Aside0.mk H
                  clear H
                  go_wp2_with (first | (go_at_call 29; (with_reducible refine (impl_OpenDaysBetween.calls kj5 _ _ t380 (wrap64 (t381 + 1)) t385 t387 _ ?side1 ?side2 A17.out).mono ?_); (case side1 => repeat (first | exact (Kd.R_reads' HO_3.out).2.2 | (with_reducible refine Kd.C_alloc ?_ _) | (with_reducible refine Kd.C_drewN ?_ _) | (with_reducible refine Kd.C_drew ?_))); (case side2 => exact (Kd.R_reads' HO_3.out).2.1); rintro e w' ⟨rfl, ⟨nd, rfl⟩⟩))
                  go_meet
                  case rel => exact ⟨_, (false), (by first | rfl | (simp; done) | (simp [*]; done)), H', ⟨by have := HJ5.out; first | omega | exact Nat.le_refl _⟩, ⟨by repeat (first | (with_reducible first | exact HB.out | apply below_alloc | apply pw_below_drewN | apply below_drew1) | exact HB.out)⟩⟩
                · rw [if_neg c18] at H
                  have c18b0 : (t387 == t382) = false := beq_eq_false_iff_ne.mpr c18
                  have c18b1 : (t387 != t382) = true := bne_iff_ne.mpr c18
                  have H' := Aside0.mk H
                  clear H
                  go_wp2_with (first | (go_at_call 29; (with_reducible refine (impl_OpenDaysBetween.calls kj5 _ _ t380 (wrap64 (t381 + 1)) t385 t387 _ ?side1 ?side2 A17.out).mono ?_); (case side1 => repeat (first | exact (Kd.R_reads' HO_3.out).2.2 | (with_reducible refine Kd.C_alloc ?_ _) | (with_reducible refine Kd.C_drewN ?_ _) | (with_reducible refine Kd.C_drew ?_))); (case side2 => exact (Kd.R_reads' HO_3.out).2.1); rintro e w' ⟨rfl, ⟨nd, rfl⟩⟩))
                  go_meet
                  case rel => exact ⟨_, (decide (t382 > 0)), (by first | rfl | (simp; done) | (simp [*]; done)), H', ⟨by have := HJ5.out; first | omega | exact Nat.le_refl _⟩, ⟨by repeat (first | (with_reducible first | exact HB.out | apply below_alloc | apply pw_below_drewN | apply below_drew1) | exact HB.out)⟩⟩
              · rw [if_neg c16] at H
                have c16b0 : decide (t385 ≤ 10000) = false := decide_eq_false c16
                clear c16
                have H' := Aside0.mk H
                clear H
                go_wp2
                go_meet
                case rel => exact ⟨_, (false), (by first | rfl | (simp; done) | (simp [*]; done)), H', ⟨by have := HJ5.out; first | omega | exact Nat.le_refl _⟩, ⟨by repeat (first | (with_reducible first | exact HB.out | apply below_alloc | apply pw_below_drewN | apply below_drew1) | exact HB.out)⟩⟩
            · rw [if_neg c15] at H
              have c15b0 : decide (0 ≤ t385) = false := decide_eq_false c15
              clear c15
              (first | rw [c15b0] | (simp only [i64_w, i32_w]; rw [c15b0]) | skip)
              have H' := Aside0.mk H
              clear H
              go_wp2
              go_meet
              case rel => exact ⟨_, (false), (by first | rfl | (simp; done) | (simp [*]; done)), H', ⟨by have := HJ5.out; first | omega | exact Nat.le_refl _⟩, ⟨by repeat (first | (with_reducible first | exact HB.out | apply below_alloc | apply pw_below_drewN | apply below_drew1) | exact HB.out)⟩⟩
          case rest =>
            clear HC14
            try clear c1
            try clear p2
            try clear c3
            try clear p6
            try clear c9
            try clear c9b0
            try clear c10
            try clear c10b0
            try clear c11
            try clear c11b0
            try clear c12
            try clear c13
            try clear c15
            try clear c15b0
            try clear c16
            try clear c16b0
            try clear c18
            try clear c18b0
            try clear c18b1
            try clear p2
            obtain ⟨kq, x61_13, rfl, HA, HJ13, HB⟩ := hcut
            cases kq with
            | zero => exact absurd HA.out (by simp [laws_FnCalendars.j1])
            | succ kj13 =>
              have H := HA.out
              clear HA
              simp only [laws_FnCalendars.j1] at H
              by_cases c19 : x61_13 = true
              · subst c19
                have H1 : (some false) = some r := by rw [if_pos rfl] at H; exact H
                clear H
                have H := H1
                clear H1
                obtain rfl := Option.some.inj H
                go_wp2
                go_ret
                exact ⟨by first | rfl | (simp [errW_none, errW_some] <;> rfl) | (simp [*, errW_none, errW_some] <;> rfl), by repeat (first | (with_reducible first | exact HB.out | apply below_alloc | apply pw_below_drewN | apply below_drew1) | exact HB.out)⟩
              · replace c19 := Bool.eq_false_iff.mpr c19
                subst c19
                have H1 : ((spec_DrawNextOpen.f kj13 l0).bind fun bt388 => ((impl_NextOpen.f kj13 bt388.1 bt388.2).bind fun t392 => ((impl_IsCalendar.f kj13 bt388.1).bind fun t393 => (if t393 = true then (if bt388.2 ≥ 0 then (if ((decide (t392 ≥ 0)) != (decide (bt388.2 ≤ 100000))) = true then (laws_FnCalendars.j2 kj13 l0 bt388.1 bt388.2 t392 true) else (if t392 ≥ 0 then (if t392 < bt388.2 then (laws_FnCalendars.j2 kj13 l0 bt388.1 bt388.2 t392 true) else (laws_FnCalendars.j2 kj13 l0 bt388.1 bt388.2 t392 (decide (t392 > (wrap64 (bt388.2 + 6)))))) else (laws_FnCalendars.j2 kj13 l0 bt388.1 bt388.2 t392 false))) else (if ((decide (t392 ≥ 0)) != false) = true then (laws_FnCalendars.j2 kj13 l0 bt388.1 bt388.2 t392 true) else (if t392 ≥ 0 then (if t392 < bt388.2 then (laws_FnCalendars.j2 kj13 l0 bt388.1 bt388.2 t392 true) else (laws_FnCalendars.j2 kj13 l0 bt388.1 bt388.2 t392 (decide (t392 > (wrap64 (bt388.2 + 6)))))) else (laws_FnCalendars.j2 kj13 l0 bt388.1 bt388.2 t392 false)))) else (if ((decide (t392 ≥ 0)) != false) = true then (laws_FnCalendars.j2 kj13 l0 bt388.1 bt388.2 t392 true) else (if t392 ≥ 0 then (if t392 < bt388.2 then (laws_FnCalendars.j2 kj13 l0 bt388.1 bt388.2 t392 true) else (laws_FnCalendars.j2 kj13 l0 bt388.1 bt388.2 t392 (decide (t392 > (wrap64 (bt388.2 + 6)))))) else (laws_FnCalendars.j2 kj13 l0 bt388.1 bt388.2 t392 false))))))) = some r := by rw [if_neg (show ¬ (false = true) by decide)] at H; exact H
                clear H
                have H := H1
                clear H1
                replace H := Option.bind_eq_some_iff.mp H
                obtain ⟨⟨t388, t389⟩, A200, H⟩ := H
                replace H : ((impl_NextOpen.f kj13 t388 t389).bind fun t392 => ((impl_IsCalendar.f kj13 t388).bind fun t393 => (if t393 = true then (if t389 ≥ 0 then (if ((decide (t392 ≥ 0)) != (decide (t389 ≤ 100000))) = true then (laws_FnCalendars.j2 kj13 l0 t388 t389 t392 true) else (if t392 ≥ 0 then (if t392 < t389 then (laws_FnCalendars.j2 kj13 l0 t388 t389 t392 true) else (laws_FnCalendars.j2 kj13 l0 t388 t389 t392 (decide (t392 > (wrap64 (t389 + 6)))))) else (laws_FnCalendars.j2 kj13 l0 t388 t389 t392 false))) else (if ((decide (t392 ≥ 0)) != false) = true then (laws_FnCalendars.j2 kj13 l0 t388 t389 t392 true) else (if t392 ≥ 0 then (if t392 < t389 then (laws_FnCalendars.j2 kj13 l0 t388 t389 t392 true) else (laws_FnCalendars.j2 kj13 l0 t388 t389 t392 (decide (t392 > (wrap64 (t389 + 6)))))) else (laws_FnCalendars.j2 kj13 l0 t388 t389 t392 false)))) else (if ((decide (t392 ≥ 0)) != false) = true then (laws_FnCalendars.j2 kj13 l0 t388 t389 t392 true) else (if t392 ≥ 0 then (if t392 < t389 then (laws_FnCalendars.j2 kj13 l0 t388 t389 t392 true) else (laws_FnCalendars.j2 kj13 l0 t388 t389 t392 (decide (t392 > (wrap64 (t389 + 6)))))) else (laws_FnCalendars.j2 kj13 l0 t388 t389 t392 false)))))) = some r := H
                have A20 := Aside0.mk A200
                clear A200
                replace H := Option.bind_eq_some_iff.mp H
                obtain ⟨t392, A210, H⟩ := H
                replace H : ((impl_IsCalendar.f kj13 t388).bind fun t393 => (if t393 = true then (if t389 ≥ 0 then (if ((decide (t392 ≥ 0)) != (decide (t389 ≤ 100000))) = true then (laws_FnCalendars.j2 kj13 l0 t388 t389 t392 true) else (if t392 ≥ 0 then (if t392 < t389 then (laws_FnCalendars.j2 kj13 l0 t388 t389 t392 true) else (laws_FnCalendars.j2 kj13 l0 t388 t389 t392 (decide (t392 > (wrap64 (t389 + 6)))))) else (laws_FnCalendars.j2 kj13 l0 t388 t389 t392 false))) else (if ((decide (t392 ≥ 0)) != false) = true then (laws_FnCalendars.j2 kj13 l0 t388 t389 t392 true) else (if t392 ≥ 0 then (if t392 < t389 then (laws_FnCalendars.j2 kj13 l0 t388 t389 t392 true) else (laws_FnCalendars.j2 kj13 l0 t388 t389 t392 (decide (t392 > (wrap64 (t389 + 6)))))) else (laws_FnCalendars.j2 kj13 l0 t388 t389 t392 false)))) else (if ((decide (t392 ≥ 0)) != false) = true then (laws_FnCalendars.j2 kj13 l0 t388 t389 t392 true) else (if t392 ≥ 0 then (if t392 < t389 then (laws_FnCalendars.j2 kj13 l0 t388 t389 t392 true) else (laws_FnCalendars.j2 kj13 l0 t388 t389 t392 (decide (t392 > (wrap64 (t389 + 6)))))) else (laws_FnCalendars.j2 kj13 l0 t388 t389 t392 false))))) = some r := H
                have A21 := Aside0.mk A210
                clear A210
                have HC22 := Aside0.mk H
                clear H
                go_upto_region 11 with (first | ((with_reducible refine gate_callee (f := 36) rfl ?_); refine goesL_ (some 64) rfl rfl Try.func36 (by kernel_rfl) rfl #[.slice A0 l0.length c0] rfl (by (try simp only [List.map_toArray, List.map_cons, List.map_nil]); first | done | rfl | (simp only [List.length_drop, List.length_take]; rfl)) ?_; (with_reducible refine (spec_DrawNextOpen.calls kj13 _ _ l0 t388 t389 _ ?side1 ?side2 A20.out).mono ?_); (case side1 => repeat (first | exact (Kd.C_below HR0.out HB.out) | (with_reducible refine Kd.C_alloc ?_ _) | (with_reducible refine Kd.C_drewN ?_ _) | (with_reducible refine Kd.C_drew ?_))); (case side2 => exact HC0.out); rintro e w23 ⟨v390, rfl, ho0, hb⟩; refine ⟨_, rfl, ?_⟩; have n0_ := Aside0.mk (Kd.R_lower ho0 (below_size (by repeat (first | (with_reducible first | exact HB.out | apply below_alloc | apply pw_below_drewN | apply below_drew1) | exact HB.out)))); have n1_ := Aside0.mk (below_step (by repeat (first | (with_reducible first | exact HB.out | apply below_alloc | apply pw_below_drewN | apply below_drew1) | exact HB.out)) hb); clear HB; have HO391 := n0_; have HB := n1_; clear n0_ n1_; (try clear hb); (try clear hb2); (try clear hk); (try clear hi); (try clear ho0); obtain ⟨Ao24, co24, eo24⟩ := Kd.R_slice HO391.out; subst eo24) | ((with_reducible refine gate_callee (f := 27) rfl ?_); refine goesL_ (some 69) rfl rfl Try.func27 (by kernel_rfl) rfl #[.slice Ao24 t388.length co24, .int .i64 t389] rfl (by (try simp only [List.map_toArray, List.map_cons, List.map_nil]); first | done | rfl | (simp only [List.length_drop, List.length_take]; rfl)) ?_; (with_reducible refine (impl_NextOpen.calls kj13 _ _ t388 t389 t392 _ ?side1 ?side2 A21.out).mono ?_); (case side1 => repeat (first | exact (Kd.R_reads' HO391.out).2.2 | (with_reducible refine Kd.C_alloc ?_ _) | (with_reducible refine Kd.C_drewN ?_ _) | (with_reducible refine Kd.C_drew ?_))); (case side2 => exact (Kd.R_reads' HO391.out).2.1); rintro e w' ⟨rfl, ⟨nd, rfl⟩⟩; refine ⟨_, rfl, ?_⟩))
                (try simp only [Act.put, List.setIfInBounds_toArray, List.set_cons_zero, List.set_cons_succ])
                go_cut [97] (fun v97 wc => ∃ (kq : Nat) (x97_21 : Bool), v97 = .bool x97_21 ∧ Aside0 (laws_FnCalendars.j2 kq l0 t388 t389 t392 x97_21 = some r) ∧ Aside0 (kq ≤ kj13) ∧ Aside0 (Kd.R Kd.bool 4 wc w.heap.size (fun _ => True) (.slice Ao24 t388.length co24) t388) ∧ Aside0 (Below w.heap.size w wc))
                case first =>
                  have H := HC22.out
                  clear HC22
                  replace H := Option.bind_eq_some_iff.mp H
                  obtain ⟨t393, A250, H⟩ := H
                  replace H : (if t393 = true then (if t389 ≥ 0 then (if ((decide (t392 ≥ 0)) != (decide (t389 ≤ 100000))) = true then (laws_FnCalendars.j2 kj13 l0 t388 t389 t392 true) else (if t392 ≥ 0 then (if t392 < t389 then (laws_FnCalendars.j2 kj13 l0 t388 t389 t392 true) else (laws_FnCalendars.j2 kj13 l0 t388 t389 t392 (decide (t392 > (wrap64 (t389 + 6)))))) else (laws_FnCalendars.j2 kj13 l0 t388 t389 t392 false))) else (if ((decide (t392 ≥ 0)) != false) = true then (laws_FnCalendars.j2 kj13 l0 t388 t389 t392 true) else (if t392 ≥ 0 then (if t392 < t389 then (laws_FnCalendars.j2 kj13 l0 t388 t389 t392 true) else (laws_FnCalendars.j2 kj13 l0 t388 t389 t392 (decide (t392 > (wrap64 (t389 + 6)))))) else (laws_FnCalendars.j2 kj13 l0 t388 t389 t392 false)))) else (if ((decide (t392 ≥ 0)) != false) = true then (laws_FnCalendars.j2 kj13 l0 t388 t389 t392 true) else (if t392 ≥ 0 then (if t392 < t389 then (laws_FnCalendars.j2 kj13 l0 t388 t389 t392 true) else (laws_FnCalendars.j2 kj13 l0 t388 t389 t392 (decide (t392 > (wrap64 (t389 + 6)))))) else (laws_FnCalendars.j2 kj13 l0 t388 t389 t392 false)))) = some r := H
                  have A25 := Aside0.mk A250
                  clear A250
                  by_cases c26 : t393 = true
                  · subst c26
                    have H1 : (if t389 ≥ 0 then (if ((decide (t392 ≥ 0)) != (decide (t389 ≤ 100000))) = true then (laws_FnCalendars.j2 kj13 l0 t388 t389 t392 true) else (if t392 ≥ 0 then (if t392 < t389 then (laws_FnCalendars.j2 kj13 l0 t388 t389 t392 true) else (laws_FnCalendars.j2 kj13 l0 t388 t389 t392 (decide (t392 > (wrap64 (t389 + 6)))))) else (laws_FnCalendars.j2 kj13 l0 t388 t389 t392 false))) else (if ((decide (t392 ≥ 0)) != false) = true then (laws_FnCalendars.j2 kj13 l0 t388 t389 t392 true) else (if t392 ≥ 0 then (if t392 < t389 then (laws_FnCalendars.j2 kj13 l0 t388 t389 t392 true) else (laws_FnCalendars.j2 kj13 l0 t388 t389 t392 (decide (t392 > (wrap64 (t389 + 6)))))) else (laws_FnCalendars.j2 kj13 l0 t388 t389 t392 false)))) = some r := by rw [if_pos rfl] at H; exact H
                    clear H
                    have H := H1
                    clear H1
                    by_cases c27 : t389 ≥ 0
                    · rw [if_pos c27] at H
                      have c27b0 : decide (0 ≤ t389) = true := decide_eq_true c27
                      clear c27
                      (first | rw [c27b0] | (simp only [i64_w, i32_w]; rw [c27b0]) | skip)
                      by_cases c28 : ((decide (t392 ≥ 0)) != (decide (t389 ≤ 100000))) = true
                      · rw [if_pos c28] at H
                        have c28b0 : ((decide (t392 ≥ 0)) != (decide (t389 ≤ 100000))) = true := c28
                        (try (have c28b1 : decide ((decide (t392 ≥ 0)) = (decide (t389 ≤ 100000))) = false := by simpa using c28))
                        (try (have c28b2 : ((decide (t392 ≥ 0)) == (decide (t389 ≤ 100000))) = false := by simpa using c28))
                        (try (have c28b3 : ¬ ((decide (t392 ≥ 0)) = (decide (t389 ≤ 100000))) := by simpa using c28))
                        clear c28
                        have H' := Aside0.mk H
                        clear H
                        go_wp2_with (first | ((with_reducible refine gate_callee (f := 19) rfl ?_); refine goesL_ (some 73) rfl rfl Try.func19 (by kernel_rfl) rfl #[.slice Ao24 t388.length co24] rfl (by (try simp only [List.map_toArray, List.map_cons, List.map_nil]); first | done | rfl | (simp only [List.length_drop, List.length_take]; rfl)) ?_; (with_reducible refine (impl_IsCalendar.calls kj13 _ _ t388 true _ ?side1 ?side2 A25.out).mono ?_); (case side1 => repeat (first | exact (Kd.R_reads' HO391.out).2.2 | (with_reducible refine Kd.C_alloc ?_ _) | (with_reducible refine Kd.C_drewN ?_ _) | (with_reducible refine Kd.C_drew ?_))); (case side2 => exact (Kd.R_reads' HO391.out).2.1); rintro e w' ⟨rfl, ⟨nd, rfl⟩⟩; refine ⟨_, rfl, ?_⟩))
                        go_meet
                        case rel => exact ⟨_, (true), (by first | rfl | (simp; done) | (simp [*]; done)), H', ⟨by have := HJ5.out; have := HJ13.out; first | omega | exact Nat.le_refl _⟩, ⟨by (with_reducible repeat (first | apply Kd.R_alloc | apply Kd.R_drewN | apply Kd.R_drew)); exact HO391.out⟩, ⟨by repeat (first | (with_reducible first | exact HB.out | apply below_alloc | apply pw_below_drewN | apply below_drew1) | exact HB.out)⟩⟩
                      · rw [if_neg c28] at H
                        have c28b0 : ((decide (t392 ≥ 0)) != (decide (t389 ≤ 100000))) = false := by simpa using c28
                        (try (have c28b1 : decide ((decide (t392 ≥ 0)) = (decide (t389 ≤ 100000))) = true := by simpa using c28))
                        (try (have c28b2 : ((decide (t392 ≥ 0)) == (decide (t389 ≤ 100000))) = true := by simpa using c28))
                        clear c28
                        by_cases c29 : t392 ≥ 0
                        · rw [if_pos c29] at H
                          have c29b0 : decide (0 ≤ t392) = true := decide_eq_true c29
                          (try (have c28zc29 : decide (t389 ≤ 100000) = true := by simpa [ge_iff_le, gt_iff_lt, c29b0] using c28b0))
                          clear c29
                          by_cases c30 : t392 < t389
                          · rw [if_pos c30] at H
                            have c30b0 : decide (t392 < t389) = true := decide_eq_true c30
                            clear c30
                            have H' := Aside0.mk H
                            clear H
                            go_wp2_with (first | ((with_reducible refine gate_callee (f := 19) rfl ?_); refine goesL_ (some 73) rfl rfl Try.func19 (by kernel_rfl) rfl #[.slice Ao24 t388.length co24] rfl (by (try simp only [List.map_toArray, List.map_cons, List.map_nil]); first | done | rfl | (simp only [List.length_drop, List.length_take]; rfl)) ?_; (with_reducible refine (impl_IsCalendar.calls kj13 _ _ t388 true _ ?side1 ?side2 A25.out).mono ?_); (case side1 => repeat (first | exact (Kd.R_reads' HO391.out).2.2 | (with_reducible refine Kd.C_alloc ?_ _) | (with_reducible refine Kd.C_drewN ?_ _) | (with_reducible refine Kd.C_drew ?_))); (case side2 => exact (Kd.R_reads' HO391.out).2.1); rintro e w' ⟨rfl, ⟨nd, rfl⟩⟩; refine ⟨_, rfl, ?_⟩))
                            go_meet
                            case rel => exact ⟨_, (true), (by first | rfl | (simp; done) | (simp [*]; done)), H', ⟨by have := HJ5.out; have := HJ13.out; first | omega | exact Nat.le_refl _⟩, ⟨by (with_reducible repeat (first | apply Kd.R_alloc | apply Kd.R_drewN | apply Kd.R_drew)); exact HO391.out⟩, ⟨by repeat (first | (with_reducible first | exact HB.out | apply below_alloc | apply pw_below_drewN | apply below_drew1) | exact HB.out)⟩⟩
                          · rw [if_neg c30] at H
                            have c30b0 : decide (t392 < t389) = false := decide_eq_false c30
                            clear c30
                            have H' := Aside0.mk H
                            clear H
                            go_wp2_with (first | ((with_reducible refine gate_callee (f := 19) rfl ?_); refine goesL_ (some 73) rfl rfl Try.func19 (by kernel_rfl) rfl #[.slice Ao24 t388.length co24] rfl (by (try simp only [List.map_toArray, List.map_cons, List.map_nil]); first | done | rfl | (simp only [List.length_drop, List.length_take]; rfl)) ?_; (with_reducible refine (impl_IsCalendar.calls kj13 _ _ t388 true _ ?side1 ?side2 A25.out).mono ?_); (case side1 => repeat (first | exact (Kd.R_reads' HO391.out).2.2 | (with_reducible refine Kd.C_alloc ?_ _) | (with_reducible refine Kd.C_drewN ?_ _) | (with_reducible refine Kd.C_drew ?_))); (case side2 => exact (Kd.R_reads' HO391.out).2.1); rintro e w' ⟨rfl, ⟨nd, rfl⟩⟩; refine ⟨_, rfl, ?_⟩))
                            go_meet
                            case rel => exact ⟨_, (decide (t392 > (wrap64 (t389 + 6)))), (by first | rfl | (simp; done) | (simp [*]; done)), H', ⟨by have := HJ5.out; have := HJ13.out; first | omega | exact Nat.le_refl _⟩, ⟨by (with_reducible repeat (first | apply Kd.R_alloc | apply Kd.R_drewN | apply Kd.R_drew)); exact HO391.out⟩, ⟨by repeat (first | (with_reducible first | exact HB.out | apply below_alloc | apply pw_below_drewN | apply below_drew1) | exact HB.out)⟩⟩
                        · rw [if_neg c29] at H
                          have c29b0 : decide (0 ≤ t392) = false := decide_eq_false c29
                          (try (have c28zc29 : decide (t389 ≤ 100000) = false := by simpa [ge_iff_le, gt_iff_lt, c29b0] using c28b0))
                          clear c29
                          have H' := Aside0.mk H
                          clear H
                          go_wp2_with (first | ((with_reducible refine gate_callee (f := 19) rfl ?_); refine goesL_ (some 73) rfl rfl Try.func19 (by kernel_rfl) rfl #[.slice Ao24 t388.length co24] rfl (by (try simp only [List.map_toArray, List.map_cons, List.map_nil]); first | done | rfl | (simp only [List.length_drop, List.length_take]; rfl)) ?_; (with_reducible refine (impl_IsCalendar.calls kj13 _ _ t388 true _ ?side1 ?side2 A25.out).mono ?_); (case side1 => repeat (first | exact (Kd.R_reads' HO391.out).2.2 | (with_reducible refine Kd.C_alloc ?_ _) | (with_reducible refine Kd.C_drewN ?_ _) | (with_reducible refine Kd.C_drew ?_))); (case side2 => exact (Kd.R_reads' HO391.out).2.1); rintro e w' ⟨rfl, ⟨nd, rfl⟩⟩; refine ⟨_, rfl, ?_⟩))
                          go_meet
                          case rel => exact ⟨_, (false), (by first | rfl | (simp; done) | (simp [*]; done)), H', ⟨by have := HJ5.out; have := HJ13.out; first | omega | exact Nat.le_refl _⟩, ⟨by (with_reducible repeat (first | apply Kd.R_alloc | apply Kd.R_drewN | apply Kd.R_drew)); exact HO391.out⟩, ⟨by repeat (first | (with_reducible first | exact HB.out | apply below_alloc | apply pw_below_drewN | apply below_drew1) | exact HB.out)⟩⟩
                    · rw [if_neg c27] at H
                      have c27b0 : decide (0 ≤ t389) = false := decide_eq_false c27
                      clear c27
                      (first | rw [c27b0] | (simp only [i64_w, i32_w]; rw [c27b0]) | skip)
                      by_cases c31 : ((decide (t392 ≥ 0)) != false) = true
                      · rw [if_pos c31] at H
                        have c31b0 : ((decide (t392 ≥ 0)) != false) = true := c31
                        (try (have c31z : decide (0 ≤ t392) = true := by simpa [ge_iff_le, gt_iff_lt] using c31b0))
                        (try (have c31b1 : decide ((decide (t392 ≥ 0)) = false) = false := by simpa using c31))
                        (try (have c31b2 : ((decide (t392 ≥ 0)) == false) = false := by simpa using c31))
                        (try (have c31b3 : ¬ ((decide (t392 ≥ 0)) = false) := by simpa using c31))
                        clear c31
                        have H' := Aside0.mk H
                        clear H
                        go_wp2_with (first | ((with_reducible refine gate_callee (f := 19) rfl ?_); refine goesL_ (some 73) rfl rfl Try.func19 (by kernel_rfl) rfl #[.slice Ao24 t388.length co24] rfl (by (try simp only [List.map_toArray, List.map_cons, List.map_nil]); first | done | rfl | (simp only [List.length_drop, List.length_take]; rfl)) ?_; (with_reducible refine (impl_IsCalendar.calls kj13 _ _ t388 true _ ?side1 ?side2 A25.out).mono ?_); (case side1 => repeat (first | exact (Kd.R_reads' HO391.out).2.2 | (with_reducible refine Kd.C_alloc ?_ _) | (with_reducible refine Kd.C_drewN ?_ _) | (with_reducible refine Kd.C_drew ?_))); (case side2 => exact (Kd.R_reads' HO391.out).2.1); rintro e w' ⟨rfl, ⟨nd, rfl⟩⟩; refine ⟨_, rfl, ?_⟩))
                        go_meet
                        case rel => exact ⟨_, (true), (by first | rfl | (simp; done) | (simp [*]; done)), H', ⟨by have := HJ5.out; have := HJ13.out; first | omega | exact Nat.le_refl _⟩, ⟨by (with_reducible repeat (first | apply Kd.R_alloc | apply Kd.R_drewN | apply Kd.R_drew)); exact HO391.out⟩, ⟨by repeat (first | (with_reducible first | exact HB.out | apply below_alloc | apply pw_below_drewN | apply below_drew1) | exact HB.out)⟩⟩
                      · rw [if_neg c31] at H
                        have c31b0 : ((decide (t392 ≥ 0)) != false) = false := by simpa using c31
                        (try (have c31z : decide (0 ≤ t392) = false := by simpa [ge_iff_le, gt_iff_lt] using c31b0))
                        (try (have c31b1 : decide ((decide (t392 ≥ 0)) = false) = true := by simpa using c31))
                        (try (have c31b2 : ((decide (t392 ≥ 0)) == false) = true := by simpa using c31))
                        clear c31
                        by_cases c32 : t392 ≥ 0
                        · rw [if_pos c32] at H
                          have c32b0 : decide (0 ≤ t392) = true := decide_eq_true c32
                          exact absurd (c31z.symm.trans c32b0) (by decide)
                        · rw [if_neg c32] at H
                          have c32b0 : decide (0 ≤ t392) = false := decide_eq_false c32
                          clear c32
                          have H' := Aside0.mk H
                          clear H
                          go_wp2_with (first | ((with_reducible refine gate_callee (f := 19) rfl ?_); refine goesL_ (some 73) rfl rfl Try.func19 (by kernel_rfl) rfl #[.slice Ao24 t388.length co24] rfl (by (try simp only [List.map_toArray, List.map_cons, List.map_nil]); first | done | rfl | (simp only [List.length_drop, List.length_take]; rfl)) ?_; (with_reducible refine (impl_IsCalendar.calls kj13 _ _ t388 true _ ?side1 ?side2 A25.out).mono ?_); (case side1 => repeat (first | exact (Kd.R_reads' HO391.out).2.2 | (with_reducible refine Kd.C_alloc ?_ _) | (with_reducible refine Kd.C_drewN ?_ _) | (with_reducible refine Kd.C_drew ?_))); (case side2 => exact (Kd.R_reads' HO391.out).2.1); rintro e w' ⟨rfl, ⟨nd, rfl⟩⟩; refine ⟨_, rfl, ?_⟩))
                          go_meet
                          case rel => exact ⟨_, (false), (by first | rfl | (simp; done) | (simp [*]; done)), H', ⟨by have := HJ5.out; have := HJ13.out; first | omega | exact Nat.le_refl _⟩, ⟨by (with_reducible repeat (first | apply Kd.R_alloc | apply Kd.R_drewN | apply Kd.R_drew)); exact HO391.out⟩, ⟨by repeat (first | (with_reducible first | exact HB.out | apply below_alloc | apply pw_below_drewN | apply below_drew1) | exact HB.out)⟩⟩
                  · replace c26 := Bool.eq_false_iff.mpr c26
                    subst c26
                    have H1 : (if ((decide (t392 ≥ 0)) != false) = true then (laws_FnCalendars.j2 kj13 l0 t388 t389 t392 true) else (if t392 ≥ 0 then (if t392 < t389 then (laws_FnCalendars.j2 kj13 l0 t388 t389 t392 true) else (laws_FnCalendars.j2 kj13 l0 t388 t389 t392 (decide (t392 > (wrap64 (t389 + 6)))))) else (laws_FnCalendars.j2 kj13 l0 t388 t389 t392 false))) = some r := by rw [if_neg (show ¬ (false = true) by decide)] at H; exact H
                    clear H
                    have H := H1
                    clear H1
                    by_cases c34 : ((decide (t392 ≥ 0)) != false) = true
                    · rw [if_pos c34] at H
                      have c34b0 : ((decide (t392 ≥ 0)) != false) = true := c34
                      (try (have c34z : decide (0 ≤ t392) = true := by simpa [ge_iff_le, gt_iff_lt] using c34b0))
                      (try (have c34b1 : decide ((decide (t392 ≥ 0)) = false) = false := by simpa using c34))
                      (try (have c34b2 : ((decide (t392 ≥ 0)) == false) = false := by simpa using c34))
                      (try (have c34b3 : ¬ ((decide (t392 ≥ 0)) = false) := by simpa using c34))
                      clear c34
                      have H' := Aside0.mk H
                      clear H
                      go_wp2_with (first | ((with_reducible refine gate_callee (f := 19) rfl ?_); refine goesL_ (some 73) rfl rfl Try.func19 (by kernel_rfl) rfl #[.slice Ao24 t388.length co24] rfl (by (try simp only [List.map_toArray, List.map_cons, List.map_nil]); first | done | rfl | (simp only [List.length_drop, List.length_take]; rfl)) ?_; (with_reducible refine (impl_IsCalendar.calls kj13 _ _ t388 false _ ?side1 ?side2 A25.out).mono ?_); (case side1 => repeat (first | exact (Kd.R_reads' HO391.out).2.2 | (with_reducible refine Kd.C_alloc ?_ _) | (with_reducible refine Kd.C_drewN ?_ _) | (with_reducible refine Kd.C_drew ?_))); (case side2 => exact (Kd.R_reads' HO391.out).2.1); rintro e w' ⟨rfl, ⟨nd, rfl⟩⟩; refine ⟨_, rfl, ?_⟩))
                      go_meet
                      case rel => exact ⟨_, (true), (by first | rfl | (simp; done) | (simp [*]; done)), H', ⟨by have := HJ5.out; have := HJ13.out; first | omega | exact Nat.le_refl _⟩, ⟨by (with_reducible repeat (first | apply Kd.R_alloc | apply Kd.R_drewN | apply Kd.R_drew)); exact HO391.out⟩, ⟨by repeat (first | (with_reducible first | exact HB.out | apply below_alloc | apply pw_below_drewN | apply below_drew1) | exact HB.out)⟩⟩
                    · rw [if_neg c34] at H
                      have c34b0 : ((decide (t392 ≥ 0)) != false) = false := by simpa using c34
                      (try (have c34z : decide (0 ≤ t392) = false := by simpa [ge_iff_le, gt_iff_lt] using c34b0))
                      (try (have c34b1 : decide ((decide (t392 ≥ 0)) = false) = true := by simpa using c34))
                      (try (have c34b2 : ((decide (t392 ≥ 0)) == false) = true := by simpa using c34))
                      clear c34
                      by_cases c35 : t392 ≥ 0
                      · rw [if_pos c35] at H
                        have c35b0 : decide (0 ≤ t392) = true := decide_eq_true c35
                        exact absurd (c34z.symm.trans c35b0) (by decide)
                      · rw [if_neg c35] at H
                        have c35b0 : decide (0 ≤ t392) = false := decide_eq_false c35
                        clear c35
                        have H' := Aside0.mk H
                        clear H
                        go_wp2_with (first | ((with_reducible refine gate_callee (f := 19) rfl ?_); refine goesL_ (some 73) rfl rfl Try.func19 (by kernel_rfl) rfl #[.slice Ao24 t388.length co24] rfl (by (try simp only [List.map_toArray, List.map_cons, List.map_nil]); first | done | rfl | (simp only [List.length_drop, List.length_take]; rfl)) ?_; (with_reducible refine (impl_IsCalendar.calls kj13 _ _ t388 false _ ?side1 ?side2 A25.out).mono ?_); (case side1 => repeat (first | exact (Kd.R_reads' HO391.out).2.2 | (with_reducible refine Kd.C_alloc ?_ _) | (with_reducible refine Kd.C_drewN ?_ _) | (with_reducible refine Kd.C_drew ?_))); (case side2 => exact (Kd.R_reads' HO391.out).2.1); rintro e w' ⟨rfl, ⟨nd, rfl⟩⟩; refine ⟨_, rfl, ?_⟩))
                        go_meet
                        case rel => exact ⟨_, (false), (by first | rfl | (simp; done) | (simp [*]; done)), H', ⟨by have := HJ5.out; have := HJ13.out; first | omega | exact Nat.le_refl _⟩, ⟨by (with_reducible repeat (first | apply Kd.R_alloc | apply Kd.R_drewN | apply Kd.R_drew)); exact HO391.out⟩, ⟨by repeat (first | (with_reducible first | exact HB.out | apply below_alloc | apply pw_below_drewN | apply below_drew1) | exact HB.out)⟩⟩
                case rest =>
                  clear HC22
                  try clear c1
                  try clear c2
                  try clear p2
                  try clear c3
                  try clear p6
                  try clear c9
                  try clear c9b0
                  try clear c10
                  try clear c10b0
                  try clear c11
                  try clear c11b0
                  try clear c12
                  try clear c13
                  try clear c15
                  try clear c15b0
                  try clear c16
                  try clear c16b0
                  try clear c18
                  try clear c18b0
                  try clear c18b1
                  try clear c19
                  try clear c26
                  try clear c27
                  try clear c27b0
                  try clear c28
                  try clear c28b0
                  try clear c28b1
                  try clear c28b2
                  try clear c29
                  try clear c29b0
                  try clear c30
                  try clear c30b0
                  try clear c31
                  try clear c31b0
                  try clear c31b1
                  try clear c31b2
                  try clear c32
                  try clear c32b0
                  try clear c33
                  try clear c33b0
                  try clear c34
                  try clear c34b0
                  try clear c34b1
                  try clear c34b2
                  try clear c35
                  try clear c35b0
                  try clear c36
                  try clear c36b0
                  try clear p2
                  try clear p6
                  obtain ⟨kq, x97_21, rfl, HA, HJ21, HO_7, HB⟩ := hcut
                  cases kq with
                  | zero => exact absurd HA.out (by simp [laws_FnCalendars.j2])
                  | succ kj21 =>
                    have H := HA.out
                    clear HA
                    simp only [laws_FnCalendars.j2] at H
                    by_cases c37 : x97_21 = true
                    · subst c37
                      have H1 : (some false) = some r := by rw [if_pos rfl] at H; exact H
                      clear H
                      have H := H1
                      clear H1
                      obtain rfl := Option.some.inj H
                      go_wp2
                      go_ret
                      exact ⟨by first | rfl | (simp [errW_none, errW_some] <;> rfl) | (simp [*, errW_none, errW_some] <;> rfl), by repeat (first | (with_reducible first | exact HB.out | apply below_alloc | apply pw_below_drewN | apply below_drew1) | exact HB.out)⟩
                    · replace c37 := Bool.eq_false_iff.mpr c37
                      subst c37
                      have H1 : (laws_FnCalendars.l0 kj21 l0 t388 t392 t389) = some r := by rw [if_neg (show ¬ (false = true) by decide)] at H; exact H
                      clear H
                      have H := H1
                      clear H1
                      have H' := Aside0.mk H
                      clear H
                      go_wp2
                      go_loopg [10] kj21 (fun kq v10 w' => ∃ (x10_4 : Int), v10 = .int .i64 x10_4 ∧ Aside0 (laws_FnCalendars.l0 kq l0 t388 t392 x10_4 = some r) ∧ Aside0 (kq ≤ kj21) ∧ Aside0 (Kd.R Kd.bool 4 w' w.heap.size (fun _ => True) (.slice Ao24 t388.length co24) t388) ∧ Aside0 (Below w.heap.size w w'))
                      case atStart => exact ⟨(t389), (by first | rfl | (simp; done) | (simp [*]; done)), H', ⟨Nat.le_refl _⟩, ⟨by (with_reducible repeat (first | apply Kd.R_alloc | apply Kd.R_drewN | apply Kd.R_drew)); exact HO_7.out⟩, ⟨by repeat (first | (with_reducible first | exact HB.out | apply below_alloc | apply pw_below_drewN | apply below_drew1) | exact HB.out)⟩⟩
                      case round =>
                        clear H'
                        try clear c1
                        try clear c2
                        try clear p2
                        try clear c3
                        try clear p6
                        try clear c9
                        try clear c9b0
                        try clear c10
                        try clear c10b0
                        try clear c11
                        try clear c11b0
                        try clear c12
                        try clear c13
                        try clear c15
                        try clear c15b0
                        try clear c16
                        try clear c16b0
                        try clear c18
                        try clear c18b0
                        try clear c18b1
                        try clear c19
                        try clear c26
                        try clear c27
                        try clear c27b0
                        try clear c28
                        try clear c28b0
                        try clear c28b1
                        try clear c28b2
                        try clear c29
                        try clear c29b0
                        try clear c30
                        try clear c30b0
                        try clear c31
                        try clear c31b0
                        try clear c31b1
                        try clear c31b2
                        try clear c32
                        try clear c32b0
                        try clear c33
                        try clear c33b0
                        try clear c34
                        try clear c34b0
                        try clear c34b1
                        try clear c34b2
                        try clear c35
                        try clear c35b0
                        try clear c36
                        try clear c36b0
                        try clear c37
                        try clear p2
                        try clear p6
                        obtain ⟨x10_4, rfl, HA, HK4, HO_7, HB⟩ := hrel
                        cases gk with
                        | zero => exact absurd HA.out (by simp [laws_FnCalendars.l0])
                        | succ k4 =>
                          have H := HA.out
                          clear HA
                          simp only [laws_FnCalendars.l0] at H
                          have HC38 := Aside0.mk H
                          clear H
                          go_upto_region 14 with (fail)
                          go_cut [105] (fun v105 wc => ∃ (kq : Nat) (x105_37 : Bool), v105 = .bool x105_37 ∧ Aside0 (laws_FnCalendars.j4 kq l0 t388 t392 x10_4 x105_37 = some r) ∧ Aside0 (kq ≤ k4) ∧ Aside0 (Kd.R Kd.bool 4 wc w.heap.size (fun _ => True) (.slice Ao24 t388.length co24) t388) ∧ Aside0 (Below w.heap.size w wc))
                          case first =>
                            have H := HC38.out
                            clear HC38
                            by_cases c39 : t392 ≥ 0
                            · rw [if_pos c39] at H
                              have c39b0 : decide (0 ≤ t392) = true := decide_eq_true c39
                              clear c39
                              (first | rw [c39b0] | (simp only [i64_w, i32_w]; rw [c39b0]) | skip)
                              have H' := Aside0.mk H
                              clear H
                              go_wp2
                              go_meet
                              case rel => exact ⟨_, (decide (x10_4 < t392)), (by first | rfl | (simp; done) | (simp [*]; done)), H', ⟨by have := HJ5.out; have := HJ13.out; have := HJ21.out; have := HK4.out; first | omega | exact Nat.le_refl _⟩, ⟨by (with_reducible repeat (first | apply Kd.R_alloc | apply Kd.R_drewN | apply Kd.R_drew)); exact HO_7.out⟩, ⟨by repeat (first | (with_reducible first | exact HB.out | apply below_alloc | apply pw_below_drewN | apply below_drew1) | exact HB.out)⟩⟩
                            · rw [if_neg c39] at H
                              have c39b0 : decide (0 ≤ t392) = false := decide_eq_false c39
                              clear c39
                              (first | rw [c39b0] | (simp only [i64_w, i32_w]; rw [c39b0]) | skip)
                              have H' := Aside0.mk H
                              clear H
                              go_wp2
                              go_meet
                              case rel => exact ⟨_, (false), (by first | rfl | (simp; done) | (simp [*]; done)), H', ⟨by have := HJ5.out; have := HJ13.out; have := HJ21.out; have := HK4.out; first | omega | exact Nat.le_refl _⟩, ⟨by (with_reducible repeat (first | apply Kd.R_alloc | apply Kd.R_drewN | apply Kd.R_drew)); exact HO_7.out⟩, ⟨by repeat (first | (with_reducible first | exact HB.out | apply below_alloc | apply pw_below_drewN | apply below_drew1) | exact HB.out)⟩⟩
                          case rest =>
                            clear HC38
                            try clear c1
                            try clear c2
                            try clear p2
                            try clear c3
                            try clear p6
                            try clear c9
                            try clear c9b0
                            try clear c10
                            try clear c10b0
                            try clear c11
                            try clear c11b0
                            try clear c12
                            try clear c13
                            try clear c15
                            try clear c15b0
                            try clear c16
                            try clear c16b0
                            try clear c18
                            try clear c18b0
                            try clear c18b1
                            try clear c19
                            try clear c26
                            try clear c27
                            try clear c27b0
                            try clear c28
                            try clear c28b0
                            try clear c28b1
                            try clear c28b2
                            try clear c29
                            try clear c29b0
                            try clear c30
                            try clear c30b0
                            try clear c31
                            try clear c31b0
                            try clear c31b1
                            try clear c31b2
                            try clear c32
                            try clear c32b0
                            try clear c33
                            try clear c33b0
                            try clear c34
                            try clear c34b0
                            try clear c34b1
                            try clear c34b2
                            try clear c35
                            try clear c35b0
                            try clear c36
                            try clear c36b0
                            try clear c37
                            try clear c39
                            try clear c39b0
                            try clear p2
                            try clear p6
                            obtain ⟨kq, x105_37, rfl, HA, HJ37, HO_7, HB⟩ := hcut
                            cases kq with
                            | zero => exact absurd HA.out (by simp [laws_FnCalendars.j4])
                            | succ kj37 =>
                              have H := HA.out
                              clear HA
                              simp only [laws_FnCalendars.j4] at H
                              by_cases c40 : x105_37 = true
                              · subst c40
                                have H1 : ((impl_IsOpen.f kj37 t388 x10_4).bind fun t394 => (if t394 = true then (some false) else (laws_FnCalendars.l0 kj37 l0 t388 t392 (wrap64 (x10_4 + 1))))) = some r := by rw [if_pos rfl] at H; exact H
                                clear H
                                have H := H1
                                clear H1
                                replace H := Option.bind_eq_some_iff.mp H
                                obtain ⟨t394, A410, H⟩ := H
                                replace H : (if t394 = true then (some false) else (laws_FnCalendars.l0 kj37 l0 t388 t392 (wrap64 (x10_4 + 1)))) = some r := H
                                have A41 := Aside0.mk A410
                                clear A410
                                by_cases c42 : t394 = true
                                · subst c42
                                  have H1 : (some false) = some r := by rw [if_pos rfl] at H; exact H
                                  clear H
                                  have H := H1
                                  clear H1
                                  obtain rfl := Option.some.inj H
                                  go_wp2_with (first | ((with_reducible refine gate_callee (f := 25) rfl ?_); refine goesL_ (some 110) rfl rfl Try.func25 (by kernel_rfl) rfl #[.slice Ao24 t388.length co24, .int .i64 x10_4] rfl (by (try simp only [List.map_toArray, List.map_cons, List.map_nil]); first | done | rfl | (simp only [List.length_drop, List.length_take]; rfl)) ?_; (with_reducible refine (impl_IsOpen.calls kj37 _ _ t388 x10_4 true _ ?side1 ?side2 A41.out).mono ?_); (case side1 => repeat (first | exact (Kd.R_reads' HO_7.out).2.2 | (with_reducible refine Kd.C_alloc ?_ _) | (with_reducible refine Kd.C_drewN ?_ _) | (with_reducible refine Kd.C_drew ?_))); (case side2 => exact (Kd.R_reads' HO_7.out).2.1); rintro e w' ⟨rfl, ⟨nd, rfl⟩⟩; refine ⟨_, rfl, ?_⟩))
                                  go_ret
                                  exact ⟨by first | rfl | (simp [errW_none, errW_some] <;> rfl) | (simp [*, errW_none, errW_some] <;> rfl), by repeat (first | (with_reducible first | exact HB.out | apply below_alloc | apply pw_below_drewN | apply below_drew1) | exact HB.out)⟩
                                · replace c42 := Bool.eq_false_iff.mpr c42
                                  subst c42
                                  have H1 : (laws_FnCalendars.l0 kj37 l0 t388 t392 (wrap64 (x10_4 + 1))) = some r := by rw [if_neg (show ¬ (false = true) by decide)] at H; exact H
                                  clear H
                                  have H := H1
                                  clear H1
                                  have H' := Aside0.mk H
                                  clear H
                                  go_wp2_with (first | ((with_reducible refine gate_callee (f := 25) rfl ?_); refine goesL_ (some 110) rfl rfl Try.func25 (by kernel_rfl) rfl #[.slice Ao24 t388.length co24, .int .i64 x10_4] rfl (by (try simp only [List.map_toArray, List.map_cons, List.map_nil]); first | done | rfl | (simp only [List.length_drop, List.length_take]; rfl)) ?_; (with_reducible refine (impl_IsOpen.calls kj37 _ _ t388 x10_4 false _ ?side1 ?side2 A41.out).mono ?_); (case side1 => repeat (first | exact (Kd.R_reads' HO_7.out).2.2 | (with_reducible refine Kd.C_alloc ?_ _) | (with_reducible refine Kd.C_drewN ?_ _) | (with_reducible refine Kd.C_drew ?_))); (case side2 => exact (Kd.R_reads' HO_7.out).2.1); rintro e w' ⟨rfl, ⟨nd, rfl⟩⟩; refine ⟨_, rfl, ?_⟩))
                                  go_roundg kj37
                                  case measure => have := HJ5.out; have := HJ13.out; have := HJ21.out; have := HK4.out; have := HJ37.out; omega
                                  case rel => exact ⟨(wrap64 (x10_4 + 1)), (by first | rfl | (simp; done) | (simp [*]; done)), H', ⟨by have := HJ5.out; have := HJ13.out; have := HJ21.out; have := HK4.out; have := HJ37.out; omega⟩, ⟨by (with_reducible repeat (first | apply Kd.R_alloc | apply Kd.R_drewN | apply Kd.R_drew)); exact HO_7.out⟩, ⟨by repeat (first | (with_reducible first | exact HB.out | apply below_alloc | apply pw_below_drewN | apply below_drew1) | exact HB.out)⟩⟩
                              · replace c40 := Bool.eq_false_iff.mpr c40
                                subst c40
                                have H1 : ((spec_DrawLastDay.f kj37 l0).bind fun bt395 => ((impl_LastDay.f kj37 bt395.1 bt395.2.1 bt395.2.2.1 bt395.2.2.2.1 bt395.2.2.2.2.1 bt395.2.2.2.2.2.1 bt395.2.2.2.2.2.2.1 bt395.2.2.2.2.2.2.2.1 bt395.2.2.2.2.2.2.2.2).bind fun t407 => (if t407 = (-1) then (some true) else ((impl_IsOpen.f kj37 bt395.1 t407).bind fun t408 => (if t408 = true then ((impl_DueHour.f kj37 bt395.2.1 bt395.2.2.1 bt395.2.2.2.1 bt395.2.2.2.2.1 bt395.2.2.2.2.2.1 bt395.2.2.2.2.2.2.1 bt395.2.2.2.2.2.2.2.1 bt395.2.2.2.2.2.2.2.2).bind fun t409 => (some (decide ((wrap64 (t407 * 24)) ≥ (wrap64 (t409 - 24)))))) else (some false)))))) = some r := by rw [if_neg (show ¬ (false = true) by decide)] at H; exact H
                                clear H
                                have H := H1
                                clear H1
                                replace H := Option.bind_eq_some_iff.mp H
                                obtain ⟨⟨t395, t398, t399, t400, t401, t402, t403, t404, t405⟩, A430, H⟩ := H
                                replace H : ((impl_LastDay.f kj37 t395 t398 t399 t400 t401 t402 t403 t404 t405).bind fun t407 => (if t407 = (-1) then (some true) else ((impl_IsOpen.f kj37 t395 t407).bind fun t408 => (if t408 = true then ((impl_DueHour.f kj37 t398 t399 t400 t401 t402 t403 t404 t405).bind fun t409 => (some (decide ((wrap64 (t407 * 24)) ≥ (wrap64 (t409 - 24)))))) else (some false))))) = some r := H
                                have A43 := Aside0.mk A430
                                clear A430
                                replace H := Option.bind_eq_some_iff.mp H
                                obtain ⟨t407, A440, H⟩ := H
                                replace H : (if t407 = (-1) then (some true) else ((impl_IsOpen.f kj37 t395 t407).bind fun t408 => (if t408 = true then ((impl_DueHour.f kj37 t398 t399 t400 t401 t402 t403 t404 t405).bind fun t409 => (some (decide ((wrap64 (t407 * 24)) ≥ (wrap64 (t409 - 24)))))) else (some false)))) = some r := H
                                have A44 := Aside0.mk A440
                                clear A440
                                by_cases c45 : t407 = (-1)
                                · rw [if_pos c45] at H
                                  have c45b0 : (t407 == (-1)) = true := beq_iff_eq.mpr c45
                                  have c45b1 : (t407 != (-1)) = false := bne_eq_false_iff_eq.mpr c45
                                  clear c45
                                  obtain rfl := Option.some.inj H
                                  go_wp2_with (first | ((with_reducible refine gate_callee (f := 37) rfl ?_); refine goesL_ (some 113) rfl rfl Try.func37 (by kernel_rfl) rfl #[.slice A0 l0.length c0] rfl (by (try simp only [List.map_toArray, List.map_cons, List.map_nil]); first | done | rfl | (simp only [List.length_drop, List.length_take]; rfl)) ?_; (with_reducible refine (spec_DrawLastDay.calls kj37 _ _ l0 t395 t398 t399 t400 t401 t402 t403 t404 t405 _ ?side1 ?side2 A43.out).mono ?_); (case side1 => repeat (first | exact (Kd.C_below HR0.out HB.out) | (with_reducible refine Kd.C_alloc ?_ _) | (with_reducible refine Kd.C_drewN ?_ _) | (with_reducible refine Kd.C_drew ?_))); (case side2 => exact HC0.out); rintro e w46 ⟨v396, rfl, ho0, hb⟩; refine ⟨_, rfl, ?_⟩; have n0_ := Aside0.mk (Kd.R_elder' (by (with_reducible repeat (first | apply Kd.R_alloc | apply Kd.R_drewN | apply Kd.R_drew)); exact HO_7.out) (Kd.R_base ho0) hb); have n1_ := Aside0.mk (Kd.R_lower (Kd.R_new' ho0 (Kd.R_lt (by (with_reducible repeat (first | apply Kd.R_alloc | apply Kd.R_drewN | apply Kd.R_drew)); exact HO_7.out))) (below_size (by repeat (first | (with_reducible first | exact HB.out | apply below_alloc | apply pw_below_drewN | apply below_drew1) | exact HB.out)))); have n2_ := Aside0.mk (below_step (by repeat (first | (with_reducible first | exact HB.out | apply below_alloc | apply pw_below_drewN | apply below_drew1) | exact HB.out)) hb); clear HO_7; clear HB; have HO_7 := n0_; have HO397 := n1_; have HB := n2_; clear n0_ n1_ n2_; (try clear hb); (try clear hb2); (try clear hk); (try clear hi); (try clear ho0)) | ((with_reducible refine gate_dst (N := 12) rfl ?_); refine box_event ?hg (N := 12) ?hd (cs := #[.int .i64 0, .int .i64 0, .int .i64 0, .int .i64 0, .int .i64 0, .int .i64 0, .int .i64 0, .int .i64 0]) (t := 37) ?hr ?_; (case hd => rfl); (case hg => rfl); (case hr => first | (go_simp; done) | (go_simp; rfl)); intro gb406 hg w47 hbox hb; have n0_ := Aside0.mk (Kd.R_below (by (with_reducible repeat (first | apply Kd.R_alloc | apply Kd.R_drewN | apply Kd.R_drew)); exact HO_7.out) hb); have n1_ := Aside0.mk (Kd.R_below (by (with_reducible repeat (first | apply Kd.R_alloc | apply Kd.R_drewN | apply Kd.R_drew)); exact HO397.out) hb); have n2_ := Aside0.mk (below_step (by repeat (first | (with_reducible first | exact HB.out | apply below_alloc | apply pw_below_drewN | apply below_drew1) | exact HB.out)) hb); have n3_ := Aside0.mk (hbox); have n4_ := Aside0.mk ((by rw [hg]; exact (below_size (by repeat (first | (with_reducible first | exact HB.out | apply below_alloc | apply pw_below_drewN | apply below_drew1) | exact HB.out))) : w.heap.size ≤ gb406)); have n5_ := Aside0.mk ((by rw [hg]; exact (below_size (by repeat (first | (with_reducible first | exact HB.out | apply below_alloc | apply pw_below_drewN | apply below_drew1) | exact HB.out))) : w.heap.size ≤ gb406)); clear HO_7; clear HO397; clear HB; have HO_7 := n0_; have HO397 := n1_; have HB := n2_; have BK406 := n3_; have GW406 := n4_; have GE406 := n5_; clear n0_ n1_ n2_ n3_ n4_ n5_; clear hb hbox hg; have hcz48_0 : w47.cell? ⟨gb406, 0, none⟩ = some (.int .i64 0) := (blk_cell BK406.out 0).trans rfl; have hcz48_1 : w47.cell? ⟨gb406, 1, none⟩ = some (.int .i64 0) := (blk_cell BK406.out 1).trans rfl; have hcz48_2 : w47.cell? ⟨gb406, 2, none⟩ = some (.int .i64 0) := (blk_cell BK406.out 2).trans rfl; have hcz48_3 : w47.cell? ⟨gb406, 3, none⟩ = some (.int .i64 0) := (blk_cell BK406.out 3).trans rfl; have hcz48_4 : w47.cell? ⟨gb406, 4, none⟩ = some (.int .i64 0) := (blk_cell BK406.out 4).trans rfl; have hcz48_5 : w47.cell? ⟨gb406, 5, none⟩ = some (.int .i64 0) := (blk_cell BK406.out 5).trans rfl; have hcz48_6 : w47.cell? ⟨gb406, 6, none⟩ = some (.int .i64 0) := (blk_cell BK406.out 6).trans rfl; have hcz48_7 : w47.cell? ⟨gb406, 7, none⟩ = some (.int .i64 0) := (blk_cell BK406.out 7).trans rfl; have hfz48_0 := blk_frozen BK406.out 0; have hfz48_1 := blk_frozen BK406.out 1; have hfz48_2 := blk_frozen BK406.out 2; have hfz48_3 := blk_frozen BK406.out 3; have hfz48_4 := blk_frozen BK406.out 4; have hfz48_5 := blk_frozen BK406.out 5; have hfz48_6 := blk_frozen BK406.out 6; have hfz48_7 := blk_frozen BK406.out 7; obtain ⟨Ao49, co49, eo49⟩ := Kd.R_slice HO397.out; subst eo49) | ((with_reducible refine gate_callee (f := 33) rfl ?_); refine goesL_ (some 118) rfl rfl Try.func33 (by kernel_rfl) rfl #[.slice Ao49 t395.length co49, .agg #[.int .i64 t398, .int .i64 t399, .int .i64 t400, .int .i64 t401, .int .i64 t402, .int .i64 t403, .int .i64 t404, .int .i64 t405]] rfl (by (try simp only [List.map_toArray, List.map_cons, List.map_nil]); first | done | rfl | (simp only [List.length_drop, List.length_take]; rfl)) ?_; (with_reducible refine (impl_LastDay.calls kj37 _ _ t395 t398 t399 t400 t401 t402 t403 t404 t405 t407 _ ?side1 ?side2 A44.out).mono ?_); (case side1 => refine (Kd.R_reads' (e := 4) (base := w.heap.size) (ok := fun k_ => (True ∧ some k_ ≠ (.slice Ao24 t388.length co24 : Value).ownBlock)) (n := t395.length) (c := co49) ?_).2.2; exact (by (with_reducible repeat (first | apply Kd.R_alloc | apply Kd.R_drewN | apply Kd.R_drew)); exact (Kd.R_mono (Kd.R_far (p := ⟨gb406, 7, none⟩) (Kd.R_far (p := ⟨gb406, 6, none⟩) (Kd.R_far (p := ⟨gb406, 5, none⟩) (Kd.R_far (p := ⟨gb406, 4, none⟩) (Kd.R_far (p := ⟨gb406, 3, none⟩) (Kd.R_far (p := ⟨gb406, 2, none⟩) (Kd.R_far (p := ⟨gb406, 1, none⟩) (Kd.R_far (p := ⟨gb406, 0, none⟩) (Kd.R_types HO397.out BK406.out (by decide)) (fun _ hk => hk.2) (.int .i64 t398)) (fun _ hk => hk.2) (.int .i64 t399)) (fun _ hk => hk.2) (.int .i64 t400)) (fun _ hk => hk.2) (.int .i64 t401)) (fun _ hk => hk.2) (.int .i64 t402)) (fun _ hk => hk.2) (.int .i64 t403)) (fun _ hk => hk.2) (.int .i64 t404)) (fun _ hk => hk.2) (.int .i64 t405)) (fun _ h_ => h_.1)))); (case side2 => exact (Kd.R_reads' HO397.out).2.1); rintro e w50 ⟨rfl, hb⟩; refine ⟨_, rfl, ?_⟩; have n0_ := Aside0.mk (Kd.R_below (by (with_reducible repeat (first | apply Kd.R_alloc | apply Kd.R_drewN | apply Kd.R_drew)); exact (Kd.R_mono (Kd.R_far (p := ⟨gb406, 7, none⟩) (Kd.R_far (p := ⟨gb406, 6, none⟩) (Kd.R_far (p := ⟨gb406, 5, none⟩) (Kd.R_far (p := ⟨gb406, 4, none⟩) (Kd.R_far (p := ⟨gb406, 3, none⟩) (Kd.R_far (p := ⟨gb406, 2, none⟩) (Kd.R_far (p := ⟨gb406, 1, none⟩) (Kd.R_far (p := ⟨gb406, 0, none⟩) (Kd.R_types HO_7.out BK406.out (by decide)) (fun _ hk => hk.2) (.int .i64 t398)) (fun _ hk => hk.2) (.int .i64 t399)) (fun _ hk => hk.2) (.int .i64 t400)) (fun _ hk => hk.2) (.int .i64 t401)) (fun _ hk => hk.2) (.int .i64 t402)) (fun _ hk => hk.2) (.int .i64 t403)) (fun _ hk => hk.2) (.int .i64 t404)) (fun _ hk => hk.2) (.int .i64 t405)) (fun _ h_ => h_.1))) hb); have n1_ := Aside0.mk (Kd.R_below (by (with_reducible repeat (first | apply Kd.R_alloc | apply Kd.R_drewN | apply Kd.R_drew)); exact (Kd.R_mono (Kd.R_far (p := ⟨gb406, 7, none⟩) (Kd.R_far (p := ⟨gb406, 6, none⟩) (Kd.R_far (p := ⟨gb406, 5, none⟩) (Kd.R_far (p := ⟨gb406, 4, none⟩) (Kd.R_far (p := ⟨gb406, 3, none⟩) (Kd.R_far (p := ⟨gb406, 2, none⟩) (Kd.R_far (p := ⟨gb406, 1, none⟩) (Kd.R_far (p := ⟨gb406, 0, none⟩) (Kd.R_types HO397.out BK406.out (by decide)) (fun _ hk => hk.2) (.int .i64 t398)) (fun _ hk => hk.2) (.int .i64 t399)) (fun _ hk => hk.2) (.int .i64 t400)) (fun _ hk => hk.2) (.int .i64 t401)) (fun _ hk => hk.2) (.int .i64 t402)) (fun _ hk => hk.2) (.int .i64 t403)) (fun _ hk => hk.2) (.int .i64 t404)) (fun _ hk => hk.2) (.int .i64 t405)) (fun _ h_ => h_.1))) hb); have n2_ := Aside0.mk (blk_below (g := gb406) (o := .cells #[.int .i64 t398, .int .i64 t399, .int .i64 t400, .int .i64 t401, .int .i64 t402, .int .i64 t403, .int .i64 t404, .int .i64 t405] 37 (0, 0)) (by (with_reducible repeat (first | refine blk_drewN ?_ _ | refine blk_drew ?_ | refine blk_alloc ?_ _)); refine blk_put (cs := #[.int .i64 t398, .int .i64 t399, .int .i64 t400, .int .i64 t401, .int .i64 t402, .int .i64 t403, .int .i64 t404, .int .i64 0]) ?_ 7 _ rfl; (with_reducible repeat (first | refine blk_drewN ?_ _ | refine blk_drew ?_ | refine blk_alloc ?_ _)); refine blk_put (cs := #[.int .i64 t398, .int .i64 t399, .int .i64 t400, .int .i64 t401, .int .i64 t402, .int .i64 t403, .int .i64 0, .int .i64 0]) ?_ 6 _ rfl; (with_reducible repeat (first | refine blk_drewN ?_ _ | refine blk_drew ?_ | refine blk_alloc ?_ _)); refine blk_put (cs := #[.int .i64 t398, .int .i64 t399, .int .i64 t400, .int .i64 t401, .int .i64 t402, .int .i64 0, .int .i64 0, .int .i64 0]) ?_ 5 _ rfl; (with_reducible repeat (first | refine blk_drewN ?_ _ | refine blk_drew ?_ | refine blk_alloc ?_ _)); refine blk_put (cs := #[.int .i64 t398, .int .i64 t399, .int .i64 t400, .int .i64 t401, .int .i64 0, .int .i64 0, .int .i64 0, .int .i64 0]) ?_ 4 _ rfl; (with_reducible repeat (first | refine blk_drewN ?_ _ | refine blk_drew ?_ | refine blk_alloc ?_ _)); refine blk_put (cs := #[.int .i64 t398, .int .i64 t399, .int .i64 t400, .int .i64 0, .int .i64 0, .int .i64 0, .int .i64 0, .int .i64 0]) ?_ 3 _ rfl; (with_reducible repeat (first | refine blk_drewN ?_ _ | refine blk_drew ?_ | refine blk_alloc ?_ _)); refine blk_put (cs := #[.int .i64 t398, .int .i64 t399, .int .i64 0, .int .i64 0, .int .i64 0, .int .i64 0, .int .i64 0, .int .i64 0]) ?_ 2 _ rfl; (with_reducible repeat (first | refine blk_drewN ?_ _ | refine blk_drew ?_ | refine blk_alloc ?_ _)); refine blk_put (cs := #[.int .i64 t398, .int .i64 0, .int .i64 0, .int .i64 0, .int .i64 0, .int .i64 0, .int .i64 0, .int .i64 0]) ?_ 1 _ rfl; (with_reducible repeat (first | refine blk_drewN ?_ _ | refine blk_drew ?_ | refine blk_alloc ?_ _)); refine blk_put (cs := #[.int .i64 0, .int .i64 0, .int .i64 0, .int .i64 0, .int .i64 0, .int .i64 0, .int .i64 0, .int .i64 0]) ?_ 0 _ rfl; (with_reducible repeat (first | refine blk_drewN ?_ _ | refine blk_drew ?_ | refine blk_alloc ?_ _)); exact BK406.out) hb); have n3_ := Aside0.mk (below_step (by repeat (first | (with_reducible first | exact HB.out | apply below_alloc | apply pw_below_drewN | apply below_drew1 | refine below_set ?_ GE406.out) | exact HB.out)) hb); clear HO_7; clear HO397; clear BK406; clear HB; have HO_7 := n0_; have HO397 := n1_; have BK406 := n2_; have HB := n3_; clear n0_ n1_ n2_ n3_; (try clear hb); (try clear hb2); (try clear hk); (try clear hi)))
                                  go_ret
                                  exact ⟨by first | rfl | (simp [errW_none, errW_some] <;> rfl) | (simp [*, errW_none, errW_some] <;> rfl), by repeat (first | (with_reducible first | exact HB.out | apply below_alloc | apply pw_below_drewN | apply below_drew1 | refine below_set ?_ GE406.out) | exact HB.out)⟩
                                · rw [if_neg c45] at H
                                  have c45b0 : (t407 == (-1)) = false := beq_eq_false_iff_ne.mpr c45
                                  have c45b1 : (t407 != (-1)) = true := bne_iff_ne.mpr c45
                                  replace H := Option.bind_eq_some_iff.mp H
                                  obtain ⟨t408, A510, H⟩ := H
                                  replace H : (if t408 = true then ((impl_DueHour.f kj37 t398 t399 t400 t401 t402 t403 t404 t405).bind fun t409 => (some (decide ((wrap64 (t407 * 24)) ≥ (wrap64 (t409 - 24)))))) else (some false)) = some r := H
                                  have A51 := Aside0.mk A510
                                  clear A510
                                  by_cases c52 : t408 = true
                                  · subst c52
                                    have H1 : ((impl_DueHour.f kj37 t398 t399 t400 t401 t402 t403 t404 t405).bind fun t409 => (some (decide ((wrap64 (t407 * 24)) ≥ (wrap64 (t409 - 24)))))) = some r := by rw [if_pos rfl] at H; exact H
                                    clear H
                                    have H := H1
                                    clear H1
                                    replace H := Option.bind_eq_some_iff.mp H
                                    obtain ⟨t409, A530, H⟩ := H
                                    replace H : (some (decide ((wrap64 (t407 * 24)) ≥ (wrap64 (t409 - 24))))) = some r := H
                                    have A53 := Aside0.mk A530
                                    clear A530
                                    obtain rfl := Option.some.inj H
                                    go_wp2_with (first | ((with_reducible refine gate_callee (f := 37) rfl ?_); refine goesL_ (some 113) rfl rfl Try.func37 (by kernel_rfl) rfl #[.slice A0 l0.length c0] rfl (by (try simp only [List.map_toArray, List.map_cons, List.map_nil]); first | done | rfl | (simp only [List.length_drop, List.length_take]; rfl)) ?_; (with_reducible refine (spec_DrawLastDay.calls kj37 _ _ l0 t395 t398 t399 t400 t401 t402 t403 t404 t405 _ ?side1 ?side2 A43.out).mono ?_); (case side1 => repeat (first | exact (Kd.C_below HR0.out HB.out) | (with_reducible refine Kd.C_alloc ?_ _) | (with_reducible refine Kd.C_drewN ?_ _) | (with_reducible refine Kd.C_drew ?_))); (case side2 => exact HC0.out); rintro e w54 ⟨v396, rfl, ho0, hb⟩; refine ⟨_, rfl, ?_⟩; have n0_ := Aside0.mk (Kd.R_elder' (by (with_reducible repeat (first | apply Kd.R_alloc | apply Kd.R_drewN | apply Kd.R_drew)); exact HO_7.out) (Kd.R_base ho0) hb); have n1_ := Aside0.mk (Kd.R_lower (Kd.R_new' ho0 (Kd.R_lt (by (with_reducible repeat (first | apply Kd.R_alloc | apply Kd.R_drewN | apply Kd.R_drew)); exact HO_7.out))) (below_size (by repeat (first | (with_reducible first | exact HB.out | apply below_alloc | apply pw_below_drewN | apply below_drew1) | exact HB.out)))); have n2_ := Aside0.mk (below_step (by repeat (first | (with_reducible first | exact HB.out | apply below_alloc | apply pw_below_drewN | apply below_drew1) | exact HB.out)) hb); clear HO_7; clear HB; have HO_7 := n0_; have HO397 := n1_; have HB := n2_; clear n0_ n1_ n2_; (try clear hb); (try clear hb2); (try clear hk); (try clear hi); (try clear ho0)) | ((with_reducible refine gate_dst (N := 12) rfl ?_); refine box_event ?hg (N := 12) ?hd (cs := #[.int .i64 0, .int .i64 0, .int .i64 0, .int .i64 0, .int .i64 0, .int .i64 0, .int .i64 0, .int .i64 0]) (t := 37) ?hr ?_; (case hd => rfl); (case hg => rfl); (case hr => first | (go_simp; done) | (go_simp; rfl)); intro gb406 hg w55 hbox hb; have n0_ := Aside0.mk (Kd.R_below (by (with_reducible repeat (first | apply Kd.R_alloc | apply Kd.R_drewN | apply Kd.R_drew)); exact HO_7.out) hb); have n1_ := Aside0.mk (Kd.R_below (by (with_reducible repeat (first | apply Kd.R_alloc | apply Kd.R_drewN | apply Kd.R_drew)); exact HO397.out) hb); have n2_ := Aside0.mk (below_step (by repeat (first | (with_reducible first | exact HB.out | apply below_alloc | apply pw_below_drewN | apply below_drew1) | exact HB.out)) hb); have n3_ := Aside0.mk (hbox); have n4_ := Aside0.mk ((by rw [hg]; exact (below_size (by repeat (first | (with_reducible first | exact HB.out | apply below_alloc | apply pw_below_drewN | apply below_drew1) | exact HB.out))) : w.heap.size ≤ gb406)); have n5_ := Aside0.mk ((by rw [hg]; exact (below_size (by repeat (first | (with_reducible first | exact HB.out | apply below_alloc | apply pw_below_drewN | apply below_drew1) | exact HB.out))) : w.heap.size ≤ gb406)); clear HO_7; clear HO397; clear HB; have HO_7 := n0_; have HO397 := n1_; have HB := n2_; have BK406 := n3_; have GW406 := n4_; have GE406 := n5_; clear n0_ n1_ n2_ n3_ n4_ n5_; clear hb hbox hg; have hcz56_0 : w55.cell? ⟨gb406, 0, none⟩ = some (.int .i64 0) := (blk_cell BK406.out 0).trans rfl; have hcz56_1 : w55.cell? ⟨gb406, 1, none⟩ = some (.int .i64 0) := (blk_cell BK406.out 1).trans rfl; have hcz56_2 : w55.cell? ⟨gb406, 2, none⟩ = some (.int .i64 0) := (blk_cell BK406.out 2).trans rfl; have hcz56_3 : w55.cell? ⟨gb406, 3, none⟩ = some (.int .i64 0) := (blk_cell BK406.out 3).trans rfl; have hcz56_4 : w55.cell? ⟨gb406, 4, none⟩ = some (.int .i64 0) := (blk_cell BK406.out 4).trans rfl; have hcz56_5 : w55.cell? ⟨gb406, 5, none⟩ = some (.int .i64 0) := (blk_cell BK406.out 5).trans rfl; have hcz56_6 : w55.cell? ⟨gb406, 6, none⟩ = some (.int .i64 0) := (blk_cell BK406.out 6).trans rfl; have hcz56_7 : w55.cell? ⟨gb406, 7, none⟩ = some (.int .i64 0) := (blk_cell BK406.out 7).trans rfl; have hfz56_0 := blk_frozen BK406.out 0; have hfz56_1 := blk_frozen BK406.out 1; have hfz56_2 := blk_frozen BK406.out 2; have hfz56_3 := blk_frozen BK406.out 3; have hfz56_4 := blk_frozen BK406.out 4; have hfz56_5 := blk_frozen BK406.out 5; have hfz56_6 := blk_frozen BK406.out 6; have hfz56_7 := blk_frozen BK406.out 7; obtain ⟨Ao57, co57, eo57⟩ := Kd.R_slice HO397.out; subst eo57) | ((with_reducible refine gate_callee (f := 33) rfl ?_); refine goesL_ (some 118) rfl rfl Try.func33 (by kernel_rfl) rfl #[.slice Ao57 t395.length co57, .agg #[.int .i64 t398, .int .i64 t399, .int .i64 t400, .int .i64 t401, .int .i64 t402, .int .i64 t403, .int .i64 t404, .int .i64 t405]] rfl (by (try simp only [List.map_toArray, List.map_cons, List.map_nil]); first | done | rfl | (simp only [List.length_drop, List.length_take]; rfl)) ?_; (with_reducible refine (impl_LastDay.calls kj37 _ _ t395 t398 t399 t400 t401 t402 t403 t404 t405 t407 _ ?side1 ?side2 A44.out).mono ?_); (case side1 => refine (Kd.R_reads' (e := 4) (base := w.heap.size) (ok := fun k_ => (True ∧ some k_ ≠ (.slice Ao24 t388.length co24 : Value).ownBlock)) (n := t395.length) (c := co57) ?_).2.2; exact (by (with_reducible repeat (first | apply Kd.R_alloc | apply Kd.R_drewN | apply Kd.R_drew)); exact (Kd.R_mono (Kd.R_far (p := ⟨gb406, 7, none⟩) (Kd.R_far (p := ⟨gb406, 6, none⟩) (Kd.R_far (p := ⟨gb406, 5, none⟩) (Kd.R_far (p := ⟨gb406, 4, none⟩) (Kd.R_far (p := ⟨gb406, 3, none⟩) (Kd.R_far (p := ⟨gb406, 2, none⟩) (Kd.R_far (p := ⟨gb406, 1, none⟩) (Kd.R_far (p := ⟨gb406, 0, none⟩) (Kd.R_types HO397.out BK406.out (by decide)) (fun _ hk => hk.2) (.int .i64 t398)) (fun _ hk => hk.2) (.int .i64 t399)) (fun _ hk => hk.2) (.int .i64 t400)) (fun _ hk => hk.2) (.int .i64 t401)) (fun _ hk => hk.2) (.int .i64 t402)) (fun _ hk => hk.2) (.int .i64 t403)) (fun _ hk => hk.2) (.int .i64 t404)) (fun _ hk => hk.2) (.int .i64 t405)) (fun _ h_ => h_.1)))); (case side2 => exact (Kd.R_reads' HO397.out).2.1); rintro e w58 ⟨rfl, hb⟩; refine ⟨_, rfl, ?_⟩; have n0_ := Aside0.mk (Kd.R_below (by (with_reducible repeat (first | apply Kd.R_alloc | apply Kd.R_drewN | apply Kd.R_drew)); exact (Kd.R_mono (Kd.R_far (p := ⟨gb406, 7, none⟩) (Kd.R_far (p := ⟨gb406, 6, none⟩) (Kd.R_far (p := ⟨gb406, 5, none⟩) (Kd.R_far (p := ⟨gb406, 4, none⟩) (Kd.R_far (p := ⟨gb406, 3, none⟩) (Kd.R_far (p := ⟨gb406, 2, none⟩) (Kd.R_far (p := ⟨gb406, 1, none⟩) (Kd.R_far (p := ⟨gb406, 0, none⟩) (Kd.R_types HO_7.out BK406.out (by decide)) (fun _ hk => hk.2) (.int .i64 t398)) (fun _ hk => hk.2) (.int .i64 t399)) (fun _ hk => hk.2) (.int .i64 t400)) (fun _ hk => hk.2) (.int .i64 t401)) (fun _ hk => hk.2) (.int .i64 t402)) (fun _ hk => hk.2) (.int .i64 t403)) (fun _ hk => hk.2) (.int .i64 t404)) (fun _ hk => hk.2) (.int .i64 t405)) (fun _ h_ => h_.1))) hb); have n1_ := Aside0.mk (Kd.R_below (by (with_reducible repeat (first | apply Kd.R_alloc | apply Kd.R_drewN | apply Kd.R_drew)); exact (Kd.R_mono (Kd.R_far (p := ⟨gb406, 7, none⟩) (Kd.R_far (p := ⟨gb406, 6, none⟩) (Kd.R_far (p := ⟨gb406, 5, none⟩) (Kd.R_far (p := ⟨gb406, 4, none⟩) (Kd.R_far (p := ⟨gb406, 3, none⟩) (Kd.R_far (p := ⟨gb406, 2, none⟩) (Kd.R_far (p := ⟨gb406, 1, none⟩) (Kd.R_far (p := ⟨gb406, 0, none⟩) (Kd.R_types HO397.out BK406.out (by decide)) (fun _ hk => hk.2) (.int .i64 t398)) (fun _ hk => hk.2) (.int .i64 t399)) (fun _ hk => hk.2) (.int .i64 t400)) (fun _ hk => hk.2) (.int .i64 t401)) (fun _ hk => hk.2) (.int .i64 t402)) (fun _ hk => hk.2) (.int .i64 t403)) (fun _ hk => hk.2) (.int .i64 t404)) (fun _ hk => hk.2) (.int .i64 t405)) (fun _ h_ => h_.1))) hb); have n2_ := Aside0.mk (blk_below (g := gb406) (o := .cells #[.int .i64 t398, .int .i64 t399, .int .i64 t400, .int .i64 t401, .int .i64 t402, .int .i64 t403, .int .i64 t404, .int .i64 t405] 37 (0, 0)) (by (with_reducible repeat (first | refine blk_drewN ?_ _ | refine blk_drew ?_ | refine blk_alloc ?_ _)); refine blk_put (cs := #[.int .i64 t398, .int .i64 t399, .int .i64 t400, .int .i64 t401, .int .i64 t402, .int .i64 t403, .int .i64 t404, .int .i64 0]) ?_ 7 _ rfl; (with_reducible repeat (first | refine blk_drewN ?_ _ | refine blk_drew ?_ | refine blk_alloc ?_ _)); refine blk_put (cs := #[.int .i64 t398, .int .i64 t399, .int .i64 t400, .int .i64 t401, .int .i64 t402, .int .i64 t403, .int .i64 0, .int .i64 0]) ?_ 6 _ rfl; (with_reducible repeat (first | refine blk_drewN ?_ _ | refine blk_drew ?_ | refine blk_alloc ?_ _)); refine blk_put (cs := #[.int .i64 t398, .int .i64 t399, .int .i64 t400, .int .i64 t401, .int .i64 t402, .int .i64 0, .int .i64 0, .int .i64 0]) ?_ 5 _ rfl; (with_reducible repeat (first | refine blk_drewN ?_ _ | refine blk_drew ?_ | refine blk_alloc ?_ _)); refine blk_put (cs := #[.int .i64 t398, .int .i64 t399, .int .i64 t400, .int .i64 t401, .int .i64 0, .int .i64 0, .int .i64 0, .int .i64 0]) ?_ 4 _ rfl; (with_reducible repeat (first | refine blk_drewN ?_ _ | refine blk_drew ?_ | refine blk_alloc ?_ _)); refine blk_put (cs := #[.int .i64 t398, .int .i64 t399, .int .i64 t400, .int .i64 0, .int .i64 0, .int .i64 0, .int .i64 0, .int .i64 0]) ?_ 3 _ rfl; (with_reducible repeat (first | refine blk_drewN ?_ _ | refine blk_drew ?_ | refine blk_alloc ?_ _)); refine blk_put (cs := #[.int .i64 t398, .int .i64 t399, .int .i64 0, .int .i64 0, .int .i64 0, .int .i64 0, .int .i64 0, .int .i64 0]) ?_ 2 _ rfl; (with_reducible repeat (first | refine blk_drewN ?_ _ | refine blk_drew ?_ | refine blk_alloc ?_ _)); refine blk_put (cs := #[.int .i64 t398, .int .i64 0, .int .i64 0, .int .i64 0, .int .i64 0, .int .i64 0, .int .i64 0, .int .i64 0]) ?_ 1 _ rfl; (with_reducible repeat (first | refine blk_drewN ?_ _ | refine blk_drew ?_ | refine blk_alloc ?_ _)); refine blk_put (cs := #[.int .i64 0, .int .i64 0, .int .i64 0, .int .i64 0, .int .i64 0, .int .i64 0, .int .i64 0, .int .i64 0]) ?_ 0 _ rfl; (with_reducible repeat (first | refine blk_drewN ?_ _ | refine blk_drew ?_ | refine blk_alloc ?_ _)); exact BK406.out) hb); have n3_ := Aside0.mk (below_step (by repeat (first | (with_reducible first | exact HB.out | apply below_alloc | apply pw_below_drewN | apply below_drew1 | refine below_set ?_ GE406.out) | exact HB.out)) hb); clear HO_7; clear HO397; clear BK406; clear HB; have HO_7 := n0_; have HO397 := n1_; have BK406 := n2_; have HB := n3_; clear n0_ n1_ n2_ n3_; (try clear hb); (try clear hb2); (try clear hk); (try clear hi)) | (go_at_call 25; (with_reducible refine (impl_IsOpen.calls kj37 _ _ t395 t407 true _ ?side1 ?side2 A51.out).mono ?_); (case side1 => repeat (first | exact (Kd.R_reads' HO397.out).2.2 | (with_reducible refine Kd.C_alloc ?_ _) | (with_reducible refine Kd.C_drewN ?_ _) | (with_reducible refine Kd.C_drew ?_))); (case side2 => exact (Kd.R_reads' HO397.out).2.1); rintro e w' ⟨rfl, ⟨nd, rfl⟩⟩; have hcz59_0 : w58.cell? ⟨gb406, 0, none⟩ = some (.int .i64 t398) := (blk_cell BK406.out 0).trans rfl; have hcz59_1 : w58.cell? ⟨gb406, 1, none⟩ = some (.int .i64 t399) := (blk_cell BK406.out 1).trans rfl; have hcz59_2 : w58.cell? ⟨gb406, 2, none⟩ = some (.int .i64 t400) := (blk_cell BK406.out 2).trans rfl; have hcz59_3 : w58.cell? ⟨gb406, 3, none⟩ = some (.int .i64 t401) := (blk_cell BK406.out 3).trans rfl; have hcz59_4 : w58.cell? ⟨gb406, 4, none⟩ = some (.int .i64 t402) := (blk_cell BK406.out 4).trans rfl; have hcz59_5 : w58.cell? ⟨gb406, 5, none⟩ = some (.int .i64 t403) := (blk_cell BK406.out 5).trans rfl; have hcz59_6 : w58.cell? ⟨gb406, 6, none⟩ = some (.int .i64 t404) := (blk_cell BK406.out 6).trans rfl; have hcz59_7 : w58.cell? ⟨gb406, 7, none⟩ = some (.int .i64 t405) := (blk_cell BK406.out 7).trans rfl; have hfz59_0 := blk_frozen BK406.out 0; have hfz59_1 := blk_frozen BK406.out 1; have hfz59_2 := blk_frozen BK406.out 2; have hfz59_3 := blk_frozen BK406.out 3; have hfz59_4 := blk_frozen BK406.out 4; have hfz59_5 := blk_frozen BK406.out 5; have hfz59_6 := blk_frozen BK406.out 6; have hfz59_7 := blk_frozen BK406.out 7) | (go_at_call 38; (with_reducible refine (impl_DueHour.calls kj37 t398 t399 t400 t401 t402 t403 t404 t405 t409 _ A53.out).mono ?_); rintro e w60 ⟨rfl, hb⟩; have n0_ := Aside0.mk (Kd.R_below (by (with_reducible repeat (first | apply Kd.R_alloc | apply Kd.R_drewN | apply Kd.R_drew)); exact HO_7.out) hb); have n1_ := Aside0.mk (Kd.R_below (by (with_reducible repeat (first | apply Kd.R_alloc | apply Kd.R_drewN | apply Kd.R_drew)); exact HO397.out) hb); have n2_ := Aside0.mk (blk_below (g := gb406) (o := .cells #[.int .i64 t398, .int .i64 t399, .int .i64 t400, .int .i64 t401, .int .i64 t402, .int .i64 t403, .int .i64 t404, .int .i64 t405] 37 (0, 0)) (by (with_reducible repeat (first | refine blk_drewN ?_ _ | refine blk_drew ?_ | refine blk_alloc ?_ _)); exact BK406.out) hb); have n3_ := Aside0.mk (below_step (by repeat (first | (with_reducible first | exact HB.out | apply below_alloc | apply pw_below_drewN | apply below_drew1 | refine below_set ?_ GE406.out) | exact HB.out)) hb); clear HO_7; clear HO397; clear BK406; clear HB; have HO_7 := n0_; have HO397 := n1_; have BK406 := n2_; have HB := n3_; clear n0_ n1_ n2_ n3_; (try clear hb); (try clear hb2); (try clear hk); (try clear hi)))
                                    go_ret
                                    exact ⟨by first | rfl | (simp [errW_none, errW_some] <;> rfl) | (simp [*, errW_none, errW_some] <;> rfl), by repeat (first | (with_reducible first | exact HB.out | apply below_alloc | apply pw_below_drewN | apply below_drew1 | refine below_set ?_ GE406.out) | exact HB.out)⟩
                                  · replace c52 := Bool.eq_false_iff.mpr c52
                                    subst c52
                                    have H1 : (some false) = some r := by rw [if_neg (show ¬ (false = true) by decide)] at H; exact H
                                    clear H
                                    have H := H1
                                    clear H1
                                    obtain rfl := Option.some.inj H
                                    go_wp2_with (first | ((with_reducible refine gate_callee (f := 37) rfl ?_); refine goesL_ (some 113) rfl rfl Try.func37 (by kernel_rfl) rfl #[.slice A0 l0.length c0] rfl (by (try simp only [List.map_toArray, List.map_cons, List.map_nil]); first | done | rfl | (simp only [List.length_drop, List.length_take]; rfl)) ?_; (with_reducible refine (spec_DrawLastDay.calls kj37 _ _ l0 t395 t398 t399 t400 t401 t402 t403 t404 t405 _ ?side1 ?side2 A43.out).mono ?_); (case side1 => repeat (first | exact (Kd.C_below HR0.out HB.out) | (with_reducible refine Kd.C_alloc ?_ _) | (with_reducible refine Kd.C_drewN ?_ _) | (with_reducible refine Kd.C_drew ?_))); (case side2 => exact HC0.out); rintro e w61 ⟨v396, rfl, ho0, hb⟩; refine ⟨_, rfl, ?_⟩; have n0_ := Aside0.mk (Kd.R_elder' (by (with_reducible repeat (first | apply Kd.R_alloc | apply Kd.R_drewN | apply Kd.R_drew)); exact HO_7.out) (Kd.R_base ho0) hb); have n1_ := Aside0.mk (Kd.R_lower (Kd.R_new' ho0 (Kd.R_lt (by (with_reducible repeat (first | apply Kd.R_alloc | apply Kd.R_drewN | apply Kd.R_drew)); exact HO_7.out))) (below_size (by repeat (first | (with_reducible first | exact HB.out | apply below_alloc | apply pw_below_drewN | apply below_drew1) | exact HB.out)))); have n2_ := Aside0.mk (below_step (by repeat (first | (with_reducible first | exact HB.out | apply below_alloc | apply pw_below_drewN | apply below_drew1) | exact HB.out)) hb); clear HO_7; clear HB; have HO_7 := n0_; have HO397 := n1_; have HB := n2_; clear n0_ n1_ n2_; (try clear hb); (try clear hb2); (try clear hk); (try clear hi); (try clear ho0)) | ((with_reducible refine gate_dst (N := 12) rfl ?_); refine box_event ?hg (N := 12) ?hd (cs := #[.int .i64 0, .int .i64 0, .int .i64 0, .int .i64 0, .int .i64 0, .int .i64 0, .int .i64 0, .int .i64 0]) (t := 37) ?hr ?_; (case hd => rfl); (case hg => rfl); (case hr => first | (go_simp; done) | (go_simp; rfl)); intro gb406 hg w62 hbox hb; have n0_ := Aside0.mk (Kd.R_below (by (with_reducible repeat (first | apply Kd.R_alloc | apply Kd.R_drewN | apply Kd.R_drew)); exact HO_7.out) hb); have n1_ := Aside0.mk (Kd.R_below (by (with_reducible repeat (first | apply Kd.R_alloc | apply Kd.R_drewN | apply Kd.R_drew)); exact HO397.out) hb); have n2_ := Aside0.mk (below_step (by repeat (first | (with_reducible first | exact HB.out | apply below_alloc | apply pw_below_drewN | apply below_drew1) | exact HB.out)) hb); have n3_ := Aside0.mk (hbox); have n4_ := Aside0.mk ((by rw [hg]; exact (below_size (by repeat (first | (with_reducible first | exact HB.out | apply below_alloc | apply pw_below_drewN | apply below_drew1) | exact HB.out))) : w.heap.size ≤ gb406)); have n5_ := Aside0.mk ((by rw [hg]; exact (below_size (by repeat (first | (with_reducible first | exact HB.out | apply below_alloc | apply pw_below_drewN | apply below_drew1) | exact HB.out))) : w.heap.size ≤ gb406)); clear HO_7; clear HO397; clear HB; have HO_7 := n0_; have HO397 := n1_; have HB := n2_; have BK406 := n3_; have GW406 := n4_; have GE406 := n5_; clear n0_ n1_ n2_ n3_ n4_ n5_; clear hb hbox hg; have hcz63_0 : w62.cell? ⟨gb406, 0, none⟩ = some (.int .i64 0) := (blk_cell BK406.out 0).trans rfl; have hcz63_1 : w62.cell? ⟨gb406, 1, none⟩ = some (.int .i64 0) := (blk_cell BK406.out 1).trans rfl; have hcz63_2 : w62.cell? ⟨gb406, 2, none⟩ = some (.int .i64 0) := (blk_cell BK406.out 2).trans rfl; have hcz63_3 : w62.cell? ⟨gb406, 3, none⟩ = some (.int .i64 0) := (blk_cell BK406.out 3).trans rfl; have hcz63_4 : w62.cell? ⟨gb406, 4, none⟩ = some (.int .i64 0) := (blk_cell BK406.out 4).trans rfl; have hcz63_5 : w62.cell? ⟨gb406, 5, none⟩ = some (.int .i64 0) := (blk_cell BK406.out 5).trans rfl; have hcz63_6 : w62.cell? ⟨gb406, 6, none⟩ = some (.int .i64 0) := (blk_cell BK406.out 6).trans rfl; have hcz63_7 : w62.cell? ⟨gb406, 7, none⟩ = some (.int .i64 0) := (blk_cell BK406.out 7).trans rfl; have hfz63_0 := blk_frozen BK406.out 0; have hfz63_1 := blk_frozen BK406.out 1; have hfz63_2 := blk_frozen BK406.out 2; have hfz63_3 := blk_frozen BK406.out 3; have hfz63_4 := blk_frozen BK406.out 4; have hfz63_5 := blk_frozen BK406.out 5; have hfz63_6 := blk_frozen BK406.out 6; have hfz63_7 := blk_frozen BK406.out 7; obtain ⟨Ao64, co64, eo64⟩ := Kd.R_slice HO397.out; subst eo64) | ((with_reducible refine gate_callee (f := 33) rfl ?_); refine goesL_ (some 118) rfl rfl Try.func33 (by kernel_rfl) rfl #[.slice Ao64 t395.length co64, .agg #[.int .i64 t398, .int .i64 t399, .int .i64 t400, .int .i64 t401, .int .i64 t402, .int .i64 t403, .int .i64 t404, .int .i64 t405]] rfl (by (try simp only [List.map_toArray, List.map_cons, List.map_nil]); first | done | rfl | (simp only [List.length_drop, List.length_take]; rfl)) ?_; (with_reducible refine (impl_LastDay.calls kj37 _ _ t395 t398 t399 t400 t401 t402 t403 t404 t405 t407 _ ?side1 ?side2 A44.out).mono ?_); (case side1 => refine (Kd.R_reads' (e := 4) (base := w.heap.size) (ok := fun k_ => (True ∧ some k_ ≠ (.slice Ao24 t388.length co24 : Value).ownBlock)) (n := t395.length) (c := co64) ?_).2.2; exact (by (with_reducible repeat (first | apply Kd.R_alloc | apply Kd.R_drewN | apply Kd.R_drew)); exact (Kd.R_mono (Kd.R_far (p := ⟨gb406, 7, none⟩) (Kd.R_far (p := ⟨gb406, 6, none⟩) (Kd.R_far (p := ⟨gb406, 5, none⟩) (Kd.R_far (p := ⟨gb406, 4, none⟩) (Kd.R_far (p := ⟨gb406, 3, none⟩) (Kd.R_far (p := ⟨gb406, 2, none⟩) (Kd.R_far (p := ⟨gb406, 1, none⟩) (Kd.R_far (p := ⟨gb406, 0, none⟩) (Kd.R_types HO397.out BK406.out (by decide)) (fun _ hk => hk.2) (.int .i64 t398)) (fun _ hk => hk.2) (.int .i64 t399)) (fun _ hk => hk.2) (.int .i64 t400)) (fun _ hk => hk.2) (.int .i64 t401)) (fun _ hk => hk.2) (.int .i64 t402)) (fun _ hk => hk.2) (.int .i64 t403)) (fun _ hk => hk.2) (.int .i64 t404)) (fun _ hk => hk.2) (.int .i64 t405)) (fun _ h_ => h_.1)))); (case side2 => exact (Kd.R_reads' HO397.out).2.1); rintro e w65 ⟨rfl, hb⟩; refine ⟨_, rfl, ?_⟩; have n0_ := Aside0.mk (Kd.R_below (by (with_reducible repeat (first | apply Kd.R_alloc | apply Kd.R_drewN | apply Kd.R_drew)); exact (Kd.R_mono (Kd.R_far (p := ⟨gb406, 7, none⟩) (Kd.R_far (p := ⟨gb406, 6, none⟩) (Kd.R_far (p := ⟨gb406, 5, none⟩) (Kd.R_far (p := ⟨gb406, 4, none⟩) (Kd.R_far (p := ⟨gb406, 3, none⟩) (Kd.R_far (p := ⟨gb406, 2, none⟩) (Kd.R_far (p := ⟨gb406, 1, none⟩) (Kd.R_far (p := ⟨gb406, 0, none⟩) (Kd.R_types HO_7.out BK406.out (by decide)) (fun _ hk => hk.2) (.int .i64 t398)) (fun _ hk => hk.2) (.int .i64 t399)) (fun _ hk => hk.2) (.int .i64 t400)) (fun _ hk => hk.2) (.int .i64 t401)) (fun _ hk => hk.2) (.int .i64 t402)) (fun _ hk => hk.2) (.int .i64 t403)) (fun _ hk => hk.2) (.int .i64 t404)) (fun _ hk => hk.2) (.int .i64 t405)) (fun _ h_ => h_.1))) hb); have n1_ := Aside0.mk (Kd.R_below (by (with_reducible repeat (first | apply Kd.R_alloc | apply Kd.R_drewN | apply Kd.R_drew)); exact (Kd.R_mono (Kd.R_far (p := ⟨gb406, 7, none⟩) (Kd.R_far (p := ⟨gb406, 6, none⟩) (Kd.R_far (p := ⟨gb406, 5, none⟩) (Kd.R_far (p := ⟨gb406, 4, none⟩) (Kd.R_far (p := ⟨gb406, 3, none⟩) (Kd.R_far (p := ⟨gb406, 2, none⟩) (Kd.R_far (p := ⟨gb406, 1, none⟩) (Kd.R_far (p := ⟨gb406, 0, none⟩) (Kd.R_types HO397.out BK406.out (by decide)) (fun _ hk => hk.2) (.int .i64 t398)) (fun _ hk => hk.2) (.int .i64 t399)) (fun _ hk => hk.2) (.int .i64 t400)) (fun _ hk => hk.2) (.int .i64 t401)) (fun _ hk => hk.2) (.int .i64 t402)) (fun _ hk => hk.2) (.int .i64 t403)) (fun _ hk => hk.2) (.int .i64 t404)) (fun _ hk => hk.2) (.int .i64 t405)) (fun _ h_ => h_.1))) hb); have n2_ := Aside0.mk (blk_below (g := gb406) (o := .cells #[.int .i64 t398, .int .i64 t399, .int .i64 t400, .int .i64 t401, .int .i64 t402, .int .i64 t403, .int .i64 t404, .int .i64 t405] 37 (0, 0)) (by (with_reducible repeat (first | refine blk_drewN ?_ _ | refine blk_drew ?_ | refine blk_alloc ?_ _)); refine blk_put (cs := #[.int .i64 t398, .int .i64 t399, .int .i64 t400, .int .i64 t401, .int .i64 t402, .int .i64 t403, .int .i64 t404, .int .i64 0]) ?_ 7 _ rfl; (with_reducible repeat (first | refine blk_drewN ?_ _ | refine blk_drew ?_ | refine blk_alloc ?_ _)); refine blk_put (cs := #[.int .i64 t398, .int .i64 t399, .int .i64 t400, .int .i64 t401, .int .i64 t402, .int .i64 t403, .int .i64 0, .int .i64 0]) ?_ 6 _ rfl; (with_reducible repeat (first | refine blk_drewN ?_ _ | refine blk_drew ?_ | refine blk_alloc ?_ _)); refine blk_put (cs := #[.int .i64 t398, .int .i64 t399, .int .i64 t400, .int .i64 t401, .int .i64 t402, .int .i64 0, .int .i64 0, .int .i64 0]) ?_ 5 _ rfl; (with_reducible repeat (first | refine blk_drewN ?_ _ | refine blk_drew ?_ | refine blk_alloc ?_ _)); refine blk_put (cs := #[.int .i64 t398, .int .i64 t399, .int .i64 t400, .int .i64 t401, .int .i64 0, .int .i64 0, .int .i64 0, .int .i64 0]) ?_ 4 _ rfl; (with_reducible repeat (first | refine blk_drewN ?_ _ | refine blk_drew ?_ | refine blk_alloc ?_ _)); refine blk_put (cs := #[.int .i64 t398, .int .i64 t399, .int .i64 t400, .int .i64 0, .int .i64 0, .int .i64 0, .int .i64 0, .int .i64 0]) ?_ 3 _ rfl; (with_reducible repeat (first | refine blk_drewN ?_ _ | refine blk_drew ?_ | refine blk_alloc ?_ _)); refine blk_put (cs := #[.int .i64 t398, .int .i64 t399, .int .i64 0, .int .i64 0, .int .i64 0, .int .i64 0, .int .i64 0, .int .i64 0]) ?_ 2 _ rfl; (with_reducible repeat (first | refine blk_drewN ?_ _ | refine blk_drew ?_ | refine blk_alloc ?_ _)); refine blk_put (cs := #[.int .i64 t398, .int .i64 0, .int .i64 0, .int .i64 0, .int .i64 0, .int .i64 0, .int .i64 0, .int .i64 0]) ?_ 1 _ rfl; (with_reducible repeat (first | refine blk_drewN ?_ _ | refine blk_drew ?_ | refine blk_alloc ?_ _)); refine blk_put (cs := #[.int .i64 0, .int .i64 0, .int .i64 0, .int .i64 0, .int .i64 0, .int .i64 0, .int .i64 0, .int .i64 0]) ?_ 0 _ rfl; (with_reducible repeat (first | refine blk_drewN ?_ _ | refine blk_drew ?_ | refine blk_alloc ?_ _)); exact BK406.out) hb); have n3_ := Aside0.mk (below_step (by repeat (first | (with_reducible first | exact HB.out | apply below_alloc | apply pw_below_drewN | apply below_drew1 | refine below_set ?_ GE406.out) | exact HB.out)) hb); clear HO_7; clear HO397; clear BK406; clear HB; have HO_7 := n0_; have HO397 := n1_; have BK406 := n2_; have HB := n3_; clear n0_ n1_ n2_ n3_; (try clear hb); (try clear hb2); (try clear hk); (try clear hi)) | (go_at_call 25; (with_reducible refine (impl_IsOpen.calls kj37 _ _ t395 t407 false _ ?side1 ?side2 A51.out).mono ?_); (case side1 => repeat (first | exact (Kd.R_reads' HO397.out).2.2 | (with_reducible refine Kd.C_alloc ?_ _) | (with_reducible refine Kd.C_drewN ?_ _) | (with_reducible refine Kd.C_drew ?_))); (case side2 => exact (Kd.R_reads' HO397.out).2.1); rintro e w' ⟨rfl, ⟨nd, rfl⟩⟩))
                                    go_ret
                                    exact ⟨by first | rfl | (simp [errW_none, errW_some] <;> rfl) | (simp [*, errW_none, errW_some] <;> rfl), by repeat (first | (with_reducible first | exact HB.out | apply below_alloc | apply pw_below_drewN | apply below_drew1 | refine below_set ?_ GE406.out) | exact HB.out)⟩

end Go.Proofs.Ytkbnbimphddmbaa.PFnCalendars
