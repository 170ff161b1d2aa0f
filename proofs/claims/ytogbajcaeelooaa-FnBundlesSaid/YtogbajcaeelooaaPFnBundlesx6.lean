-- Written for this claim by a program (a printer turned to this claim); Lean checks it.
import Derived.Test.YtogbajcaeelooaaPFnBundlesx0
import Derived.Test.YtogbajcaeelooaaPFnBundlesx1
import Derived.Test.YtogbajcaeelooaaPFnBundlesx2
import Derived.Test.YtogbajcaeelooaaPFnBundlesx3
import Derived.Test.YtogbajcaeelooaaPFnBundlesx5
namespace Go.Proofs.Ytogbajcaeelooaa.PFnBundles
open Go.RowKit Go.Proofs.YtogbajcaeelooaaW.PrintWords Go.Proofs.YtogbajcaeelooaaW.PrintLast Go.Proofs.YtogbajcaeelooaaW.PrintMore
attribute [local go_sem] max2_int min2_int max_two min_two max_three min_three max_four min_four   -- for this text's walks alone
set_option linter.unusedVariables false
set_option linter.unusedSimpArgs false

/-! ### laws_FnBundles: function 9 -/
mutual
def laws_FnBundles.j0 : Nat → List Int → List (S48) → Int → List Int → Bool → Option (Bool)
 | 0, _, _, _, _, _ => none
 | k + 1, x0, x3, x4, x5, x34 => if x34 = true then (some false) else (laws_FnBundles.l0 k x0 x3 x4 x5 0)
def laws_FnBundles.l0 : Nat → List Int → List (S48) → Int → List Int → Int → Option (Bool)
 | 0, _, _, _, _, _ => none
 | k + 1, x0, x3, x4, x5, x6 => if x6 < (x5.length : Int) then (if 0 ≤ x6 then ((impl_TopOf.f k x3 (rd x5 x6)).bind fun t278 => ((impl_TopOf.f k x3 x4).bind fun t279 => (if t278 = t279 then (laws_FnBundles.l0 k x0 x3 x4 x5 (wrap64 (x6 + 1))) else (some false)))) else (none)) else ((spec_DrawPutIn.f k x0).bind fun bt280 => ((impl_PutIn.f k bt280.1 bt280.2.1 bt280.2.2).bind fun bt285 => (if bt285.2 = true then ((impl_TakeFrom.f k bt285.1 bt280.2.2).bind fun bt289 => ((impl_AreInners.f k bt285.1).bind fun t293 => (if t293 = true then ((impl_OuterOf.f bt285.1 bt280.2.2).bind fun t294 => (if t294 = bt280.2.1 then ((impl_AllIn.f k bt285.1 bt280.2.1).bind fun t295 => ((laws_contains.f k t295 bt280.2.2).bind fun t298 => (if t298 = true then (if bt289.2 = true then (if (bt289.1.length : Int) = (bt280.1.length : Int) then (laws_FnBundles.j2 k x0) else (some false)) else (some false)) else (some false)))) else (some false))) else (some false)))) else (if (bt285.1.length : Int) = (bt280.1.length : Int) then (laws_FnBundles.j2 k x0) else (some false)))))
def laws_FnBundles.j2 : Nat → List Int → Option (Bool)
 | 0, _ => none
 | k + 1, x0 => (spec_DrawTopOf.f k x0).bind fun bt299 => ((impl_TopOf.f k bt299.1 bt299.2).bind fun t303 => ((impl_AreInners.f k bt299.1).bind fun t304 => (if t304 = true then (if ((t303 == 0) == (bt299.2 == 0)) = true then (if t303 = 0 then (some true) else ((impl_OuterOf.f bt299.1 t303).bind fun t305 => (some (t305 == 0)))) else (some false)) else (if ((t303 == 0) == true) = true then (if t303 = 0 then (some true) else ((impl_OuterOf.f bt299.1 t303).bind fun t306 => (some (t306 == 0)))) else (some false)))))
end
def laws_FnBundles.f (k : Nat) (l0 : List Int) : Option (Bool) := (laws_big.f l0).bind fun t267 => (if t267 = true then (some true) else ((spec_DrawAllIn.f k l0).bind fun bt268 => ((impl_AllIn.f k bt268.1 bt268.2).bind fun t272 => ((laws_ascends.f k t272).bind fun t275 => (if t275 = true then ((laws_contains.f k t272 bt268.2).bind fun t276 => (laws_FnBundles.j0 k l0 bt268.1 bt268.2 t272 t276)) else (laws_FnBundles.j0 k l0 bt268.1 bt268.2 t272 true))))))
theorem laws_FnBundles.mono_l : ∀ k, (∀ y0 y1 y2 y3 y4, LeO (laws_FnBundles.j0 k y0 y1 y2 y3 y4) (laws_FnBundles.j0 (k + 1) y0 y1 y2 y3 y4)) ∧ (∀ y0 y1 y2 y3 y4, LeO (laws_FnBundles.l0 k y0 y1 y2 y3 y4) (laws_FnBundles.l0 (k + 1) y0 y1 y2 y3 y4)) ∧ (∀ y0, LeO (laws_FnBundles.j2 k y0) (laws_FnBundles.j2 (k + 1) y0))
 | 0 => ⟨fun _ _ _ _ _ r h => by simp [laws_FnBundles.j0] at h, fun _ _ _ _ _ r h => by simp [laws_FnBundles.l0] at h, fun _ r h => by simp [laws_FnBundles.j2] at h⟩
 | k + 1 => by
  obtain ⟨ih0, ih1, ih2⟩ := laws_FnBundles.mono_l k
  refine ⟨?_, ?_, ?_⟩
  ·
   intro y0 y1 y2 y3 y4
   unfold laws_FnBundles.j0
   repeat' first
   | (with_reducible exact ih0 _ _ _ _ _)
   | (with_reducible exact ih1 _ _ _ _ _)
   | (with_reducible exact ih2 _)
   | (with_reducible exact impl_AllIn.mono _ _ _)
   | (with_reducible exact impl_AreInners.mono _ _)
   | (with_reducible exact impl_PutIn.mono _ _ _ _)
   | (with_reducible exact impl_TakeFrom.mono _ _ _)
   | (with_reducible exact impl_TopOf.mono _ _ _)
   | (with_reducible exact laws_ascends.mono _ _)
   | (with_reducible exact laws_contains.mono _ _ _)
   | (with_reducible exact spec_DrawAllIn.mono _ _)
   | (with_reducible exact spec_DrawPutIn.mono _ _)
   | (with_reducible exact spec_DrawTopOf.mono _ _)
   | (with_reducible exact LeO.refl _)
   | (with_reducible exact LeO.none _)
   | (with_reducible refine LeO.ite ?_ ?_)
   | (with_reducible refine LeO.bind ?_ (fun _ => ?_))
   | exact ih0 _ _ _ _ _
   | exact ih1 _ _ _ _ _
   | exact ih2 _
   | exact impl_AllIn.mono _ _ _
   | exact impl_AreInners.mono _ _
   | exact impl_PutIn.mono _ _ _ _
   | exact impl_TakeFrom.mono _ _ _
   | exact impl_TopOf.mono _ _ _
   | exact laws_ascends.mono _ _
   | exact laws_contains.mono _ _ _
   | exact spec_DrawAllIn.mono _ _
   | exact spec_DrawPutIn.mono _ _
   | exact spec_DrawTopOf.mono _ _
   | exact LeO.none _
   | refine LeO.ite ?_ ?_
   | refine LeO.bind ?_ (fun _ => ?_)
  ·
   intro y0 y1 y2 y3 y4
   unfold laws_FnBundles.l0
   repeat' first
   | (with_reducible exact ih0 _ _ _ _ _)
   | (with_reducible exact ih1 _ _ _ _ _)
   | (with_reducible exact ih2 _)
   | (with_reducible exact impl_AllIn.mono _ _ _)
   | (with_reducible exact impl_AreInners.mono _ _)
   | (with_reducible exact impl_PutIn.mono _ _ _ _)
   | (with_reducible exact impl_TakeFrom.mono _ _ _)
   | (with_reducible exact impl_TopOf.mono _ _ _)
   | (with_reducible exact laws_ascends.mono _ _)
   | (with_reducible exact laws_contains.mono _ _ _)
   | (with_reducible exact spec_DrawAllIn.mono _ _)
   | (with_reducible exact spec_DrawPutIn.mono _ _)
   | (with_reducible exact spec_DrawTopOf.mono _ _)
   | (with_reducible exact LeO.refl _)
   | (with_reducible exact LeO.none _)
   | (with_reducible refine LeO.ite ?_ ?_)
   | (with_reducible refine LeO.bind ?_ (fun _ => ?_))
   | exact ih0 _ _ _ _ _
   | exact ih1 _ _ _ _ _
   | exact ih2 _
   | exact impl_AllIn.mono _ _ _
   | exact impl_AreInners.mono _ _
   | exact impl_PutIn.mono _ _ _ _
   | exact impl_TakeFrom.mono _ _ _
   | exact impl_TopOf.mono _ _ _
   | exact laws_ascends.mono _ _
   | exact laws_contains.mono _ _ _
   | exact spec_DrawAllIn.mono _ _
   | exact spec_DrawPutIn.mono _ _
   | exact spec_DrawTopOf.mono _ _
   | exact LeO.none _
   | refine LeO.ite ?_ ?_
   | refine LeO.bind ?_ (fun _ => ?_)
  ·
   intro y0
   unfold laws_FnBundles.j2
   repeat' first
   | (with_reducible exact ih0 _ _ _ _ _)
   | (with_reducible exact ih1 _ _ _ _ _)
   | (with_reducible exact ih2 _)
   | (with_reducible exact impl_AllIn.mono _ _ _)
   | (with_reducible exact impl_AreInners.mono _ _)
   | (with_reducible exact impl_PutIn.mono _ _ _ _)
   | (with_reducible exact impl_TakeFrom.mono _ _ _)
   | (with_reducible exact impl_TopOf.mono _ _ _)
   | (with_reducible exact laws_ascends.mono _ _)
   | (with_reducible exact laws_contains.mono _ _ _)
   | (with_reducible exact spec_DrawAllIn.mono _ _)
   | (with_reducible exact spec_DrawPutIn.mono _ _)
   | (with_reducible exact spec_DrawTopOf.mono _ _)
   | (with_reducible exact LeO.refl _)
   | (with_reducible exact LeO.none _)
   | (with_reducible refine LeO.ite ?_ ?_)
   | (with_reducible refine LeO.bind ?_ (fun _ => ?_))
   | exact ih0 _ _ _ _ _
   | exact ih1 _ _ _ _ _
   | exact ih2 _
   | exact impl_AllIn.mono _ _ _
   | exact impl_AreInners.mono _ _
   | exact impl_PutIn.mono _ _ _ _
   | exact impl_TakeFrom.mono _ _ _
   | exact impl_TopOf.mono _ _ _
   | exact laws_ascends.mono _ _
   | exact laws_contains.mono _ _ _
   | exact spec_DrawAllIn.mono _ _
   | exact spec_DrawPutIn.mono _ _
   | exact spec_DrawTopOf.mono _ _
   | exact LeO.none _
   | refine LeO.ite ?_ ?_
   | refine LeO.bind ?_ (fun _ => ?_)
theorem laws_FnBundles.mono : ∀ a0 k, LeO (laws_FnBundles.f k a0) (laws_FnBundles.f (k + 1) a0) := by
 intro a0 k
 obtain ⟨ih0, ih1, ih2⟩ := laws_FnBundles.mono_l k
 unfold laws_FnBundles.f
 repeat' first
   | (with_reducible exact ih0 _ _ _ _ _)
   | (with_reducible exact ih1 _ _ _ _ _)
   | (with_reducible exact ih2 _)
   | (with_reducible exact impl_AllIn.mono _ _ _)
   | (with_reducible exact impl_AreInners.mono _ _)
   | (with_reducible exact impl_PutIn.mono _ _ _ _)
   | (with_reducible exact impl_TakeFrom.mono _ _ _)
   | (with_reducible exact impl_TopOf.mono _ _ _)
   | (with_reducible exact laws_ascends.mono _ _)
   | (with_reducible exact laws_contains.mono _ _ _)
   | (with_reducible exact spec_DrawAllIn.mono _ _)
   | (with_reducible exact spec_DrawPutIn.mono _ _)
   | (with_reducible exact spec_DrawTopOf.mono _ _)
   | (with_reducible exact LeO.refl _)
   | (with_reducible exact LeO.none _)
   | (with_reducible refine LeO.ite ?_ ?_)
   | (with_reducible refine LeO.bind ?_ (fun _ => ?_))
   | exact ih0 _ _ _ _ _
   | exact ih1 _ _ _ _ _
   | exact ih2 _
   | exact impl_AllIn.mono _ _ _
   | exact impl_AreInners.mono _ _
   | exact impl_PutIn.mono _ _ _ _
   | exact impl_TakeFrom.mono _ _ _
   | exact impl_TopOf.mono _ _ _
   | exact laws_ascends.mono _ _
   | exact laws_contains.mono _ _ _
   | exact spec_DrawAllIn.mono _ _
   | exact spec_DrawPutIn.mono _ _
   | exact spec_DrawTopOf.mono _ _
   | exact LeO.none _
   | refine LeO.ite ?_ ?_
   | refine LeO.bind ?_ (fun _ => ?_)
set_option maxHeartbeats 8000000 in
set_option maxRecDepth 100000 in
theorem laws_FnBundles.calls (k : Nat) (A0 : Option Addr) (c0 : Nat) (l0 : List Int) (w : World) (hr0 : Kd.C (Kd.int .u8) w A0 l0.length l0) (hc0 : l0.length ≤ c0) (h : laws_FnBundles.f k l0 = some true) :
  Calls Try.prog 9 #[.slice A0 l0.length c0] w fun e w' => e = .returned (.bool true) ∧ Below w.heap.size w w' := by
 have HR0 := Aside0.mk hr0
 have HC0 := Aside0.mk hc0
 clear hr0 hc0
 have HB := Aside0.mk (Below.refl w.heap.size w)
 have H : ((laws_big.f l0).bind fun t267 => (if t267 = true then (some true) else ((spec_DrawAllIn.f k l0).bind fun bt268 => ((impl_AllIn.f k bt268.1 bt268.2).bind fun t272 => ((laws_ascends.f k t272).bind fun t275 => (if t275 = true then ((laws_contains.f k t272 bt268.2).bind fun t276 => (laws_FnBundles.j0 k l0 bt268.1 bt268.2 t272 t276)) else (laws_FnBundles.j0 k l0 bt268.1 bt268.2 t272 true))))))) = some true := h
 clear h
 replace H := Option.bind_eq_some_iff.mp H
 obtain ⟨t267, A20, H⟩ := H
 replace H : (if t267 = true then (some true) else ((spec_DrawAllIn.f k l0).bind fun bt268 => ((impl_AllIn.f k bt268.1 bt268.2).bind fun t272 => ((laws_ascends.f k t272).bind fun t275 => (if t275 = true then ((laws_contains.f k t272 bt268.2).bind fun t276 => (laws_FnBundles.j0 k l0 bt268.1 bt268.2 t272 t276)) else (laws_FnBundles.j0 k l0 bt268.1 bt268.2 t272 true)))))) = some true := H
 have A2 := Aside0.mk A20
 clear A20
 by_cases c3 : t267 = true
 ·
  subst c3
  have H1 : (some true : Option Bool) = some true := rfl
  clear H
  have H := H1
  clear H1
  first | (obtain rfl := Option.some.inj H) | (have Hr_ := Option.some.inj H; clear H)
  go_enter Try.func9, Try.ntmps9
  go_wp2_with (first | ((with_reducible refine gate_callee (f := 30) rfl ?_); refine goesL_ (some 18) rfl rfl Try.func30 (by kernel_rfl) rfl #[.slice A0 l0.length c0] rfl (by (try simp only [List.map_toArray, List.map_cons, List.map_nil]); first | done | rfl | (simp only [List.length_drop, List.length_take]; rfl)) ?_; (with_reducible refine (laws_big.calls _ _ l0 true _ ?side1 ?side2 A2.out).mono ?_); (case side1 => repeat (first | exact HR0.out | (with_reducible refine Kd.C_alloc ?_ _) | (with_reducible refine Kd.C_drewN ?_ _) | (with_reducible refine Kd.C_drew ?_))); (case side2 => exact HC0.out); rintro e w' ⟨rfl, ⟨nd, rfl⟩⟩; refine ⟨_, rfl, ?_⟩))
  go_ret
  exact ⟨by first | rfl | (simp [errW_none, errW_some] <;> rfl) | (simp [*, errW_none, errW_some] <;> rfl), by repeat (first | (with_reducible first | exact HB.out | apply below_alloc | apply pw_below_drewN | apply below_drew1) | exact HB.out)⟩
 ·
  replace c3 := Bool.eq_false_iff.mpr c3
  subst c3
  have H1 : ((spec_DrawAllIn.f k l0).bind fun bt268 => ((impl_AllIn.f k bt268.1 bt268.2).bind fun t272 => ((laws_ascends.f k t272).bind fun t275 => (if t275 = true then ((laws_contains.f k t272 bt268.2).bind fun t276 => (laws_FnBundles.j0 k l0 bt268.1 bt268.2 t272 t276)) else (laws_FnBundles.j0 k l0 bt268.1 bt268.2 t272 true))))) = some true := by rw [if_neg (show ¬ (false = true) by decide)] at H; exact H
  clear H
  have H := H1
  clear H1
  replace H := Option.bind_eq_some_iff.mp H
  obtain ⟨⟨t268, t269⟩, A40, H⟩ := H
  replace H : ((impl_AllIn.f k t268 t269).bind fun t272 => ((laws_ascends.f k t272).bind fun t275 => (if t275 = true then ((laws_contains.f k t272 t269).bind fun t276 => (laws_FnBundles.j0 k l0 t268 t269 t272 t276)) else (laws_FnBundles.j0 k l0 t268 t269 t272 true)))) = some true := H
  have A4 := Aside0.mk A40
  clear A40
  replace H := Option.bind_eq_some_iff.mp H
  obtain ⟨t272, A50, H⟩ := H
  replace H : ((laws_ascends.f k t272).bind fun t275 => (if t275 = true then ((laws_contains.f k t272 t269).bind fun t276 => (laws_FnBundles.j0 k l0 t268 t269 t272 t276)) else (laws_FnBundles.j0 k l0 t268 t269 t272 true))) = some true := H
  have A5 := Aside0.mk A50
  clear A50
  have HC6 := Aside0.mk H
  clear H
  go_enter Try.func9, Try.ntmps9
  go_upto_region 5 with (first | ((with_reducible refine gate_callee (f := 30) rfl ?_); refine goesL_ (some 18) rfl rfl Try.func30 (by kernel_rfl) rfl #[.slice A0 l0.length c0] rfl (by (try simp only [List.map_toArray, List.map_cons, List.map_nil]); first | done | rfl | (simp only [List.length_drop, List.length_take]; rfl)) ?_; (with_reducible refine (laws_big.calls _ _ l0 false _ ?side1 ?side2 A2.out).mono ?_); (case side1 => repeat (first | exact HR0.out | (with_reducible refine Kd.C_alloc ?_ _) | (with_reducible refine Kd.C_drewN ?_ _) | (with_reducible refine Kd.C_drew ?_))); (case side2 => exact HC0.out); rintro e w' ⟨rfl, ⟨nd, rfl⟩⟩; refine ⟨_, rfl, ?_⟩) | ((with_reducible refine gate_callee (f := 31) rfl ?_); refine goesL_ (some 21) rfl rfl Try.func31 (by kernel_rfl) rfl #[.slice A0 l0.length c0] rfl (by (try simp only [List.map_toArray, List.map_cons, List.map_nil]); first | done | rfl | (simp only [List.length_drop, List.length_take]; rfl)) ?_; (with_reducible refine (spec_DrawAllIn.calls k _ _ l0 t268 t269 _ ?side1 ?side2 A4.out).mono ?_); (case side1 => repeat (first | exact HR0.out | (with_reducible refine Kd.C_alloc ?_ _) | (with_reducible refine Kd.C_drewN ?_ _) | (with_reducible refine Kd.C_drew ?_))); (case side2 => exact HC0.out); rintro e w7 ⟨v270, rfl, ho0, hb⟩; refine ⟨_, rfl, ?_⟩; have n0_ := Aside0.mk (Kd.R_lower ho0 (below_size (by repeat (first | (with_reducible first | exact HB.out | apply below_alloc | apply pw_below_drewN | apply below_drew1) | exact HB.out)))); have n1_ := Aside0.mk (below_step (by repeat (first | (with_reducible first | exact HB.out | apply below_alloc | apply pw_below_drewN | apply below_drew1) | exact HB.out)) hb); clear HB; have HO271 := n0_; have HB := n1_; clear n0_ n1_; (try clear hb); (try clear hb2); (try clear hk); (try clear hi); (try clear ho0); obtain ⟨Ao8, co8, eo8⟩ := Kd.R_slice HO271.out; subst eo8) | ((with_reducible refine gate_callee (f := 26) rfl ?_); refine goesL_ (some 26) rfl rfl Try.func26 (by kernel_rfl) rfl #[.slice Ao8 t268.length co8, .int .i64 t269] rfl (by (try simp only [List.map_toArray, List.map_cons, List.map_nil]); first | done | rfl | (simp only [List.length_drop, List.length_take]; rfl)) ?_; (with_reducible refine (impl_AllIn.calls k _ _ t268 t269 t272 _ ?side1 ?side2 A5.out).mono ?_); (case side1 => repeat (first | exact (Kd.R_reads' HO271.out).2.2 | (with_reducible refine Kd.C_alloc ?_ _) | (with_reducible refine Kd.C_drewN ?_ _) | (with_reducible refine Kd.C_drew ?_))); (case side2 => exact (Kd.R_reads' HO271.out).2.1); rintro e w9 ⟨v273, rfl, ho0, hb⟩; refine ⟨_, rfl, ?_⟩; have n0_ := Aside0.mk (Kd.R_below (by (with_reducible repeat (first | apply Kd.R_alloc | apply Kd.R_drewN | apply Kd.R_drew)); exact HO271.out) hb); have n1_ := Aside0.mk (Kd.R_lower ho0 (below_size (by repeat (first | (with_reducible first | exact HB.out | apply below_alloc | apply pw_below_drewN | apply below_drew1) | exact HB.out)))); have n2_ := Aside0.mk (below_step (by repeat (first | (with_reducible first | exact HB.out | apply below_alloc | apply pw_below_drewN | apply below_drew1) | exact HB.out)) hb); clear HO271; clear HB; have HO271 := n0_; have HO274 := n1_; have HB := n2_; clear n0_ n1_ n2_; (try clear hb); (try clear hb2); (try clear hk); (try clear hi); (try clear ho0)))
  (try simp only [Act.put, List.setIfInBounds_toArray, List.set_cons_zero, List.set_cons_succ])
  go_cut [34] (fun v34 wc => ∃ (kq : Nat) (x34_5 : Bool), v34 = .bool x34_5 ∧ Aside0 (laws_FnBundles.j0 kq l0 t268 t269 t272 x34_5 = some true) ∧ Aside0 (kq ≤ k) ∧ Aside0 (Kd.R k48 48 wc w.heap.size (fun _ => True) (.slice Ao8 t268.length co8) t268) ∧ Aside0 (Kd.R (Kd.int .i64) 3 wc w.heap.size (fun _ => True) v273 t272) ∧ Aside0 (Below w.heap.size w wc))
  case first =>
   have H := HC6.out
   clear HC6
   replace H := Option.bind_eq_some_iff.mp H
   obtain ⟨t275, A100, H⟩ := H
   replace H : (if t275 = true then ((laws_contains.f k t272 t269).bind fun t276 => (laws_FnBundles.j0 k l0 t268 t269 t272 t276)) else (laws_FnBundles.j0 k l0 t268 t269 t272 true)) = some true := H
   have A10 := Aside0.mk A100
   clear A100
   by_cases c11 : t275 = true
   ·
    subst c11
    have H1 : ((laws_contains.f k t272 t269).bind fun t276 => (laws_FnBundles.j0 k l0 t268 t269 t272 t276)) = some true := by rw [if_pos rfl] at H; exact H
    clear H
    have H := H1
    clear H1
    replace H := Option.bind_eq_some_iff.mp H
    obtain ⟨t276, A120, H⟩ := H
    replace H : (laws_FnBundles.j0 k l0 t268 t269 t272 t276) = some true := H
    have A12 := Aside0.mk A120
    clear A120
    have H' := Aside0.mk H
    clear H
    obtain ⟨Ao13, co13, eo13⟩ := Kd.R_slice HO274.out
    subst eo13
    go_wp2_with (first | ((with_reducible refine gate_callee (f := 32) rfl ?_); refine goesL_ (some 28) rfl rfl Try.func32 (by kernel_rfl) rfl #[.slice Ao13 t272.length co13] rfl (by (try simp only [List.map_toArray, List.map_cons, List.map_nil]); first | done | rfl | (simp only [List.length_drop, List.length_take]; rfl)) ?_; (with_reducible refine (laws_ascends.calls k _ _ t272 true _ ?side1 ?side2 A10.out).mono ?_); (case side1 => repeat (first | exact (Kd.R_reads' HO274.out).2.2 | (with_reducible refine Kd.C_alloc ?_ _) | (with_reducible refine Kd.C_drewN ?_ _) | (with_reducible refine Kd.C_drew ?_))); (case side2 => exact (Kd.R_reads' HO274.out).2.1); rintro e w' ⟨rfl, ⟨nd, rfl⟩⟩; refine ⟨_, rfl, ?_⟩) | (go_at_call 33; (with_reducible refine (laws_contains.calls k _ _ t272 t269 t276 _ ?side1 ?side2 A12.out).mono ?_); (case side1 => repeat (first | exact (Kd.R_reads' HO274.out).2.2 | (with_reducible refine Kd.C_alloc ?_ _) | (with_reducible refine Kd.C_drewN ?_ _) | (with_reducible refine Kd.C_drew ?_))); (case side2 => exact (Kd.R_reads' HO274.out).2.1); rintro e w' ⟨rfl, ⟨nd, rfl⟩⟩))
    go_meet
    case rel => exact ⟨_, (t276), (by first | rfl | (simp; done) | (simp [*]; done)), H', ⟨by first | omega | exact Nat.le_refl _⟩, ⟨by (with_reducible repeat (first | apply Kd.R_alloc | apply Kd.R_drewN | apply Kd.R_drew)); exact HO271.out⟩, ⟨by (with_reducible repeat (first | apply Kd.R_alloc | apply Kd.R_drewN | apply Kd.R_drew)); exact HO274.out⟩, ⟨by repeat (first | (with_reducible first | exact HB.out | apply below_alloc | apply pw_below_drewN | apply below_drew1) | exact HB.out)⟩⟩
   ·
    replace c11 := Bool.eq_false_iff.mpr c11
    subst c11
    have H1 : (laws_FnBundles.j0 k l0 t268 t269 t272 true) = some true := by rw [if_neg (show ¬ (false = true) by decide)] at H; exact H
    clear H
    have H := H1
    clear H1
    have H' := Aside0.mk H
    clear H
    obtain ⟨Ao14, co14, eo14⟩ := Kd.R_slice HO274.out
    subst eo14
    go_wp2_with (first | ((with_reducible refine gate_callee (f := 32) rfl ?_); refine goesL_ (some 28) rfl rfl Try.func32 (by kernel_rfl) rfl #[.slice Ao14 t272.length co14] rfl (by (try simp only [List.map_toArray, List.map_cons, List.map_nil]); first | done | rfl | (simp only [List.length_drop, List.length_take]; rfl)) ?_; (with_reducible refine (laws_ascends.calls k _ _ t272 false _ ?side1 ?side2 A10.out).mono ?_); (case side1 => repeat (first | exact (Kd.R_reads' HO274.out).2.2 | (with_reducible refine Kd.C_alloc ?_ _) | (with_reducible refine Kd.C_drewN ?_ _) | (with_reducible refine Kd.C_drew ?_))); (case side2 => exact (Kd.R_reads' HO274.out).2.1); rintro e w' ⟨rfl, ⟨nd, rfl⟩⟩; refine ⟨_, rfl, ?_⟩))
    go_meet
    case rel => exact ⟨_, (true), (by first | rfl | (simp; done) | (simp [*]; done)), H', ⟨by first | omega | exact Nat.le_refl _⟩, ⟨by (with_reducible repeat (first | apply Kd.R_alloc | apply Kd.R_drewN | apply Kd.R_drew)); exact HO271.out⟩, ⟨by (with_reducible repeat (first | apply Kd.R_alloc | apply Kd.R_drewN | apply Kd.R_drew)); exact HO274.out⟩, ⟨by repeat (first | (with_reducible first | exact HB.out | apply below_alloc | apply pw_below_drewN | apply below_drew1) | exact HB.out)⟩⟩
  case rest =>
   clear HC6
   try clear c1
   try clear c2
   try clear p2
   try clear c3
   try clear c9
   try clear c11
   obtain ⟨kq, x34_5, rfl, HA, HJ5, HO_3, HO_5, HB⟩ := hcut
   cases kq with
   | zero => exact absurd HA.out (by simp [laws_FnBundles.j0])
   | succ kj5 =>
    have H := HA.out
    clear HA
    simp only [laws_FnBundles.j0] at H
    by_cases c15 : x34_5 = true
    ·
     subst c15
     have H1 : (some false) = some true := by rw [if_pos rfl] at H; exact H
     clear H
     have H := H1
     clear H1
     exact absurd H (by simp)
    ·
     replace c15 := Bool.eq_false_iff.mpr c15
     subst c15
     have H1 : (laws_FnBundles.l0 kj5 l0 t268 t269 t272 0) = some true := by rw [if_neg (show ¬ (false = true) by decide)] at H; exact H
     clear H
     have H := H1
     clear H1
     have H' := Aside0.mk H
     clear H
     go_wp2
     go_loopg [6] kj5 (fun kq v6 w' => ∃ (x6_2 : Int), v6 = .int .i64 x6_2 ∧ Aside0 (laws_FnBundles.l0 kq l0 t268 t269 t272 x6_2 = some true) ∧ Aside0 (kq ≤ kj5) ∧ Aside0 (Kd.R k48 48 w' w.heap.size (fun _ => True) (.slice Ao8 t268.length co8) t268) ∧ Aside0 (Kd.R (Kd.int .i64) 3 w' w.heap.size (fun _ => True) v273 t272) ∧ Aside0 (Below w.heap.size w w'))
     case atStart => exact ⟨(0), (by first | rfl | (simp; done) | (simp [*]; done)), H', ⟨Nat.le_refl _⟩, ⟨by (with_reducible repeat (first | apply Kd.R_alloc | apply Kd.R_drewN | apply Kd.R_drew)); exact HO_3.out⟩, ⟨by (with_reducible repeat (first | apply Kd.R_alloc | apply Kd.R_drewN | apply Kd.R_drew)); exact HO_5.out⟩, ⟨by repeat (first | (with_reducible first | exact HB.out | apply below_alloc | apply pw_below_drewN | apply below_drew1) | exact HB.out)⟩⟩
     case round =>
      clear H'
      try clear c1
      try clear c2
      try clear p2
      try clear c3
      try clear c9
      try clear c11
      try clear c15
      try clear p2
      obtain ⟨x6_2, rfl, HA, HK2, HO_3, HO_5, HB⟩ := hrel
      cases gk with
      | zero => exact absurd HA.out (by simp [laws_FnBundles.l0])
      | succ k2 =>
       have H := HA.out
       clear HA
       simp only [laws_FnBundles.l0] at H
       by_cases c16 : x6_2 < (t272.length : Int)
       ·
        rw [if_pos c16] at H
        have c16b0 : decide (x6_2 < (t272.length : Int)) = true := decide_eq_true c16
        clear c16
        by_cases c17 : 0 ≤ x6_2
        ·
         rw [if_pos c17] at H
         have c17b0 : decide (0 ≤ x6_2) = true := decide_eq_true c17
         clear c17
         replace H := Option.bind_eq_some_iff.mp H
         obtain ⟨t278, A180, H⟩ := H
         replace H : ((impl_TopOf.f k2 t268 t269).bind fun t279 => (if t278 = t279 then (laws_FnBundles.l0 k2 l0 t268 t269 t272 (wrap64 (x6_2 + 1))) else (some false))) = some true := H
         have A18 := Aside0.mk A180
         clear A180
         replace H := Option.bind_eq_some_iff.mp H
         obtain ⟨t279, A190, H⟩ := H
         replace H : (if t278 = t279 then (laws_FnBundles.l0 k2 l0 t268 t269 t272 (wrap64 (x6_2 + 1))) else (some false)) = some true := H
         have A19 := Aside0.mk A190
         clear A190
         by_cases c20 : t278 = t279
         ·
          rw [if_pos c20] at H
          have c20b0 : (t278 == t279) = true := beq_iff_eq.mpr c20
          have c20b1 : (t278 != t279) = false := bne_eq_false_iff_eq.mpr c20
          clear c20
          have H' := Aside0.mk H
          clear H
          obtain ⟨Ao21, co21, eo21⟩ := Kd.R_slice HO_5.out
          subst eo21
          have p277 : 0 ≤ (x6_2 : Int) := of_decide_eq_true (by first | (with_reducible assumption) | assumption)
          have q277 : x6_2 < (t272.length : Int) := of_decide_eq_true (by first | (with_reducible assumption) | assumption)
          obtain ⟨ad277, e277, hx277_0⟩ := Kd.at_int (Kd.R_reads' HO_5.out).2.2 x6_2 p277 q277
          cases e277
          replace p277 := eq_true p277
          replace q277 := eq_true q277
          go_wp2_with (first | ((with_reducible refine gate_callee (f := 18) rfl ?_); refine goesL_ (some 46) rfl rfl Try.func18 (by kernel_rfl) rfl #[.slice Ao8 t268.length co8, .int .i64 (rd t272 x6_2)] rfl (by (try simp only [List.map_toArray, List.map_cons, List.map_nil]); first | done | rfl | (simp only [List.length_drop, List.length_take]; rfl)) ?_; (with_reducible refine (impl_TopOf.calls k2 _ _ t268 (rd t272 x6_2) t278 _ ?side1 ?side2 A18.out).mono ?_); (case side1 => repeat (first | exact (Kd.R_reads' HO_3.out).2.2 | (with_reducible refine Kd.C_alloc ?_ _) | (with_reducible refine Kd.C_drewN ?_ _) | (with_reducible refine Kd.C_drew ?_))); (case side2 => exact (Kd.R_reads' HO_3.out).2.1); rintro e w22 ⟨rfl, hb⟩; refine ⟨_, rfl, ?_⟩; have n0_ := Aside0.mk (Kd.R_below (by (with_reducible repeat (first | apply Kd.R_alloc | apply Kd.R_drewN | apply Kd.R_drew)); exact HO_3.out) hb); have n1_ := Aside0.mk (Kd.R_below (by (with_reducible repeat (first | apply Kd.R_alloc | apply Kd.R_drewN | apply Kd.R_drew)); exact HO_5.out) hb); have n2_ := Aside0.mk (below_step (by repeat (first | (with_reducible first | exact HB.out | apply below_alloc | apply pw_below_drewN | apply below_drew1) | exact HB.out)) hb); clear HO_3; clear HO_5; clear HB; have HO_3 := n0_; have HO_5 := n1_; have HB := n2_; clear n0_ n1_ n2_; (try clear hb); (try clear hb2); (try clear hk); (try clear hi)) | ((with_reducible refine gate_callee (f := 18) rfl ?_); refine goesL_ (some 49) rfl rfl Try.func18 (by kernel_rfl) rfl #[.slice Ao8 t268.length co8, .int .i64 t269] rfl (by (try simp only [List.map_toArray, List.map_cons, List.map_nil]); first | done | rfl | (simp only [List.length_drop, List.length_take]; rfl)) ?_; (with_reducible refine (impl_TopOf.calls k2 _ _ t268 t269 t279 _ ?side1 ?side2 A19.out).mono ?_); (case side1 => repeat (first | exact (Kd.R_reads' HO_3.out).2.2 | (with_reducible refine Kd.C_alloc ?_ _) | (with_reducible refine Kd.C_drewN ?_ _) | (with_reducible refine Kd.C_drew ?_))); (case side2 => exact (Kd.R_reads' HO_3.out).2.1); rintro e w23 ⟨rfl, hb⟩; refine ⟨_, rfl, ?_⟩; have n0_ := Aside0.mk (Kd.R_below (by (with_reducible repeat (first | apply Kd.R_alloc | apply Kd.R_drewN | apply Kd.R_drew)); exact HO_3.out) hb); have n1_ := Aside0.mk (Kd.R_below (by (with_reducible repeat (first | apply Kd.R_alloc | apply Kd.R_drewN | apply Kd.R_drew)); exact HO_5.out) hb); have n2_ := Aside0.mk (below_step (by repeat (first | (with_reducible first | exact HB.out | apply below_alloc | apply pw_below_drewN | apply below_drew1) | exact HB.out)) hb); clear HO_3; clear HO_5; clear HB; have HO_3 := n0_; have HO_5 := n1_; have HB := n2_; clear n0_ n1_ n2_; (try clear hb); (try clear hb2); (try clear hk); (try clear hi)))
          go_roundg k2
          case measure => have := HJ5.out; have := HK2.out; omega
          case rel => exact ⟨(wrap64 (x6_2 + 1)), (by first | rfl | (simp; done) | (simp [*]; done)), H', ⟨by have := HJ5.out; have := HK2.out; omega⟩, ⟨by (with_reducible repeat (first | apply Kd.R_alloc | apply Kd.R_drewN | apply Kd.R_drew)); exact HO_3.out⟩, ⟨by (with_reducible repeat (first | apply Kd.R_alloc | apply Kd.R_drewN | apply Kd.R_drew)); exact HO_5.out⟩, ⟨by repeat (first | (with_reducible first | exact HB.out | apply below_alloc | apply pw_below_drewN | apply below_drew1) | exact HB.out)⟩⟩
         ·
          rw [if_neg c20] at H
          have c20b0 : (t278 == t279) = false := beq_eq_false_iff_ne.mpr c20
          have c20b1 : (t278 != t279) = true := bne_iff_ne.mpr c20
          exact absurd H (by simp)
        ·
         rw [if_neg c17] at H
         exact absurd H (by simp)
       ·
        rw [if_neg c16] at H
        have c16b0 : decide (x6_2 < (t272.length : Int)) = false := decide_eq_false c16
        clear c16
        replace H := Option.bind_eq_some_iff.mp H
        obtain ⟨⟨t280, t281, t282⟩, A240, H⟩ := H
        replace H : ((impl_PutIn.f k2 t280 t281 t282).bind fun bt285 => (if bt285.2 = true then ((impl_TakeFrom.f k2 bt285.1 t282).bind fun bt289 => ((impl_AreInners.f k2 bt285.1).bind fun t293 => (if t293 = true then ((impl_OuterOf.f bt285.1 t282).bind fun t294 => (if t294 = t281 then ((impl_AllIn.f k2 bt285.1 t281).bind fun t295 => ((laws_contains.f k2 t295 t282).bind fun t298 => (if t298 = true then (if bt289.2 = true then (if (bt289.1.length : Int) = (t280.length : Int) then (laws_FnBundles.j2 k2 l0) else (some false)) else (some false)) else (some false)))) else (some false))) else (some false)))) else (if (bt285.1.length : Int) = (t280.length : Int) then (laws_FnBundles.j2 k2 l0) else (some false)))) = some true := H
        have A24 := Aside0.mk A240
        clear A240
        replace H := Option.bind_eq_some_iff.mp H
        obtain ⟨⟨t285, t286⟩, A250, H⟩ := H
        replace H : (if t286 = true then ((impl_TakeFrom.f k2 t285 t282).bind fun bt289 => ((impl_AreInners.f k2 t285).bind fun t293 => (if t293 = true then ((impl_OuterOf.f t285 t282).bind fun t294 => (if t294 = t281 then ((impl_AllIn.f k2 t285 t281).bind fun t295 => ((laws_contains.f k2 t295 t282).bind fun t298 => (if t298 = true then (if bt289.2 = true then (if (bt289.1.length : Int) = (t280.length : Int) then (laws_FnBundles.j2 k2 l0) else (some false)) else (some false)) else (some false)))) else (some false))) else (some false)))) else (if (t285.length : Int) = (t280.length : Int) then (laws_FnBundles.j2 k2 l0) else (some false))) = some true := H
        have A25 := Aside0.mk A250
        clear A250
        have HC26 := Aside0.mk H
        clear H
        obtain ⟨Ao27, co27, eo27⟩ := Kd.R_slice HO_5.out
        subst eo27
        go_upto_if 64 with (first | ((with_reducible refine gate_callee (f := 34) rfl ?_); refine goesL_ (some 53) rfl rfl Try.func34 (by kernel_rfl) rfl #[.slice A0 l0.length c0] rfl (by (try simp only [List.map_toArray, List.map_cons, List.map_nil]); first | done | rfl | (simp only [List.length_drop, List.length_take]; rfl)) ?_; (with_reducible refine (spec_DrawPutIn.calls k2 _ _ l0 t280 t281 t282 _ ?side1 ?side2 A24.out).mono ?_); (case side1 => repeat (first | exact (Kd.C_below HR0.out HB.out) | (with_reducible refine Kd.C_alloc ?_ _) | (with_reducible refine Kd.C_drewN ?_ _) | (with_reducible refine Kd.C_drew ?_))); (case side2 => exact HC0.out); rintro e w28 ⟨v283, rfl, ho0, hb⟩; refine ⟨_, rfl, ?_⟩; have n0_ := Aside0.mk (Kd.R_elder' (by (with_reducible repeat (first | apply Kd.R_alloc | apply Kd.R_drewN | apply Kd.R_drew)); exact HO_3.out) (Kd.R_base ho0) hb); have n1_ := Aside0.mk (Kd.R_below (by (with_reducible repeat (first | apply Kd.R_alloc | apply Kd.R_drewN | apply Kd.R_drew)); exact HO_5.out) hb); have n2_ := Aside0.mk (Kd.R_lower (Kd.R_new' ho0 (Kd.R_lt (by (with_reducible repeat (first | apply Kd.R_alloc | apply Kd.R_drewN | apply Kd.R_drew)); exact HO_3.out))) (below_size (by repeat (first | (with_reducible first | exact HB.out | apply below_alloc | apply pw_below_drewN | apply below_drew1) | exact HB.out)))); have n3_ := Aside0.mk (below_step (by repeat (first | (with_reducible first | exact HB.out | apply below_alloc | apply pw_below_drewN | apply below_drew1) | exact HB.out)) hb); clear HO_3; clear HO_5; clear HB; have HO_3 := n0_; have HO_5 := n1_; have HO284 := n2_; have HB := n3_; clear n0_ n1_ n2_ n3_; (try clear hb); (try clear hb2); (try clear hk); (try clear hi); (try clear ho0); obtain ⟨Ao29, co29, eo29⟩ := Kd.R_slice HO284.out; subst eo29) | ((with_reducible refine gate_callee (f := 20) rfl ?_); refine goesL_ (some 61) rfl rfl Try.func20 (by kernel_rfl) rfl #[.slice Ao29 t280.length co29, .int .i64 t281, .int .i64 t282] rfl (by (try simp only [List.map_toArray, List.map_cons, List.map_nil]); first | done | rfl | (simp only [List.length_drop, List.length_take]; rfl)) ?_; (with_reducible refine (impl_PutIn.calls k2 _ _ t280 t281 t282 t285 t286 _ ?side1 ?side2 A25.out).mono ?_); (case side1 => repeat (first | exact (Kd.R_reads' HO284.out).2.2 | (with_reducible refine Kd.C_alloc ?_ _) | (with_reducible refine Kd.C_drewN ?_ _) | (with_reducible refine Kd.C_drew ?_))); (case side2 => exact (Kd.R_reads' HO284.out).2.1); rintro e w30 ⟨v287, rfl, ho0, hb⟩; refine ⟨_, rfl, ?_⟩; have n0_ := Aside0.mk (Kd.R_elder' (by (with_reducible repeat (first | apply Kd.R_alloc | apply Kd.R_drewN | apply Kd.R_drew)); exact HO_3.out) (Kd.R_base ho0) hb); have n1_ := Aside0.mk (Kd.R_below (by (with_reducible repeat (first | apply Kd.R_alloc | apply Kd.R_drewN | apply Kd.R_drew)); exact HO_5.out) hb); have n2_ := Aside0.mk (Kd.R_elder' (by (with_reducible repeat (first | apply Kd.R_alloc | apply Kd.R_drewN | apply Kd.R_drew)); exact HO284.out) (Kd.R_base ho0) hb); have n3_ := Aside0.mk (Kd.R_lower (Kd.R_new' (Kd.R_new' ho0 (Kd.R_lt (by (with_reducible repeat (first | apply Kd.R_alloc | apply Kd.R_drewN | apply Kd.R_drew)); exact HO_3.out))) (Kd.R_lt (by (with_reducible repeat (first | apply Kd.R_alloc | apply Kd.R_drewN | apply Kd.R_drew)); exact HO284.out))) (below_size (by repeat (first | (with_reducible first | exact HB.out | apply below_alloc | apply pw_below_drewN | apply below_drew1) | exact HB.out)))); have n4_ := Aside0.mk (below_step (by repeat (first | (with_reducible first | exact HB.out | apply below_alloc | apply pw_below_drewN | apply below_drew1) | exact HB.out)) hb); clear HO_3; clear HO_5; clear HO284; clear HB; have HO_3 := n0_; have HO_5 := n1_; have HO284 := n2_; have HO288 := n3_; have HB := n4_; clear n0_ n1_ n2_ n3_ n4_; (try clear hb); (try clear hb2); (try clear hk); (try clear hi); (try clear ho0)))
        (try simp only [Act.put, List.setIfInBounds_toArray, List.set_cons_zero, List.set_cons_succ])
        go_cut [] (fun wc => ∃ (kq : Nat), Aside0 (laws_FnBundles.j2 kq l0 = some true) ∧ Aside0 (kq ≤ k2) ∧ Aside0 (Below w.heap.size w wc))
        case first =>
         have H := HC26.out
         clear HC26
         by_cases c31 : t286 = true
         ·
          subst c31
          have H1 : ((impl_TakeFrom.f k2 t285 t282).bind fun bt289 => ((impl_AreInners.f k2 t285).bind fun t293 => (if t293 = true then ((impl_OuterOf.f t285 t282).bind fun t294 => (if t294 = t281 then ((impl_AllIn.f k2 t285 t281).bind fun t295 => ((laws_contains.f k2 t295 t282).bind fun t298 => (if t298 = true then (if bt289.2 = true then (if (bt289.1.length : Int) = (t280.length : Int) then (laws_FnBundles.j2 k2 l0) else (some false)) else (some false)) else (some false)))) else (some false))) else (some false)))) = some true := by rw [if_pos rfl] at H; exact H
          clear H
          have H := H1
          clear H1
          replace H := Option.bind_eq_some_iff.mp H
          obtain ⟨⟨t289, t290⟩, A320, H⟩ := H
          replace H : ((impl_AreInners.f k2 t285).bind fun t293 => (if t293 = true then ((impl_OuterOf.f t285 t282).bind fun t294 => (if t294 = t281 then ((impl_AllIn.f k2 t285 t281).bind fun t295 => ((laws_contains.f k2 t295 t282).bind fun t298 => (if t298 = true then (if t290 = true then (if (t289.length : Int) = (t280.length : Int) then (laws_FnBundles.j2 k2 l0) else (some false)) else (some false)) else (some false)))) else (some false))) else (some false))) = some true := H
          have A32 := Aside0.mk A320
          clear A320
          replace H := Option.bind_eq_some_iff.mp H
          obtain ⟨t293, A330, H⟩ := H
          replace H : (if t293 = true then ((impl_OuterOf.f t285 t282).bind fun t294 => (if t294 = t281 then ((impl_AllIn.f k2 t285 t281).bind fun t295 => ((laws_contains.f k2 t295 t282).bind fun t298 => (if t298 = true then (if t290 = true then (if (t289.length : Int) = (t280.length : Int) then (laws_FnBundles.j2 k2 l0) else (some false)) else (some false)) else (some false)))) else (some false))) else (some false)) = some true := H
          have A33 := Aside0.mk A330
          clear A330
          by_cases c34 : t293 = true
          ·
           subst c34
           have H1 : ((impl_OuterOf.f t285 t282).bind fun t294 => (if t294 = t281 then ((impl_AllIn.f k2 t285 t281).bind fun t295 => ((laws_contains.f k2 t295 t282).bind fun t298 => (if t298 = true then (if t290 = true then (if (t289.length : Int) = (t280.length : Int) then (laws_FnBundles.j2 k2 l0) else (some false)) else (some false)) else (some false)))) else (some false))) = some true := by rw [if_pos rfl] at H; exact H
           clear H
           have H := H1
           clear H1
           replace H := Option.bind_eq_some_iff.mp H
           obtain ⟨t294, A350, H⟩ := H
           replace H : (if t294 = t281 then ((impl_AllIn.f k2 t285 t281).bind fun t295 => ((laws_contains.f k2 t295 t282).bind fun t298 => (if t298 = true then (if t290 = true then (if (t289.length : Int) = (t280.length : Int) then (laws_FnBundles.j2 k2 l0) else (some false)) else (some false)) else (some false)))) else (some false)) = some true := H
           have A35 := Aside0.mk A350
           clear A350
           by_cases c36 : t294 = t281
           ·
            rw [if_pos c36] at H
            have c36b0 : (t294 == t281) = true := beq_iff_eq.mpr c36
            have c36b1 : (t294 != t281) = false := bne_eq_false_iff_eq.mpr c36
            clear c36
            (first | rw [c36b0] | (simp only [i64_w, i32_w]; rw [c36b0]) | skip)
            replace H := Option.bind_eq_some_iff.mp H
            obtain ⟨t295, A370, H⟩ := H
            replace H : ((laws_contains.f k2 t295 t282).bind fun t298 => (if t298 = true then (if t290 = true then (if (t289.length : Int) = (t280.length : Int) then (laws_FnBundles.j2 k2 l0) else (some false)) else (some false)) else (some false))) = some true := H
            have A37 := Aside0.mk A370
            clear A370
            replace H := Option.bind_eq_some_iff.mp H
            obtain ⟨t298, A380, H⟩ := H
            replace H : (if t298 = true then (if t290 = true then (if (t289.length : Int) = (t280.length : Int) then (laws_FnBundles.j2 k2 l0) else (some false)) else (some false)) else (some false)) = some true := H
            have A38 := Aside0.mk A380
            clear A380
            by_cases c39 : t298 = true
            ·
             subst c39
             have H1 : (if t290 = true then (if (t289.length : Int) = (t280.length : Int) then (laws_FnBundles.j2 k2 l0) else (some false)) else (some false)) = some true := by rw [if_pos rfl] at H; exact H
             clear H
             have H := H1
             clear H1
             by_cases c40 : t290 = true
             ·
              subst c40
              have H1 : (if (t289.length : Int) = (t280.length : Int) then (laws_FnBundles.j2 k2 l0) else (some false)) = some true := by rw [if_pos rfl] at H; exact H
              clear H
              have H := H1
              clear H1
              by_cases c41 : (t289.length : Int) = (t280.length : Int)
              ·
               rw [if_pos c41] at H
               have c41b0 : ((t289.length : Int) == (t280.length : Int)) = true := beq_iff_eq.mpr c41
               have c41b1 : ((t289.length : Int) != (t280.length : Int)) = false := bne_eq_false_iff_eq.mpr c41
               have c41b2 : (t289.length == t280.length) = true := by first | simpa using c41 | (simp at c41 ⊢; omega)
               clear c41
               have H' := Aside0.mk H
               clear H
               obtain ⟨Ao42, co42, eo42⟩ := Kd.R_slice HO288.out
               subst eo42
               go_wp2_with (first | ((with_reducible refine gate_callee (f := 24) rfl ?_); refine goesL_ (some 68) rfl rfl Try.func24 (by kernel_rfl) rfl #[.slice Ao42 t285.length co42, .int .i64 t282] rfl (by (try simp only [List.map_toArray, List.map_cons, List.map_nil]); first | done | rfl | (simp only [List.length_drop, List.length_take]; rfl)) ?_; (with_reducible refine (impl_TakeFrom.calls k2 _ _ t285 t282 t289 true _ ?side1 ?side2 A32.out).mono ?_); (case side1 => repeat (first | exact (Kd.R_reads' HO288.out).2.2 | (with_reducible refine Kd.C_alloc ?_ _) | (with_reducible refine Kd.C_drewN ?_ _) | (with_reducible refine Kd.C_drew ?_))); (case side2 => exact (Kd.R_reads' HO288.out).2.1); rintro e w43 ⟨v291, rfl, ho0, hb⟩; refine ⟨_, rfl, ?_⟩; have n0_ := Aside0.mk (Kd.R_elder' (by (with_reducible repeat (first | apply Kd.R_alloc | apply Kd.R_drewN | apply Kd.R_drew)); exact HO_3.out) (Kd.R_base ho0) hb); have n1_ := Aside0.mk (Kd.R_below (by (with_reducible repeat (first | apply Kd.R_alloc | apply Kd.R_drewN | apply Kd.R_drew)); exact HO_5.out) hb); have n2_ := Aside0.mk (Kd.R_elder' (by (with_reducible repeat (first | apply Kd.R_alloc | apply Kd.R_drewN | apply Kd.R_drew)); exact HO284.out) (Kd.R_base ho0) hb); have n3_ := Aside0.mk (Kd.R_elder' (by (with_reducible repeat (first | apply Kd.R_alloc | apply Kd.R_drewN | apply Kd.R_drew)); exact HO288.out) (Kd.R_base ho0) hb); have n4_ := Aside0.mk (Kd.R_lower (Kd.R_new' (Kd.R_new' (Kd.R_new' ho0 (Kd.R_lt (by (with_reducible repeat (first | apply Kd.R_alloc | apply Kd.R_drewN | apply Kd.R_drew)); exact HO_3.out))) (Kd.R_lt (by (with_reducible repeat (first | apply Kd.R_alloc | apply Kd.R_drewN | apply Kd.R_drew)); exact HO284.out))) (Kd.R_lt (by (with_reducible repeat (first | apply Kd.R_alloc | apply Kd.R_drewN | apply Kd.R_drew)); exact HO288.out))) (below_size (by repeat (first | (with_reducible first | exact HB.out | apply below_alloc | apply pw_below_drewN | apply below_drew1) | exact HB.out)))); have n5_ := Aside0.mk (below_step (by repeat (first | (with_reducible first | exact HB.out | apply below_alloc | apply pw_below_drewN | apply below_drew1) | exact HB.out)) hb); clear HO_3; clear HO_5; clear HO284; clear HO288; clear HB; have HO_3 := n0_; have HO_5 := n1_; have HO284 := n2_; have HO288 := n3_; have HO292 := n4_; have HB := n5_; clear n0_ n1_ n2_ n3_ n4_ n5_; (try clear hb); (try clear hb2); (try clear hk); (try clear hi); (try clear ho0)) | ((with_reducible refine gate_callee (f := 16) rfl ?_); refine goesL_ (some 72) rfl rfl Try.func16 (by kernel_rfl) rfl #[.slice Ao42 t285.length co42] rfl (by (try simp only [List.map_toArray, List.map_cons, List.map_nil]); first | done | rfl | (simp only [List.length_drop, List.length_take]; rfl)) ?_; (with_reducible refine (impl_AreInners.calls k2 _ _ t285 true _ ?side1 ?side2 A33.out).mono ?_); (case side1 => repeat (first | exact (Kd.R_reads' HO288.out).2.2 | (with_reducible refine Kd.C_alloc ?_ _) | (with_reducible refine Kd.C_drewN ?_ _) | (with_reducible refine Kd.C_drew ?_))); (case side2 => exact (Kd.R_reads' HO288.out).2.1); rintro e w44 ⟨rfl, hb⟩; refine ⟨_, rfl, ?_⟩; have n0_ := Aside0.mk (Kd.R_below (by (with_reducible repeat (first | apply Kd.R_alloc | apply Kd.R_drewN | apply Kd.R_drew)); exact HO_3.out) hb); have n1_ := Aside0.mk (Kd.R_below (by (with_reducible repeat (first | apply Kd.R_alloc | apply Kd.R_drewN | apply Kd.R_drew)); exact HO_5.out) hb); have n2_ := Aside0.mk (Kd.R_below (by (with_reducible repeat (first | apply Kd.R_alloc | apply Kd.R_drewN | apply Kd.R_drew)); exact HO284.out) hb); have n3_ := Aside0.mk (Kd.R_below (by (with_reducible repeat (first | apply Kd.R_alloc | apply Kd.R_drewN | apply Kd.R_drew)); exact HO288.out) hb); have n4_ := Aside0.mk (Kd.R_below (by (with_reducible repeat (first | apply Kd.R_alloc | apply Kd.R_drewN | apply Kd.R_drew)); exact HO292.out) hb); have n5_ := Aside0.mk (below_step (by repeat (first | (with_reducible first | exact HB.out | apply below_alloc | apply pw_below_drewN | apply below_drew1) | exact HB.out)) hb); clear HO_3; clear HO_5; clear HO284; clear HO288; clear HO292; clear HB; have HO_3 := n0_; have HO_5 := n1_; have HO284 := n2_; have HO288 := n3_; have HO292 := n4_; have HB := n5_; clear n0_ n1_ n2_ n3_ n4_ n5_; (try clear hb); (try clear hb2); (try clear hk); (try clear hi)) | (go_at_call 13; (with_reducible refine (impl_OuterOf.calls _ _ t285 t282 t294 _ ?side1 ?side2 A35.out).mono ?_); (case side1 => repeat (first | exact (Kd.R_reads' HO288.out).2.2 | (with_reducible refine Kd.C_alloc ?_ _) | (with_reducible refine Kd.C_drewN ?_ _) | (with_reducible refine Kd.C_drew ?_))); (case side2 => exact (Kd.R_reads' HO288.out).2.1); rintro e w45 ⟨rfl, hb⟩; have n0_ := Aside0.mk (Kd.R_below (by (with_reducible repeat (first | apply Kd.R_alloc | apply Kd.R_drewN | apply Kd.R_drew)); exact HO_3.out) hb); have n1_ := Aside0.mk (Kd.R_below (by (with_reducible repeat (first | apply Kd.R_alloc | apply Kd.R_drewN | apply Kd.R_drew)); exact HO_5.out) hb); have n2_ := Aside0.mk (Kd.R_below (by (with_reducible repeat (first | apply Kd.R_alloc | apply Kd.R_drewN | apply Kd.R_drew)); exact HO284.out) hb); have n3_ := Aside0.mk (Kd.R_below (by (with_reducible repeat (first | apply Kd.R_alloc | apply Kd.R_drewN | apply Kd.R_drew)); exact HO288.out) hb); have n4_ := Aside0.mk (Kd.R_below (by (with_reducible repeat (first | apply Kd.R_alloc | apply Kd.R_drewN | apply Kd.R_drew)); exact HO292.out) hb); have n5_ := Aside0.mk (below_step (by repeat (first | (with_reducible first | exact HB.out | apply below_alloc | apply pw_below_drewN | apply below_drew1) | exact HB.out)) hb); clear HO_3; clear HO_5; clear HO284; clear HO288; clear HO292; clear HB; have HO_3 := n0_; have HO_5 := n1_; have HO284 := n2_; have HO288 := n3_; have HO292 := n4_; have HB := n5_; clear n0_ n1_ n2_ n3_ n4_ n5_; (try clear hb); (try clear hb2); (try clear hk); (try clear hi)) | (go_at_call 26; (with_reducible refine (impl_AllIn.calls k2 _ _ t285 t281 t295 _ ?side1 ?side2 A37.out).mono ?_); (case side1 => repeat (first | exact (Kd.R_reads' HO288.out).2.2 | (with_reducible refine Kd.C_alloc ?_ _) | (with_reducible refine Kd.C_drewN ?_ _) | (with_reducible refine Kd.C_drew ?_))); (case side2 => exact (Kd.R_reads' HO288.out).2.1); rintro e w46 ⟨v296, rfl, ho0, hb⟩; have n0_ := Aside0.mk (Kd.R_below (by (with_reducible repeat (first | apply Kd.R_alloc | apply Kd.R_drewN | apply Kd.R_drew)); exact HO_3.out) hb); have n1_ := Aside0.mk (Kd.R_elder' (by (with_reducible repeat (first | apply Kd.R_alloc | apply Kd.R_drewN | apply Kd.R_drew)); exact HO_5.out) (Kd.R_base ho0) hb); have n2_ := Aside0.mk (Kd.R_below (by (with_reducible repeat (first | apply Kd.R_alloc | apply Kd.R_drewN | apply Kd.R_drew)); exact HO284.out) hb); have n3_ := Aside0.mk (Kd.R_below (by (with_reducible repeat (first | apply Kd.R_alloc | apply Kd.R_drewN | apply Kd.R_drew)); exact HO288.out) hb); have n4_ := Aside0.mk (Kd.R_below (by (with_reducible repeat (first | apply Kd.R_alloc | apply Kd.R_drewN | apply Kd.R_drew)); exact HO292.out) hb); have n5_ := Aside0.mk (Kd.R_lower (Kd.R_new' ho0 (Kd.R_lt (by (with_reducible repeat (first | apply Kd.R_alloc | apply Kd.R_drewN | apply Kd.R_drew)); exact HO_5.out))) (below_size (by repeat (first | (with_reducible first | exact HB.out | apply below_alloc | apply pw_below_drewN | apply below_drew1) | exact HB.out)))); have n6_ := Aside0.mk (below_step (by repeat (first | (with_reducible first | exact HB.out | apply below_alloc | apply pw_below_drewN | apply below_drew1) | exact HB.out)) hb); clear HO_3; clear HO_5; clear HO284; clear HO288; clear HO292; clear HB; have HO_3 := n0_; have HO_5 := n1_; have HO284 := n2_; have HO288 := n3_; have HO292 := n4_; have HO297 := n5_; have HB := n6_; clear n0_ n1_ n2_ n3_ n4_ n5_ n6_; (try clear hb); (try clear hb2); (try clear hk); (try clear hi); (try clear ho0); obtain ⟨Ao47, co47, eo47⟩ := Kd.R_slice HO297.out; subst eo47) | (go_at_call 33; (with_reducible refine (laws_contains.calls k2 _ _ t295 t282 true _ ?side1 ?side2 A38.out).mono ?_); (case side1 => repeat (first | exact (Kd.R_reads' HO297.out).2.2 | (with_reducible refine Kd.C_alloc ?_ _) | (with_reducible refine Kd.C_drewN ?_ _) | (with_reducible refine Kd.C_drew ?_))); (case side2 => exact (Kd.R_reads' HO297.out).2.1); rintro e w' ⟨rfl, ⟨nd, rfl⟩⟩; obtain ⟨Ao48, co48, eo48⟩ := Kd.R_slice HO292.out; subst eo48))
               go_meet
               case rel => exact ⟨_, H', ⟨by have := HJ5.out; have := HK2.out; first | omega | exact Nat.le_refl _⟩, ⟨by repeat (first | (with_reducible first | exact HB.out | apply below_alloc | apply pw_below_drewN | apply below_drew1) | exact HB.out)⟩⟩
              ·
               rw [if_neg c41] at H
               have c41b0 : ((t289.length : Int) == (t280.length : Int)) = false := beq_eq_false_iff_ne.mpr c41
               have c41b1 : ((t289.length : Int) != (t280.length : Int)) = true := bne_iff_ne.mpr c41
               have c41b2 : (t289.length == t280.length) = false := by first | simpa using c41 | (simp at c41 ⊢; omega)
               exact absurd H (by simp)
             ·
              replace c40 := Bool.eq_false_iff.mpr c40
              subst c40
              have H1 : (some false) = some true := by rw [if_neg (show ¬ (false = true) by decide)] at H; exact H
              clear H
              have H := H1
              clear H1
              exact absurd H (by simp)
            ·
             replace c39 := Bool.eq_false_iff.mpr c39
             subst c39
             have H1 : (some false) = some true := by rw [if_neg (show ¬ (false = true) by decide)] at H; exact H
             clear H
             have H := H1
             clear H1
             exact absurd H (by simp)
           ·
            rw [if_neg c36] at H
            have c36b0 : (t294 == t281) = false := beq_eq_false_iff_ne.mpr c36
            have c36b1 : (t294 != t281) = true := bne_iff_ne.mpr c36
            (first | rw [c36b0] | (simp only [i64_w, i32_w]; rw [c36b0]) | skip)
            exact absurd H (by simp)
          ·
           replace c34 := Bool.eq_false_iff.mpr c34
           subst c34
           have H1 : (some false) = some true := by rw [if_neg (show ¬ (false = true) by decide)] at H; exact H
           clear H
           have H := H1
           clear H1
           exact absurd H (by simp)
         ·
          replace c31 := Bool.eq_false_iff.mpr c31
          subst c31
          have H1 : (if (t285.length : Int) = (t280.length : Int) then (laws_FnBundles.j2 k2 l0) else (some false)) = some true := by rw [if_neg (show ¬ (false = true) by decide)] at H; exact H
          clear H
          have H := H1
          clear H1
          by_cases c49 : (t285.length : Int) = (t280.length : Int)
          ·
           rw [if_pos c49] at H
           have c49b0 : ((t285.length : Int) == (t280.length : Int)) = true := beq_iff_eq.mpr c49
           have c49b1 : ((t285.length : Int) != (t280.length : Int)) = false := bne_eq_false_iff_eq.mpr c49
           have c49b2 : (t285.length == t280.length) = true := by first | simpa using c49 | (simp at c49 ⊢; omega)
           clear c49
           have H' := Aside0.mk H
           clear H
           obtain ⟨Ao50, co50, eo50⟩ := Kd.R_slice HO288.out
           subst eo50
           go_wp2
           go_meet
           case rel => exact ⟨_, H', ⟨by have := HJ5.out; have := HK2.out; first | omega | exact Nat.le_refl _⟩, ⟨by repeat (first | (with_reducible first | exact HB.out | apply below_alloc | apply pw_below_drewN | apply below_drew1) | exact HB.out)⟩⟩
          ·
           rw [if_neg c49] at H
           have c49b0 : ((t285.length : Int) == (t280.length : Int)) = false := beq_eq_false_iff_ne.mpr c49
           have c49b1 : ((t285.length : Int) != (t280.length : Int)) = true := bne_iff_ne.mpr c49
           have c49b2 : (t285.length == t280.length) = false := by first | simpa using c49 | (simp at c49 ⊢; omega)
           exact absurd H (by simp)
        case rest =>
         clear HC26
         try clear c1
         try clear c2
         try clear p2
         try clear q2
         try clear hx2
         try clear c3
         try clear c4
         try clear p6
         try clear c9
         try clear c11
         try clear c15
         try clear c16
         try clear c16b0
         try clear c17
         try clear c17b0
         try clear c18
         try clear c20
         try clear c20b0
         try clear c20b1
         try clear c24
         try clear c26
         try clear p27
         try clear q27
         try clear hx27
         try clear c30
         try clear c31
         try clear c32
         try clear c34
         try clear c36
         try clear c36b0
         try clear c36b1
         try clear c39
         try clear c40
         try clear c41
         try clear c41b0
         try clear c41b1
         try clear c41b2
         try clear c49
         try clear c49b0
         try clear c49b1
         try clear c49b2
         try clear hx277_0
         try clear p2
         try clear p277
         try clear q277
         obtain ⟨kq, HA, HJ25, HB⟩ := hcut
         cases kq with
         | zero => exact absurd HA.out (by simp [laws_FnBundles.j2])
         | succ kj25 =>
          have H := HA.out
          clear HA
          simp only [laws_FnBundles.j2] at H
          replace H := Option.bind_eq_some_iff.mp H
          obtain ⟨⟨t299, t300⟩, A510, H⟩ := H
          replace H : ((impl_TopOf.f kj25 t299 t300).bind fun t303 => ((impl_AreInners.f kj25 t299).bind fun t304 => (if t304 = true then (if ((t303 == 0) == (t300 == 0)) = true then (if t303 = 0 then (some true) else ((impl_OuterOf.f t299 t303).bind fun t305 => (some (t305 == 0)))) else (some false)) else (if ((t303 == 0) == true) = true then (if t303 = 0 then (some true) else ((impl_OuterOf.f t299 t303).bind fun t306 => (some (t306 == 0)))) else (some false))))) = some true := H
          have A51 := Aside0.mk A510
          clear A510
          replace H := Option.bind_eq_some_iff.mp H
          obtain ⟨t303, A520, H⟩ := H
          replace H : ((impl_AreInners.f kj25 t299).bind fun t304 => (if t304 = true then (if ((t303 == 0) == (t300 == 0)) = true then (if t303 = 0 then (some true) else ((impl_OuterOf.f t299 t303).bind fun t305 => (some (t305 == 0)))) else (some false)) else (if ((t303 == 0) == true) = true then (if t303 = 0 then (some true) else ((impl_OuterOf.f t299 t303).bind fun t306 => (some (t306 == 0)))) else (some false)))) = some true := H
          have A52 := Aside0.mk A520
          clear A520
          replace H := Option.bind_eq_some_iff.mp H
          obtain ⟨t304, A530, H⟩ := H
          replace H : (if t304 = true then (if ((t303 == 0) == (t300 == 0)) = true then (if t303 = 0 then (some true) else ((impl_OuterOf.f t299 t303).bind fun t305 => (some (t305 == 0)))) else (some false)) else (if ((t303 == 0) == true) = true then (if t303 = 0 then (some true) else ((impl_OuterOf.f t299 t303).bind fun t306 => (some (t306 == 0)))) else (some false))) = some true := H
          have A53 := Aside0.mk A530
          clear A530
          by_cases c54 : t304 = true
          ·
           subst c54
           have H1 : (if ((t303 == 0) == (t300 == 0)) = true then (if t303 = 0 then (some true) else ((impl_OuterOf.f t299 t303).bind fun t305 => (some (t305 == 0)))) else (some false)) = some true := by rw [if_pos rfl] at H; exact H
           clear H
           have H := H1
           clear H1
           by_cases c55 : ((t303 == 0) == (t300 == 0)) = true
           ·
            rw [if_pos c55] at H
            have c55b0 : ((t303 == 0) == (t300 == 0)) = true := c55
            (try (have c55b1 : decide ((t303 == 0) = (t300 == 0)) = true := by simpa using c55))
            (try (have c55b2 : ((t303 == 0) == (t300 == 0)) = true := by simpa using c55))
            clear c55
            by_cases c56 : t303 = 0
            ·
             rw [if_pos c56] at H
             have c56b0 : (t303 == 0) = true := beq_iff_eq.mpr c56
             (try (have c55qc56 : (t300 == 0) = true := by have h_ := c55b0; rw [c56b0] at h_; simpa using h_))
             have c56b1 : (t303 != 0) = false := bne_eq_false_iff_eq.mpr c56
             clear c56
             first | (obtain rfl := Option.some.inj H) | (have Hr_ := Option.some.inj H; clear H)
             go_wp2_with (first | ((with_reducible refine gate_callee (f := 35) rfl ?_); refine goesL_ (some 107) rfl rfl Try.func35 (by kernel_rfl) rfl #[.slice A0 l0.length c0] rfl (by (try simp only [List.map_toArray, List.map_cons, List.map_nil]); first | done | rfl | (simp only [List.length_drop, List.length_take]; rfl)) ?_; (with_reducible refine (spec_DrawTopOf.calls kj25 _ _ l0 t299 t300 _ ?side1 ?side2 A51.out).mono ?_); (case side1 => repeat (first | exact (Kd.C_below HR0.out HB.out) | (with_reducible refine Kd.C_alloc ?_ _) | (with_reducible refine Kd.C_drewN ?_ _) | (with_reducible refine Kd.C_drew ?_))); (case side2 => exact HC0.out); rintro e w57 ⟨v301, rfl, ho0, hb⟩; refine ⟨_, rfl, ?_⟩; have n0_ := Aside0.mk (Kd.R_lower ho0 (below_size (by repeat (first | (with_reducible first | exact HB.out | apply below_alloc | apply pw_below_drewN | apply below_drew1) | exact HB.out)))); have n1_ := Aside0.mk (below_step (by repeat (first | (with_reducible first | exact HB.out | apply below_alloc | apply pw_below_drewN | apply below_drew1) | exact HB.out)) hb); clear HB; have HO302 := n0_; have HB := n1_; clear n0_ n1_; (try clear hb); (try clear hb2); (try clear hk); (try clear hi); (try clear ho0); obtain ⟨Ao58, co58, eo58⟩ := Kd.R_slice HO302.out; subst eo58) | ((with_reducible refine gate_callee (f := 18) rfl ?_); refine goesL_ (some 112) rfl rfl Try.func18 (by kernel_rfl) rfl #[.slice Ao58 t299.length co58, .int .i64 t300] rfl (by (try simp only [List.map_toArray, List.map_cons, List.map_nil]); first | done | rfl | (simp only [List.length_drop, List.length_take]; rfl)) ?_; (with_reducible refine (impl_TopOf.calls kj25 _ _ t299 t300 t303 _ ?side1 ?side2 A52.out).mono ?_); (case side1 => repeat (first | exact (Kd.R_reads' HO302.out).2.2 | (with_reducible refine Kd.C_alloc ?_ _) | (with_reducible refine Kd.C_drewN ?_ _) | (with_reducible refine Kd.C_drew ?_))); (case side2 => exact (Kd.R_reads' HO302.out).2.1); rintro e w59 ⟨rfl, hb⟩; refine ⟨_, rfl, ?_⟩; have n0_ := Aside0.mk (Kd.R_below (by (with_reducible repeat (first | apply Kd.R_alloc | apply Kd.R_drewN | apply Kd.R_drew)); exact HO302.out) hb); have n1_ := Aside0.mk (below_step (by repeat (first | (with_reducible first | exact HB.out | apply below_alloc | apply pw_below_drewN | apply below_drew1) | exact HB.out)) hb); clear HO302; clear HB; have HO302 := n0_; have HB := n1_; clear n0_ n1_; (try clear hb); (try clear hb2); (try clear hk); (try clear hi)) | ((with_reducible refine gate_callee (f := 16) rfl ?_); refine goesL_ (some 116) rfl rfl Try.func16 (by kernel_rfl) rfl #[.slice Ao58 t299.length co58] rfl (by (try simp only [List.map_toArray, List.map_cons, List.map_nil]); first | done | rfl | (simp only [List.length_drop, List.length_take]; rfl)) ?_; (with_reducible refine (impl_AreInners.calls kj25 _ _ t299 true _ ?side1 ?side2 A53.out).mono ?_); (case side1 => repeat (first | exact (Kd.R_reads' HO302.out).2.2 | (with_reducible refine Kd.C_alloc ?_ _) | (with_reducible refine Kd.C_drewN ?_ _) | (with_reducible refine Kd.C_drew ?_))); (case side2 => exact (Kd.R_reads' HO302.out).2.1); rintro e w60 ⟨rfl, hb⟩; refine ⟨_, rfl, ?_⟩; have n0_ := Aside0.mk (Kd.R_below (by (with_reducible repeat (first | apply Kd.R_alloc | apply Kd.R_drewN | apply Kd.R_drew)); exact HO302.out) hb); have n1_ := Aside0.mk (below_step (by repeat (first | (with_reducible first | exact HB.out | apply below_alloc | apply pw_below_drewN | apply below_drew1) | exact HB.out)) hb); clear HO302; clear HB; have HO302 := n0_; have HB := n1_; clear n0_ n1_; (try clear hb); (try clear hb2); (try clear hk); (try clear hi)))
             go_ret
             exact ⟨by first | rfl | (simp [errW_none, errW_some] <;> rfl) | (simp [*, errW_none, errW_some] <;> rfl), by repeat (first | (with_reducible first | exact HB.out | apply below_alloc | apply pw_below_drewN | apply below_drew1) | exact HB.out)⟩
            ·
             rw [if_neg c56] at H
             have c56b0 : (t303 == 0) = false := beq_eq_false_iff_ne.mpr c56
             (try (have c55qc56 : (t300 == 0) = false := by have h_ := c55b0; rw [c56b0] at h_; simpa using h_))
             have c56b1 : (t303 != 0) = true := bne_iff_ne.mpr c56
             replace H := Option.bind_eq_some_iff.mp H
             obtain ⟨t305, A610, H⟩ := H
             replace H : (some (t305 == 0)) = some true := H
             have A61 := Aside0.mk A610
             clear A610
             first | (obtain rfl := Option.some.inj H) | (have Hr_ := Option.some.inj H; clear H)
             go_wp2_with (first | ((with_reducible refine gate_callee (f := 35) rfl ?_); refine goesL_ (some 107) rfl rfl Try.func35 (by kernel_rfl) rfl #[.slice A0 l0.length c0] rfl (by (try simp only [List.map_toArray, List.map_cons, List.map_nil]); first | done | rfl | (simp only [List.length_drop, List.length_take]; rfl)) ?_; (with_reducible refine (spec_DrawTopOf.calls kj25 _ _ l0 t299 t300 _ ?side1 ?side2 A51.out).mono ?_); (case side1 => repeat (first | exact (Kd.C_below HR0.out HB.out) | (with_reducible refine Kd.C_alloc ?_ _) | (with_reducible refine Kd.C_drewN ?_ _) | (with_reducible refine Kd.C_drew ?_))); (case side2 => exact HC0.out); rintro e w62 ⟨v301, rfl, ho0, hb⟩; refine ⟨_, rfl, ?_⟩; have n0_ := Aside0.mk (Kd.R_lower ho0 (below_size (by repeat (first | (with_reducible first | exact HB.out | apply below_alloc | apply pw_below_drewN | apply below_drew1) | exact HB.out)))); have n1_ := Aside0.mk (below_step (by repeat (first | (with_reducible first | exact HB.out | apply below_alloc | apply pw_below_drewN | apply below_drew1) | exact HB.out)) hb); clear HB; have HO302 := n0_; have HB := n1_; clear n0_ n1_; (try clear hb); (try clear hb2); (try clear hk); (try clear hi); (try clear ho0); obtain ⟨Ao63, co63, eo63⟩ := Kd.R_slice HO302.out; subst eo63) | ((with_reducible refine gate_callee (f := 18) rfl ?_); refine goesL_ (some 112) rfl rfl Try.func18 (by kernel_rfl) rfl #[.slice Ao63 t299.length co63, .int .i64 t300] rfl (by (try simp only [List.map_toArray, List.map_cons, List.map_nil]); first | done | rfl | (simp only [List.length_drop, List.length_take]; rfl)) ?_; (with_reducible refine (impl_TopOf.calls kj25 _ _ t299 t300 t303 _ ?side1 ?side2 A52.out).mono ?_); (case side1 => repeat (first | exact (Kd.R_reads' HO302.out).2.2 | (with_reducible refine Kd.C_alloc ?_ _) | (with_reducible refine Kd.C_drewN ?_ _) | (with_reducible refine Kd.C_drew ?_))); (case side2 => exact (Kd.R_reads' HO302.out).2.1); rintro e w64 ⟨rfl, hb⟩; refine ⟨_, rfl, ?_⟩; have n0_ := Aside0.mk (Kd.R_below (by (with_reducible repeat (first | apply Kd.R_alloc | apply Kd.R_drewN | apply Kd.R_drew)); exact HO302.out) hb); have n1_ := Aside0.mk (below_step (by repeat (first | (with_reducible first | exact HB.out | apply below_alloc | apply pw_below_drewN | apply below_drew1) | exact HB.out)) hb); clear HO302; clear HB; have HO302 := n0_; have HB := n1_; clear n0_ n1_; (try clear hb); (try clear hb2); (try clear hk); (try clear hi)) | ((with_reducible refine gate_callee (f := 16) rfl ?_); refine goesL_ (some 116) rfl rfl Try.func16 (by kernel_rfl) rfl #[.slice Ao63 t299.length co63] rfl (by (try simp only [List.map_toArray, List.map_cons, List.map_nil]); first | done | rfl | (simp only [List.length_drop, List.length_take]; rfl)) ?_; (with_reducible refine (impl_AreInners.calls kj25 _ _ t299 true _ ?side1 ?side2 A53.out).mono ?_); (case side1 => repeat (first | exact (Kd.R_reads' HO302.out).2.2 | (with_reducible refine Kd.C_alloc ?_ _) | (with_reducible refine Kd.C_drewN ?_ _) | (with_reducible refine Kd.C_drew ?_))); (case side2 => exact (Kd.R_reads' HO302.out).2.1); rintro e w65 ⟨rfl, hb⟩; refine ⟨_, rfl, ?_⟩; have n0_ := Aside0.mk (Kd.R_below (by (with_reducible repeat (first | apply Kd.R_alloc | apply Kd.R_drewN | apply Kd.R_drew)); exact HO302.out) hb); have n1_ := Aside0.mk (below_step (by repeat (first | (with_reducible first | exact HB.out | apply below_alloc | apply pw_below_drewN | apply below_drew1) | exact HB.out)) hb); clear HO302; clear HB; have HO302 := n0_; have HB := n1_; clear n0_ n1_; (try clear hb); (try clear hb2); (try clear hk); (try clear hi)) | (go_at_call 13; (with_reducible refine (impl_OuterOf.calls _ _ t299 t303 t305 _ ?side1 ?side2 A61.out).mono ?_); (case side1 => repeat (first | exact (Kd.R_reads' HO302.out).2.2 | (with_reducible refine Kd.C_alloc ?_ _) | (with_reducible refine Kd.C_drewN ?_ _) | (with_reducible refine Kd.C_drew ?_))); (case side2 => exact (Kd.R_reads' HO302.out).2.1); rintro e w66 ⟨rfl, hb⟩; have n0_ := Aside0.mk (Kd.R_below (by (with_reducible repeat (first | apply Kd.R_alloc | apply Kd.R_drewN | apply Kd.R_drew)); exact HO302.out) hb); have n1_ := Aside0.mk (below_step (by repeat (first | (with_reducible first | exact HB.out | apply below_alloc | apply pw_below_drewN | apply below_drew1) | exact HB.out)) hb); clear HO302; clear HB; have HO302 := n0_; have HB := n1_; clear n0_ n1_; (try clear hb); (try clear hb2); (try clear hk); (try clear hi)))
             go_ret
             exact ⟨by first | rfl | (simp [errW_none, errW_some] <;> rfl) | (simp [*, errW_none, errW_some] <;> rfl), by repeat (first | (with_reducible first | exact HB.out | apply below_alloc | apply pw_below_drewN | apply below_drew1) | exact HB.out)⟩
           ·
            rw [if_neg c55] at H
            have c55b0 : ((t303 == 0) == (t300 == 0)) = false := by simpa using c55
            (try (have c55b1 : decide ((t303 == 0) = (t300 == 0)) = false := by simpa using c55))
            (try (have c55b2 : ((t303 == 0) == (t300 == 0)) = false := by simpa using c55))
            (try (have c55b3 : ¬ ((t303 == 0) = (t300 == 0)) := by simpa using c55))
            clear c55
            exact absurd H (by simp)
          ·
           replace c54 := Bool.eq_false_iff.mpr c54
           subst c54
           have H1 : (if ((t303 == 0) == true) = true then (if t303 = 0 then (some true) else ((impl_OuterOf.f t299 t303).bind fun t306 => (some (t306 == 0)))) else (some false)) = some true := by rw [if_neg (show ¬ (false = true) by decide)] at H; exact H
           clear H
           have H := H1
           clear H1
           by_cases c67 : ((t303 == 0) == true) = true
           ·
            rw [if_pos c67] at H
            have c67b0 : ((t303 == 0) == true) = true := c67
            (try (have c67b1 : decide ((t303 == 0) = true) = true := by simpa using c67))
            (try (have c67b2 : ((t303 == 0) == true) = true := by simpa using c67))
            clear c67
            by_cases c68 : t303 = 0
            ·
             rw [if_pos c68] at H
             have c68b0 : (t303 == 0) = true := beq_iff_eq.mpr c68
             have c68b1 : (t303 != 0) = false := bne_eq_false_iff_eq.mpr c68
             clear c68
             first | (obtain rfl := Option.some.inj H) | (have Hr_ := Option.some.inj H; clear H)
             go_wp2_with (first | ((with_reducible refine gate_callee (f := 35) rfl ?_); refine goesL_ (some 107) rfl rfl Try.func35 (by kernel_rfl) rfl #[.slice A0 l0.length c0] rfl (by (try simp only [List.map_toArray, List.map_cons, List.map_nil]); first | done | rfl | (simp only [List.length_drop, List.length_take]; rfl)) ?_; (with_reducible refine (spec_DrawTopOf.calls kj25 _ _ l0 t299 t300 _ ?side1 ?side2 A51.out).mono ?_); (case side1 => repeat (first | exact (Kd.C_below HR0.out HB.out) | (with_reducible refine Kd.C_alloc ?_ _) | (with_reducible refine Kd.C_drewN ?_ _) | (with_reducible refine Kd.C_drew ?_))); (case side2 => exact HC0.out); rintro e w69 ⟨v301, rfl, ho0, hb⟩; refine ⟨_, rfl, ?_⟩; have n0_ := Aside0.mk (Kd.R_lower ho0 (below_size (by repeat (first | (with_reducible first | exact HB.out | apply below_alloc | apply pw_below_drewN | apply below_drew1) | exact HB.out)))); have n1_ := Aside0.mk (below_step (by repeat (first | (with_reducible first | exact HB.out | apply below_alloc | apply pw_below_drewN | apply below_drew1) | exact HB.out)) hb); clear HB; have HO302 := n0_; have HB := n1_; clear n0_ n1_; (try clear hb); (try clear hb2); (try clear hk); (try clear hi); (try clear ho0); obtain ⟨Ao70, co70, eo70⟩ := Kd.R_slice HO302.out; subst eo70) | ((with_reducible refine gate_callee (f := 18) rfl ?_); refine goesL_ (some 112) rfl rfl Try.func18 (by kernel_rfl) rfl #[.slice Ao70 t299.length co70, .int .i64 t300] rfl (by (try simp only [List.map_toArray, List.map_cons, List.map_nil]); first | done | rfl | (simp only [List.length_drop, List.length_take]; rfl)) ?_; (with_reducible refine (impl_TopOf.calls kj25 _ _ t299 t300 t303 _ ?side1 ?side2 A52.out).mono ?_); (case side1 => repeat (first | exact (Kd.R_reads' HO302.out).2.2 | (with_reducible refine Kd.C_alloc ?_ _) | (with_reducible refine Kd.C_drewN ?_ _) | (with_reducible refine Kd.C_drew ?_))); (case side2 => exact (Kd.R_reads' HO302.out).2.1); rintro e w71 ⟨rfl, hb⟩; refine ⟨_, rfl, ?_⟩; have n0_ := Aside0.mk (Kd.R_below (by (with_reducible repeat (first | apply Kd.R_alloc | apply Kd.R_drewN | apply Kd.R_drew)); exact HO302.out) hb); have n1_ := Aside0.mk (below_step (by repeat (first | (with_reducible first | exact HB.out | apply below_alloc | apply pw_below_drewN | apply below_drew1) | exact HB.out)) hb); clear HO302; clear HB; have HO302 := n0_; have HB := n1_; clear n0_ n1_; (try clear hb); (try clear hb2); (try clear hk); (try clear hi)) | ((with_reducible refine gate_callee (f := 16) rfl ?_); refine goesL_ (some 116) rfl rfl Try.func16 (by kernel_rfl) rfl #[.slice Ao70 t299.length co70] rfl (by (try simp only [List.map_toArray, List.map_cons, List.map_nil]); first | done | rfl | (simp only [List.length_drop, List.length_take]; rfl)) ?_; (with_reducible refine (impl_AreInners.calls kj25 _ _ t299 false _ ?side1 ?side2 A53.out).mono ?_); (case side1 => repeat (first | exact (Kd.R_reads' HO302.out).2.2 | (with_reducible refine Kd.C_alloc ?_ _) | (with_reducible refine Kd.C_drewN ?_ _) | (with_reducible refine Kd.C_drew ?_))); (case side2 => exact (Kd.R_reads' HO302.out).2.1); rintro e w72 ⟨rfl, hb⟩; refine ⟨_, rfl, ?_⟩; have n0_ := Aside0.mk (Kd.R_below (by (with_reducible repeat (first | apply Kd.R_alloc | apply Kd.R_drewN | apply Kd.R_drew)); exact HO302.out) hb); have n1_ := Aside0.mk (below_step (by repeat (first | (with_reducible first | exact HB.out | apply below_alloc | apply pw_below_drewN | apply below_drew1) | exact HB.out)) hb); clear HO302; clear HB; have HO302 := n0_; have HB := n1_; clear n0_ n1_; (try clear hb); (try clear hb2); (try clear hk); (try clear hi)))
             go_ret
             exact ⟨by first | rfl | (simp [errW_none, errW_some] <;> rfl) | (simp [*, errW_none, errW_some] <;> rfl), by repeat (first | (with_reducible first | exact HB.out | apply below_alloc | apply pw_below_drewN | apply below_drew1) | exact HB.out)⟩
            ·
             rw [if_neg c68] at H
             have c68b0 : (t303 == 0) = false := beq_eq_false_iff_ne.mpr c68
             exact absurd c67b0 (by rw [c68b0]; decide)
           ·
            rw [if_neg c67] at H
            have c67b0 : ((t303 == 0) == true) = false := by simpa using c67
            (try (have c67b1 : decide ((t303 == 0) = true) = false := by simpa using c67))
            (try (have c67b2 : ((t303 == 0) == true) = false := by simpa using c67))
            (try (have c67b3 : ¬ ((t303 == 0) = true) := by simpa using c67))
            clear c67
            exact absurd H (by simp)

end Go.Proofs.Ytogbajcaeelooaa.PFnBundles
