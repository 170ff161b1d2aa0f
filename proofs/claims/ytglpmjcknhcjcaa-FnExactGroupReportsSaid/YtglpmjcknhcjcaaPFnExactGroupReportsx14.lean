-- Written for this claim by a program (a printer turned to this claim); Lean checks it.
import Derived.Test.YtglpmjcknhcjcaaPFnExactGroupReportsx0
import Derived.Test.YtglpmjcknhcjcaaPFnExactGroupReportsx1
import Derived.Test.YtglpmjcknhcjcaaPFnExactGroupReportsx6
import Derived.Test.YtglpmjcknhcjcaaPFnExactGroupReportsx7
import Derived.Test.YtglpmjcknhcjcaaPFnExactGroupReportsx12
import Derived.Test.YtglpmjcknhcjcaaPFnExactGroupReportsx13
namespace Go.Proofs.Ytglpmjcknhcjcaa.PFnExactGroupReports
open Go.RowKit Go.Proofs.YtglpmjcknhcjcaaW.PrintWords Go.Proofs.YtglpmjcknhcjcaaW.PrintLast Go.Proofs.YtglpmjcknhcjcaaW.PrintMore
attribute [local go_sem] max2_int min2_int max_two min_two max_three min_three max_four min_four   -- for this text's walks alone
set_option linter.unusedVariables false
set_option linter.unusedSimpArgs false

/-! ### laws_FnExactGroupReports: function 6 -/
def laws_FnExactGroupReports.j0 : Nat → List (S36) → List Int → List Int → Bool → Option (Bool)
  | 0, _, _, _, _ => none
  | k + 1, x0, x4, x6, x42 => if x42 = true then (some false) else ((laws_markIntS.f k x6 1).bind fun bt369 => ((laws_heldIntS.f k bt369.2 1).bind fun t371 => (if t371 < 0 then (some false) else (if t371 = bt369.1 then ((laws_toReportS.f k x0).bind fun t372 => ((impl_GroupReports.f k t372).bind fun t375 => ((laws_eqIntS.f k t375 x4).bind fun t378 => (if t378 = true then ((laws_heldIntS.f k bt369.2 1).bind fun t379 => (if t379 < 0 then (some false) else (if t379 = bt369.1 then (some true) else (some false)))) else (some false))))) else (some false)))))
def laws_FnExactGroupReports.f (k : Nat) (l0 : List (S36)) : Option (Bool) := (laws_szReportS.f k l0 1048576).bind fun t349 => (if t349 < 0 then (some true) else ((laws_toReportS.f k l0).bind fun t350 => ((spec_GroupReports.f k t350).bind fun t353 => ((laws_toReportS.f k l0).bind fun t356 => ((impl_GroupReports.f k t356).bind fun t359 => ((laws_eqIntS.f k t359 t353).bind fun t362 => (if t362 = true then ((laws_toReportS.f k l0).bind fun t363 => ((laws_eqReportS.f k t356 t363).bind fun t366 => (if t366 = true then ((laws_markReportS.f t356 1).bind fun t367 => (if t367 < 0 then (laws_FnExactGroupReports.j0 k l0 t353 t359 true) else ((laws_eqIntS.f k t359 t353).bind fun t368 => (laws_FnExactGroupReports.j0 k l0 t353 t359 (!t368))))) else (some false)))) else (some false))))))))
theorem laws_FnExactGroupReports.mono_l : ∀ k, (∀ y0 y1 y2 y3, LeO (laws_FnExactGroupReports.j0 k y0 y1 y2 y3) (laws_FnExactGroupReports.j0 (k + 1) y0 y1 y2 y3))
  | 0 => fun _ _ _ _ r h => by simp [laws_FnExactGroupReports.j0] at h
  | k + 1 => by
    have ih0 := laws_FnExactGroupReports.mono_l k
    · intro y0 y1 y2 y3
      unfold laws_FnExactGroupReports.j0
      repeat' first
      | (with_reducible exact ih0 _ _ _ _)
      | (with_reducible exact impl_GroupReports.mono _ _)
      | (with_reducible exact laws_eqIntS.mono _ _ _)
      | (with_reducible exact laws_eqReportS.mono _ _ _)
      | (with_reducible exact laws_heldIntS.mono _ _ _)
      | (with_reducible exact laws_markIntS.mono _ _ _)
      | (with_reducible exact laws_szReportS.mono _ _ _)
      | (with_reducible exact laws_toReportS.mono _ _)
      | (with_reducible exact spec_GroupReports.mono _ _)
      | (with_reducible exact LeO.refl _)
      | (with_reducible exact LeO.none _)
      | (with_reducible refine LeO.ite ?_ ?_)
      | (with_reducible refine LeO.bind ?_ (fun _ => ?_))
      | exact ih0 _ _ _ _
      | exact impl_GroupReports.mono _ _
      | exact laws_eqIntS.mono _ _ _
      | exact laws_eqReportS.mono _ _ _
      | exact laws_heldIntS.mono _ _ _
      | exact laws_markIntS.mono _ _ _
      | exact laws_szReportS.mono _ _ _
      | exact laws_toReportS.mono _ _
      | exact spec_GroupReports.mono _ _
      | exact LeO.none _
      | refine LeO.ite ?_ ?_
      | refine LeO.bind ?_ (fun _ => ?_)
theorem laws_FnExactGroupReports.mono : ∀ a0 k, LeO (laws_FnExactGroupReports.f k a0) (laws_FnExactGroupReports.f (k + 1) a0) := by
  intro a0 k
  have ih0 := laws_FnExactGroupReports.mono_l k
  unfold laws_FnExactGroupReports.f
  repeat' first
      | (with_reducible exact ih0 _ _ _ _)
      | (with_reducible exact impl_GroupReports.mono _ _)
      | (with_reducible exact laws_eqIntS.mono _ _ _)
      | (with_reducible exact laws_eqReportS.mono _ _ _)
      | (with_reducible exact laws_heldIntS.mono _ _ _)
      | (with_reducible exact laws_markIntS.mono _ _ _)
      | (with_reducible exact laws_szReportS.mono _ _ _)
      | (with_reducible exact laws_toReportS.mono _ _)
      | (with_reducible exact spec_GroupReports.mono _ _)
      | (with_reducible exact LeO.refl _)
      | (with_reducible exact LeO.none _)
      | (with_reducible refine LeO.ite ?_ ?_)
      | (with_reducible refine LeO.bind ?_ (fun _ => ?_))
      | exact ih0 _ _ _ _
      | exact impl_GroupReports.mono _ _
      | exact laws_eqIntS.mono _ _ _
      | exact laws_eqReportS.mono _ _ _
      | exact laws_heldIntS.mono _ _ _
      | exact laws_markIntS.mono _ _ _
      | exact laws_szReportS.mono _ _ _
      | exact laws_toReportS.mono _ _
      | exact spec_GroupReports.mono _ _
      | exact LeO.none _
      | refine LeO.ite ?_ ?_
      | refine LeO.bind ?_ (fun _ => ?_)
theorem y277_ {P : Prop} (h : P := by (with_reducible repeat (first | apply Kd.S_alloc | apply Kd.S_drewN | apply Kd.S_drew)); exact HO352.out) : P := h
theorem y280_ {P : Prop} (h : P := by (with_reducible repeat (first | apply Kd.S_alloc | apply Kd.S_drewN | apply Kd.S_drew)); exact HO358.out) : P := h
theorem y283_ {P : Prop} (h : P := by (try simp only [List.map_toArray, List.map_cons, List.map_nil]); first | done | (rw [show t370.length = t359.length from (Kd.R_reads' HO_6.out).1.symm] <;> rfl) | rfl | (simp only [List.length_drop, List.length_take]; rfl)) : P := h
set_option maxHeartbeats 8000000 in
set_option maxRecDepth 100000 in
theorem laws_FnExactGroupReports.calls (k : Nat) (A0 : Option Addr) (c0 : Nat) (l0 : List (S36)) (w : World) (hr0 : Kd.C k36 w A0 l0.length l0) (hc0 : l0.length ≤ c0) (h : laws_FnExactGroupReports.f k l0 = some true) :
    Calls Try.prog 6 #[.slice A0 l0.length c0] w fun e w' => e = .returned (.bool true) ∧ Below w.heap.size w w' := by
  have HR0 := Aside0.mk hr0
  have HC0 := Aside0.mk hc0
  clear hr0 hc0
  have HB := Aside0.mk (Below.refl w.heap.size w)
  have H : ((laws_szReportS.f k l0 1048576).bind fun t349 => (if t349 < 0 then (some true) else ((laws_toReportS.f k l0).bind fun t350 => ((spec_GroupReports.f k t350).bind fun t353 => ((laws_toReportS.f k l0).bind fun t356 => ((impl_GroupReports.f k t356).bind fun t359 => ((laws_eqIntS.f k t359 t353).bind fun t362 => (if t362 = true then ((laws_toReportS.f k l0).bind fun t363 => ((laws_eqReportS.f k t356 t363).bind fun t366 => (if t366 = true then ((laws_markReportS.f t356 1).bind fun t367 => (if t367 < 0 then (laws_FnExactGroupReports.j0 k l0 t353 t359 true) else ((laws_eqIntS.f k t359 t353).bind fun t368 => (laws_FnExactGroupReports.j0 k l0 t353 t359 (!t368))))) else (some false)))) else (some false))))))))) = some true := h
  clear h
  replace H := Option.bind_eq_some_iff.mp H
  obtain ⟨t349, A20, H⟩ := H
  replace H : (if t349 < 0 then (some true) else ((laws_toReportS.f k l0).bind fun t350 => ((spec_GroupReports.f k t350).bind fun t353 => ((laws_toReportS.f k l0).bind fun t356 => ((impl_GroupReports.f k t356).bind fun t359 => ((laws_eqIntS.f k t359 t353).bind fun t362 => (if t362 = true then ((laws_toReportS.f k l0).bind fun t363 => ((laws_eqReportS.f k t356 t363).bind fun t366 => (if t366 = true then ((laws_markReportS.f t356 1).bind fun t367 => (if t367 < 0 then (laws_FnExactGroupReports.j0 k l0 t353 t359 true) else ((laws_eqIntS.f k t359 t353).bind fun t368 => (laws_FnExactGroupReports.j0 k l0 t353 t359 (!t368))))) else (some false)))) else (some false)))))))) = some true := H
  have A2 := Aside0.mk A20
  clear A20
  by_cases c3 : t349 < 0
  · rw [if_pos c3] at H
    have c3b0 : decide (t349 < 0) = true := decide_eq_true c3
    clear c3
    first | (obtain rfl := Option.some.inj H) | (have Hr_ := Option.some.inj H; clear H)
    go_enter Try.func6, Try.ntmps6
    go_wp2_with (first | ((with_reducible refine gate_callee (f := 25) rfl ?_); refine goesL_ (some 13) rfl rfl Try.func25 (by kernel_rfl) rfl #[.slice A0 l0.length c0, .int .i64 1048576] rfl ma_ ?_; (with_reducible refine (laws_szReportS.calls k _ _ l0 1048576 t349 _ ?side1 ?side2 A2.out).mono ?_); (case side1 => exact cd_ HR0.out); (case side2 => exact HC0.out); rintro e w4 ⟨rfl, hb⟩; refine ⟨_, rfl, ?_⟩; have n0_ := Aside0.mk (below_step (hd_ HB.out) hb); clear HB; have HB := n0_; clear n0_; (try clear hb); (try clear hb2); (try clear hk); (try clear hi)))
    go_ret
    exact ⟨by first | rfl | (simp [errW_none, errW_some] <;> rfl) | (simp [*, errW_none, errW_some] <;> rfl), hd_ HB.out⟩
  · rw [if_neg c3] at H
    have c3b0 : decide (t349 < 0) = false := decide_eq_false c3
    clear c3
    replace H := Option.bind_eq_some_iff.mp H
    obtain ⟨t350, A50, H⟩ := H
    replace H : ((spec_GroupReports.f k t350).bind fun t353 => ((laws_toReportS.f k l0).bind fun t356 => ((impl_GroupReports.f k t356).bind fun t359 => ((laws_eqIntS.f k t359 t353).bind fun t362 => (if t362 = true then ((laws_toReportS.f k l0).bind fun t363 => ((laws_eqReportS.f k t356 t363).bind fun t366 => (if t366 = true then ((laws_markReportS.f t356 1).bind fun t367 => (if t367 < 0 then (laws_FnExactGroupReports.j0 k l0 t353 t359 true) else ((laws_eqIntS.f k t359 t353).bind fun t368 => (laws_FnExactGroupReports.j0 k l0 t353 t359 (!t368))))) else (some false)))) else (some false)))))) = some true := H
    have A5 := Aside0.mk A50
    clear A50
    replace H := Option.bind_eq_some_iff.mp H
    obtain ⟨t353, A60, H⟩ := H
    replace H : ((laws_toReportS.f k l0).bind fun t356 => ((impl_GroupReports.f k t356).bind fun t359 => ((laws_eqIntS.f k t359 t353).bind fun t362 => (if t362 = true then ((laws_toReportS.f k l0).bind fun t363 => ((laws_eqReportS.f k t356 t363).bind fun t366 => (if t366 = true then ((laws_markReportS.f t356 1).bind fun t367 => (if t367 < 0 then (laws_FnExactGroupReports.j0 k l0 t353 t359 true) else ((laws_eqIntS.f k t359 t353).bind fun t368 => (laws_FnExactGroupReports.j0 k l0 t353 t359 (!t368))))) else (some false)))) else (some false))))) = some true := H
    have A6 := Aside0.mk A60
    clear A60
    replace H := Option.bind_eq_some_iff.mp H
    obtain ⟨t356, A70, H⟩ := H
    replace H : ((impl_GroupReports.f k t356).bind fun t359 => ((laws_eqIntS.f k t359 t353).bind fun t362 => (if t362 = true then ((laws_toReportS.f k l0).bind fun t363 => ((laws_eqReportS.f k t356 t363).bind fun t366 => (if t366 = true then ((laws_markReportS.f t356 1).bind fun t367 => (if t367 < 0 then (laws_FnExactGroupReports.j0 k l0 t353 t359 true) else ((laws_eqIntS.f k t359 t353).bind fun t368 => (laws_FnExactGroupReports.j0 k l0 t353 t359 (!t368))))) else (some false)))) else (some false)))) = some true := H
    have A7 := Aside0.mk A70
    clear A70
    replace H := Option.bind_eq_some_iff.mp H
    obtain ⟨t359, A80, H⟩ := H
    replace H : ((laws_eqIntS.f k t359 t353).bind fun t362 => (if t362 = true then ((laws_toReportS.f k l0).bind fun t363 => ((laws_eqReportS.f k t356 t363).bind fun t366 => (if t366 = true then ((laws_markReportS.f t356 1).bind fun t367 => (if t367 < 0 then (laws_FnExactGroupReports.j0 k l0 t353 t359 true) else ((laws_eqIntS.f k t359 t353).bind fun t368 => (laws_FnExactGroupReports.j0 k l0 t353 t359 (!t368))))) else (some false)))) else (some false))) = some true := H
    have A8 := Aside0.mk A80
    clear A80
    replace H := Option.bind_eq_some_iff.mp H
    obtain ⟨t362, A90, H⟩ := H
    replace H : (if t362 = true then ((laws_toReportS.f k l0).bind fun t363 => ((laws_eqReportS.f k t356 t363).bind fun t366 => (if t366 = true then ((laws_markReportS.f t356 1).bind fun t367 => (if t367 < 0 then (laws_FnExactGroupReports.j0 k l0 t353 t359 true) else ((laws_eqIntS.f k t359 t353).bind fun t368 => (laws_FnExactGroupReports.j0 k l0 t353 t359 (!t368))))) else (some false)))) else (some false)) = some true := H
    have A9 := Aside0.mk A90
    clear A90
    by_cases c10 : t362 = true
    · subst c10
      have H1 : ((laws_toReportS.f k l0).bind fun t363 => ((laws_eqReportS.f k t356 t363).bind fun t366 => (if t366 = true then ((laws_markReportS.f t356 1).bind fun t367 => (if t367 < 0 then (laws_FnExactGroupReports.j0 k l0 t353 t359 true) else ((laws_eqIntS.f k t359 t353).bind fun t368 => (laws_FnExactGroupReports.j0 k l0 t353 t359 (!t368))))) else (some false)))) = some true := by rw [if_pos rfl] at H; exact H
      clear H
      have H := H1
      clear H1
      replace H := Option.bind_eq_some_iff.mp H
      obtain ⟨t363, A110, H⟩ := H
      replace H : ((laws_eqReportS.f k t356 t363).bind fun t366 => (if t366 = true then ((laws_markReportS.f t356 1).bind fun t367 => (if t367 < 0 then (laws_FnExactGroupReports.j0 k l0 t353 t359 true) else ((laws_eqIntS.f k t359 t353).bind fun t368 => (laws_FnExactGroupReports.j0 k l0 t353 t359 (!t368))))) else (some false))) = some true := H
      have A11 := Aside0.mk A110
      clear A110
      replace H := Option.bind_eq_some_iff.mp H
      obtain ⟨t366, A120, H⟩ := H
      replace H : (if t366 = true then ((laws_markReportS.f t356 1).bind fun t367 => (if t367 < 0 then (laws_FnExactGroupReports.j0 k l0 t353 t359 true) else ((laws_eqIntS.f k t359 t353).bind fun t368 => (laws_FnExactGroupReports.j0 k l0 t353 t359 (!t368))))) else (some false)) = some true := H
      have A12 := Aside0.mk A120
      clear A120
      by_cases c13 : t366 = true
      · subst c13
        have H1 : ((laws_markReportS.f t356 1).bind fun t367 => (if t367 < 0 then (laws_FnExactGroupReports.j0 k l0 t353 t359 true) else ((laws_eqIntS.f k t359 t353).bind fun t368 => (laws_FnExactGroupReports.j0 k l0 t353 t359 (!t368))))) = some true := by rw [if_pos rfl] at H; exact H
        clear H
        have H := H1
        clear H1
        replace H := Option.bind_eq_some_iff.mp H
        obtain ⟨t367, A140, H⟩ := H
        replace H : (if t367 < 0 then (laws_FnExactGroupReports.j0 k l0 t353 t359 true) else ((laws_eqIntS.f k t359 t353).bind fun t368 => (laws_FnExactGroupReports.j0 k l0 t353 t359 (!t368)))) = some true := H
        have A14 := Aside0.mk A140
        clear A140
        have HC15 := Aside0.mk H
        clear H
        go_enter Try.func6, Try.ntmps6
        go_upto_region 14 with (first | ((with_reducible refine gate_callee (f := 25) rfl ?_); refine goesL_ (some 13) rfl rfl Try.func25 (by kernel_rfl) rfl #[.slice A0 l0.length c0, .int .i64 1048576] rfl ma_ ?_; (with_reducible refine (laws_szReportS.calls k _ _ l0 1048576 t349 _ ?side1 ?side2 A2.out).mono ?_); (case side1 => exact cd_ HR0.out); (case side2 => exact HC0.out); rintro e w16 ⟨rfl, hb⟩; refine ⟨_, rfl, ?_⟩; have n0_ := Aside0.mk (below_step (hd_ HB.out) hb); clear HB; have HB := n0_; clear n0_; (try clear hb); (try clear hb2); (try clear hk); (try clear hi)) | ((with_reducible refine gate_callee (f := 27) rfl ?_); refine goesL_ (some 17) rfl rfl Try.func27 (by kernel_rfl) rfl #[.slice A0 l0.length c0] rfl ma_ ?_; (with_reducible refine (laws_toReportS.calls k _ _ l0 t350 _ ?side1 ?side2 A5.out).mono ?_); (case side1 => exact cd_ (Kd.C_below HR0.out HB.out)); (case side2 => exact HC0.out); rintro e w17 ⟨v351, rfl, ho0, hb⟩; refine ⟨_, rfl, ?_⟩; have HO352 := Aside0.mk (Kd.S_lower ho0 (below_size (hd_ HB.out))); have n1_ := Aside0.mk (below_step (hd_ HB.out) hb); clear HB; have HB := n1_; clear n1_; (try clear hb); (try clear hb2); (try clear hk); (try clear hi); (try clear ho0); obtain ⟨Ao18, co18, eo18⟩ := Kd.S_slice HO352.out; subst eo18) | ((with_reducible refine gate_callee (f := 26) rfl ?_); refine goesL_ (some 18) rfl rfl Try.func26 (by kernel_rfl) rfl #[.slice Ao18 t350.length co18] rfl ma_ ?_; (with_reducible refine (spec_GroupReports.calls k _ _ t350 t353 _ ?side1 ?side2 A6.out).mono ?_); (case side1 => exact cd_ (Kd.S_reads' HO352.out).2.2); (case side2 => exact (Kd.S_reads' HO352.out).2.1); rintro e w19 ⟨v354, rfl, ho0, hb⟩; refine ⟨_, rfl, ?_⟩; have n0_ := Aside0.mk (Kd.S_elder' y277_ (Kd.R_base ho0) hb); have HO355 := Aside0.mk (Kd.R_lower ho0 (below_size (hd_ HB.out))); have n2_ := Aside0.mk (below_step (hd_ HB.out) hb); clear HO352; clear HB; have HO352 := n0_; have HB := n2_; clear n0_ n2_; (try clear hb); (try clear hb2); (try clear hk); (try clear hi); (try clear ho0)) | ((with_reducible refine gate_callee (f := 27) rfl ?_); refine goesL_ (some 20) rfl rfl Try.func27 (by kernel_rfl) rfl #[.slice A0 l0.length c0] rfl ma_ ?_; (with_reducible refine (laws_toReportS.calls k _ _ l0 t356 _ ?side1 ?side2 A7.out).mono ?_); (case side1 => exact cd_ (Kd.C_below HR0.out HB.out)); (case side2 => exact HC0.out); rintro e w20 ⟨v357, rfl, ho0, hb⟩; refine ⟨_, rfl, ?_⟩; have n0_ := Aside0.mk (Kd.S_elder' y277_ (Kd.S_base ho0) hb); have n1_ := Aside0.mk (Kd.R_below (rd_ HO355.out) hb); have HO358 := Aside0.mk (Kd.S_lower (Kd.S_new' (Kd.S_new' ho0 (Kd.S_lt y277_)) (Kd.R_lt (rd_ HO355.out))) (below_size (hd_ HB.out))); have n3_ := Aside0.mk (below_step (hd_ HB.out) hb); clear HO352; clear HO355; clear HB; have HO352 := n0_; have HO355 := n1_; have HB := n3_; clear n0_ n1_ n3_; (try clear hb); (try clear hb2); (try clear hk); (try clear hi); (try clear ho0); obtain ⟨Ao21, co21, eo21⟩ := Kd.S_slice HO358.out; subst eo21) | ((with_reducible refine gate_callee (f := 28) rfl ?_); refine goesL_ (some 22) rfl rfl Try.func28 (by kernel_rfl) rfl #[.slice Ao21 t356.length co21] rfl ma_ ?_; (with_reducible refine (impl_GroupReports.calls k _ _ t356 t359 _ ?side1 ?side2 A8.out).mono ?_); (case side1 => exact cd_ (Kd.S_reads' HO358.out).2.2); (case side2 => exact (Kd.S_reads' HO358.out).2.1); rintro e w22 ⟨v360, rfl, ho0, hb⟩; refine ⟨_, rfl, ?_⟩; have n0_ := Aside0.mk (Kd.S_elder' y277_ (Kd.R_base ho0) hb); have n1_ := Aside0.mk (Kd.R_elder' (rd_ HO355.out) (Kd.R_base ho0) hb); have n2_ := Aside0.mk (Kd.S_elder' y280_ (Kd.R_base ho0) hb); have HO361 := Aside0.mk (Kd.R_lower (Kd.R_new' ho0 (Kd.R_lt (rd_ HO355.out))) (below_size (hd_ HB.out))); have n4_ := Aside0.mk (below_step (hd_ HB.out) hb); clear HO352; clear HO355; clear HO358; clear HB; have HO352 := n0_; have HO355 := n1_; have HO358 := n2_; have HB := n4_; clear n0_ n1_ n2_ n4_; (try clear hb); (try clear hb2); (try clear hk); (try clear hi); (try clear ho0); obtain ⟨Ao23, co23, eo23⟩ := Kd.R_slice HO361.out; subst eo23; obtain ⟨Ao24, co24, eo24⟩ := Kd.R_slice HO355.out; subst eo24) | ((with_reducible refine gate_callee (f := 12) rfl ?_); refine goesL_ (some 25) rfl rfl Try.func12 (by kernel_rfl) rfl #[.slice Ao23 t359.length co23, .slice Ao24 t353.length co24] rfl ma_ ?_; (with_reducible refine (laws_eqIntS.calls k _ _ t359 _ _ t353 true _ ?side1 ?side2 ?side3 ?side4 A9.out).mono ?_); (case side1 => exact cd_ (Kd.R_reads' HO361.out).2.2); (case side2 => exact (Kd.R_reads' HO361.out).2.1); (case side3 => exact cd_ (Kd.R_reads' HO355.out).2.2); (case side4 => exact (Kd.R_reads' HO355.out).2.1); rintro e w' ⟨rfl, ⟨nd, rfl⟩⟩; refine ⟨_, rfl, ?_⟩) | ((with_reducible refine gate_callee (f := 27) rfl ?_); refine goesL_ (some 29) rfl rfl Try.func27 (by kernel_rfl) rfl #[.slice A0 l0.length c0] rfl ma_ ?_; (with_reducible refine (laws_toReportS.calls k _ _ l0 t363 _ ?side1 ?side2 A11.out).mono ?_); (case side1 => repeat (first | exact (Kd.C_below HR0.out (hd_ HB.out)) | (with_reducible refine Kd.C_alloc ?_ _) | (with_reducible refine Kd.C_drewN ?_ _) | (with_reducible refine Kd.C_drew ?_))); (case side2 => exact HC0.out); rintro e w25 ⟨v364, rfl, ho0, hb⟩; refine ⟨_, rfl, ?_⟩; have n0_ := Aside0.mk (Kd.S_elder' y277_ (Kd.S_base ho0) hb); have n1_ := Aside0.mk (Kd.R_below (rd_ HO355.out) hb); have n2_ := Aside0.mk (Kd.S_elder' y280_ (Kd.S_base ho0) hb); have n3_ := Aside0.mk (Kd.R_below (rd_ HO361.out) hb); have HO365 := Aside0.mk (Kd.S_lower (Kd.S_new' (Kd.S_new' (Kd.S_new' (Kd.S_new' ho0 (Kd.S_lt y277_)) (Kd.R_lt (rd_ HO355.out))) (Kd.S_lt y280_)) (Kd.R_lt (rd_ HO361.out))) (below_size (hd_ HB.out))); have n5_ := Aside0.mk (below_step (hd_ HB.out) hb); clear HO352; clear HO355; clear HO358; clear HO361; clear HB; have HO352 := n0_; have HO355 := n1_; have HO358 := n2_; have HO361 := n3_; have HB := n5_; clear n0_ n1_ n2_ n3_ n5_; (try clear hb); (try clear hb2); (try clear hk); (try clear hi); (try clear ho0); obtain ⟨Ao26, co26, eo26⟩ := Kd.S_slice HO365.out; subst eo26) | ((with_reducible refine gate_callee (f := 29) rfl ?_); refine goesL_ (some 30) rfl rfl Try.func29 (by kernel_rfl) rfl #[.slice Ao21 t356.length co21, .slice Ao26 t363.length co26] rfl ma_ ?_; (with_reducible refine (laws_eqReportS.calls k _ _ t356 _ _ t363 true _ ?side1 ?side2 ?side3 ?side4 A12.out).mono ?_); (case side1 => exact cd_ (Kd.S_reads' HO358.out).2.2); (case side2 => exact (Kd.S_reads' HO358.out).2.1); (case side3 => exact cd_ (Kd.S_reads' HO365.out).2.2); (case side4 => exact (Kd.S_reads' HO365.out).2.1); rintro e w27 ⟨rfl, hb⟩; refine ⟨_, rfl, ?_⟩; have n0_ := Aside0.mk (Kd.S_below y277_ hb); have n1_ := Aside0.mk (Kd.R_below (rd_ HO355.out) hb); have n2_ := Aside0.mk (Kd.S_below y280_ hb); have n3_ := Aside0.mk (Kd.R_below (rd_ HO361.out) hb); have n4_ := Aside0.mk (Kd.S_below (by (with_reducible repeat (first | apply Kd.S_alloc | apply Kd.S_drewN | apply Kd.S_drew)); exact HO365.out) hb); have n5_ := Aside0.mk (below_step (hd_ HB.out) hb); clear HO352; clear HO355; clear HO358; clear HO361; clear HO365; clear HB; have HO352 := n0_; have HO355 := n1_; have HO358 := n2_; have HO361 := n3_; have HO365 := n4_; have HB := n5_; clear n0_ n1_ n2_ n3_ n4_ n5_; (try clear hb); (try clear hb2); (try clear hk); (try clear hi)) | ((with_reducible refine gate_callee (f := 30) rfl ?_); refine goesL_ (some 34) rfl rfl Try.func30 (by kernel_rfl) rfl #[.slice Ao21 t356.length co21, .int .i64 1] rfl ma_ ?_; obtain ⟨rr_, hrr_⟩ := laws_markReportS.both A14.out; refine (laws_markReportS.calls _ _ t356 1 t367 rr_ w _ (hd_ HB.out) (by (with_reducible repeat (first | apply Kd.S_alloc | apply Kd.S_drewN | apply Kd.S_drew));  exact HO358.out) hrr_).mono ?_; rintro e w28 ⟨rfl, hs_, hb, hk⟩; refine ⟨_, rfl, ?_⟩; have n0_ := Aside0.mk (Kd.R_mono (Kd.R_step (Kd.R_tight rfl (by first | exact HO355.out | ((with_reducible repeat (first | apply Kd.R_alloc | apply Kd.R_drewN | apply Kd.R_drew)); exact HO355.out))) (fun k_ hk_ hlt_ => hk.2 k_ hlt_ (fun hp_ => by first | exact hp_.2 hk_ | exact hp_.1.2 hk_ | exact hp_.1.1.2 hk_ | exact hp_.1.1.1.2 hk_ | exact hp_.1.1.1.1.2 hk_))) (fun k_ hk_ => HO355.out.1 k_ hk_.symm)); have n1_ := Aside0.mk (Kd.R_mono (Kd.R_step (Kd.R_tight rfl (by first | exact HO361.out | ((with_reducible repeat (first | apply Kd.R_alloc | apply Kd.R_drewN | apply Kd.R_drew)); exact HO361.out))) (fun k_ hk_ hlt_ => hk.2 k_ hlt_ (fun hp_ => by first | exact hp_.2 hk_ | exact hp_.1.2 hk_ | exact hp_.1.1.2 hk_ | exact hp_.1.1.1.2 hk_ | exact hp_.1.1.1.1.2 hk_))) (fun k_ hk_ => HO361.out.1 k_ hk_.symm)); have n9_ := Aside0.mk hb; clear hs_ hb hk hrr_; clear HO355; clear HO361; clear HO352; clear HO358; clear HO365; clear HB; have HO355 := n0_; have HO361 := n1_; have HB := n9_; clear n9_ n0_ n1_))
        (try simp only [Act.put, List.setIfInBounds_toArray, List.set_cons_zero, List.set_cons_succ])
        go_cut [42] (fun v42 wc => ∃ (kq : Nat) (x42_14 : Bool), v42 = .bool x42_14 ∧ Aside0 (laws_FnExactGroupReports.j0 kq l0 t353 t359 x42_14 = some true) ∧ Aside0 (kq ≤ k) ∧ Aside0 (Kd.R (Kd.int .i64) 3 wc w.heap.size (fun k_ => some k_ ≠ ((.slice Ao23 t359.length co23) : Value).ownBlock) (.slice Ao24 t353.length co24) t353) ∧ Aside0 (Kd.R (Kd.int .i64) 3 wc w.heap.size (fun k_ => some k_ ≠ ((.slice Ao24 t353.length co24) : Value).ownBlock) (.slice Ao23 t359.length co23) t359) ∧ Aside0 (Below w.heap.size w wc))
        case first =>
          have H := HC15.out
          clear HC15
          by_cases c29 : t367 < 0
          · rw [if_pos c29] at H
            have c29b0 : decide (t367 < 0) = true := decide_eq_true c29
            clear c29
            (first | rw [c29b0] | (simp only [i64_w, i32_w]; rw [c29b0]) | skip)
            have H' := Aside0.mk H
            clear H
            go_wp2
            go_meet
            case rel => exact ⟨_, (true), (by first | rfl | (simp; done) | (simp [*]; done)), H', ⟨by first | omega | exact Nat.le_refl _⟩, ⟨by (with_reducible repeat (first | apply Kd.R_alloc | apply Kd.R_drewN | apply Kd.R_drew)); exact Kd.R_mono HO355.out (fun _ hk => hk.2)⟩, ⟨by (with_reducible repeat (first | apply Kd.R_alloc | apply Kd.R_drewN | apply Kd.R_drew)); exact Kd.R_mono HO361.out (fun _ hk => hk.2)⟩, ⟨hd_ HB.out⟩⟩
          · rw [if_neg c29] at H
            have c29b0 : decide (t367 < 0) = false := decide_eq_false c29
            clear c29
            (first | rw [c29b0] | (simp only [i64_w, i32_w]; rw [c29b0]) | skip)
            replace H := Option.bind_eq_some_iff.mp H
            obtain ⟨t368, A300, H⟩ := H
            replace H : (laws_FnExactGroupReports.j0 k l0 t353 t359 (!t368)) = some true := H
            have A30 := Aside0.mk A300
            clear A300
            have H' := Aside0.mk H
            clear H
            go_wp2_with (first | (go_at_call 12; (with_reducible refine (laws_eqIntS.calls k _ _ t359 _ _ t353 t368 _ ?side1 ?side2 ?side3 ?side4 A30.out).mono ?_); (case side1 => exact cd_ (Kd.R_reads' HO361.out).2.2); (case side2 => exact (Kd.R_reads' HO361.out).2.1); (case side3 => exact cd_ (Kd.R_reads' HO355.out).2.2); (case side4 => exact (Kd.R_reads' HO355.out).2.1); rintro e w' ⟨rfl, ⟨nd, rfl⟩⟩))
            go_meet
            case rel => exact ⟨_, (!t368), (by first | rfl | (simp; done) | (simp [*]; done)), H', ⟨by first | omega | exact Nat.le_refl _⟩, ⟨by (with_reducible repeat (first | apply Kd.R_alloc | apply Kd.R_drewN | apply Kd.R_drew)); exact Kd.R_mono HO355.out (fun _ hk => hk.2)⟩, ⟨by (with_reducible repeat (first | apply Kd.R_alloc | apply Kd.R_drewN | apply Kd.R_drew)); exact Kd.R_mono HO361.out (fun _ hk => hk.2)⟩, ⟨hd_ HB.out⟩⟩
        case rest =>
          clear HC15
          try clear c1
          try clear c2
          try clear p2
          try clear c3
          try clear c3b0
          try clear c6
          try clear c10
          try clear c12
          try clear c13
          try clear c25
          try clear c26
          try clear c27
          try clear c28
          try clear c29
          try clear c29b0
          try clear c30
          obtain ⟨kq, x42_14, rfl, HA, HJ14, HO_4, HO_6, HB⟩ := hcut
          cases kq with
          | zero => exact absurd HA.out (by simp [laws_FnExactGroupReports.j0])
          | succ kj14 =>
            have H := HA.out
            clear HA
            simp only [laws_FnExactGroupReports.j0] at H
            by_cases c31 : x42_14 = true
            · subst c31
              have H1 : (some false) = some true := by rw [if_pos rfl] at H; exact H
              clear H
              have H := H1
              clear H1
              exact absurd H (by simp)
            · replace c31 := Bool.eq_false_iff.mpr c31
              subst c31
              have H1 : ((laws_markIntS.f kj14 t359 1).bind fun bt369 => ((laws_heldIntS.f kj14 bt369.2 1).bind fun t371 => (if t371 < 0 then (some false) else (if t371 = bt369.1 then ((laws_toReportS.f kj14 l0).bind fun t372 => ((impl_GroupReports.f kj14 t372).bind fun t375 => ((laws_eqIntS.f kj14 t375 t353).bind fun t378 => (if t378 = true then ((laws_heldIntS.f kj14 bt369.2 1).bind fun t379 => (if t379 < 0 then (some false) else (if t379 = bt369.1 then (some true) else (some false)))) else (some false))))) else (some false))))) = some true := by rw [if_neg (show ¬ (false = true) by decide)] at H; exact H
              clear H
              have H := H1
              clear H1
              replace H := Option.bind_eq_some_iff.mp H
              obtain ⟨⟨t369, t370⟩, A320, H⟩ := H
              replace H : ((laws_heldIntS.f kj14 t370 1).bind fun t371 => (if t371 < 0 then (some false) else (if t371 = t369 then ((laws_toReportS.f kj14 l0).bind fun t372 => ((impl_GroupReports.f kj14 t372).bind fun t375 => ((laws_eqIntS.f kj14 t375 t353).bind fun t378 => (if t378 = true then ((laws_heldIntS.f kj14 t370 1).bind fun t379 => (if t379 < 0 then (some false) else (if t379 = t369 then (some true) else (some false)))) else (some false))))) else (some false)))) = some true := H
              have A32 := Aside0.mk A320
              clear A320
              replace H := Option.bind_eq_some_iff.mp H
              obtain ⟨t371, A330, H⟩ := H
              replace H : (if t371 < 0 then (some false) else (if t371 = t369 then ((laws_toReportS.f kj14 l0).bind fun t372 => ((impl_GroupReports.f kj14 t372).bind fun t375 => ((laws_eqIntS.f kj14 t375 t353).bind fun t378 => (if t378 = true then ((laws_heldIntS.f kj14 t370 1).bind fun t379 => (if t379 < 0 then (some false) else (if t379 = t369 then (some true) else (some false)))) else (some false))))) else (some false))) = some true := H
              have A33 := Aside0.mk A330
              clear A330
              by_cases c34 : t371 < 0
              · rw [if_pos c34] at H
                have c34b0 : decide (t371 < 0) = true := decide_eq_true c34
                clear c34
                exact absurd H (by simp)
              · rw [if_neg c34] at H
                have c34b0 : decide (t371 < 0) = false := decide_eq_false c34
                clear c34
                by_cases c35 : t371 = t369
                · rw [if_pos c35] at H
                  have c35b0 : (t371 == t369) = true := beq_iff_eq.mpr c35
                  have c35b1 : (t371 != t369) = false := bne_eq_false_iff_eq.mpr c35
                  clear c35
                  replace H := Option.bind_eq_some_iff.mp H
                  obtain ⟨t372, A360, H⟩ := H
                  replace H : ((impl_GroupReports.f kj14 t372).bind fun t375 => ((laws_eqIntS.f kj14 t375 t353).bind fun t378 => (if t378 = true then ((laws_heldIntS.f kj14 t370 1).bind fun t379 => (if t379 < 0 then (some false) else (if t379 = t369 then (some true) else (some false)))) else (some false)))) = some true := H
                  have A36 := Aside0.mk A360
                  clear A360
                  replace H := Option.bind_eq_some_iff.mp H
                  obtain ⟨t375, A370, H⟩ := H
                  replace H : ((laws_eqIntS.f kj14 t375 t353).bind fun t378 => (if t378 = true then ((laws_heldIntS.f kj14 t370 1).bind fun t379 => (if t379 < 0 then (some false) else (if t379 = t369 then (some true) else (some false)))) else (some false))) = some true := H
                  have A37 := Aside0.mk A370
                  clear A370
                  replace H := Option.bind_eq_some_iff.mp H
                  obtain ⟨t378, A380, H⟩ := H
                  replace H : (if t378 = true then ((laws_heldIntS.f kj14 t370 1).bind fun t379 => (if t379 < 0 then (some false) else (if t379 = t369 then (some true) else (some false)))) else (some false)) = some true := H
                  have A38 := Aside0.mk A380
                  clear A380
                  by_cases c39 : t378 = true
                  · subst c39
                    have H1 : ((laws_heldIntS.f kj14 t370 1).bind fun t379 => (if t379 < 0 then (some false) else (if t379 = t369 then (some true) else (some false)))) = some true := by rw [if_pos rfl] at H; exact H
                    clear H
                    have H := H1
                    clear H1
                    replace H := Option.bind_eq_some_iff.mp H
                    obtain ⟨t379, A400, H⟩ := H
                    replace H : (if t379 < 0 then (some false) else (if t379 = t369 then (some true) else (some false))) = some true := H
                    have A40 := Aside0.mk A400
                    clear A400
                    by_cases c41 : t379 < 0
                    · rw [if_pos c41] at H
                      have c41b0 : decide (t379 < 0) = true := decide_eq_true c41
                      clear c41
                      exact absurd H (by simp)
                    · rw [if_neg c41] at H
                      have c41b0 : decide (t379 < 0) = false := decide_eq_false c41
                      clear c41
                      by_cases c42 : t379 = t369
                      · rw [if_pos c42] at H
                        have c42b0 : (t379 == t369) = true := beq_iff_eq.mpr c42
                        have c42b1 : (t379 != t369) = false := bne_eq_false_iff_eq.mpr c42
                        clear c42
                        first | (obtain rfl := Option.some.inj H) | (have Hr_ := Option.some.inj H; clear H)
                        go_wp2_with (first | ((with_reducible refine gate_callee (f := 15) rfl ?_); refine goesL_ (some 45) rfl rfl Try.func15 (by kernel_rfl) rfl #[.slice Ao23 t359.length co23, .int .i64 1] rfl ma_ ?_; (with_reducible refine (laws_markIntS.calls kj14 (fun k_ => some k_ = (.slice Ao23 t359.length co23 : Value).ownBlock) (.slice Ao23 t359.length co23) t359 1 t369 t370 w _ ?side1 ?side2 A32.out).mono ?_); (case side1 => repeat (first | (with_reducible first | exact HB.out | apply below_alloc | apply pw_below_drewN | apply below_drew1) | exact HB.out)); (case side2 => exact Kd.R_tight rfl HO_6.out); rintro e w43 ⟨rfl, hy0, hb, hkp⟩; refine ⟨_, rfl, ?_⟩; have n0_ := Aside0.mk (Kd.R_mono (ok' := fun k_ => some k_ ≠ (.slice Ao23 t359.length co23 : Value).ownBlock) (Kd.R_keptB (HO_4.out) hkp (fun k_ hk_ hs_ => (hk_) hs_)) (fun k_ hk_ => hk_.1)); have n1_ := Aside0.mk (Kd.R_reok rfl hy0 (fun k_ e_ => HO_6.out.1 k_ e_)); have n2_ := Aside0.mk (hb); clear HO_4; clear HO_6; clear HB; have HO_4 := n0_; have HO_6 := n1_; have HB := n2_; clear n0_ n1_ n2_; (try clear hb); (try clear hkp); (try clear hy0)) | ((with_reducible refine gate_callee (f := 16) rfl ?_); refine goesL_ (some 48) rfl rfl Try.func16 (by kernel_rfl) rfl #[.slice Ao23 t370.length co23, .int .i64 1] rfl y283_ ?_; (with_reducible refine (laws_heldIntS.calls kj14 _ _ t370 1 t371 _ ?side1 ?side2 A33.out).mono ?_); (case side1 => exact cd_ (Kd.R_reads' HO_6.out).2.2); (case side2 => rw [show t370.length = t359.length from (Kd.R_reads' HO_6.out).1.symm]; exact (Kd.R_reads' HO_6.out).2.1); rintro e w' ⟨rfl, ⟨nd, rfl⟩⟩; refine ⟨_, rfl, ?_⟩) | ((with_reducible refine gate_callee (f := 27) rfl ?_); refine goesL_ (some 55) rfl rfl Try.func27 (by kernel_rfl) rfl #[.slice A0 l0.length c0] rfl ma_ ?_; (with_reducible refine (laws_toReportS.calls kj14 _ _ l0 t372 _ ?side1 ?side2 A36.out).mono ?_); (case side1 => repeat (first | exact (Kd.C_below HR0.out (hd_ HB.out)) | (with_reducible refine Kd.C_alloc ?_ _) | (with_reducible refine Kd.C_drewN ?_ _) | (with_reducible refine Kd.C_drew ?_))); (case side2 => exact HC0.out); rintro e w44 ⟨v373, rfl, ho0, hb⟩; refine ⟨_, rfl, ?_⟩; have n0_ := Aside0.mk (Kd.R_below (rd_ HO_4.out) hb); have n1_ := Aside0.mk (Kd.R_below (rd_ HO_6.out) hb); have HO374 := Aside0.mk (Kd.S_lower (Kd.S_new' (Kd.S_new' ho0 (Kd.R_lt (rd_ HO_4.out))) (Kd.R_lt (rd_ HO_6.out))) (below_size (hd_ HB.out))); have n3_ := Aside0.mk (below_step (hd_ HB.out) hb); clear HO_4; clear HO_6; clear HB; have HO_4 := n0_; have HO_6 := n1_; have HB := n3_; clear n0_ n1_ n3_; (try clear hb); (try clear hb2); (try clear hk); (try clear hi); (try clear ho0); obtain ⟨Ao45, co45, eo45⟩ := Kd.S_slice HO374.out; subst eo45) | ((with_reducible refine gate_callee (f := 28) rfl ?_); refine goesL_ (some 56) rfl rfl Try.func28 (by kernel_rfl) rfl #[.slice Ao45 t372.length co45] rfl ma_ ?_; (with_reducible refine (impl_GroupReports.calls kj14 _ _ t372 t375 _ ?side1 ?side2 A37.out).mono ?_); (case side1 => exact cd_ (Kd.S_reads' HO374.out).2.2); (case side2 => exact (Kd.S_reads' HO374.out).2.1); rintro e w46 ⟨v376, rfl, ho0, hb⟩; refine ⟨_, rfl, ?_⟩; have n0_ := Aside0.mk (Kd.R_elder' (rd_ HO_4.out) (Kd.R_base ho0) hb); have n1_ := Aside0.mk (Kd.R_elder' (rd_ HO_6.out) (Kd.R_base ho0) hb); have n2_ := Aside0.mk (Kd.S_elder' (by (with_reducible repeat (first | apply Kd.S_alloc | apply Kd.S_drewN | apply Kd.S_drew)); exact HO374.out) (Kd.R_base ho0) hb); have HO377 := Aside0.mk (Kd.R_lower (Kd.R_new' (Kd.R_new' ho0 (Kd.R_lt (rd_ HO_4.out))) (Kd.R_lt (rd_ HO_6.out))) (below_size (hd_ HB.out))); have n4_ := Aside0.mk (below_step (hd_ HB.out) hb); clear HO_4; clear HO_6; clear HO374; clear HB; have HO_4 := n0_; have HO_6 := n1_; have HO374 := n2_; have HB := n4_; clear n0_ n1_ n2_ n4_; (try clear hb); (try clear hb2); (try clear hk); (try clear hi); (try clear ho0); obtain ⟨Ao47, co47, eo47⟩ := Kd.R_slice HO377.out; subst eo47) | ((with_reducible refine gate_callee (f := 12) rfl ?_); refine goesL_ (some 59) rfl rfl Try.func12 (by kernel_rfl) rfl #[.slice Ao47 t375.length co47, .slice Ao24 t353.length co24] rfl ma_ ?_; (with_reducible refine (laws_eqIntS.calls kj14 _ _ t375 _ _ t353 true _ ?side1 ?side2 ?side3 ?side4 A38.out).mono ?_); (case side1 => exact cd_ (Kd.R_reads' HO377.out).2.2); (case side2 => exact (Kd.R_reads' HO377.out).2.1); (case side3 => exact cd_ (Kd.R_reads' HO_4.out).2.2); (case side4 => exact (Kd.R_reads' HO_4.out).2.1); rintro e w' ⟨rfl, ⟨nd, rfl⟩⟩; refine ⟨_, rfl, ?_⟩) | ((with_reducible refine gate_callee (f := 16) rfl ?_); refine goesL_ (some 63) rfl rfl Try.func16 (by kernel_rfl) rfl #[.slice Ao23 t370.length co23, .int .i64 1] rfl y283_ ?_; (with_reducible refine (laws_heldIntS.calls kj14 _ _ t370 1 t379 _ ?side1 ?side2 A40.out).mono ?_); (case side1 => exact cd_ (Kd.R_reads' HO_6.out).2.2); (case side2 => rw [show t370.length = t359.length from (Kd.R_reads' HO_6.out).1.symm]; exact (Kd.R_reads' HO_6.out).2.1); rintro e w' ⟨rfl, ⟨nd, rfl⟩⟩; refine ⟨_, rfl, ?_⟩))
                        go_ret
                        exact ⟨by first | rfl | (simp [errW_none, errW_some] <;> rfl) | (simp [*, errW_none, errW_some] <;> rfl), hd_ HB.out⟩
                      · rw [if_neg c42] at H
                        have c42b0 : (t379 == t369) = false := beq_eq_false_iff_ne.mpr c42
                        have c42b1 : (t379 != t369) = true := bne_iff_ne.mpr c42
                        exact absurd H (by simp)
                  · replace c39 := Bool.eq_false_iff.mpr c39
                    subst c39
                    have H1 : (some false) = some true := by rw [if_neg (show ¬ (false = true) by decide)] at H; exact H
                    clear H
                    have H := H1
                    clear H1
                    exact absurd H (by simp)
                · rw [if_neg c35] at H
                  have c35b0 : (t371 == t369) = false := beq_eq_false_iff_ne.mpr c35
                  have c35b1 : (t371 != t369) = true := bne_iff_ne.mpr c35
                  exact absurd H (by simp)
      · replace c13 := Bool.eq_false_iff.mpr c13
        subst c13
        have H1 : (some false) = some true := by rw [if_neg (show ¬ (false = true) by decide)] at H; exact H
        clear H
        have H := H1
        clear H1
        exact absurd H (by simp)
    · replace c10 := Bool.eq_false_iff.mpr c10
      subst c10
      have H1 : (some false) = some true := by rw [if_neg (show ¬ (false = true) by decide)] at H; exact H
      clear H
      have H := H1
      clear H1
      exact absurd H (by simp)

end Go.Proofs.Ytglpmjcknhcjcaa.PFnExactGroupReports
