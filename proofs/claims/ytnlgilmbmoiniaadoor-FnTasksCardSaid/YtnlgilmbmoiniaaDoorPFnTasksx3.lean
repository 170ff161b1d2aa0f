-- Written for this claim by a program (a printer turned to this claim); Lean checks it.
import Derived.Test.YtnlgilmbmoiniaaDoorPFnTasksx0
import Derived.Test.YtnlgilmbmoiniaaDoorPFnTasksx2
namespace Go.Proofs.YtnlgilmbmoiniaaDoor.PFnTasks
open Go.RowKit Go.Proofs.YtnlgilmbmoiniaaDoorW.PrintWords Go.Proofs.YtnlgilmbmoiniaaDoorW.PrintLast Go.Proofs.YtnlgilmbmoiniaaDoorW.PrintMore
attribute [local go_sem] max2_int min2_int max_two min_two max_three min_three max_four min_four   -- for this text's walks alone
set_option linter.unusedVariables false
set_option linter.unusedSimpArgs false

/-! ### spec_l6Any: function 37 -/
def spec_l6Any.f (k : Nat) (s0_0 : List Int) (s0_1 : Int) (s0_2 : Int) : Option ((List (S38)) × Int × Int) := (spec_l6List.f k s0_0 s0_1 s0_2).bind fun bt218 => (if (bt218.1.length : Int) = 0 then (some (bt218.1, bt218.2.1, bt218.2.2)) else ((spec_l1Below.f s0_0 bt218.2.1 bt218.2.2 (bt218.1.length : Int)).bind fun bt223 => ((spec_l1Below.f s0_0 bt223.2.1 bt223.2.2 12).bind fun bt226 => (if bt226.1 = 0 then ((spec_l4Any.f s0_0 bt226.2.1 bt226.2.2).bind fun bt229 => (if 0 ≤ bt223.1 then (if bt223.1 < (bt218.1.length : Int) then (some ((bt218.1.set (bt223.1 : Int).toNat (⟨(⟨bt229.1, bt229.2.1, bt229.2.2.1, bt229.2.2.2.1, bt229.2.2.2.2.1⟩ : S36), (rd_T38 bt218.1 bt223.1).f1, (rd_T38 bt218.1 bt223.1).f2, (rd_T38 bt218.1 bt223.1).f3⟩ : S38)), bt229.2.2.2.2.2.1, bt229.2.2.2.2.2.2)) else (none)) else (none))) else (if bt226.1 = 1 then ((spec_l1Int.f s0_0 bt226.2.1 bt226.2.2 (([0, 30, 31] : List Int))).bind fun bt240 => (if 0 ≤ bt223.1 then (if bt223.1 < (bt218.1.length : Int) then (some ((bt218.1.set (bt223.1 : Int).toNat (⟨(⟨(rd_T38 bt218.1 bt223.1).f0.f0, (rd_T38 bt218.1 bt223.1).f0.f1, (rd_T38 bt218.1 bt223.1).f0.f2, (rd_T38 bt218.1 bt223.1).f0.f3, (rd_T38 bt218.1 bt223.1).f0.f4⟩ : S36), bt240.1, (rd_T38 bt218.1 bt223.1).f2, (rd_T38 bt218.1 bt223.1).f3⟩ : S38)), bt240.2.1, bt240.2.2)) else (none)) else (none))) else (if bt226.1 = 2 then ((spec_l4Raw.f s0_0 bt226.2.1 bt226.2.2).bind fun bt244 => (if 0 ≤ bt223.1 then (if bt223.1 < (bt218.1.length : Int) then (some ((bt218.1.set (bt223.1 : Int).toNat (⟨(⟨(rd_T38 bt218.1 bt223.1).f0.f0, (rd_T38 bt218.1 bt223.1).f0.f1, (rd_T38 bt218.1 bt223.1).f0.f2, (rd_T38 bt218.1 bt223.1).f0.f3, (rd_T38 bt218.1 bt223.1).f0.f4⟩ : S36), (rd_T38 bt218.1 bt223.1).f1, bt244.1, (rd_T38 bt218.1 bt223.1).f3⟩ : S38)), bt244.2.1, bt244.2.2)) else (none)) else (none))) else (if bt226.1 = 3 then ((spec_l1Int.f s0_0 bt226.2.1 bt226.2.2 (([(-1), 999, 1000] : List Int))).bind fun bt251 => (if 0 ≤ bt223.1 then (if bt223.1 < (bt218.1.length : Int) then (some ((bt218.1.set (bt223.1 : Int).toNat (⟨(⟨(rd_T38 bt218.1 bt223.1).f0.f0, (rd_T38 bt218.1 bt223.1).f0.f1, (rd_T38 bt218.1 bt223.1).f0.f2, (rd_T38 bt218.1 bt223.1).f0.f3, (rd_T38 bt218.1 bt223.1).f0.f4⟩ : S36), (rd_T38 bt218.1 bt223.1).f1, (rd_T38 bt218.1 bt223.1).f2, bt251.1⟩ : S38)), bt251.2.1, bt251.2.2)) else (none)) else (none))) else (some (bt218.1, bt226.2.1, bt226.2.2)))))))))
theorem spec_l6Any.mono : ∀ a0 a1 a2 k, LeO (spec_l6Any.f k a0 a1 a2) (spec_l6Any.f (k + 1) a0 a1 a2) := by
 intro a0 a1 a2 k
 unfold spec_l6Any.f
 have jh0 := @spec_l6List.mono
 exact mo_
theorem y52_ {P : Prop} (h : P := by repeat (first | (with_reducible first | exact HK.out | apply KeepBut.set_ | apply keep_drewN | apply keep_drew | apply keep_alloc) | exact HK.out)) : P := h
theorem y56_ {P : Prop} (h : P := by repeat (first | (with_reducible first | exact HB.out | apply below_alloc | apply pw_below_drewN | apply below_drew1 | refine below_set ?_ (IsS69.ge HI0.out)) | exact HB.out)) : P := h
theorem y57_ {P : Prop} (h : P := by repeat (first | (with_reducible first | exact HI0.out | apply IsS69.alloc | apply IsS69.drewN | apply IsS69.drew | apply IsS69.set_1 | apply IsS69.set_2) | exact HI0.out)) : P := h
theorem y58_ {P : Prop} (h : P := by repeat (first | (with_reducible first | exact HI0.out | apply IsS69.alloc | apply IsS69.drewN | apply IsS69.drew | apply IsS69.set_1 | apply IsS69.set_2) | exact HI0.out)) : P := h
theorem y59_ {P : Prop} (h : P := by repeat (first | (with_reducible first | exact HK.out | apply KeepBut.set_ | apply keep_drewN | apply keep_drew | apply keep_alloc) | exact HK.out)) : P := h
set_option maxHeartbeats 8000000 in
set_option maxRecDepth 100000 in
theorem spec_l6Any.calls (k : Nat) (g : Nat) (s0_0 : List Int) (s0_1 : Int) (s0_2 : Int) (r1 : List (S38)) (r2 : Int) (r3 : Int) (w0 w : World) (hI : IsS69 w0 w g s0_0 s0_1 s0_2) (hB : Below w0.heap.size w0 w) (h : spec_l6Any.f k s0_0 s0_1 s0_2 = some (r1, r2, r3)) :
  Calls Tryd.prog 37 #[.pointer (some ⟨g, 0, none⟩)] w fun e w' => ∃ v0_ : Value, e = .returned (v0_) ∧ Kd.R k38 38 w' w.heap.size (fun _ => True) v0_ r1 ∧ IsS69 w0 w' g s0_0 r2 r3 ∧ Below w0.heap.size w0 w' ∧ KeepBut w w' g none := by
 have hu36 := Tryd.underlying36
 have HI0 := Aside0.mk hI
 have HK := Aside0.mk (KeepBut.refl w g none)
 have HL := Aside0.mk hB.size
 clear hI
 have HW0 := Aside0.mk hB.size
 have HB := Aside0.mk hB
 clear hB
 have H : ((spec_l6List.f k s0_0 s0_1 s0_2).bind fun bt218 => (if (bt218.1.length : Int) = 0 then (some (bt218.1, bt218.2.1, bt218.2.2)) else ((spec_l1Below.f s0_0 bt218.2.1 bt218.2.2 (bt218.1.length : Int)).bind fun bt223 => ((spec_l1Below.f s0_0 bt223.2.1 bt223.2.2 12).bind fun bt226 => (if bt226.1 = 0 then ((spec_l4Any.f s0_0 bt226.2.1 bt226.2.2).bind fun bt229 => (if 0 ≤ bt223.1 then (if bt223.1 < (bt218.1.length : Int) then (some ((bt218.1.set (bt223.1 : Int).toNat (⟨(⟨bt229.1, bt229.2.1, bt229.2.2.1, bt229.2.2.2.1, bt229.2.2.2.2.1⟩ : S36), (rd_T38 bt218.1 bt223.1).f1, (rd_T38 bt218.1 bt223.1).f2, (rd_T38 bt218.1 bt223.1).f3⟩ : S38)), bt229.2.2.2.2.2.1, bt229.2.2.2.2.2.2)) else (none)) else (none))) else (if bt226.1 = 1 then ((spec_l1Int.f s0_0 bt226.2.1 bt226.2.2 (([0, 30, 31] : List Int))).bind fun bt240 => (if 0 ≤ bt223.1 then (if bt223.1 < (bt218.1.length : Int) then (some ((bt218.1.set (bt223.1 : Int).toNat (⟨(⟨(rd_T38 bt218.1 bt223.1).f0.f0, (rd_T38 bt218.1 bt223.1).f0.f1, (rd_T38 bt218.1 bt223.1).f0.f2, (rd_T38 bt218.1 bt223.1).f0.f3, (rd_T38 bt218.1 bt223.1).f0.f4⟩ : S36), bt240.1, (rd_T38 bt218.1 bt223.1).f2, (rd_T38 bt218.1 bt223.1).f3⟩ : S38)), bt240.2.1, bt240.2.2)) else (none)) else (none))) else (if bt226.1 = 2 then ((spec_l4Raw.f s0_0 bt226.2.1 bt226.2.2).bind fun bt244 => (if 0 ≤ bt223.1 then (if bt223.1 < (bt218.1.length : Int) then (some ((bt218.1.set (bt223.1 : Int).toNat (⟨(⟨(rd_T38 bt218.1 bt223.1).f0.f0, (rd_T38 bt218.1 bt223.1).f0.f1, (rd_T38 bt218.1 bt223.1).f0.f2, (rd_T38 bt218.1 bt223.1).f0.f3, (rd_T38 bt218.1 bt223.1).f0.f4⟩ : S36), (rd_T38 bt218.1 bt223.1).f1, bt244.1, (rd_T38 bt218.1 bt223.1).f3⟩ : S38)), bt244.2.1, bt244.2.2)) else (none)) else (none))) else (if bt226.1 = 3 then ((spec_l1Int.f s0_0 bt226.2.1 bt226.2.2 (([(-1), 999, 1000] : List Int))).bind fun bt251 => (if 0 ≤ bt223.1 then (if bt223.1 < (bt218.1.length : Int) then (some ((bt218.1.set (bt223.1 : Int).toNat (⟨(⟨(rd_T38 bt218.1 bt223.1).f0.f0, (rd_T38 bt218.1 bt223.1).f0.f1, (rd_T38 bt218.1 bt223.1).f0.f2, (rd_T38 bt218.1 bt223.1).f0.f3, (rd_T38 bt218.1 bt223.1).f0.f4⟩ : S36), (rd_T38 bt218.1 bt223.1).f1, (rd_T38 bt218.1 bt223.1).f2, bt251.1⟩ : S38)), bt251.2.1, bt251.2.2)) else (none)) else (none))) else (some (bt218.1, bt226.2.1, bt226.2.2)))))))))) = some (r1, r2, r3) := h
 clear h
 replace H := Option.bind_eq_some_iff.mp H
 obtain ⟨⟨t218, t221, t222⟩, A20, H⟩ := H
 replace H : (if (t218.length : Int) = 0 then (some (t218, t221, t222)) else ((spec_l1Below.f s0_0 t221 t222 (t218.length : Int)).bind fun bt223 => ((spec_l1Below.f s0_0 bt223.2.1 bt223.2.2 12).bind fun bt226 => (if bt226.1 = 0 then ((spec_l4Any.f s0_0 bt226.2.1 bt226.2.2).bind fun bt229 => (if 0 ≤ bt223.1 then (if bt223.1 < (t218.length : Int) then (some ((t218.set (bt223.1 : Int).toNat (⟨(⟨bt229.1, bt229.2.1, bt229.2.2.1, bt229.2.2.2.1, bt229.2.2.2.2.1⟩ : S36), (rd_T38 t218 bt223.1).f1, (rd_T38 t218 bt223.1).f2, (rd_T38 t218 bt223.1).f3⟩ : S38)), bt229.2.2.2.2.2.1, bt229.2.2.2.2.2.2)) else (none)) else (none))) else (if bt226.1 = 1 then ((spec_l1Int.f s0_0 bt226.2.1 bt226.2.2 (([0, 30, 31] : List Int))).bind fun bt240 => (if 0 ≤ bt223.1 then (if bt223.1 < (t218.length : Int) then (some ((t218.set (bt223.1 : Int).toNat (⟨(⟨(rd_T38 t218 bt223.1).f0.f0, (rd_T38 t218 bt223.1).f0.f1, (rd_T38 t218 bt223.1).f0.f2, (rd_T38 t218 bt223.1).f0.f3, (rd_T38 t218 bt223.1).f0.f4⟩ : S36), bt240.1, (rd_T38 t218 bt223.1).f2, (rd_T38 t218 bt223.1).f3⟩ : S38)), bt240.2.1, bt240.2.2)) else (none)) else (none))) else (if bt226.1 = 2 then ((spec_l4Raw.f s0_0 bt226.2.1 bt226.2.2).bind fun bt244 => (if 0 ≤ bt223.1 then (if bt223.1 < (t218.length : Int) then (some ((t218.set (bt223.1 : Int).toNat (⟨(⟨(rd_T38 t218 bt223.1).f0.f0, (rd_T38 t218 bt223.1).f0.f1, (rd_T38 t218 bt223.1).f0.f2, (rd_T38 t218 bt223.1).f0.f3, (rd_T38 t218 bt223.1).f0.f4⟩ : S36), (rd_T38 t218 bt223.1).f1, bt244.1, (rd_T38 t218 bt223.1).f3⟩ : S38)), bt244.2.1, bt244.2.2)) else (none)) else (none))) else (if bt226.1 = 3 then ((spec_l1Int.f s0_0 bt226.2.1 bt226.2.2 (([(-1), 999, 1000] : List Int))).bind fun bt251 => (if 0 ≤ bt223.1 then (if bt223.1 < (t218.length : Int) then (some ((t218.set (bt223.1 : Int).toNat (⟨(⟨(rd_T38 t218 bt223.1).f0.f0, (rd_T38 t218 bt223.1).f0.f1, (rd_T38 t218 bt223.1).f0.f2, (rd_T38 t218 bt223.1).f0.f3, (rd_T38 t218 bt223.1).f0.f4⟩ : S36), (rd_T38 t218 bt223.1).f1, (rd_T38 t218 bt223.1).f2, bt251.1⟩ : S38)), bt251.2.1, bt251.2.2)) else (none)) else (none))) else (some (t218, bt226.2.1, bt226.2.2))))))))) = some (r1, r2, r3) := H
 have A2 := Aside0.mk A20
 clear A20
 by_cases c3 : (t218.length : Int) = 0
 ·
  rw [if_pos c3] at H
  have c3b0 : ((t218.length : Int) == 0) = true := beq_iff_eq.mpr c3
  have c3b1 : ((t218.length : Int) != 0) = false := bne_eq_false_iff_eq.mpr c3
  clear c3
  simp only [Option.some.injEq, Prod.mk.injEq] at H
  obtain ⟨rfl, rfl, rfl⟩ := H
  go_enter Tryd.func37, Tryd.ntmps37
  go_wp2_with (first | ((with_reducible refine gate_callee (f := 54) rfl ?_); refine goesL_ (some 6) rfl rfl Tryd.func54 (by kernel_rfl) rfl #[.pointer (some ⟨g, 0, none⟩)] rfl ma_ ?_; (with_reducible refine (spec_l6List.calls k g s0_0 s0_1 s0_2 t218 t221 t222 w0 _ ?side1 ?side2 A2.out).mono ?_); (case side1 => repeat (first | (with_reducible first | exact HI0.out | apply IsS69.alloc | apply IsS69.drewN | apply IsS69.drew | apply IsS69.set_1 | apply IsS69.set_2) | exact HI0.out)); (case side2 => repeat (first | (with_reducible first | exact HB.out | apply below_alloc | apply pw_below_drewN | apply below_drew1 | refine below_set ?_ (IsS69.ge HI0.out)) | exact HB.out)); rintro e w4 ⟨v219, rfl, ho0, hi, hb, hk⟩; refine ⟨_, rfl, ?_⟩; have HO220 := Aside0.mk (Kd.R_lower ho0 (keep_size (w := w) (g := g) (row := none) y52_)); have n1_ := Aside0.mk (KeepBut.trans y52_ hk (.inl rfl)); have n2_ := Aside0.mk (hb); have n3_ := Aside0.mk (hi); clear HK; clear HB; clear HI0; have HK := n1_; have HB := n2_; have HI0 := n3_; clear n1_ n2_ n3_; (try clear hb); (try clear hk); (try clear hi); (try clear ho0); obtain ⟨Ao5, co5, eo5⟩ := Kd.R_slice HO220.out; subst eo5))
  go_ret
  exact ⟨_, by first | rfl | (simp [errW_none, errW_some] <;> rfl) | (simp [*, errW_none, errW_some] <;> rfl), rd_ HO220.out, y58_, y56_, y59_⟩
 ·
  rw [if_neg c3] at H
  have c3b0 : ((t218.length : Int) == 0) = false := beq_eq_false_iff_ne.mpr c3
  have c3b1 : ((t218.length : Int) != 0) = true := bne_iff_ne.mpr c3
  have c3b2 : ¬ (t218 = []) := fun h_ => c3 (by rw [h_]; rfl)
  replace H := Option.bind_eq_some_iff.mp H
  obtain ⟨⟨t223, t224, t225⟩, A60, H⟩ := H
  replace H : ((spec_l1Below.f s0_0 t224 t225 12).bind fun bt226 => (if bt226.1 = 0 then ((spec_l4Any.f s0_0 bt226.2.1 bt226.2.2).bind fun bt229 => (if 0 ≤ t223 then (if t223 < (t218.length : Int) then (some ((t218.set (t223 : Int).toNat (⟨(⟨bt229.1, bt229.2.1, bt229.2.2.1, bt229.2.2.2.1, bt229.2.2.2.2.1⟩ : S36), (rd_T38 t218 t223).f1, (rd_T38 t218 t223).f2, (rd_T38 t218 t223).f3⟩ : S38)), bt229.2.2.2.2.2.1, bt229.2.2.2.2.2.2)) else (none)) else (none))) else (if bt226.1 = 1 then ((spec_l1Int.f s0_0 bt226.2.1 bt226.2.2 (([0, 30, 31] : List Int))).bind fun bt240 => (if 0 ≤ t223 then (if t223 < (t218.length : Int) then (some ((t218.set (t223 : Int).toNat (⟨(⟨(rd_T38 t218 t223).f0.f0, (rd_T38 t218 t223).f0.f1, (rd_T38 t218 t223).f0.f2, (rd_T38 t218 t223).f0.f3, (rd_T38 t218 t223).f0.f4⟩ : S36), bt240.1, (rd_T38 t218 t223).f2, (rd_T38 t218 t223).f3⟩ : S38)), bt240.2.1, bt240.2.2)) else (none)) else (none))) else (if bt226.1 = 2 then ((spec_l4Raw.f s0_0 bt226.2.1 bt226.2.2).bind fun bt244 => (if 0 ≤ t223 then (if t223 < (t218.length : Int) then (some ((t218.set (t223 : Int).toNat (⟨(⟨(rd_T38 t218 t223).f0.f0, (rd_T38 t218 t223).f0.f1, (rd_T38 t218 t223).f0.f2, (rd_T38 t218 t223).f0.f3, (rd_T38 t218 t223).f0.f4⟩ : S36), (rd_T38 t218 t223).f1, bt244.1, (rd_T38 t218 t223).f3⟩ : S38)), bt244.2.1, bt244.2.2)) else (none)) else (none))) else (if bt226.1 = 3 then ((spec_l1Int.f s0_0 bt226.2.1 bt226.2.2 (([(-1), 999, 1000] : List Int))).bind fun bt251 => (if 0 ≤ t223 then (if t223 < (t218.length : Int) then (some ((t218.set (t223 : Int).toNat (⟨(⟨(rd_T38 t218 t223).f0.f0, (rd_T38 t218 t223).f0.f1, (rd_T38 t218 t223).f0.f2, (rd_T38 t218 t223).f0.f3, (rd_T38 t218 t223).f0.f4⟩ : S36), (rd_T38 t218 t223).f1, (rd_T38 t218 t223).f2, bt251.1⟩ : S38)), bt251.2.1, bt251.2.2)) else (none)) else (none))) else (some (t218, bt226.2.1, bt226.2.2))))))) = some (r1, r2, r3) := H
  have A6 := Aside0.mk A60
  clear A60
  replace H := Option.bind_eq_some_iff.mp H
  obtain ⟨⟨t226, t227, t228⟩, A70, H⟩ := H
  replace H : (if t226 = 0 then ((spec_l4Any.f s0_0 t227 t228).bind fun bt229 => (if 0 ≤ t223 then (if t223 < (t218.length : Int) then (some ((t218.set (t223 : Int).toNat (⟨(⟨bt229.1, bt229.2.1, bt229.2.2.1, bt229.2.2.2.1, bt229.2.2.2.2.1⟩ : S36), (rd_T38 t218 t223).f1, (rd_T38 t218 t223).f2, (rd_T38 t218 t223).f3⟩ : S38)), bt229.2.2.2.2.2.1, bt229.2.2.2.2.2.2)) else (none)) else (none))) else (if t226 = 1 then ((spec_l1Int.f s0_0 t227 t228 (([0, 30, 31] : List Int))).bind fun bt240 => (if 0 ≤ t223 then (if t223 < (t218.length : Int) then (some ((t218.set (t223 : Int).toNat (⟨(⟨(rd_T38 t218 t223).f0.f0, (rd_T38 t218 t223).f0.f1, (rd_T38 t218 t223).f0.f2, (rd_T38 t218 t223).f0.f3, (rd_T38 t218 t223).f0.f4⟩ : S36), bt240.1, (rd_T38 t218 t223).f2, (rd_T38 t218 t223).f3⟩ : S38)), bt240.2.1, bt240.2.2)) else (none)) else (none))) else (if t226 = 2 then ((spec_l4Raw.f s0_0 t227 t228).bind fun bt244 => (if 0 ≤ t223 then (if t223 < (t218.length : Int) then (some ((t218.set (t223 : Int).toNat (⟨(⟨(rd_T38 t218 t223).f0.f0, (rd_T38 t218 t223).f0.f1, (rd_T38 t218 t223).f0.f2, (rd_T38 t218 t223).f0.f3, (rd_T38 t218 t223).f0.f4⟩ : S36), (rd_T38 t218 t223).f1, bt244.1, (rd_T38 t218 t223).f3⟩ : S38)), bt244.2.1, bt244.2.2)) else (none)) else (none))) else (if t226 = 3 then ((spec_l1Int.f s0_0 t227 t228 (([(-1), 999, 1000] : List Int))).bind fun bt251 => (if 0 ≤ t223 then (if t223 < (t218.length : Int) then (some ((t218.set (t223 : Int).toNat (⟨(⟨(rd_T38 t218 t223).f0.f0, (rd_T38 t218 t223).f0.f1, (rd_T38 t218 t223).f0.f2, (rd_T38 t218 t223).f0.f3, (rd_T38 t218 t223).f0.f4⟩ : S36), (rd_T38 t218 t223).f1, (rd_T38 t218 t223).f2, bt251.1⟩ : S38)), bt251.2.1, bt251.2.2)) else (none)) else (none))) else (some (t218, t227, t228)))))) = some (r1, r2, r3) := H
  have A7 := Aside0.mk A70
  clear A70
  by_cases c8 : t226 = 0
  ·
   rw [if_pos c8] at H
   have c8b0 : (t226 == 0) = true := beq_iff_eq.mpr c8
   have c8b1 : (t226 != 0) = false := bne_eq_false_iff_eq.mpr c8
   clear c8
   replace H := Option.bind_eq_some_iff.mp H
   obtain ⟨⟨t229, t230, t231, t232, t233, t234, t235⟩, A90, H⟩ := H
   replace H : (if 0 ≤ t223 then (if t223 < (t218.length : Int) then (some ((t218.set (t223 : Int).toNat (⟨(⟨t229, t230, t231, t232, t233⟩ : S36), (rd_T38 t218 t223).f1, (rd_T38 t218 t223).f2, (rd_T38 t218 t223).f3⟩ : S38)), t234, t235)) else (none)) else (none)) = some (r1, r2, r3) := H
   have A9 := Aside0.mk A90
   clear A90
   by_cases c10 : 0 ≤ t223
   ·
    rw [if_pos c10] at H
    have c10b0 : decide (0 ≤ t223) = true := decide_eq_true c10
    clear c10
    by_cases c11 : t223 < (t218.length : Int)
    ·
     rw [if_pos c11] at H
     have c11b0 : decide (t223 < (t218.length : Int)) = true := decide_eq_true c11
     clear c11
     obtain ⟨y236, hy236⟩ : ∃ y_ : List (S38), y_ = (t218.set (t223 : Int).toNat (⟨(⟨t229, t230, t231, t232, t233⟩ : S36), (rd_T38 t218 t223).f1, (rd_T38 t218 t223).f2, (rd_T38 t218 t223).f3⟩ : S38)) := ⟨_, rfl⟩
     replace H : (some (y236, t234, t235)) = some (r1, r2, r3) := by first | (rw [hy236]; with_reducible exact H) | (have H2_ := (Option.bind_some _ _).symm.trans H; rw [hy236]; with_reducible exact H2_) | (have H2_ := (Option.bind_some _ _).symm.trans H; with_reducible exact H2_) | with_reducible exact H | (rw [hy236]; exact H) | exact H
     have Ny236 := Aside0.mk hy236
     clear hy236
     simp only [Option.some.injEq, Prod.mk.injEq] at H
     obtain ⟨rfl, rfl, rfl⟩ := H
     go_enter Tryd.func37, Tryd.ntmps37
     go_wp2_with (first | ((with_reducible refine gate_callee (f := 54) rfl ?_); refine goesL_ (some 6) rfl rfl Tryd.func54 (by kernel_rfl) rfl #[.pointer (some ⟨g, 0, none⟩)] rfl ma_ ?_; (with_reducible refine (spec_l6List.calls k g s0_0 s0_1 s0_2 t218 t221 t222 w0 _ ?side1 ?side2 A2.out).mono ?_); (case side1 => repeat (first | (with_reducible first | exact HI0.out | apply IsS69.alloc | apply IsS69.drewN | apply IsS69.drew | apply IsS69.set_1 | apply IsS69.set_2) | exact HI0.out)); (case side2 => repeat (first | (with_reducible first | exact HB.out | apply below_alloc | apply pw_below_drewN | apply below_drew1 | refine below_set ?_ (IsS69.ge HI0.out)) | exact HB.out)); rintro e w13 ⟨v219, rfl, ho0, hi, hb, hk⟩; refine ⟨_, rfl, ?_⟩; have HO220 := Aside0.mk (Kd.R_lower ho0 (keep_size (w := w) (g := g) (row := none) y52_)); have n1_ := Aside0.mk (KeepBut.trans y52_ hk (.inl rfl)); have n2_ := Aside0.mk (hb); have n3_ := Aside0.mk (hi); clear HK; clear HB; clear HI0; have HK := n1_; have HB := n2_; have HI0 := n3_; clear n1_ n2_ n3_; (try clear hb); (try clear hk); (try clear hi); (try clear ho0); obtain ⟨Ao14, co14, eo14⟩ := Kd.R_slice HO220.out; subst eo14) | ((with_reducible refine gate_callee (f := 41) rfl ?_); refine goesL_ (some 14) rfl rfl Tryd.func41 (by kernel_rfl) rfl #[.pointer (some ⟨g, 0, none⟩), .int .i64 (t218.length : Int)] rfl ma_ ?_; (with_reducible refine (spec_l1Below.calls g s0_0 t221 t222 (t218.length : Int) t223 t224 t225 w0 _ ?side1 ?side2 A6.out).mono ?_); (case side1 => repeat (first | (with_reducible first | exact HI0.out | apply IsS69.alloc | apply IsS69.drewN | apply IsS69.drew | apply IsS69.set_1 | apply IsS69.set_2) | exact HI0.out)); (case side2 => repeat (first | (with_reducible first | exact HB.out | apply below_alloc | apply pw_below_drewN | apply below_drew1 | refine below_set ?_ (IsS69.ge HI0.out)) | exact HB.out)); rintro e w15 ⟨rfl, hi, hb, hk⟩; refine ⟨_, rfl, ?_⟩; have n0_ := Aside0.mk (Kd.R_mono (Kd.R_keep (IsS69.apart (show IsS69 w0 _ g s0_0 t221 t222 from y58_) (rd_ HO220.out) (by decide)) hk (fun _ h => h.2)) (fun _ h => h.1)); have n1_ := Aside0.mk (KeepBut.trans y52_ hk (.inl rfl)); have n2_ := Aside0.mk (hb); have n3_ := Aside0.mk (hi); clear HO220; clear HK; clear HB; clear HI0; have HO220 := n0_; have HK := n1_; have HB := n2_; have HI0 := n3_; clear n0_ n1_ n2_ n3_; (try clear hb); (try clear hk); (try clear hi)) | ((with_reducible refine gate_callee (f := 41) rfl ?_); refine goesL_ (some 16) rfl rfl Tryd.func41 (by kernel_rfl) rfl #[.pointer (some ⟨g, 0, none⟩), .int .i64 12] rfl ma_ ?_; (with_reducible refine (spec_l1Below.calls g s0_0 t224 t225 12 t226 t227 t228 w0 _ ?side1 ?side2 A7.out).mono ?_); (case side1 => repeat (first | (with_reducible first | exact HI0.out | apply IsS69.alloc | apply IsS69.drewN | apply IsS69.drew | apply IsS69.set_1 | apply IsS69.set_2) | exact HI0.out)); (case side2 => repeat (first | (with_reducible first | exact HB.out | apply below_alloc | apply pw_below_drewN | apply below_drew1 | refine below_set ?_ (IsS69.ge HI0.out)) | exact HB.out)); rintro e w16 ⟨rfl, hi, hb, hk⟩; refine ⟨_, rfl, ?_⟩; have n0_ := Aside0.mk (Kd.R_mono (Kd.R_keep (IsS69.apart (show IsS69 w0 _ g s0_0 t224 t225 from y58_) (rd_ HO220.out) (by decide)) hk (fun _ h => h.2)) (fun _ h => h.1)); have n1_ := Aside0.mk (KeepBut.trans y52_ hk (.inl rfl)); have n2_ := Aside0.mk (hb); have n3_ := Aside0.mk (hi); clear HO220; clear HK; clear HB; clear HI0; have HO220 := n0_; have HK := n1_; have HB := n2_; have HI0 := n3_; clear n0_ n1_ n2_ n3_; (try clear hb); (try clear hk); (try clear hi)) | ((with_reducible refine gate_callee (f := 55) rfl ?_); refine goesL_ (some 22) rfl rfl Tryd.func55 (by kernel_rfl) rfl #[.pointer (some ⟨g, 0, none⟩)] rfl ma_ ?_; (with_reducible refine (spec_l4Any.calls g s0_0 t227 t228 t229 t230 t231 t232 t233 t234 t235 w0 _ ?side1 ?side2 A9.out).mono ?_); (case side1 => repeat (first | (with_reducible first | exact HI0.out | apply IsS69.alloc | apply IsS69.drewN | apply IsS69.drew | apply IsS69.set_1 | apply IsS69.set_2) | exact HI0.out)); (case side2 => repeat (first | (with_reducible first | exact HB.out | apply below_alloc | apply pw_below_drewN | apply below_drew1 | refine below_set ?_ (IsS69.ge HI0.out)) | exact HB.out)); rintro e w17 ⟨rfl, hi, hb, hk⟩; refine ⟨_, rfl, ?_⟩; have n0_ := Aside0.mk (Kd.R_mono (Kd.R_keep (IsS69.apart (show IsS69 w0 _ g s0_0 t227 t228 from y58_) (rd_ HO220.out) (by decide)) hk (fun _ h => h.2)) (fun _ h => h.1)); have n1_ := Aside0.mk (KeepBut.trans y52_ hk (.inl rfl)); have n2_ := Aside0.mk (hb); have n3_ := Aside0.mk (hi); clear HO220; clear HK; clear HB; clear HI0; have HO220 := n0_; have HK := n1_; have HB := n2_; have HI0 := n3_; clear n0_ n1_ n2_ n3_; (try clear hb); (try clear hk); (try clear hi); have p12 : 0 ≤ (t223 : Int) := of_decide_eq_true as_; have q12 : (t223 : Int) < ((t218.length : Int) : Int) := of_decide_eq_true as_; obtain ⟨go12, co12, eo12, gb12, gl12, cl12, HG12⟩ := Kd.R_form HO220.out (by omega); (first | cases eo12 | (injection eo12 with ea_ en_ ec_; (first | subst ea_ | (injection ea_ with ea_; subst ea_)); subst ec_; clear en_)); have GB12 := Aside0.mk gb12; have GG12 := Aside0.mk HG12; clear gb12 gl12 HG12; obtain ⟨ce12, hcl12, hM12, hcc12, hfr12⟩ := Kd.R_elem HO220.out z38 (t223 : Int) p12 q12; obtain rfl := k38_openM hM12; have hx12_0 : w17.cell? ⟨go12, (t223 : Int).toNat * 8, none⟩ = some (.int .i64 ((rd_T38 t218 t223).f0.f0)) := hcc12 0 _ rfl; have hx12_1 : w17.cell? ⟨go12, (t223 : Int).toNat * 8 + 1, none⟩ = some (.int .i64 ((rd_T38 t218 t223).f0.f1)) := hcc12 1 _ rfl; have hx12_2 : w17.cell? ⟨go12, (t223 : Int).toNat * 8 + 2, none⟩ = some (.int .i64 ((rd_T38 t218 t223).f0.f2)) := hcc12 2 _ rfl; have hx12_3 : w17.cell? ⟨go12, (t223 : Int).toNat * 8 + 3, none⟩ = some (.int .i64 ((rd_T38 t218 t223).f0.f3)) := hcc12 3 _ rfl; have hx12_4 : w17.cell? ⟨go12, (t223 : Int).toNat * 8 + 4, none⟩ = some (.int .i64 ((rd_T38 t218 t223).f0.f4)) := hcc12 4 _ rfl; have hx12_5 : w17.cell? ⟨go12, (t223 : Int).toNat * 8 + 5, none⟩ = some (.int .i64 ((rd_T38 t218 t223).f1)) := hcc12 5 _ rfl; have hx12_6 : w17.cell? ⟨go12, (t223 : Int).toNat * 8 + 6, none⟩ = some (.int .i64 ((rd_T38 t218 t223).f2)) := hcc12 6 _ rfl; have hx12_7 : w17.cell? ⟨go12, (t223 : Int).toNat * 8 + 7, none⟩ = some (.int .i64 ((rd_T38 t218 t223).f3)) := hcc12 7 _ rfl; have hf12_0 : w17.frozen? ⟨go12, (t223 : Int).toNat * 8, none⟩ = false := hfr12 0; have hf12_1 : w17.frozen? ⟨go12, (t223 : Int).toNat * 8 + 1, none⟩ = false := hfr12 1; have hf12_2 : w17.frozen? ⟨go12, (t223 : Int).toNat * 8 + 2, none⟩ = false := hfr12 2; have hf12_3 : w17.frozen? ⟨go12, (t223 : Int).toNat * 8 + 3, none⟩ = false := hfr12 3; have hf12_4 : w17.frozen? ⟨go12, (t223 : Int).toNat * 8 + 4, none⟩ = false := hfr12 4; have hf12_5 : w17.frozen? ⟨go12, (t223 : Int).toNat * 8 + 5, none⟩ = false := hfr12 5; have hf12_6 : w17.frozen? ⟨go12, (t223 : Int).toNat * 8 + 6, none⟩ = false := hfr12 6; have hf12_7 : w17.frozen? ⟨go12, (t223 : Int).toNat * 8 + 7, none⟩ = false := hfr12 7; clear hcl12 hcc12 hfr12 hM12; replace p12 := eq_true p12; replace q12 := eq_true q12; have HX18 := Aside0.mk (show Kd.R k38 38 w17 w.heap.size (fun _ => True) (.slice (some ⟨go12, 0, none⟩) t218.length co14) t218 from (rd_ HO220.out)); obtain ⟨ce18, hcl18, hM18, hcc18, hfr18⟩ := Kd.R_elem HX18.out z38 (t223 : Int) (of_decide_eq_true as_) (by have h_ : (t223 : Int) < ((t218.length : Int) : Int) := of_decide_eq_true as_; first | exact h_ | (have e_ := (Kd.R_reads' HO220.out).1; omega) | simpa using h_); obtain rfl := k38_openM hM18; have HP18 := Kd.R_seg HX18.out (t223 : Int) (of_decide_eq_true as_) (by have h_ : (t223 : Int) < ((t218.length : Int) : Int) := of_decide_eq_true as_; first | exact h_ | (have e_ := (Kd.R_reads' HO220.out).1; omega) | simpa using h_) (seg := [.int .i64 t229, .int .i64 t230, .int .i64 t231, .int .i64 t232, .int .i64 t233]) (j := 0) hcl18 hcc18 (show 5 ≤ 8 from by decide) (x' := (⟨(⟨t229, t230, t231, t232, t233⟩ : S36), (rd_T38 t218 t223).f1, (rd_T38 t218 t223).f2, (rd_T38 t218 t223).f3⟩ : S38)) (k38_mkM _ _ _ (⟨(⟨t229, t230, t231, t232, t233⟩ : S36), (rd_T38 t218 t223).f1, (rd_T38 t218 t223).f2, (rd_T38 t218 t223).f3⟩ : S38) ) (fun _ hk => hk); have hx18_0 := hcc18 0 _ rfl; (try simp only [show (k38).sz = 8 from rfl, Nat.mul_one, Nat.add_zero] at hx18_0); have hf18_0 := hfr18 0; (try simp only [show (k38).sz = 8 from rfl, Nat.mul_one, Nat.add_zero] at hf18_0); have hx18_1 := hcc18 1 _ rfl; (try simp only [show (k38).sz = 8 from rfl, Nat.mul_one, Nat.add_zero] at hx18_1); have hf18_1 := hfr18 1; (try simp only [show (k38).sz = 8 from rfl, Nat.mul_one, Nat.add_zero] at hf18_1); have hx18_2 := hcc18 2 _ rfl; (try simp only [show (k38).sz = 8 from rfl, Nat.mul_one, Nat.add_zero] at hx18_2); have hf18_2 := hfr18 2; (try simp only [show (k38).sz = 8 from rfl, Nat.mul_one, Nat.add_zero] at hf18_2); have hx18_3 := hcc18 3 _ rfl; (try simp only [show (k38).sz = 8 from rfl, Nat.mul_one, Nat.add_zero] at hx18_3); have hf18_3 := hfr18 3; (try simp only [show (k38).sz = 8 from rfl, Nat.mul_one, Nat.add_zero] at hf18_3); have hx18_4 := hcc18 4 _ rfl; (try simp only [show (k38).sz = 8 from rfl, Nat.mul_one, Nat.add_zero] at hx18_4); have hf18_4 := hfr18 4; (try simp only [show (k38).sz = 8 from rfl, Nat.mul_one, Nat.add_zero] at hf18_4); clear hcl18 hcc18 hfr18 hM18) | ((with_reducible refine gate_store (t := 36) (p := 24) rfl ?_); refine store_event (t := 36) (p := 24) (v := ?vo_w19) (w1 := (((((w17.setCell ⟨go12, (t223 : Int).toNat * 8, none⟩ (.int .i64 t229)).setCell ⟨go12, (t223 : Int).toNat * 8 + 1, none⟩ (.int .i64 t230)).setCell ⟨go12, (t223 : Int).toNat * 8 + 2, none⟩ (.int .i64 t231)).setCell ⟨go12, (t223 : Int).toNat * 8 + 3, none⟩ (.int .i64 t232)).setCell ⟨go12, (t223 : Int).toNat * 8 + 4, none⟩ (.int .i64 t233))) ?hg ?ho ?hn ?hr ?_; (case ho => rfl); (case hg => rfl); (case hn => rfl); (case hr => first | (go_simp; done) | (go_simp; rfl)); intro w19 hw; have hg : w17.grownBy w19 (some go12) := (by rw [hw]; exact HP18.2); have hp_ : Kd.R k38 38 w19 w.heap.size (fun _ => True) (.slice (some ⟨go12, 0, none⟩) t218.length co14) y236 := (by rw [hw, Ny236.out]; exact HP18.1); clear HP18; have n0_ := Aside0.mk (IsS69.grown y57_ hg (IsS69.own_ne HI0.out HO220.out (by decide))); have n1_ := Aside0.mk (hp_); have n2_ := Aside0.mk ((by rw [hw]; exact below_set (below_set (below_set (below_set (below_set (HB.out) (Nat.le_trans HL.out GB12.out)) (Nat.le_trans HL.out GB12.out)) (Nat.le_trans HL.out GB12.out)) (Nat.le_trans HL.out GB12.out)) (Nat.le_trans HL.out GB12.out) : Below w0.heap.size w0 w19)); have n3_ := Aside0.mk (KeepBut.trans y52_ (KeepBut.of_grown hg g) (Kd.R_base2 HO220.out)); clear HI0; clear HO220; clear HB; clear HK; have HI0 := n0_; have HO220 := n1_; have HB := n2_; have HK := n3_; clear n0_ n1_ n2_ n3_; clear hg hw hp_))
     go_ret
     exact ⟨_, by first | rfl | (simp [errW_none, errW_some] <;> rfl) | (simp [*, errW_none, errW_some] <;> rfl), rd_ HO220.out, y58_, y56_, y59_⟩
    ·
     rw [if_neg c11] at H
     exact absurd H (by simp)
   ·
    rw [if_neg c10] at H
    exact absurd H (by simp)
  ·
   rw [if_neg c8] at H
   have c8b0 : (t226 == 0) = false := beq_eq_false_iff_ne.mpr c8
   have c8b1 : (t226 != 0) = true := bne_iff_ne.mpr c8
   by_cases c20 : t226 = 1
   ·
    rw [if_pos c20] at H
    have c20b0 : (t226 == 1) = true := beq_iff_eq.mpr c20
    have c20b1 : (t226 != 1) = false := bne_eq_false_iff_eq.mpr c20
    clear c20
    obtain ⟨y237, hy237⟩ : ∃ y_ : List Int, y_ = (([0, 30, 31] : List Int)) := ⟨_, rfl⟩
    replace H : ((spec_l1Int.f s0_0 t227 t228 y237).bind fun bt240 => (if 0 ≤ t223 then (if t223 < (t218.length : Int) then (some ((t218.set (t223 : Int).toNat (⟨(⟨(rd_T38 t218 t223).f0.f0, (rd_T38 t218 t223).f0.f1, (rd_T38 t218 t223).f0.f2, (rd_T38 t218 t223).f0.f3, (rd_T38 t218 t223).f0.f4⟩ : S36), bt240.1, (rd_T38 t218 t223).f2, (rd_T38 t218 t223).f3⟩ : S38)), bt240.2.1, bt240.2.2)) else (none)) else (none))) = some (r1, r2, r3) := by first | (rw [hy237]; with_reducible exact H) | (have H2_ := (Option.bind_some _ _).symm.trans H; rw [hy237]; with_reducible exact H2_) | (have H2_ := (Option.bind_some _ _).symm.trans H; with_reducible exact H2_) | with_reducible exact H | (rw [hy237]; exact H) | exact H
    have Ny237 := Aside0.mk hy237
    clear hy237
    replace H := Option.bind_eq_some_iff.mp H
    obtain ⟨⟨t240, t241, t242⟩, A210, H⟩ := H
    replace H : (if 0 ≤ t223 then (if t223 < (t218.length : Int) then (some ((t218.set (t223 : Int).toNat (⟨(⟨(rd_T38 t218 t223).f0.f0, (rd_T38 t218 t223).f0.f1, (rd_T38 t218 t223).f0.f2, (rd_T38 t218 t223).f0.f3, (rd_T38 t218 t223).f0.f4⟩ : S36), t240, (rd_T38 t218 t223).f2, (rd_T38 t218 t223).f3⟩ : S38)), t241, t242)) else (none)) else (none)) = some (r1, r2, r3) := H
    have A21 := Aside0.mk A210
    clear A210
    by_cases c22 : 0 ≤ t223
    ·
     rw [if_pos c22] at H
     have c22b0 : decide (0 ≤ t223) = true := decide_eq_true c22
     clear c22
     by_cases c23 : t223 < (t218.length : Int)
     ·
      rw [if_pos c23] at H
      have c23b0 : decide (t223 < (t218.length : Int)) = true := decide_eq_true c23
      clear c23
      obtain ⟨y243, hy243⟩ : ∃ y_ : List (S38), y_ = (t218.set (t223 : Int).toNat (⟨(⟨(rd_T38 t218 t223).f0.f0, (rd_T38 t218 t223).f0.f1, (rd_T38 t218 t223).f0.f2, (rd_T38 t218 t223).f0.f3, (rd_T38 t218 t223).f0.f4⟩ : S36), t240, (rd_T38 t218 t223).f2, (rd_T38 t218 t223).f3⟩ : S38)) := ⟨_, rfl⟩
      replace H : (some (y243, t241, t242)) = some (r1, r2, r3) := by first | (rw [hy243]; with_reducible exact H) | (have H2_ := (Option.bind_some _ _).symm.trans H; rw [hy243]; with_reducible exact H2_) | (have H2_ := (Option.bind_some _ _).symm.trans H; with_reducible exact H2_) | with_reducible exact H | (rw [hy243]; exact H) | exact H
      have Ny243 := Aside0.mk hy243
      clear hy243
      simp only [Option.some.injEq, Prod.mk.injEq] at H
      obtain ⟨rfl, rfl, rfl⟩ := H
      go_enter Tryd.func37, Tryd.ntmps37
      go_wp2_with (first | ((with_reducible refine gate_callee (f := 54) rfl ?_); refine goesL_ (some 6) rfl rfl Tryd.func54 (by kernel_rfl) rfl #[.pointer (some ⟨g, 0, none⟩)] rfl ma_ ?_; (with_reducible refine (spec_l6List.calls k g s0_0 s0_1 s0_2 t218 t221 t222 w0 _ ?side1 ?side2 A2.out).mono ?_); (case side1 => repeat (first | (with_reducible first | exact HI0.out | apply IsS69.alloc | apply IsS69.drewN | apply IsS69.drew | apply IsS69.set_1 | apply IsS69.set_2) | exact HI0.out)); (case side2 => repeat (first | (with_reducible first | exact HB.out | apply below_alloc | apply pw_below_drewN | apply below_drew1 | refine below_set ?_ (IsS69.ge HI0.out)) | exact HB.out)); rintro e w25 ⟨v219, rfl, ho0, hi, hb, hk⟩; refine ⟨_, rfl, ?_⟩; have HO220 := Aside0.mk (Kd.R_lower ho0 (keep_size (w := w) (g := g) (row := none) y52_)); have n1_ := Aside0.mk (KeepBut.trans y52_ hk (.inl rfl)); have n2_ := Aside0.mk (hb); have n3_ := Aside0.mk (hi); clear HK; clear HB; clear HI0; have HK := n1_; have HB := n2_; have HI0 := n3_; clear n1_ n2_ n3_; (try clear hb); (try clear hk); (try clear hi); (try clear ho0); obtain ⟨Ao26, co26, eo26⟩ := Kd.R_slice HO220.out; subst eo26) | ((with_reducible refine gate_callee (f := 41) rfl ?_); refine goesL_ (some 14) rfl rfl Tryd.func41 (by kernel_rfl) rfl #[.pointer (some ⟨g, 0, none⟩), .int .i64 (t218.length : Int)] rfl ma_ ?_; (with_reducible refine (spec_l1Below.calls g s0_0 t221 t222 (t218.length : Int) t223 t224 t225 w0 _ ?side1 ?side2 A6.out).mono ?_); (case side1 => repeat (first | (with_reducible first | exact HI0.out | apply IsS69.alloc | apply IsS69.drewN | apply IsS69.drew | apply IsS69.set_1 | apply IsS69.set_2) | exact HI0.out)); (case side2 => repeat (first | (with_reducible first | exact HB.out | apply below_alloc | apply pw_below_drewN | apply below_drew1 | refine below_set ?_ (IsS69.ge HI0.out)) | exact HB.out)); rintro e w27 ⟨rfl, hi, hb, hk⟩; refine ⟨_, rfl, ?_⟩; have n0_ := Aside0.mk (Kd.R_mono (Kd.R_keep (IsS69.apart (show IsS69 w0 _ g s0_0 t221 t222 from y58_) (rd_ HO220.out) (by decide)) hk (fun _ h => h.2)) (fun _ h => h.1)); have n1_ := Aside0.mk (KeepBut.trans y52_ hk (.inl rfl)); have n2_ := Aside0.mk (hb); have n3_ := Aside0.mk (hi); clear HO220; clear HK; clear HB; clear HI0; have HO220 := n0_; have HK := n1_; have HB := n2_; have HI0 := n3_; clear n0_ n1_ n2_ n3_; (try clear hb); (try clear hk); (try clear hi)) | ((with_reducible refine gate_callee (f := 41) rfl ?_); refine goesL_ (some 16) rfl rfl Tryd.func41 (by kernel_rfl) rfl #[.pointer (some ⟨g, 0, none⟩), .int .i64 12] rfl ma_ ?_; (with_reducible refine (spec_l1Below.calls g s0_0 t224 t225 12 t226 t227 t228 w0 _ ?side1 ?side2 A7.out).mono ?_); (case side1 => repeat (first | (with_reducible first | exact HI0.out | apply IsS69.alloc | apply IsS69.drewN | apply IsS69.drew | apply IsS69.set_1 | apply IsS69.set_2) | exact HI0.out)); (case side2 => repeat (first | (with_reducible first | exact HB.out | apply below_alloc | apply pw_below_drewN | apply below_drew1 | refine below_set ?_ (IsS69.ge HI0.out)) | exact HB.out)); rintro e w28 ⟨rfl, hi, hb, hk⟩; refine ⟨_, rfl, ?_⟩; have n0_ := Aside0.mk (Kd.R_mono (Kd.R_keep (IsS69.apart (show IsS69 w0 _ g s0_0 t224 t225 from y58_) (rd_ HO220.out) (by decide)) hk (fun _ h => h.2)) (fun _ h => h.1)); have n1_ := Aside0.mk (KeepBut.trans y52_ hk (.inl rfl)); have n2_ := Aside0.mk (hb); have n3_ := Aside0.mk (hi); clear HO220; clear HK; clear HB; clear HI0; have HO220 := n0_; have HK := n1_; have HB := n2_; have HI0 := n3_; clear n0_ n1_ n2_ n3_; (try clear hb); (try clear hk); (try clear hi)) | ((with_reducible refine gate_dst (N := 30) rfl ?_); refine Kd.R_lit (Kd.int .i64) _ 3 ?hg (N := 30) ?hd (xs := ([0, 30, 31] : List Int)) (inner := [.int .i64 0, .int .i64 30, .int .i64 31]) (ok := fun _ => True) (okp := fun _ => True) ?hr ?hp (fun _ hk => hk) trivial (Below.refl _ _) (Nat.le_refl _) (by simp) ?_; (case hd => rfl); (case hg => rfl); (case hr => first | (go_simp; done) | (go_simp; rfl)); (case hp => exact (Reps.one (show Kd.M (Kd.int .i64) _ _ _ 0 [.int .i64 0] from rfl) (Reps.one (show Kd.M (Kd.int .i64) _ _ _ 30 [.int .i64 30] from rfl) (Reps.one (show Kd.M (Kd.int .i64) _ _ _ 31 [.int .i64 31] from rfl) (Reps.none _ _))))); intro v238 w29 ho30 hb hg_ hnew_; clear hg_ hnew_; (first | rw [← Ny237.out] at ho30 | (simp only [Int.reduceToNat] at ho30; rw [← Ny237.out] at ho30)); have n0_ := Aside0.mk (Kd.R_below (rd_ HO220.out) hb); have HO239 := Aside0.mk (Kd.R_lower ho30 (keep_size (w := w) (g := g) (row := none) y52_)); have n2_ := Aside0.mk (IsS69.below y57_ hb); have n3_ := Aside0.mk (KeepBut.trans y52_ (KeepBut.of_below hb g none) (.inl rfl)); have n4_ := Aside0.mk (below_step (y56_) hb); clear HO220; clear HI0; clear HK; clear HB; have HO220 := n0_; have HI0 := n2_; have HK := n3_; have HB := n4_; clear n0_ n2_ n3_ n4_; clear hb ho30; obtain ⟨Ao31, co31, eo31⟩ := Kd.R_slice HO239.out; subst eo31) | ((with_reducible refine gate_callee (f := 56) rfl ?_); refine goesL_ (some 31) rfl rfl Tryd.func56 (by kernel_rfl) rfl #[.pointer (some ⟨g, 0, none⟩), .slice Ao31 y237.length co31] rfl ma_ ?_; (with_reducible refine (spec_l1Int.calls g s0_0 t227 t228 _ _ y237 t240 t241 t242 w0 _ ?side1 ?side2 ?side3 ?side4 ?side5 A21.out).mono ?_); (case side1 => repeat (first | (with_reducible first | exact HI0.out | apply IsS69.alloc | apply IsS69.drewN | apply IsS69.drew | apply IsS69.set_1 | apply IsS69.set_2) | exact HI0.out)); (case side2 => repeat (first | (with_reducible first | exact HB.out | apply below_alloc | apply pw_below_drewN | apply below_drew1 | refine below_set ?_ (IsS69.ge HI0.out)) | exact HB.out)); (case side3 => exact cd_ (Kd.R_reads' HO239.out).2.2); (case side4 => exact (Kd.R_reads' HO239.out).2.1); (case side5 => exact far_slice (IsS69.own_ne HI0.out HO239.out (by decide))); rintro e w32 ⟨rfl, hi, hb, hk⟩; refine ⟨_, rfl, ?_⟩; have n0_ := Aside0.mk (Kd.R_mono (Kd.R_keep (IsS69.apart (show IsS69 w0 _ g s0_0 t227 t228 from y58_) (rd_ HO220.out) (by decide)) hk (fun _ h => h.2)) (fun _ h => h.1)); have n1_ := Aside0.mk (Kd.R_mono (Kd.R_keep (IsS69.apart (show IsS69 w0 _ g s0_0 t227 t228 from y58_) (rd_ HO239.out) (by decide)) hk (fun _ h => h.2)) (fun _ h => h.1)); have n2_ := Aside0.mk (KeepBut.trans y52_ hk (.inl rfl)); have n3_ := Aside0.mk (hb); have n4_ := Aside0.mk (hi); clear HO220; clear HO239; clear HK; clear HB; clear HI0; have HO220 := n0_; have HO239 := n1_; have HK := n2_; have HB := n3_; have HI0 := n4_; clear n0_ n1_ n2_ n3_ n4_; (try clear hb); (try clear hk); (try clear hi); have p24 : 0 ≤ (t223 : Int) := of_decide_eq_true as_; have q24 : (t223 : Int) < ((t218.length : Int) : Int) := of_decide_eq_true as_; obtain ⟨go24, co24, eo24, gb24, gl24, cl24, HG24⟩ := Kd.R_form HO220.out (by omega); (first | cases eo24 | (injection eo24 with ea_ en_ ec_; (first | subst ea_ | (injection ea_ with ea_; subst ea_)); subst ec_; clear en_)); have GB24 := Aside0.mk gb24; have GG24 := Aside0.mk HG24; clear gb24 gl24 HG24; obtain ⟨ce24, hcl24, hM24, hcc24, hfr24⟩ := Kd.R_elem HO220.out z38 (t223 : Int) p24 q24; obtain rfl := k38_openM hM24; have hx24_0 : w32.cell? ⟨go24, (t223 : Int).toNat * 8, none⟩ = some (.int .i64 ((rd_T38 t218 t223).f0.f0)) := hcc24 0 _ rfl; have hx24_1 : w32.cell? ⟨go24, (t223 : Int).toNat * 8 + 1, none⟩ = some (.int .i64 ((rd_T38 t218 t223).f0.f1)) := hcc24 1 _ rfl; have hx24_2 : w32.cell? ⟨go24, (t223 : Int).toNat * 8 + 2, none⟩ = some (.int .i64 ((rd_T38 t218 t223).f0.f2)) := hcc24 2 _ rfl; have hx24_3 : w32.cell? ⟨go24, (t223 : Int).toNat * 8 + 3, none⟩ = some (.int .i64 ((rd_T38 t218 t223).f0.f3)) := hcc24 3 _ rfl; have hx24_4 : w32.cell? ⟨go24, (t223 : Int).toNat * 8 + 4, none⟩ = some (.int .i64 ((rd_T38 t218 t223).f0.f4)) := hcc24 4 _ rfl; have hx24_5 : w32.cell? ⟨go24, (t223 : Int).toNat * 8 + 5, none⟩ = some (.int .i64 ((rd_T38 t218 t223).f1)) := hcc24 5 _ rfl; have hx24_6 : w32.cell? ⟨go24, (t223 : Int).toNat * 8 + 6, none⟩ = some (.int .i64 ((rd_T38 t218 t223).f2)) := hcc24 6 _ rfl; have hx24_7 : w32.cell? ⟨go24, (t223 : Int).toNat * 8 + 7, none⟩ = some (.int .i64 ((rd_T38 t218 t223).f3)) := hcc24 7 _ rfl; have hf24_0 : w32.frozen? ⟨go24, (t223 : Int).toNat * 8, none⟩ = false := hfr24 0; have hf24_1 : w32.frozen? ⟨go24, (t223 : Int).toNat * 8 + 1, none⟩ = false := hfr24 1; have hf24_2 : w32.frozen? ⟨go24, (t223 : Int).toNat * 8 + 2, none⟩ = false := hfr24 2; have hf24_3 : w32.frozen? ⟨go24, (t223 : Int).toNat * 8 + 3, none⟩ = false := hfr24 3; have hf24_4 : w32.frozen? ⟨go24, (t223 : Int).toNat * 8 + 4, none⟩ = false := hfr24 4; have hf24_5 : w32.frozen? ⟨go24, (t223 : Int).toNat * 8 + 5, none⟩ = false := hfr24 5; have hf24_6 : w32.frozen? ⟨go24, (t223 : Int).toNat * 8 + 6, none⟩ = false := hfr24 6; have hf24_7 : w32.frozen? ⟨go24, (t223 : Int).toNat * 8 + 7, none⟩ = false := hfr24 7; clear hcl24 hcc24 hfr24 hM24; replace p24 := eq_true p24; replace q24 := eq_true q24; have HX33 := Aside0.mk (show Kd.R k38 38 w32 w.heap.size (fun _ => True) (.slice (some ⟨go24, 0, none⟩) t218.length co26) t218 from (rd_ HO220.out)); obtain ⟨ce33, hcl33, hM33, hcc33, hfr33⟩ := Kd.R_elem HX33.out z38 (t223 : Int) (of_decide_eq_true as_) (by have h_ : (t223 : Int) < ((t218.length : Int) : Int) := of_decide_eq_true as_; first | exact h_ | (have e_ := (Kd.R_reads' HO220.out).1; omega) | simpa using h_); obtain rfl := k38_openM hM33; have HP33 := Kd.R_seg HX33.out (t223 : Int) (of_decide_eq_true as_) (by have h_ : (t223 : Int) < ((t218.length : Int) : Int) := of_decide_eq_true as_; first | exact h_ | (have e_ := (Kd.R_reads' HO220.out).1; omega) | simpa using h_) (seg := [.int .i64 t240]) (j := 5) hcl33 hcc33 (show 6 ≤ 8 from by decide) (x' := (⟨(⟨(rd_T38 t218 t223).f0.f0, (rd_T38 t218 t223).f0.f1, (rd_T38 t218 t223).f0.f2, (rd_T38 t218 t223).f0.f3, (rd_T38 t218 t223).f0.f4⟩ : S36), t240, (rd_T38 t218 t223).f2, (rd_T38 t218 t223).f3⟩ : S38)) (k38_mkM _ _ _ (⟨(⟨(rd_T38 t218 t223).f0.f0, (rd_T38 t218 t223).f0.f1, (rd_T38 t218 t223).f0.f2, (rd_T38 t218 t223).f0.f3, (rd_T38 t218 t223).f0.f4⟩ : S36), t240, (rd_T38 t218 t223).f2, (rd_T38 t218 t223).f3⟩ : S38) ) (fun _ hk => hk); have hx33_5 := hcc33 5 _ rfl; (try simp only [show (k38).sz = 8 from rfl, Nat.mul_one, Nat.add_zero] at hx33_5); have hf33_5 := hfr33 5; (try simp only [show (k38).sz = 8 from rfl, Nat.mul_one, Nat.add_zero] at hf33_5); clear hcl33 hcc33 hfr33 hM33) | ((with_reducible refine gate_store (t := 3) (p := 33) rfl ?_); refine store_event (t := 3) (p := 33) (v := ?vo_w34) (w1 := (w32.setCell ⟨go24, (t223 : Int).toNat * 8 + 5, none⟩ (.int .i64 t240))) ?hg ?ho ?hn ?hr ?_; (case ho => rfl); (case hg => rfl); (case hn => rfl); (case hr => first | (go_simp; done) | (go_simp; rfl)); intro w34 hw; have hg : w32.grownBy w34 (some go24) := (by rw [hw]; exact HP33.2); have hp_ : Kd.R k38 38 w34 w.heap.size (fun _ => True) (.slice (some ⟨go24, 0, none⟩) t218.length co26) y243 := (by rw [hw, Ny243.out]; exact HP33.1); clear HP33; have n0_ := Aside0.mk (IsS69.grown y57_ hg (IsS69.own_ne HI0.out HO220.out (by decide))); have n1_ := Aside0.mk (hp_); have n2_ := Aside0.mk (Kd.R_over' (v := (.slice (some ⟨go24, 0, none⟩) t218.length co26)) (rd_ HO239.out) (Kd.R_typed HO220.out) (by decide) hg); have n3_ := Aside0.mk ((by rw [hw]; exact below_set (HB.out) (Nat.le_trans HL.out GB24.out) : Below w0.heap.size w0 w34)); have n4_ := Aside0.mk (KeepBut.trans y52_ (KeepBut.of_grown hg g) (Kd.R_base2 HO220.out)); clear HI0; clear HO220; clear HO239; clear HB; clear HK; have HI0 := n0_; have HO220 := n1_; have HO239 := n2_; have HB := n3_; have HK := n4_; clear n0_ n1_ n2_ n3_ n4_; clear hg hw hp_))
      go_ret
      exact ⟨_, by first | rfl | (simp [errW_none, errW_some] <;> rfl) | (simp [*, errW_none, errW_some] <;> rfl), rd_ HO220.out, y58_, y56_, y59_⟩
     ·
      rw [if_neg c23] at H
      exact absurd H (by simp)
    ·
     rw [if_neg c22] at H
     exact absurd H (by simp)
   ·
    rw [if_neg c20] at H
    have c20b0 : (t226 == 1) = false := beq_eq_false_iff_ne.mpr c20
    have c20b1 : (t226 != 1) = true := bne_iff_ne.mpr c20
    by_cases c35 : t226 = 2
    ·
     rw [if_pos c35] at H
     have c35b0 : (t226 == 2) = true := beq_iff_eq.mpr c35
     have c35b1 : (t226 != 2) = false := bne_eq_false_iff_eq.mpr c35
     clear c35
     replace H := Option.bind_eq_some_iff.mp H
     obtain ⟨⟨t244, t245, t246⟩, A360, H⟩ := H
     replace H : (if 0 ≤ t223 then (if t223 < (t218.length : Int) then (some ((t218.set (t223 : Int).toNat (⟨(⟨(rd_T38 t218 t223).f0.f0, (rd_T38 t218 t223).f0.f1, (rd_T38 t218 t223).f0.f2, (rd_T38 t218 t223).f0.f3, (rd_T38 t218 t223).f0.f4⟩ : S36), (rd_T38 t218 t223).f1, t244, (rd_T38 t218 t223).f3⟩ : S38)), t245, t246)) else (none)) else (none)) = some (r1, r2, r3) := H
     have A36 := Aside0.mk A360
     clear A360
     by_cases c37 : 0 ≤ t223
     ·
      rw [if_pos c37] at H
      have c37b0 : decide (0 ≤ t223) = true := decide_eq_true c37
      clear c37
      by_cases c38 : t223 < (t218.length : Int)
      ·
       rw [if_pos c38] at H
       have c38b0 : decide (t223 < (t218.length : Int)) = true := decide_eq_true c38
       clear c38
       obtain ⟨y247, hy247⟩ : ∃ y_ : List (S38), y_ = (t218.set (t223 : Int).toNat (⟨(⟨(rd_T38 t218 t223).f0.f0, (rd_T38 t218 t223).f0.f1, (rd_T38 t218 t223).f0.f2, (rd_T38 t218 t223).f0.f3, (rd_T38 t218 t223).f0.f4⟩ : S36), (rd_T38 t218 t223).f1, t244, (rd_T38 t218 t223).f3⟩ : S38)) := ⟨_, rfl⟩
       replace H : (some (y247, t245, t246)) = some (r1, r2, r3) := by first | (rw [hy247]; with_reducible exact H) | (have H2_ := (Option.bind_some _ _).symm.trans H; rw [hy247]; with_reducible exact H2_) | (have H2_ := (Option.bind_some _ _).symm.trans H; with_reducible exact H2_) | with_reducible exact H | (rw [hy247]; exact H) | exact H
       have Ny247 := Aside0.mk hy247
       clear hy247
       simp only [Option.some.injEq, Prod.mk.injEq] at H
       obtain ⟨rfl, rfl, rfl⟩ := H
       go_enter Tryd.func37, Tryd.ntmps37
       go_wp2_with (first | ((with_reducible refine gate_callee (f := 54) rfl ?_); refine goesL_ (some 6) rfl rfl Tryd.func54 (by kernel_rfl) rfl #[.pointer (some ⟨g, 0, none⟩)] rfl ma_ ?_; (with_reducible refine (spec_l6List.calls k g s0_0 s0_1 s0_2 t218 t221 t222 w0 _ ?side1 ?side2 A2.out).mono ?_); (case side1 => repeat (first | (with_reducible first | exact HI0.out | apply IsS69.alloc | apply IsS69.drewN | apply IsS69.drew | apply IsS69.set_1 | apply IsS69.set_2) | exact HI0.out)); (case side2 => repeat (first | (with_reducible first | exact HB.out | apply below_alloc | apply pw_below_drewN | apply below_drew1 | refine below_set ?_ (IsS69.ge HI0.out)) | exact HB.out)); rintro e w40 ⟨v219, rfl, ho0, hi, hb, hk⟩; refine ⟨_, rfl, ?_⟩; have HO220 := Aside0.mk (Kd.R_lower ho0 (keep_size (w := w) (g := g) (row := none) y52_)); have n1_ := Aside0.mk (KeepBut.trans y52_ hk (.inl rfl)); have n2_ := Aside0.mk (hb); have n3_ := Aside0.mk (hi); clear HK; clear HB; clear HI0; have HK := n1_; have HB := n2_; have HI0 := n3_; clear n1_ n2_ n3_; (try clear hb); (try clear hk); (try clear hi); (try clear ho0); obtain ⟨Ao41, co41, eo41⟩ := Kd.R_slice HO220.out; subst eo41) | ((with_reducible refine gate_callee (f := 41) rfl ?_); refine goesL_ (some 14) rfl rfl Tryd.func41 (by kernel_rfl) rfl #[.pointer (some ⟨g, 0, none⟩), .int .i64 (t218.length : Int)] rfl ma_ ?_; (with_reducible refine (spec_l1Below.calls g s0_0 t221 t222 (t218.length : Int) t223 t224 t225 w0 _ ?side1 ?side2 A6.out).mono ?_); (case side1 => repeat (first | (with_reducible first | exact HI0.out | apply IsS69.alloc | apply IsS69.drewN | apply IsS69.drew | apply IsS69.set_1 | apply IsS69.set_2) | exact HI0.out)); (case side2 => repeat (first | (with_reducible first | exact HB.out | apply below_alloc | apply pw_below_drewN | apply below_drew1 | refine below_set ?_ (IsS69.ge HI0.out)) | exact HB.out)); rintro e w42 ⟨rfl, hi, hb, hk⟩; refine ⟨_, rfl, ?_⟩; have n0_ := Aside0.mk (Kd.R_mono (Kd.R_keep (IsS69.apart (show IsS69 w0 _ g s0_0 t221 t222 from y58_) (rd_ HO220.out) (by decide)) hk (fun _ h => h.2)) (fun _ h => h.1)); have n1_ := Aside0.mk (KeepBut.trans y52_ hk (.inl rfl)); have n2_ := Aside0.mk (hb); have n3_ := Aside0.mk (hi); clear HO220; clear HK; clear HB; clear HI0; have HO220 := n0_; have HK := n1_; have HB := n2_; have HI0 := n3_; clear n0_ n1_ n2_ n3_; (try clear hb); (try clear hk); (try clear hi)) | ((with_reducible refine gate_callee (f := 41) rfl ?_); refine goesL_ (some 16) rfl rfl Tryd.func41 (by kernel_rfl) rfl #[.pointer (some ⟨g, 0, none⟩), .int .i64 12] rfl ma_ ?_; (with_reducible refine (spec_l1Below.calls g s0_0 t224 t225 12 t226 t227 t228 w0 _ ?side1 ?side2 A7.out).mono ?_); (case side1 => repeat (first | (with_reducible first | exact HI0.out | apply IsS69.alloc | apply IsS69.drewN | apply IsS69.drew | apply IsS69.set_1 | apply IsS69.set_2) | exact HI0.out)); (case side2 => repeat (first | (with_reducible first | exact HB.out | apply below_alloc | apply pw_below_drewN | apply below_drew1 | refine below_set ?_ (IsS69.ge HI0.out)) | exact HB.out)); rintro e w43 ⟨rfl, hi, hb, hk⟩; refine ⟨_, rfl, ?_⟩; have n0_ := Aside0.mk (Kd.R_mono (Kd.R_keep (IsS69.apart (show IsS69 w0 _ g s0_0 t224 t225 from y58_) (rd_ HO220.out) (by decide)) hk (fun _ h => h.2)) (fun _ h => h.1)); have n1_ := Aside0.mk (KeepBut.trans y52_ hk (.inl rfl)); have n2_ := Aside0.mk (hb); have n3_ := Aside0.mk (hi); clear HO220; clear HK; clear HB; clear HI0; have HO220 := n0_; have HK := n1_; have HB := n2_; have HI0 := n3_; clear n0_ n1_ n2_ n3_; (try clear hb); (try clear hk); (try clear hi)) | ((with_reducible refine gate_callee (f := 57) rfl ?_); refine goesL_ (some 39) rfl rfl Tryd.func57 (by kernel_rfl) rfl #[.pointer (some ⟨g, 0, none⟩)] rfl ma_ ?_; (with_reducible refine (spec_l4Raw.calls g s0_0 t227 t228 t244 t245 t246 w0 _ ?side1 ?side2 A36.out).mono ?_); (case side1 => repeat (first | (with_reducible first | exact HI0.out | apply IsS69.alloc | apply IsS69.drewN | apply IsS69.drew | apply IsS69.set_1 | apply IsS69.set_2) | exact HI0.out)); (case side2 => repeat (first | (with_reducible first | exact HB.out | apply below_alloc | apply pw_below_drewN | apply below_drew1 | refine below_set ?_ (IsS69.ge HI0.out)) | exact HB.out)); rintro e w44 ⟨rfl, hi, hb, hk⟩; refine ⟨_, rfl, ?_⟩; have n0_ := Aside0.mk (Kd.R_mono (Kd.R_keep (IsS69.apart (show IsS69 w0 _ g s0_0 t227 t228 from y58_) (rd_ HO220.out) (by decide)) hk (fun _ h => h.2)) (fun _ h => h.1)); have n1_ := Aside0.mk (KeepBut.trans y52_ hk (.inl rfl)); have n2_ := Aside0.mk (hb); have n3_ := Aside0.mk (hi); clear HO220; clear HK; clear HB; clear HI0; have HO220 := n0_; have HK := n1_; have HB := n2_; have HI0 := n3_; clear n0_ n1_ n2_ n3_; (try clear hb); (try clear hk); (try clear hi); have p39 : 0 ≤ (t223 : Int) := of_decide_eq_true as_; have q39 : (t223 : Int) < ((t218.length : Int) : Int) := of_decide_eq_true as_; obtain ⟨go39, co39, eo39, gb39, gl39, cl39, HG39⟩ := Kd.R_form HO220.out (by omega); (first | cases eo39 | (injection eo39 with ea_ en_ ec_; (first | subst ea_ | (injection ea_ with ea_; subst ea_)); subst ec_; clear en_)); have GB39 := Aside0.mk gb39; have GG39 := Aside0.mk HG39; clear gb39 gl39 HG39; obtain ⟨ce39, hcl39, hM39, hcc39, hfr39⟩ := Kd.R_elem HO220.out z38 (t223 : Int) p39 q39; obtain rfl := k38_openM hM39; have hx39_0 : w44.cell? ⟨go39, (t223 : Int).toNat * 8, none⟩ = some (.int .i64 ((rd_T38 t218 t223).f0.f0)) := hcc39 0 _ rfl; have hx39_1 : w44.cell? ⟨go39, (t223 : Int).toNat * 8 + 1, none⟩ = some (.int .i64 ((rd_T38 t218 t223).f0.f1)) := hcc39 1 _ rfl; have hx39_2 : w44.cell? ⟨go39, (t223 : Int).toNat * 8 + 2, none⟩ = some (.int .i64 ((rd_T38 t218 t223).f0.f2)) := hcc39 2 _ rfl; have hx39_3 : w44.cell? ⟨go39, (t223 : Int).toNat * 8 + 3, none⟩ = some (.int .i64 ((rd_T38 t218 t223).f0.f3)) := hcc39 3 _ rfl; have hx39_4 : w44.cell? ⟨go39, (t223 : Int).toNat * 8 + 4, none⟩ = some (.int .i64 ((rd_T38 t218 t223).f0.f4)) := hcc39 4 _ rfl; have hx39_5 : w44.cell? ⟨go39, (t223 : Int).toNat * 8 + 5, none⟩ = some (.int .i64 ((rd_T38 t218 t223).f1)) := hcc39 5 _ rfl; have hx39_6 : w44.cell? ⟨go39, (t223 : Int).toNat * 8 + 6, none⟩ = some (.int .i64 ((rd_T38 t218 t223).f2)) := hcc39 6 _ rfl; have hx39_7 : w44.cell? ⟨go39, (t223 : Int).toNat * 8 + 7, none⟩ = some (.int .i64 ((rd_T38 t218 t223).f3)) := hcc39 7 _ rfl; have hf39_0 : w44.frozen? ⟨go39, (t223 : Int).toNat * 8, none⟩ = false := hfr39 0; have hf39_1 : w44.frozen? ⟨go39, (t223 : Int).toNat * 8 + 1, none⟩ = false := hfr39 1; have hf39_2 : w44.frozen? ⟨go39, (t223 : Int).toNat * 8 + 2, none⟩ = false := hfr39 2; have hf39_3 : w44.frozen? ⟨go39, (t223 : Int).toNat * 8 + 3, none⟩ = false := hfr39 3; have hf39_4 : w44.frozen? ⟨go39, (t223 : Int).toNat * 8 + 4, none⟩ = false := hfr39 4; have hf39_5 : w44.frozen? ⟨go39, (t223 : Int).toNat * 8 + 5, none⟩ = false := hfr39 5; have hf39_6 : w44.frozen? ⟨go39, (t223 : Int).toNat * 8 + 6, none⟩ = false := hfr39 6; have hf39_7 : w44.frozen? ⟨go39, (t223 : Int).toNat * 8 + 7, none⟩ = false := hfr39 7; clear hcl39 hcc39 hfr39 hM39; replace p39 := eq_true p39; replace q39 := eq_true q39; have HX45 := Aside0.mk (show Kd.R k38 38 w44 w.heap.size (fun _ => True) (.slice (some ⟨go39, 0, none⟩) t218.length co41) t218 from (rd_ HO220.out)); obtain ⟨ce45, hcl45, hM45, hcc45, hfr45⟩ := Kd.R_elem HX45.out z38 (t223 : Int) (of_decide_eq_true as_) (by have h_ : (t223 : Int) < ((t218.length : Int) : Int) := of_decide_eq_true as_; first | exact h_ | (have e_ := (Kd.R_reads' HO220.out).1; omega) | simpa using h_); obtain rfl := k38_openM hM45; have HP45 := Kd.R_seg HX45.out (t223 : Int) (of_decide_eq_true as_) (by have h_ : (t223 : Int) < ((t218.length : Int) : Int) := of_decide_eq_true as_; first | exact h_ | (have e_ := (Kd.R_reads' HO220.out).1; omega) | simpa using h_) (seg := [.int .i64 t244]) (j := 6) hcl45 hcc45 (show 7 ≤ 8 from by decide) (x' := (⟨(⟨(rd_T38 t218 t223).f0.f0, (rd_T38 t218 t223).f0.f1, (rd_T38 t218 t223).f0.f2, (rd_T38 t218 t223).f0.f3, (rd_T38 t218 t223).f0.f4⟩ : S36), (rd_T38 t218 t223).f1, t244, (rd_T38 t218 t223).f3⟩ : S38)) (k38_mkM _ _ _ (⟨(⟨(rd_T38 t218 t223).f0.f0, (rd_T38 t218 t223).f0.f1, (rd_T38 t218 t223).f0.f2, (rd_T38 t218 t223).f0.f3, (rd_T38 t218 t223).f0.f4⟩ : S36), (rd_T38 t218 t223).f1, t244, (rd_T38 t218 t223).f3⟩ : S38) ) (fun _ hk => hk); have hx45_6 := hcc45 6 _ rfl; (try simp only [show (k38).sz = 8 from rfl, Nat.mul_one, Nat.add_zero] at hx45_6); have hf45_6 := hfr45 6; (try simp only [show (k38).sz = 8 from rfl, Nat.mul_one, Nat.add_zero] at hf45_6); clear hcl45 hcc45 hfr45 hM45) | ((with_reducible refine gate_store (t := 3) (p := 41) rfl ?_); refine store_event (t := 3) (p := 41) (v := ?vo_w46) (w1 := (w44.setCell ⟨go39, (t223 : Int).toNat * 8 + 6, none⟩ (.int .i64 t244))) ?hg ?ho ?hn ?hr ?_; (case ho => rfl); (case hg => rfl); (case hn => rfl); (case hr => first | (go_simp; done) | (go_simp; rfl)); intro w46 hw; have hg : w44.grownBy w46 (some go39) := (by rw [hw]; exact HP45.2); have hp_ : Kd.R k38 38 w46 w.heap.size (fun _ => True) (.slice (some ⟨go39, 0, none⟩) t218.length co41) y247 := (by rw [hw, Ny247.out]; exact HP45.1); clear HP45; have n0_ := Aside0.mk (IsS69.grown y57_ hg (IsS69.own_ne HI0.out HO220.out (by decide))); have n1_ := Aside0.mk (hp_); have n2_ := Aside0.mk ((by rw [hw]; exact below_set (HB.out) (Nat.le_trans HL.out GB39.out) : Below w0.heap.size w0 w46)); have n3_ := Aside0.mk (KeepBut.trans y52_ (KeepBut.of_grown hg g) (Kd.R_base2 HO220.out)); clear HI0; clear HO220; clear HB; clear HK; have HI0 := n0_; have HO220 := n1_; have HB := n2_; have HK := n3_; clear n0_ n1_ n2_ n3_; clear hg hw hp_))
       go_ret
       exact ⟨_, by first | rfl | (simp [errW_none, errW_some] <;> rfl) | (simp [*, errW_none, errW_some] <;> rfl), rd_ HO220.out, y58_, y56_, y59_⟩
      ·
       rw [if_neg c38] at H
       exact absurd H (by simp)
     ·
      rw [if_neg c37] at H
      exact absurd H (by simp)
    ·
     rw [if_neg c35] at H
     have c35b0 : (t226 == 2) = false := beq_eq_false_iff_ne.mpr c35
     have c35b1 : (t226 != 2) = true := bne_iff_ne.mpr c35
     by_cases c47 : t226 = 3
     ·
      rw [if_pos c47] at H
      have c47b0 : (t226 == 3) = true := beq_iff_eq.mpr c47
      have c47b1 : (t226 != 3) = false := bne_eq_false_iff_eq.mpr c47
      clear c47
      obtain ⟨y248, hy248⟩ : ∃ y_ : List Int, y_ = (([(-1), 999, 1000] : List Int)) := ⟨_, rfl⟩
      replace H : ((spec_l1Int.f s0_0 t227 t228 y248).bind fun bt251 => (if 0 ≤ t223 then (if t223 < (t218.length : Int) then (some ((t218.set (t223 : Int).toNat (⟨(⟨(rd_T38 t218 t223).f0.f0, (rd_T38 t218 t223).f0.f1, (rd_T38 t218 t223).f0.f2, (rd_T38 t218 t223).f0.f3, (rd_T38 t218 t223).f0.f4⟩ : S36), (rd_T38 t218 t223).f1, (rd_T38 t218 t223).f2, bt251.1⟩ : S38)), bt251.2.1, bt251.2.2)) else (none)) else (none))) = some (r1, r2, r3) := by first | (rw [hy248]; with_reducible exact H) | (have H2_ := (Option.bind_some _ _).symm.trans H; rw [hy248]; with_reducible exact H2_) | (have H2_ := (Option.bind_some _ _).symm.trans H; with_reducible exact H2_) | with_reducible exact H | (rw [hy248]; exact H) | exact H
      have Ny248 := Aside0.mk hy248
      clear hy248
      replace H := Option.bind_eq_some_iff.mp H
      obtain ⟨⟨t251, t252, t253⟩, A480, H⟩ := H
      replace H : (if 0 ≤ t223 then (if t223 < (t218.length : Int) then (some ((t218.set (t223 : Int).toNat (⟨(⟨(rd_T38 t218 t223).f0.f0, (rd_T38 t218 t223).f0.f1, (rd_T38 t218 t223).f0.f2, (rd_T38 t218 t223).f0.f3, (rd_T38 t218 t223).f0.f4⟩ : S36), (rd_T38 t218 t223).f1, (rd_T38 t218 t223).f2, t251⟩ : S38)), t252, t253)) else (none)) else (none)) = some (r1, r2, r3) := H
      have A48 := Aside0.mk A480
      clear A480
      by_cases c49 : 0 ≤ t223
      ·
       rw [if_pos c49] at H
       have c49b0 : decide (0 ≤ t223) = true := decide_eq_true c49
       clear c49
       by_cases c50 : t223 < (t218.length : Int)
       ·
        rw [if_pos c50] at H
        have c50b0 : decide (t223 < (t218.length : Int)) = true := decide_eq_true c50
        clear c50
        obtain ⟨y254, hy254⟩ : ∃ y_ : List (S38), y_ = (t218.set (t223 : Int).toNat (⟨(⟨(rd_T38 t218 t223).f0.f0, (rd_T38 t218 t223).f0.f1, (rd_T38 t218 t223).f0.f2, (rd_T38 t218 t223).f0.f3, (rd_T38 t218 t223).f0.f4⟩ : S36), (rd_T38 t218 t223).f1, (rd_T38 t218 t223).f2, t251⟩ : S38)) := ⟨_, rfl⟩
        replace H : (some (y254, t252, t253)) = some (r1, r2, r3) := by first | (rw [hy254]; with_reducible exact H) | (have H2_ := (Option.bind_some _ _).symm.trans H; rw [hy254]; with_reducible exact H2_) | (have H2_ := (Option.bind_some _ _).symm.trans H; with_reducible exact H2_) | with_reducible exact H | (rw [hy254]; exact H) | exact H
        have Ny254 := Aside0.mk hy254
        clear hy254
        simp only [Option.some.injEq, Prod.mk.injEq] at H
        obtain ⟨rfl, rfl, rfl⟩ := H
        go_enter Tryd.func37, Tryd.ntmps37
        go_wp2_with (first | ((with_reducible refine gate_callee (f := 54) rfl ?_); refine goesL_ (some 6) rfl rfl Tryd.func54 (by kernel_rfl) rfl #[.pointer (some ⟨g, 0, none⟩)] rfl ma_ ?_; (with_reducible refine (spec_l6List.calls k g s0_0 s0_1 s0_2 t218 t221 t222 w0 _ ?side1 ?side2 A2.out).mono ?_); (case side1 => repeat (first | (with_reducible first | exact HI0.out | apply IsS69.alloc | apply IsS69.drewN | apply IsS69.drew | apply IsS69.set_1 | apply IsS69.set_2) | exact HI0.out)); (case side2 => repeat (first | (with_reducible first | exact HB.out | apply below_alloc | apply pw_below_drewN | apply below_drew1 | refine below_set ?_ (IsS69.ge HI0.out)) | exact HB.out)); rintro e w52 ⟨v219, rfl, ho0, hi, hb, hk⟩; refine ⟨_, rfl, ?_⟩; have HO220 := Aside0.mk (Kd.R_lower ho0 (keep_size (w := w) (g := g) (row := none) y52_)); have n1_ := Aside0.mk (KeepBut.trans y52_ hk (.inl rfl)); have n2_ := Aside0.mk (hb); have n3_ := Aside0.mk (hi); clear HK; clear HB; clear HI0; have HK := n1_; have HB := n2_; have HI0 := n3_; clear n1_ n2_ n3_; (try clear hb); (try clear hk); (try clear hi); (try clear ho0); obtain ⟨Ao53, co53, eo53⟩ := Kd.R_slice HO220.out; subst eo53) | ((with_reducible refine gate_callee (f := 41) rfl ?_); refine goesL_ (some 14) rfl rfl Tryd.func41 (by kernel_rfl) rfl #[.pointer (some ⟨g, 0, none⟩), .int .i64 (t218.length : Int)] rfl ma_ ?_; (with_reducible refine (spec_l1Below.calls g s0_0 t221 t222 (t218.length : Int) t223 t224 t225 w0 _ ?side1 ?side2 A6.out).mono ?_); (case side1 => repeat (first | (with_reducible first | exact HI0.out | apply IsS69.alloc | apply IsS69.drewN | apply IsS69.drew | apply IsS69.set_1 | apply IsS69.set_2) | exact HI0.out)); (case side2 => repeat (first | (with_reducible first | exact HB.out | apply below_alloc | apply pw_below_drewN | apply below_drew1 | refine below_set ?_ (IsS69.ge HI0.out)) | exact HB.out)); rintro e w54 ⟨rfl, hi, hb, hk⟩; refine ⟨_, rfl, ?_⟩; have n0_ := Aside0.mk (Kd.R_mono (Kd.R_keep (IsS69.apart (show IsS69 w0 _ g s0_0 t221 t222 from y58_) (rd_ HO220.out) (by decide)) hk (fun _ h => h.2)) (fun _ h => h.1)); have n1_ := Aside0.mk (KeepBut.trans y52_ hk (.inl rfl)); have n2_ := Aside0.mk (hb); have n3_ := Aside0.mk (hi); clear HO220; clear HK; clear HB; clear HI0; have HO220 := n0_; have HK := n1_; have HB := n2_; have HI0 := n3_; clear n0_ n1_ n2_ n3_; (try clear hb); (try clear hk); (try clear hi)) | ((with_reducible refine gate_callee (f := 41) rfl ?_); refine goesL_ (some 16) rfl rfl Tryd.func41 (by kernel_rfl) rfl #[.pointer (some ⟨g, 0, none⟩), .int .i64 12] rfl ma_ ?_; (with_reducible refine (spec_l1Below.calls g s0_0 t224 t225 12 t226 t227 t228 w0 _ ?side1 ?side2 A7.out).mono ?_); (case side1 => repeat (first | (with_reducible first | exact HI0.out | apply IsS69.alloc | apply IsS69.drewN | apply IsS69.drew | apply IsS69.set_1 | apply IsS69.set_2) | exact HI0.out)); (case side2 => repeat (first | (with_reducible first | exact HB.out | apply below_alloc | apply pw_below_drewN | apply below_drew1 | refine below_set ?_ (IsS69.ge HI0.out)) | exact HB.out)); rintro e w55 ⟨rfl, hi, hb, hk⟩; refine ⟨_, rfl, ?_⟩; have n0_ := Aside0.mk (Kd.R_mono (Kd.R_keep (IsS69.apart (show IsS69 w0 _ g s0_0 t224 t225 from y58_) (rd_ HO220.out) (by decide)) hk (fun _ h => h.2)) (fun _ h => h.1)); have n1_ := Aside0.mk (KeepBut.trans y52_ hk (.inl rfl)); have n2_ := Aside0.mk (hb); have n3_ := Aside0.mk (hi); clear HO220; clear HK; clear HB; clear HI0; have HO220 := n0_; have HK := n1_; have HB := n2_; have HI0 := n3_; clear n0_ n1_ n2_ n3_; (try clear hb); (try clear hk); (try clear hi)) | ((with_reducible refine gate_dst (N := 47) rfl ?_); refine Kd.R_lit (Kd.int .i64) _ 3 ?hg (N := 47) ?hd (xs := ([(-1), 999, 1000] : List Int)) (inner := [.int .i64 (-1), .int .i64 999, .int .i64 1000]) (ok := fun _ => True) (okp := fun _ => True) ?hr ?hp (fun _ hk => hk) trivial (Below.refl _ _) (Nat.le_refl _) (by simp) ?_; (case hd => rfl); (case hg => rfl); (case hr => first | (go_simp; done) | (go_simp; rfl)); (case hp => exact (Reps.one (show Kd.M (Kd.int .i64) _ _ _ (-1) [.int .i64 (-1)] from rfl) (Reps.one (show Kd.M (Kd.int .i64) _ _ _ 999 [.int .i64 999] from rfl) (Reps.one (show Kd.M (Kd.int .i64) _ _ _ 1000 [.int .i64 1000] from rfl) (Reps.none _ _))))); intro v249 w56 ho57 hb hg_ hnew_; clear hg_ hnew_; (first | rw [← Ny248.out] at ho57 | (simp only [Int.reduceToNat] at ho57; rw [← Ny248.out] at ho57)); have n0_ := Aside0.mk (Kd.R_below (rd_ HO220.out) hb); have HO250 := Aside0.mk (Kd.R_lower ho57 (keep_size (w := w) (g := g) (row := none) y52_)); have n2_ := Aside0.mk (IsS69.below y57_ hb); have n3_ := Aside0.mk (KeepBut.trans y52_ (KeepBut.of_below hb g none) (.inl rfl)); have n4_ := Aside0.mk (below_step (y56_) hb); clear HO220; clear HI0; clear HK; clear HB; have HO220 := n0_; have HI0 := n2_; have HK := n3_; have HB := n4_; clear n0_ n2_ n3_ n4_; clear hb ho57; obtain ⟨Ao58, co58, eo58⟩ := Kd.R_slice HO250.out; subst eo58) | ((with_reducible refine gate_callee (f := 56) rfl ?_); refine goesL_ (some 48) rfl rfl Tryd.func56 (by kernel_rfl) rfl #[.pointer (some ⟨g, 0, none⟩), .slice Ao58 y248.length co58] rfl ma_ ?_; (with_reducible refine (spec_l1Int.calls g s0_0 t227 t228 _ _ y248 t251 t252 t253 w0 _ ?side1 ?side2 ?side3 ?side4 ?side5 A48.out).mono ?_); (case side1 => repeat (first | (with_reducible first | exact HI0.out | apply IsS69.alloc | apply IsS69.drewN | apply IsS69.drew | apply IsS69.set_1 | apply IsS69.set_2) | exact HI0.out)); (case side2 => repeat (first | (with_reducible first | exact HB.out | apply below_alloc | apply pw_below_drewN | apply below_drew1 | refine below_set ?_ (IsS69.ge HI0.out)) | exact HB.out)); (case side3 => exact cd_ (Kd.R_reads' HO250.out).2.2); (case side4 => exact (Kd.R_reads' HO250.out).2.1); (case side5 => exact far_slice (IsS69.own_ne HI0.out HO250.out (by decide))); rintro e w59 ⟨rfl, hi, hb, hk⟩; refine ⟨_, rfl, ?_⟩; have n0_ := Aside0.mk (Kd.R_mono (Kd.R_keep (IsS69.apart (show IsS69 w0 _ g s0_0 t227 t228 from y58_) (rd_ HO220.out) (by decide)) hk (fun _ h => h.2)) (fun _ h => h.1)); have n1_ := Aside0.mk (Kd.R_mono (Kd.R_keep (IsS69.apart (show IsS69 w0 _ g s0_0 t227 t228 from y58_) (rd_ HO250.out) (by decide)) hk (fun _ h => h.2)) (fun _ h => h.1)); have n2_ := Aside0.mk (KeepBut.trans y52_ hk (.inl rfl)); have n3_ := Aside0.mk (hb); have n4_ := Aside0.mk (hi); clear HO220; clear HO250; clear HK; clear HB; clear HI0; have HO220 := n0_; have HO250 := n1_; have HK := n2_; have HB := n3_; have HI0 := n4_; clear n0_ n1_ n2_ n3_ n4_; (try clear hb); (try clear hk); (try clear hi); have p51 : 0 ≤ (t223 : Int) := of_decide_eq_true as_; have q51 : (t223 : Int) < ((t218.length : Int) : Int) := of_decide_eq_true as_; obtain ⟨go51, co51, eo51, gb51, gl51, cl51, HG51⟩ := Kd.R_form HO220.out (by omega); (first | cases eo51 | (injection eo51 with ea_ en_ ec_; (first | subst ea_ | (injection ea_ with ea_; subst ea_)); subst ec_; clear en_)); have GB51 := Aside0.mk gb51; have GG51 := Aside0.mk HG51; clear gb51 gl51 HG51; obtain ⟨ce51, hcl51, hM51, hcc51, hfr51⟩ := Kd.R_elem HO220.out z38 (t223 : Int) p51 q51; obtain rfl := k38_openM hM51; have hx51_0 : w59.cell? ⟨go51, (t223 : Int).toNat * 8, none⟩ = some (.int .i64 ((rd_T38 t218 t223).f0.f0)) := hcc51 0 _ rfl; have hx51_1 : w59.cell? ⟨go51, (t223 : Int).toNat * 8 + 1, none⟩ = some (.int .i64 ((rd_T38 t218 t223).f0.f1)) := hcc51 1 _ rfl; have hx51_2 : w59.cell? ⟨go51, (t223 : Int).toNat * 8 + 2, none⟩ = some (.int .i64 ((rd_T38 t218 t223).f0.f2)) := hcc51 2 _ rfl; have hx51_3 : w59.cell? ⟨go51, (t223 : Int).toNat * 8 + 3, none⟩ = some (.int .i64 ((rd_T38 t218 t223).f0.f3)) := hcc51 3 _ rfl; have hx51_4 : w59.cell? ⟨go51, (t223 : Int).toNat * 8 + 4, none⟩ = some (.int .i64 ((rd_T38 t218 t223).f0.f4)) := hcc51 4 _ rfl; have hx51_5 : w59.cell? ⟨go51, (t223 : Int).toNat * 8 + 5, none⟩ = some (.int .i64 ((rd_T38 t218 t223).f1)) := hcc51 5 _ rfl; have hx51_6 : w59.cell? ⟨go51, (t223 : Int).toNat * 8 + 6, none⟩ = some (.int .i64 ((rd_T38 t218 t223).f2)) := hcc51 6 _ rfl; have hx51_7 : w59.cell? ⟨go51, (t223 : Int).toNat * 8 + 7, none⟩ = some (.int .i64 ((rd_T38 t218 t223).f3)) := hcc51 7 _ rfl; have hf51_0 : w59.frozen? ⟨go51, (t223 : Int).toNat * 8, none⟩ = false := hfr51 0; have hf51_1 : w59.frozen? ⟨go51, (t223 : Int).toNat * 8 + 1, none⟩ = false := hfr51 1; have hf51_2 : w59.frozen? ⟨go51, (t223 : Int).toNat * 8 + 2, none⟩ = false := hfr51 2; have hf51_3 : w59.frozen? ⟨go51, (t223 : Int).toNat * 8 + 3, none⟩ = false := hfr51 3; have hf51_4 : w59.frozen? ⟨go51, (t223 : Int).toNat * 8 + 4, none⟩ = false := hfr51 4; have hf51_5 : w59.frozen? ⟨go51, (t223 : Int).toNat * 8 + 5, none⟩ = false := hfr51 5; have hf51_6 : w59.frozen? ⟨go51, (t223 : Int).toNat * 8 + 6, none⟩ = false := hfr51 6; have hf51_7 : w59.frozen? ⟨go51, (t223 : Int).toNat * 8 + 7, none⟩ = false := hfr51 7; clear hcl51 hcc51 hfr51 hM51; replace p51 := eq_true p51; replace q51 := eq_true q51; have HX60 := Aside0.mk (show Kd.R k38 38 w59 w.heap.size (fun _ => True) (.slice (some ⟨go51, 0, none⟩) t218.length co53) t218 from (rd_ HO220.out)); obtain ⟨ce60, hcl60, hM60, hcc60, hfr60⟩ := Kd.R_elem HX60.out z38 (t223 : Int) (of_decide_eq_true as_) (by have h_ : (t223 : Int) < ((t218.length : Int) : Int) := of_decide_eq_true as_; first | exact h_ | (have e_ := (Kd.R_reads' HO220.out).1; omega) | simpa using h_); obtain rfl := k38_openM hM60; have HP60 := Kd.R_seg HX60.out (t223 : Int) (of_decide_eq_true as_) (by have h_ : (t223 : Int) < ((t218.length : Int) : Int) := of_decide_eq_true as_; first | exact h_ | (have e_ := (Kd.R_reads' HO220.out).1; omega) | simpa using h_) (seg := [.int .i64 t251]) (j := 7) hcl60 hcc60 (show 8 ≤ 8 from by decide) (x' := (⟨(⟨(rd_T38 t218 t223).f0.f0, (rd_T38 t218 t223).f0.f1, (rd_T38 t218 t223).f0.f2, (rd_T38 t218 t223).f0.f3, (rd_T38 t218 t223).f0.f4⟩ : S36), (rd_T38 t218 t223).f1, (rd_T38 t218 t223).f2, t251⟩ : S38)) (k38_mkM _ _ _ (⟨(⟨(rd_T38 t218 t223).f0.f0, (rd_T38 t218 t223).f0.f1, (rd_T38 t218 t223).f0.f2, (rd_T38 t218 t223).f0.f3, (rd_T38 t218 t223).f0.f4⟩ : S36), (rd_T38 t218 t223).f1, (rd_T38 t218 t223).f2, t251⟩ : S38) ) (fun _ hk => hk); have hx60_7 := hcc60 7 _ rfl; (try simp only [show (k38).sz = 8 from rfl, Nat.mul_one, Nat.add_zero] at hx60_7); have hf60_7 := hfr60 7; (try simp only [show (k38).sz = 8 from rfl, Nat.mul_one, Nat.add_zero] at hf60_7); clear hcl60 hcc60 hfr60 hM60) | ((with_reducible refine gate_store (t := 3) (p := 50) rfl ?_); refine store_event (t := 3) (p := 50) (v := ?vo_w61) (w1 := (w59.setCell ⟨go51, (t223 : Int).toNat * 8 + 7, none⟩ (.int .i64 t251))) ?hg ?ho ?hn ?hr ?_; (case ho => rfl); (case hg => rfl); (case hn => rfl); (case hr => first | (go_simp; done) | (go_simp; rfl)); intro w61 hw; have hg : w59.grownBy w61 (some go51) := (by rw [hw]; exact HP60.2); have hp_ : Kd.R k38 38 w61 w.heap.size (fun _ => True) (.slice (some ⟨go51, 0, none⟩) t218.length co53) y254 := (by rw [hw, Ny254.out]; exact HP60.1); clear HP60; have n0_ := Aside0.mk (IsS69.grown y57_ hg (IsS69.own_ne HI0.out HO220.out (by decide))); have n1_ := Aside0.mk (hp_); have n2_ := Aside0.mk (Kd.R_over' (v := (.slice (some ⟨go51, 0, none⟩) t218.length co53)) (rd_ HO250.out) (Kd.R_typed HO220.out) (by decide) hg); have n3_ := Aside0.mk ((by rw [hw]; exact below_set (HB.out) (Nat.le_trans HL.out GB51.out) : Below w0.heap.size w0 w61)); have n4_ := Aside0.mk (KeepBut.trans y52_ (KeepBut.of_grown hg g) (Kd.R_base2 HO220.out)); clear HI0; clear HO220; clear HO250; clear HB; clear HK; have HI0 := n0_; have HO220 := n1_; have HO250 := n2_; have HB := n3_; have HK := n4_; clear n0_ n1_ n2_ n3_ n4_; clear hg hw hp_))
        go_ret
        exact ⟨_, by first | rfl | (simp [errW_none, errW_some] <;> rfl) | (simp [*, errW_none, errW_some] <;> rfl), rd_ HO220.out, y58_, y56_, y59_⟩
       ·
        rw [if_neg c50] at H
        exact absurd H (by simp)
      ·
       rw [if_neg c49] at H
       exact absurd H (by simp)
     ·
      rw [if_neg c47] at H
      have c47b0 : (t226 == 3) = false := beq_eq_false_iff_ne.mpr c47
      have c47b1 : (t226 != 3) = true := bne_iff_ne.mpr c47
      simp only [Option.some.injEq, Prod.mk.injEq] at H
      obtain ⟨rfl, rfl, rfl⟩ := H
      go_enter Tryd.func37, Tryd.ntmps37
      go_wp2_with (first | ((with_reducible refine gate_callee (f := 54) rfl ?_); refine goesL_ (some 6) rfl rfl Tryd.func54 (by kernel_rfl) rfl #[.pointer (some ⟨g, 0, none⟩)] rfl ma_ ?_; (with_reducible refine (spec_l6List.calls k g s0_0 s0_1 s0_2 t218 t221 t222 w0 _ ?side1 ?side2 A2.out).mono ?_); (case side1 => repeat (first | (with_reducible first | exact HI0.out | apply IsS69.alloc | apply IsS69.drewN | apply IsS69.drew | apply IsS69.set_1 | apply IsS69.set_2) | exact HI0.out)); (case side2 => repeat (first | (with_reducible first | exact HB.out | apply below_alloc | apply pw_below_drewN | apply below_drew1 | refine below_set ?_ (IsS69.ge HI0.out)) | exact HB.out)); rintro e w62 ⟨v219, rfl, ho0, hi, hb, hk⟩; refine ⟨_, rfl, ?_⟩; have HO220 := Aside0.mk (Kd.R_lower ho0 (keep_size (w := w) (g := g) (row := none) y52_)); have n1_ := Aside0.mk (KeepBut.trans y52_ hk (.inl rfl)); have n2_ := Aside0.mk (hb); have n3_ := Aside0.mk (hi); clear HK; clear HB; clear HI0; have HK := n1_; have HB := n2_; have HI0 := n3_; clear n1_ n2_ n3_; (try clear hb); (try clear hk); (try clear hi); (try clear ho0); obtain ⟨Ao63, co63, eo63⟩ := Kd.R_slice HO220.out; subst eo63) | ((with_reducible refine gate_callee (f := 41) rfl ?_); refine goesL_ (some 14) rfl rfl Tryd.func41 (by kernel_rfl) rfl #[.pointer (some ⟨g, 0, none⟩), .int .i64 (t218.length : Int)] rfl ma_ ?_; (with_reducible refine (spec_l1Below.calls g s0_0 t221 t222 (t218.length : Int) t223 t224 t225 w0 _ ?side1 ?side2 A6.out).mono ?_); (case side1 => repeat (first | (with_reducible first | exact HI0.out | apply IsS69.alloc | apply IsS69.drewN | apply IsS69.drew | apply IsS69.set_1 | apply IsS69.set_2) | exact HI0.out)); (case side2 => repeat (first | (with_reducible first | exact HB.out | apply below_alloc | apply pw_below_drewN | apply below_drew1 | refine below_set ?_ (IsS69.ge HI0.out)) | exact HB.out)); rintro e w64 ⟨rfl, hi, hb, hk⟩; refine ⟨_, rfl, ?_⟩; have n0_ := Aside0.mk (Kd.R_mono (Kd.R_keep (IsS69.apart (show IsS69 w0 _ g s0_0 t221 t222 from y58_) (rd_ HO220.out) (by decide)) hk (fun _ h => h.2)) (fun _ h => h.1)); have n1_ := Aside0.mk (KeepBut.trans y52_ hk (.inl rfl)); have n2_ := Aside0.mk (hb); have n3_ := Aside0.mk (hi); clear HO220; clear HK; clear HB; clear HI0; have HO220 := n0_; have HK := n1_; have HB := n2_; have HI0 := n3_; clear n0_ n1_ n2_ n3_; (try clear hb); (try clear hk); (try clear hi)) | ((with_reducible refine gate_callee (f := 41) rfl ?_); refine goesL_ (some 16) rfl rfl Tryd.func41 (by kernel_rfl) rfl #[.pointer (some ⟨g, 0, none⟩), .int .i64 12] rfl ma_ ?_; (with_reducible refine (spec_l1Below.calls g s0_0 t224 t225 12 t226 t227 t228 w0 _ ?side1 ?side2 A7.out).mono ?_); (case side1 => repeat (first | (with_reducible first | exact HI0.out | apply IsS69.alloc | apply IsS69.drewN | apply IsS69.drew | apply IsS69.set_1 | apply IsS69.set_2) | exact HI0.out)); (case side2 => repeat (first | (with_reducible first | exact HB.out | apply below_alloc | apply pw_below_drewN | apply below_drew1 | refine below_set ?_ (IsS69.ge HI0.out)) | exact HB.out)); rintro e w65 ⟨rfl, hi, hb, hk⟩; refine ⟨_, rfl, ?_⟩; have n0_ := Aside0.mk (Kd.R_mono (Kd.R_keep (IsS69.apart (show IsS69 w0 _ g s0_0 t224 t225 from y58_) (rd_ HO220.out) (by decide)) hk (fun _ h => h.2)) (fun _ h => h.1)); have n1_ := Aside0.mk (KeepBut.trans y52_ hk (.inl rfl)); have n2_ := Aside0.mk (hb); have n3_ := Aside0.mk (hi); clear HO220; clear HK; clear HB; clear HI0; have HO220 := n0_; have HK := n1_; have HB := n2_; have HI0 := n3_; clear n0_ n1_ n2_ n3_; (try clear hb); (try clear hk); (try clear hi)))
      go_ret
      exact ⟨_, by first | rfl | (simp [errW_none, errW_some] <;> rfl) | (simp [*, errW_none, errW_some] <;> rfl), rd_ HO220.out, y58_, y56_, y59_⟩

/-! ### spec_l1In: function 53 -/
def spec_l1In.f (a0 : Int) (a1 : Int) (a2 : Int) : Option (Bool) := if a0 ≥ a1 then (some (decide (a0 ≤ a2))) else (some false)
set_option maxHeartbeats 8000000 in
set_option maxRecDepth 100000 in
theorem spec_l1In.calls (a0 : Int) (a1 : Int) (a2 : Int) (r : Bool) (w : World) (h : spec_l1In.f a0 a1 a2 = some r) :
    Calls Tryd.prog 53 #[.int .i64 a0, .int .i64 a1, .int .i64 a2] w fun e w' => e = .returned (.bool r) ∧ Drawn0 w w' := by
  have H : (if a0 ≥ a1 then (some (decide (a0 ≤ a2))) else (some false)) = some r := h
  clear h
  by_cases c4 : a0 ≥ a1
  · rw [if_pos c4] at H
    have c4b0 : decide (a1 ≤ a0) = true := decide_eq_true c4
    clear c4
    obtain rfl := Option.some.inj H
    go_enter Tryd.func53, Tryd.ntmps53
    go_wp2
    go_ret
    exact ⟨rs_, by repeat (first | exact Drawn0.refl _ | apply Drawn0.step)⟩
  · rw [if_neg c4] at H
    have c4b0 : decide (a1 ≤ a0) = false := decide_eq_false c4
    clear c4
    obtain rfl := Option.some.inj H
    go_enter Tryd.func53, Tryd.ntmps53
    go_wp2
    go_ret
    exact ⟨rs_, by repeat (first | exact Drawn0.refl _ | apply Drawn0.step)⟩

/-! ### spec_AreClaims: function 84 -/
def spec_AreClaims.okA (l : List S73) (i : Int) : Bool := decide (1 ≤ (rd_T73 l i).f0 ∧ (rd_T73 l i).f0 ≤ 999) && decide (1 ≤ (rd_T73 l i).f1 ∧ (rd_T73 l i).f1 ≤ 999) && decide (1 ≤ (rd_T73 l i).f2 ∧ (rd_T73 l i).f2 ≤ 999) && decide (0 ≤ (rd_T73 l i).f3 ∧ (rd_T73 l i).f3 ≤ 100000) && decide (0 ≤ (rd_T73 l i).f4 ∧ (rd_T73 l i).f4 ≤ 3) && !(decide (0 < i) && decide ((rd_T73 l i).f0 ≤ (rd_T73 l (i - 1)).f0))
def spec_AreClaims.okB (x y : S73) : Bool := !((x.f4 == 3) && ((y.f4 == 3) && (y.f2 == x.f2)))
def spec_AreClaims.okC (l : List S73) (i : Int) : Bool := spec_AreClaims.okA l i && (l.take i.toNat).all (spec_AreClaims.okB (rd_T73 l i))
def spec_AreClaims.okL (l : List S73) : Bool := decide ((l.length : Int) ≤ 20) && (List.range l.length).all (fun n => spec_AreClaims.okC l (n : Int))
def spec_AreClaims.f (l0 : List S73) : Option Bool := some (spec_AreClaims.okL l0)
theorem spec_AreClaims.bad (l : List S73) (i : Int) (h0 : 0 ≤ i) (h1 : i < (l.length : Int)) (h : spec_AreClaims.okC l i = false) : spec_AreClaims.okL l = false := by
  unfold spec_AreClaims.okL
  have e : (List.range l.length).all (fun n => spec_AreClaims.okC l (n : Int)) = false := by
    rw [List.all_eq_false]; exact ⟨i.toNat, List.mem_range.2 (by omega), by rw [Int.toNat_of_nonneg h0, h]; simp⟩
  rw [e, Bool.and_false]
theorem spec_AreClaims.badA (l : List S73) (i : Int) (h0 : 0 ≤ i) (h1 : i < (l.length : Int)) (h : spec_AreClaims.okA l i = false) : spec_AreClaims.okL l = false :=
  spec_AreClaims.bad l i h0 h1 (by unfold spec_AreClaims.okC; rw [h, Bool.false_and])
theorem spec_AreClaims.step (l : List S73) (i : Int) (h0 : 0 ≤ i) (h : (List.range i.toNat).all (fun n => spec_AreClaims.okC l (n : Int)) = true) (hA : spec_AreClaims.okA l i = true) (hB : (l.take i.toNat).all (spec_AreClaims.okB (rd_T73 l i)) = true) : (List.range (i + 1).toNat).all (fun n => spec_AreClaims.okC l (n : Int)) = true := by
  have e : (i + 1).toNat = i.toNat + 1 := by omega
  have h2 : spec_AreClaims.okC l i = true := by unfold spec_AreClaims.okC; rw [hA, hB]; rfl
  rw [e, List.range_succ, List.all_append, h]; simp [Int.toNat_of_nonneg h0, h2]
theorem spec_AreClaims.rdt (l : List S73) (z : Int) (h0 : 0 ≤ z) (h1 : z < (l.length : Int)) : ∃ h : z.toNat < l.length, rd_T73 l z = l[z.toNat] :=
  ⟨by omega, by unfold rd_T73; simp [List.getD, show z.toNat < l.length by omega]⟩
theorem spec_AreClaims.stepB (l : List S73) (x : S73) (z : Int) (h0 : 0 ≤ z) (h1 : z < (l.length : Int)) (h : (l.take z.toNat).all (spec_AreClaims.okB x) = true) (h2 : spec_AreClaims.okB x (rd_T73 l z) = true) : (l.take (z + 1).toNat).all (spec_AreClaims.okB x) = true := by
  obtain ⟨hz, e2⟩ := spec_AreClaims.rdt l z h0 h1
  have e : (z + 1).toNat = z.toNat + 1 := by omega
  rw [e, List.take_succ_eq_append_getElem hz, List.all_append, h, ← e2]; simp [h2]
theorem spec_AreClaims.badB (l : List S73) (i z : Int) (h0 : 0 ≤ z) (hz : z < i) (h1 : i < (l.length : Int)) (h : spec_AreClaims.okB (rd_T73 l i) (rd_T73 l z) = false) : spec_AreClaims.okL l = false := by
  obtain ⟨hz2, e2⟩ := spec_AreClaims.rdt l z h0 (by omega)
  refine spec_AreClaims.bad l i (by omega) h1 ?_
  have e : (l.take i.toNat).all (spec_AreClaims.okB (rd_T73 l i)) = false := by
    rw [List.all_eq_false]
    exact ⟨rd_T73 l z, by rw [e2, List.mem_take_iff_getElem]; exact ⟨z.toNat, by omega, rfl⟩, by rw [h]; simp⟩
  unfold spec_AreClaims.okC; rw [e, Bool.and_false]
theorem spec_AreClaims.in1 (a b c : Int) : spec_l1In.f a b c = some (decide (b ≤ a ∧ a ≤ c)) := by unfold spec_l1In.f; split <;> simp [*]
theorem spec_AreClaims.two (b : Bool) : b = true ∨ b = false := by cases b <;> simp
theorem spec_AreClaims.ord (i j L : Int) (h0 : 0 ≤ i) (h1 : i < L) (h2 : L ≤ 9223372036854775807) (hj : j = if 0 < i then i - 1 else 0) : (decide (0 < i) = true ∧ IntKind.i64.wrap (i - 1) = j ∧ i - 1 = j) ∨ (decide (0 < i) = false ∧ True ∧ True) := by
  by_cases h : 0 < i
  · rw [if_pos h] at hj
    exact Or.inl ⟨decide_eq_true h, by rw [i64_w, hj]; unfold wrap64; omega, hj.symm⟩
  · exact Or.inr ⟨decide_eq_false h, trivial, trivial⟩
theorem spec_AreClaims.cells {w : World} {g : Nat} {t : TypeId} {i0 i1 i2 i3 i4 : Int} (h : w.heap[g]? = some (.cells #[.int .i64 i0, .int .i64 i1, .int .i64 i2, .int .i64 i3, .int .i64 i4] t (0, 0))) : w.cell? ⟨g, 0, none⟩ = some (.int .i64 i0) ∧ w.cell? ⟨g, 1, none⟩ = some (.int .i64 i1) ∧ w.cell? ⟨g, 2, none⟩ = some (.int .i64 i2) ∧ w.cell? ⟨g, 3, none⟩ = some (.int .i64 i3) ∧ w.cell? ⟨g, 4, none⟩ = some (.int .i64 i4) := ⟨(blk_cell h 0).trans rfl, (blk_cell h 1).trans rfl, (blk_cell h 2).trans rfl, (blk_cell h 3).trans rfl, (blk_cell h 4).trans rfl⟩
theorem spec_AreClaims.froz {w : World} {g : Nat} {t : TypeId} {cs : Array Value} (h : w.heap[g]? = some (.cells cs t (0, 0))) : w.frozen? ⟨g, 0, none⟩ = false ∧ w.frozen? ⟨g, 1, none⟩ = false ∧ w.frozen? ⟨g, 2, none⟩ = false ∧ w.frozen? ⟨g, 3, none⟩ = false ∧ w.frozen? ⟨g, 4, none⟩ = false := ⟨blk_frozen h 0, blk_frozen h 1, blk_frozen h 2, blk_frozen h 3, blk_frozen h 4⟩
abbrev spec_AreClaims.H (w : World) (g : Nat) (x : S73) (a : Addr) (y : S73) : Prop := w.cell? ⟨g, 0, none⟩ = some (.int .i64 x.f0) ∧ w.cell? ⟨g, 1, none⟩ = some (.int .i64 x.f1) ∧ w.cell? ⟨g, 2, none⟩ = some (.int .i64 x.f2) ∧ w.cell? ⟨g, 3, none⟩ = some (.int .i64 x.f3) ∧ w.cell? ⟨g, 4, none⟩ = some (.int .i64 x.f4) ∧ w.cell? a = some (.int .i64 y.f0) ∧ w.cell? ⟨a.block, a.off + 1, none⟩ = some (.int .i64 y.f1) ∧ w.cell? ⟨a.block, a.off + 2, none⟩ = some (.int .i64 y.f2) ∧ w.cell? ⟨a.block, a.off + 3, none⟩ = some (.int .i64 y.f3) ∧ w.cell? ⟨a.block, a.off + 4, none⟩ = some (.int .i64 y.f4)
abbrev spec_AreClaims.B (w : World) (g : Nat) (x : S73) : Prop := w.heap[g]? = some (.cells #[.int .i64 x.f0, .int .i64 x.f1, .int .i64 x.f2, .int .i64 x.f3, .int .i64 x.f4] 73 (0, 0))
theorem spec_AreClaims.held {w w' : World} {g : Nat} {x y : S73} {a : Addr} (h : spec_AreClaims.B w' g x) (hb : Below w.heap.size w w') (hy : w.cell? a = some (.int .i64 y.f0) ∧ w.cell? ⟨a.block, a.off + 1, none⟩ = some (.int .i64 y.f1) ∧ w.cell? ⟨a.block, a.off + 2, none⟩ = some (.int .i64 y.f2) ∧ w.cell? ⟨a.block, a.off + 3, none⟩ = some (.int .i64 y.f3) ∧ w.cell? ⟨a.block, a.off + 4, none⟩ = some (.int .i64 y.f4)) : spec_AreClaims.H w' g x a y :=
  ⟨(blk_cell h 0).trans rfl, (blk_cell h 1).trans rfl, (blk_cell h 2).trans rfl, (blk_cell h 3).trans rfl, (blk_cell h 4).trans rfl, cb_ hb hy.1, cb_ hb hy.2.1, cb_ hb hy.2.2.1, cb_ hb hy.2.2.2.1, cb_ hb hy.2.2.2.2⟩
theorem spec_AreClaims.HB_ {P : Prop} (h : P := by repeat (first | (with_reducible first | exact HB.out | apply below_alloc | apply pw_below_drewN | apply below_drew1 | refine below_set ?_ GE.out) | exact HB.out)) : P := h
theorem spec_AreClaims.put5 {w : World} {g : Nat} {x : S73} (h : w.heap[g]? = some (.cells #[.int .i64 0, .int .i64 0, .int .i64 0, .int .i64 0, .int .i64 0] 73 (0, 0))) : spec_AreClaims.B (((((w.setCell ⟨g, 0, none⟩ (.int .i64 x.f0)).setCell ⟨g, 1, none⟩ (.int .i64 x.f1)).setCell ⟨g, 2, none⟩ (.int .i64 x.f2)).setCell ⟨g, 3, none⟩ (.int .i64 x.f3)).setCell ⟨g, 4, none⟩ (.int .i64 x.f4)) g x := by
  refine blk_put (cs := #[.int .i64 x.f0, .int .i64 x.f1, .int .i64 x.f2, .int .i64 x.f3, .int .i64 0]) ?_ 4 _ rfl
  refine blk_put (cs := #[.int .i64 x.f0, .int .i64 x.f1, .int .i64 x.f2, .int .i64 0, .int .i64 0]) ?_ 3 _ rfl
  refine blk_put (cs := #[.int .i64 x.f0, .int .i64 x.f1, .int .i64 0, .int .i64 0, .int .i64 0]) ?_ 2 _ rfl
  refine blk_put (cs := #[.int .i64 x.f0, .int .i64 0, .int .i64 0, .int .i64 0, .int .i64 0]) ?_ 1 _ rfl
  exact blk_put (cs := #[.int .i64 0, .int .i64 0, .int .i64 0, .int .i64 0, .int .i64 0]) h 0 _ rfl
def spec_AreClaims.T5 : Bool × List (List Nat × List Nat) := (true, [([], []), ([0], [0]), ([1], [1]), ([2], [2]), ([3, 2], [3]), ([4], [4]), ([5, 4], [4, 5]), ([6, 4, 4], [4, 6]), ([7, 4], [4, 7]), ([4, 8], [4, 8]), ([9, 7], [9]), ([10], [10]), ([11, 10], [10, 11]), ([12, 10, 10], [10, 12]), ([13, 10], [10, 13]), ([10, 14], [10, 14]), ([15, 13], [15]), ([16], [16]), ([17, 16], [16, 17]), ([18, 16, 16], [16, 18]), ([19, 16], [16, 19]), ([16, 20], [16, 20]), ([21, 19], [21]), ([22], [22]), ([23, 22], [22, 23]), ([24, 22, 22], [22, 24]), ([25, 22], [22, 25]), ([22, 26], [22, 26]), ([27, 25], [27]), ([28], [28]), ([29, 28], [28, 29]), ([30, 28, 28], [28, 30]), ([31], [31]), ([31], [31]), ([33, 31], [31, 33]), ([32, 34, 31], [31, 32, 34]), ([35, 31], [31, 35]), ([36, 31], [31, 36]), ([31], [31]), ([38, 31], [31, 38]), ([37, 39, 31], [31, 37, 39]), ([31, 40, 28], [28, 31, 40]), ([28, 41], [28, 41])])
def spec_AreClaims.B5 : List Nat := [0, 1, 3, 7, 15, 31, 63, 127, 255, 511, 1023, 2047, 4095, 8191, 16383, 32767, 65535, 131071, 262143, 524287, 1048575, 2097151, 4194303, 8388607, 16777215, 33554431, 67108863, 134217727, 268435455, 536870911, 1073741823, 2147483647, 4294967295, 4294967295, 12884901887, 34359738367, 68719476735, 137438953471, 4294967295, 279172874239, 1099511627775, 2199023255551, 4398046511103]
theorem spec_AreClaims.tab5 : rtab .any (opsOf Tryd.f84 5) = spec_AreClaims.T5 := by kernel_rfl
theorem spec_AreClaims.bits5 : waitsOk spec_AreClaims.T5.2 spec_AreClaims.B5 = true := by kernel_rfl
def spec_AreClaims.T10 : Bool × List (List Nat × List Nat) := (true, [([], []), ([0], [0]), ([1], [1]), ([2], [2]), ([3], [3]), ([3], [3]), ([4, 5, 3], [3, 4, 5]), ([6, 3], [3, 6]), ([7, 3], [3, 7]), ([8, 3], [3, 8]), ([3, 9], [3, 9]), ([10, 3], [10]), ([11], [11]), ([11], [11]), ([12, 13, 11], [11, 12, 13]), ([14, 11], [11, 14]), ([15, 11], [11, 15]), ([11], [11]), ([17, 11], [11, 17]), ([16, 18, 11], [11, 16, 18]), ([11, 19], [11, 19])])
def spec_AreClaims.B10 : List Nat := [0, 1, 3, 7, 15, 15, 63, 127, 255, 511, 1023, 2047, 4095, 4095, 16383, 32767, 65535, 4095, 135167, 524287, 1048575]
theorem spec_AreClaims.tab10 : rtab .any (opsOf Tryd.f84 10) = spec_AreClaims.T10 := by kernel_rfl
theorem spec_AreClaims.bits10 : waitsOk spec_AreClaims.T10.2 spec_AreClaims.B10 = true := by kernel_rfl
abbrev spec_AreClaims.M0 := bm_ 43 0
abbrev spec_AreClaims.M1 := bm_ 43 1
abbrev spec_AreClaims.M2 := bm_ 43 3
abbrev spec_AreClaims.M3 := bm_ 43 7
abbrev spec_AreClaims.M4 := bm_ 43 15
abbrev spec_AreClaims.M5 := bm_ 43 31
abbrev spec_AreClaims.M6 := bm_ 43 63
abbrev spec_AreClaims.M7 := bm_ 43 127
abbrev spec_AreClaims.M8 := bm_ 43 255
abbrev spec_AreClaims.M9 := bm_ 43 511
abbrev spec_AreClaims.M10 := bm_ 43 1023
abbrev spec_AreClaims.M11 := bm_ 43 2047
abbrev spec_AreClaims.M12 := bm_ 43 4095
abbrev spec_AreClaims.M13 := bm_ 43 8191
abbrev spec_AreClaims.M14 := bm_ 43 16383
abbrev spec_AreClaims.M15 := bm_ 43 32767
abbrev spec_AreClaims.M16 := bm_ 43 65535
abbrev spec_AreClaims.M17 := bm_ 43 131071
abbrev spec_AreClaims.M18 := bm_ 43 262143
abbrev spec_AreClaims.M19 := bm_ 43 524287
abbrev spec_AreClaims.M20 := bm_ 43 1048575
abbrev spec_AreClaims.M21 := bm_ 43 2097151
abbrev spec_AreClaims.M22 := bm_ 43 4194303
abbrev spec_AreClaims.M23 := bm_ 43 8388607
abbrev spec_AreClaims.M24 := bm_ 43 16777215
abbrev spec_AreClaims.M25 := bm_ 43 33554431
abbrev spec_AreClaims.M26 := bm_ 43 67108863
abbrev spec_AreClaims.M27 := bm_ 43 134217727
abbrev spec_AreClaims.M28 := bm_ 43 268435455
abbrev spec_AreClaims.M29 := bm_ 43 536870911
abbrev spec_AreClaims.M30 := bm_ 43 1073741823
abbrev spec_AreClaims.M31 := bm_ 43 2147483647
abbrev spec_AreClaims.M32 := bm_ 43 4294967295
abbrev spec_AreClaims.M33 := bm_ 43 8589934591
abbrev spec_AreClaims.M34 := bm_ 43 17179869183
abbrev spec_AreClaims.M35 := bm_ 43 34359738367
abbrev spec_AreClaims.M36 := bm_ 43 68719476735
abbrev spec_AreClaims.M37 := bm_ 43 137438953471
abbrev spec_AreClaims.M38 := bm_ 43 412316860415
abbrev spec_AreClaims.M39 := bm_ 43 549755813887
abbrev spec_AreClaims.M40 := bm_ 43 1099511627775
abbrev spec_AreClaims.M41 := bm_ 43 2199023255551
abbrev spec_AreClaims.M42 := bm_ 43 4398046511103
abbrev spec_AreClaims.M43 := bm_ 43 8796093022207
abbrev spec_AreClaims.m0 := bm_ 21 0
abbrev spec_AreClaims.m1 := bm_ 21 1
abbrev spec_AreClaims.m2 := bm_ 21 3
abbrev spec_AreClaims.m3 := bm_ 21 7
abbrev spec_AreClaims.m4 := bm_ 21 15
abbrev spec_AreClaims.m5 := bm_ 21 31
abbrev spec_AreClaims.m6 := bm_ 21 63
abbrev spec_AreClaims.m7 := bm_ 21 127
abbrev spec_AreClaims.m8 := bm_ 21 255
abbrev spec_AreClaims.m9 := bm_ 21 511
abbrev spec_AreClaims.m10 := bm_ 21 1023
abbrev spec_AreClaims.m11 := bm_ 21 2047
abbrev spec_AreClaims.m12 := bm_ 21 4095
abbrev spec_AreClaims.m13 := bm_ 21 8191
abbrev spec_AreClaims.m14 := bm_ 21 16383
abbrev spec_AreClaims.m15 := bm_ 21 32767
abbrev spec_AreClaims.m16 := bm_ 21 65535
abbrev spec_AreClaims.m17 := bm_ 21 196607
abbrev spec_AreClaims.m18 := bm_ 21 262143
abbrev spec_AreClaims.m19 := bm_ 21 524287
abbrev spec_AreClaims.m20 := bm_ 21 1048575
abbrev spec_AreClaims.m21 := bm_ 21 2097151
set_option maxHeartbeats 8000000 in
set_option maxRecDepth 100000 in
theorem spec_AreClaims.calls (A0 : Option Addr) (c0 : Nat) (l0 : List S73) (r : Bool) (w : World) (hr0 : Kd.C k73 w A0 l0.length l0) (hc0 : l0.length ≤ c0) (h : spec_AreClaims.f l0 = some r) : Calls Tryd.prog 84 #[.slice A0 l0.length c0] w fun e w' => e = .returned (.bool r) ∧ Below w.heap.size w w' := by
  have hu := Tryd.underlying73
  have HR0 := Aside0.mk hr0
  have HC0 := Aside0.mk hc0
  have HM := Aside0.mk (show (l0.length : Int) ≤ 9223372036854775807 from by have := Kd.C_max hr0; omega)
  clear hr0 hc0
  have HR : Aside0 (spec_AreClaims.okL l0 = r) := ⟨Option.some.inj h⟩
  clear h
  have HB := Aside0.mk (Below.refl w.heap.size w)
  go_enter Tryd.func84, Tryd.ntmps84
  go_wp2
  go_loopg [3] l0.length (fun gg v w' => ∃ i : Int, v = .int .i64 i ∧ Aside0 (0 ≤ i) ∧ Aside0 (i ≤ (l0.length : Int)) ∧ Aside0 ((l0.length : Int) - i ≤ gg) ∧ Aside0 ((List.range i.toNat).all (fun n => spec_AreClaims.okC l0 (n : Int)) = true) ∧ Aside0 (Below w.heap.size w w'))
  case atStart => exact ⟨0, rfl, ⟨by omega⟩, ⟨by omega⟩, ⟨by omega⟩, ⟨by simp⟩, ⟨hd_ HB.out⟩⟩
  case round =>
    clear HB
    obtain ⟨i, rfl, I0, I1, IG, HA, HB⟩ := hrel
    by_cases hlt : i < (l0.length : Int)
    · have c2 : decide (i < (l0.length : Int)) = true := decide_eq_true hlt
      have c3 : decide (0 ≤ i) = true := decide_eq_true I0.out
      obtain ⟨j, hj⟩ : ∃ j : Int, j = if 0 < i then i - 1 else 0 := ⟨_, rfl⟩
      have hj0 : 0 ≤ j := by rw [hj]; have := I0.out; split <;> omega
      have hj1 : j < (l0.length : Int) := by rw [hj]; have := I0.out; split <;> omega
      obtain ⟨ad, e0, hx0, hx1, hx2, hx3, hx4⟩ := at_T73 HR0.out i I0.out hlt
      cases e0
      obtain ⟨ad2, e2, hy⟩ := at_T73 HR0.out j hj0 hj1
      obtain rfl : ad = ad2 := by injection e2
      clear e2
      have HY := Aside0.mk hy
      clear hy
      replace hx0 := cb_ HB.out hx0
      replace hx1 := cb_ HB.out hx1
      replace hx2 := cb_ HB.out hx2
      replace hx3 := cb_ HB.out hx3
      replace hx4 := cb_ HB.out hx4
      have C17 := Aside0.mk (spec_AreClaims.ord i j l0.length I0.out hlt HM.out hj)
      have HL := Aside0.mk hlt
      have p1 := eq_true I0.out
      have q1 := eq_true hlt
      have p2 := eq_true hj0
      have q2 := eq_true hj1
      have hwj : wrap64 j = j := by have := HM.out; unfold wrap64; omega
      have HW1 := Aside0.mk (show wrap64 (i + 1) = i + 1 from by have := I0.out; have := HM.out; unfold wrap64; omega)
      clear hlt hj hj0 hj1
      go_upto_region 5 with (first | ((with_reducible refine gate_dst (N := 4) rfl ?_); refine bx_ 4 #[.int .i64 0, .int .i64 0, .int .i64 0, .int .i64 0, .int .i64 0] 73 ?_; intro gb hg w5 hbox hb; have n0_ := Aside0.mk (below_step (hd_ HB.out) hb); have BK := Aside0.mk (hbox); have GE := Aside0.mk ((by rw [hg]; exact (below_size (hd_ HB.out)) : w.heap.size ≤ gb)); clear HB; have HB := n0_; clear n0_; clear hb hbox hg; obtain ⟨hcz0, hcz1, hcz2, hcz3, hcz4⟩ := spec_AreClaims.cells BK.out; obtain ⟨hfz0, hfz1, hfz2, hfz3, hfz4⟩ := spec_AreClaims.froz BK.out))
      (try simp only [Act.put, List.setIfInBounds_toArray, List.set_cons_zero, List.set_cons_succ])
      go_cut [58] (fun v wc => ∃ b : Bool, v = .bool b ∧ Aside0 (b = !spec_AreClaims.okA l0 i) ∧ Aside0 (spec_AreClaims.B wc gb (rd_T73 l0 i)) ∧ Aside0 (Below w.heap.size w wc))
      case first =>
        obtain ⟨b1, e1⟩ : ∃ b, decide (1 ≤ (rd_T73 l0 i).f0 ∧ (rd_T73 l0 i).f0 ≤ 999) = b := ⟨_, rfl⟩
        have F1 := Aside0.mk e1
        have E1 : Aside0 (spec_l1In.f (rd_T73 l0 i).f0 1 999 = some b1) := ⟨by rw [spec_AreClaims.in1, e1]⟩
        clear e1
        obtain ⟨b2, e2⟩ : ∃ b, decide (1 ≤ (rd_T73 l0 i).f1 ∧ (rd_T73 l0 i).f1 ≤ 999) = b := ⟨_, rfl⟩
        have F2 := Aside0.mk e2
        have E2 : Aside0 (spec_l1In.f (rd_T73 l0 i).f1 1 999 = some b2) := ⟨by rw [spec_AreClaims.in1, e2]⟩
        clear e2
        obtain ⟨b3, e3⟩ : ∃ b, decide (1 ≤ (rd_T73 l0 i).f2 ∧ (rd_T73 l0 i).f2 ≤ 999) = b := ⟨_, rfl⟩
        have F3 := Aside0.mk e3
        have E3 : Aside0 (spec_l1In.f (rd_T73 l0 i).f2 1 999 = some b3) := ⟨by rw [spec_AreClaims.in1, e3]⟩
        clear e3
        obtain ⟨b4, e4⟩ : ∃ b, decide (0 ≤ (rd_T73 l0 i).f3 ∧ (rd_T73 l0 i).f3 ≤ 100000) = b := ⟨_, rfl⟩
        have F4 := Aside0.mk e4
        have E4 : Aside0 (spec_l1In.f (rd_T73 l0 i).f3 0 100000 = some b4) := ⟨by rw [spec_AreClaims.in1, e4]⟩
        clear e4
        obtain ⟨b5, e5⟩ : ∃ b, decide (0 ≤ (rd_T73 l0 i).f4 ∧ (rd_T73 l0 i).f4 ≤ 3) = b := ⟨_, rfl⟩
        have F5 := Aside0.mk e5
        have E5 : Aside0 (spec_l1In.f (rd_T73 l0 i).f4 0 3 = some b5) := ⟨by rw [spec_AreClaims.in1, e5]⟩
        clear e5
        try go_wp2
        have n0_ : Aside0 (spec_AreClaims.B (((((w5.setCell ⟨gb, 0, none⟩ (.int .i64 ((rd_T73 l0 i).f0))).setCell ⟨gb, 1, none⟩ (.int .i64 ((rd_T73 l0 i).f1))).setCell ⟨gb, 2, none⟩ (.int .i64 ((rd_T73 l0 i).f2))).setCell ⟨gb, 3, none⟩ (.int .i64 ((rd_T73 l0 i).f3))).setCell ⟨gb, 4, none⟩ (.int .i64 ((rd_T73 l0 i).f4))) gb (rd_T73 l0 i)) := ⟨spec_AreClaims.put5 (bd_ BK.out)⟩
        have n1_ : Aside0 (Below w.heap.size w (((((w5.setCell ⟨gb, 0, none⟩ (.int .i64 ((rd_T73 l0 i).f0))).setCell ⟨gb, 1, none⟩ (.int .i64 ((rd_T73 l0 i).f1))).setCell ⟨gb, 2, none⟩ (.int .i64 ((rd_T73 l0 i).f2))).setCell ⟨gb, 3, none⟩ (.int .i64 ((rd_T73 l0 i).f3))).setCell ⟨gb, 4, none⟩ (.int .i64 ((rd_T73 l0 i).f4)))) := ⟨spec_AreClaims.HB_⟩
        clear BK HB
        generalize (((((w5.setCell ⟨gb, 0, none⟩ (.int .i64 ((rd_T73 l0 i).f0))).setCell ⟨gb, 1, none⟩ (.int .i64 ((rd_T73 l0 i).f1))).setCell ⟨gb, 2, none⟩ (.int .i64 ((rd_T73 l0 i).f2))).setCell ⟨gb, 3, none⟩ (.int .i64 ((rd_T73 l0 i).f3))).setCell ⟨gb, 4, none⟩ (.int .i64 ((rd_T73 l0 i).f4))) = w21 at n0_ n1_ ⊢
        have BK := Aside0.mk (blk_drew n0_.out)
        have HB := Aside0.mk (below_drew1 n1_.out)
        clear n0_ n1_
        refine start_ (n := 43) (S := fun w' => spec_AreClaims.H w' gb (rd_T73 l0 i) (ad.add ((j).toNat * 5)) (rd_T73 l0 j)) (ds := []) spec_AreClaims.M0 (by kernel_rfl) rfl rfl (spec_AreClaims.held (bd_ BK.out) spec_AreClaims.HB_ HY.out) (fun hHeld => ?_); refine with_tabW spec_AreClaims.tab5 spec_AreClaims.bits5 (fun HT_ HW_ => ?_)
        generalize w21.drew = w22 at BK HB hHeld ⊢
        refine pu_ 0 (some 16) spec_AreClaims.M1 HT_ ?_
        refine tk_ 1 (some 17) spec_AreClaims.M2 HT_ HW_ hHeld ?_
        all_goals first
        | refine pn_ 2 (some 18) spec_AreClaims.M3 HT_ ?_
        | refine one_ (i := 2) (N := some 18) spec_AreClaims.M3 rfl rfl (one_of HT_.out (by kernel_rfl)) (by decide) (fun K hK => ?_)
          refine goes_ Tryd.func53 (by kernel_rfl) rfl #[.int .i64 (rd_T73 l0 i).f0, .int .i64 1, .int .i64 999] (by rfl) rfl rfl ma_ ?_
          with_reducible refine (spec_l1In.calls (rd_T73 l0 i).f0 1 999 b1 _ E1.out).mono ?_
          rintro e w' ⟨rfl, ⟨nd, rfl⟩⟩
          refine ⟨_, rfl, ?_⟩
          refine hK.out _ _ (spec_AreClaims.held (bd_ BK.out) spec_AreClaims.HB_ HY.out) (fun hHeld => ?_)
          clear hK K
          refine norm_ (a' := ?_) ?_ ?_
          rotate_left
          · show Act.put _ (some 18) _ = _
            simp only [Act.put, List.setIfInBounds_toArray, List.set_cons_zero, List.set_cons_succ, i64_w, i32_w]
            rfl
          cases b1
        all_goals first | refine pn_ 3 (some 19) spec_AreClaims.M4 HT_ ?_ | refine pu_ 3 (some 19) spec_AreClaims.M4 HT_ ?_
        all_goals first | refine pn_ 4 (some 20) spec_AreClaims.M5 HT_ ?_ | refine pu_ 4 (some 20) spec_AreClaims.M5 HT_ ?_
        all_goals first | refine pn_ 5 (some 21) spec_AreClaims.M6 HT_ ?_ | refine pu_ 5 (some 21) spec_AreClaims.M6 HT_ ?_
        all_goals first | refine pn_ 6 (some 22) spec_AreClaims.M7 HT_ ?_ | refine tk_ 6 (some 22) spec_AreClaims.M7 HT_ HW_ hHeld ?_
        all_goals first
        | refine pn_ 7 (some 23) spec_AreClaims.M8 HT_ ?_
        | refine one_ (i := 7) (N := some 23) spec_AreClaims.M8 rfl rfl (one_of HT_.out (by kernel_rfl)) (by decide) (fun K hK => ?_)
          refine goes_ Tryd.func53 (by kernel_rfl) rfl #[.int .i64 (rd_T73 l0 i).f1, .int .i64 1, .int .i64 999] (by rfl) rfl rfl ma_ ?_
          with_reducible refine (spec_l1In.calls (rd_T73 l0 i).f1 1 999 b2 _ E2.out).mono ?_
          rintro e w' ⟨rfl, ⟨nd, rfl⟩⟩
          refine ⟨_, rfl, ?_⟩
          refine hK.out _ _ (spec_AreClaims.held (bd_ BK.out) spec_AreClaims.HB_ HY.out) (fun hHeld => ?_)
          clear hK K
          refine norm_ (a' := ?_) ?_ ?_
          rotate_left
          · show Act.put _ (some 23) _ = _
            simp only [Act.put, List.setIfInBounds_toArray, List.set_cons_zero, List.set_cons_succ, i64_w, i32_w]
            rfl
          cases b2
        all_goals first | refine pn_ 8 (some 24) spec_AreClaims.M9 HT_ ?_ | refine pu_ 8 (some 24) spec_AreClaims.M9 HT_ ?_
        all_goals first | refine pn_ 9 (some 25) spec_AreClaims.M10 HT_ ?_ | refine pu_ 9 (some 25) spec_AreClaims.M10 HT_ ?_
        all_goals first | refine pn_ 10 (some 26) spec_AreClaims.M11 HT_ ?_ | refine pu_ 10 (some 26) spec_AreClaims.M11 HT_ ?_
        all_goals first | refine pn_ 11 (some 27) spec_AreClaims.M12 HT_ ?_ | refine pu_ 11 (some 27) spec_AreClaims.M12 HT_ ?_
        all_goals first | refine pn_ 12 (some 28) spec_AreClaims.M13 HT_ ?_ | refine tk_ 12 (some 28) spec_AreClaims.M13 HT_ HW_ hHeld ?_
        all_goals first
        | refine pn_ 13 (some 29) spec_AreClaims.M14 HT_ ?_
        | refine one_ (i := 13) (N := some 29) spec_AreClaims.M14 rfl rfl (one_of HT_.out (by kernel_rfl)) (by decide) (fun K hK => ?_)
          refine goes_ Tryd.func53 (by kernel_rfl) rfl #[.int .i64 (rd_T73 l0 i).f2, .int .i64 1, .int .i64 999] (by rfl) rfl rfl ma_ ?_
          with_reducible refine (spec_l1In.calls (rd_T73 l0 i).f2 1 999 b3 _ E3.out).mono ?_
          rintro e w' ⟨rfl, ⟨nd, rfl⟩⟩
          refine ⟨_, rfl, ?_⟩
          refine hK.out _ _ (spec_AreClaims.held (bd_ BK.out) spec_AreClaims.HB_ HY.out) (fun hHeld => ?_)
          clear hK K
          refine norm_ (a' := ?_) ?_ ?_
          rotate_left
          · show Act.put _ (some 29) _ = _
            simp only [Act.put, List.setIfInBounds_toArray, List.set_cons_zero, List.set_cons_succ, i64_w, i32_w]
            rfl
          cases b3
        all_goals first | refine pn_ 14 (some 30) spec_AreClaims.M15 HT_ ?_ | refine pu_ 14 (some 30) spec_AreClaims.M15 HT_ ?_
        all_goals first | refine pn_ 15 (some 31) spec_AreClaims.M16 HT_ ?_ | refine pu_ 15 (some 31) spec_AreClaims.M16 HT_ ?_
        all_goals first | refine pn_ 16 (some 32) spec_AreClaims.M17 HT_ ?_ | refine pu_ 16 (some 32) spec_AreClaims.M17 HT_ ?_
        all_goals first | refine pn_ 17 (some 33) spec_AreClaims.M18 HT_ ?_ | refine pu_ 17 (some 33) spec_AreClaims.M18 HT_ ?_
        all_goals first | refine pn_ 18 (some 34) spec_AreClaims.M19 HT_ ?_ | refine tk_ 18 (some 34) spec_AreClaims.M19 HT_ HW_ hHeld ?_
        all_goals first
        | refine pn_ 19 (some 35) spec_AreClaims.M20 HT_ ?_
        | refine one_ (i := 19) (N := some 35) spec_AreClaims.M20 rfl rfl (one_of HT_.out (by kernel_rfl)) (by decide) (fun K hK => ?_)
          refine goes_ Tryd.func53 (by kernel_rfl) rfl #[.int .i64 (rd_T73 l0 i).f3, .int .i64 0, .int .i64 100000] (by rfl) rfl rfl ma_ ?_
          with_reducible refine (spec_l1In.calls (rd_T73 l0 i).f3 0 100000 b4 _ E4.out).mono ?_
          rintro e w' ⟨rfl, ⟨nd, rfl⟩⟩
          refine ⟨_, rfl, ?_⟩
          refine hK.out _ _ (spec_AreClaims.held (bd_ BK.out) spec_AreClaims.HB_ HY.out) (fun hHeld => ?_)
          clear hK K
          refine norm_ (a' := ?_) ?_ ?_
          rotate_left
          · show Act.put _ (some 35) _ = _
            simp only [Act.put, List.setIfInBounds_toArray, List.set_cons_zero, List.set_cons_succ, i64_w, i32_w]
            rfl
          cases b4
        all_goals first | refine pn_ 20 (some 36) spec_AreClaims.M21 HT_ ?_ | refine pu_ 20 (some 36) spec_AreClaims.M21 HT_ ?_
        all_goals first | refine pn_ 21 (some 37) spec_AreClaims.M22 HT_ ?_ | refine pu_ 21 (some 37) spec_AreClaims.M22 HT_ ?_
        all_goals first | refine pn_ 22 (some 38) spec_AreClaims.M23 HT_ ?_ | refine pu_ 22 (some 38) spec_AreClaims.M23 HT_ ?_
        all_goals first | refine pn_ 23 (some 39) spec_AreClaims.M24 HT_ ?_ | refine pu_ 23 (some 39) spec_AreClaims.M24 HT_ ?_
        all_goals first | refine pn_ 24 (some 40) spec_AreClaims.M25 HT_ ?_ | refine tk_ 24 (some 40) spec_AreClaims.M25 HT_ HW_ hHeld ?_
        all_goals first
        | refine pn_ 25 (some 41) spec_AreClaims.M26 HT_ ?_
        | refine one_ (i := 25) (N := some 41) spec_AreClaims.M26 rfl rfl (one_of HT_.out (by kernel_rfl)) (by decide) (fun K hK => ?_)
          refine goes_ Tryd.func53 (by kernel_rfl) rfl #[.int .i64 (rd_T73 l0 i).f4, .int .i64 0, .int .i64 3] (by rfl) rfl rfl ma_ ?_
          with_reducible refine (spec_l1In.calls (rd_T73 l0 i).f4 0 3 b5 _ E5.out).mono ?_
          rintro e w' ⟨rfl, ⟨nd, rfl⟩⟩
          refine ⟨_, rfl, ?_⟩
          refine hK.out _ _ (spec_AreClaims.held (bd_ BK.out) spec_AreClaims.HB_ HY.out) (fun hHeld => ?_)
          clear hK K
          refine norm_ (a' := ?_) ?_ ?_
          rotate_left
          · show Act.put _ (some 41) _ = _
            simp only [Act.put, List.setIfInBounds_toArray, List.set_cons_zero, List.set_cons_succ, i64_w, i32_w]
            rfl
          cases b5
        all_goals first | refine pn_ 26 (some 42) spec_AreClaims.M27 HT_ ?_ | refine pu_ 26 (some 42) spec_AreClaims.M27 HT_ ?_
        all_goals first | refine pn_ 27 (some 43) spec_AreClaims.M28 HT_ ?_ | refine pu_ 27 (some 43) spec_AreClaims.M28 HT_ ?_
        all_goals first | refine pn_ 28 (some 44) spec_AreClaims.M29 HT_ ?_ | refine pu_ 28 (some 44) spec_AreClaims.M29 HT_ ?_
        all_goals first | refine pn_ 29 (some 45) spec_AreClaims.M30 HT_ ?_ | refine pu_ 29 (some 45) spec_AreClaims.M30 HT_ ?_
        all_goals first
        | refine pn_ 30 (some 46) spec_AreClaims.M31 HT_ ?_
        | rcases C17.out with ⟨c17, hjw, hj1⟩ | ⟨c17, hjw, hj1⟩ <;> refine pu_ 30 (some 46) spec_AreClaims.M31 HT_ ?_
        all_goals first | refine pn_ 31 (some 47) spec_AreClaims.M32 HT_ ?_ | refine pu_ 31 (some 47) spec_AreClaims.M32 HT_ ?_
        all_goals first | refine pn_ 32 (some 48) spec_AreClaims.M33 HT_ ?_ | refine pu_ 32 (some 48) spec_AreClaims.M33 HT_ ?_
        all_goals first | refine pn_ 33 (some 49) spec_AreClaims.M34 HT_ ?_ | refine pu_ 33 (some 49) spec_AreClaims.M34 HT_ ?_
        all_goals first | refine pn_ 34 (some 50) spec_AreClaims.M35 HT_ ?_ | refine pu_ 34 (some 50) spec_AreClaims.M35 HT_ ?_
        all_goals first | refine pn_ 35 (some 51) spec_AreClaims.M36 HT_ ?_ | refine pu_ 35 (some 51) spec_AreClaims.M36 HT_ ?_
        all_goals first | refine pn_ 36 (some 52) spec_AreClaims.M37 HT_ ?_ | refine pu_ 36 (some 52) spec_AreClaims.M37 HT_ ?_
        all_goals first | refine pn_ 38 (some 54) spec_AreClaims.M38 HT_ ?_ | refine pu_ 38 (some 54) spec_AreClaims.M38 HT_ ?_
        all_goals first | refine pn_ 37 (some 53) spec_AreClaims.M39 HT_ ?_ | refine tk_ 37 (some 53) spec_AreClaims.M39 HT_ HW_ hHeld ?_
        all_goals first | refine pn_ 39 (some 55) spec_AreClaims.M40 HT_ ?_ | refine tk_ 39 (some 55) spec_AreClaims.M40 HT_ HW_ hHeld ?_
        all_goals first | refine pn_ 40 (some 56) spec_AreClaims.M41 HT_ ?_ | refine pu_ 40 (some 56) spec_AreClaims.M41 HT_ ?_
        all_goals first | refine pn_ 41 (some 57) spec_AreClaims.M42 HT_ ?_ | refine pu_ 41 (some 57) spec_AreClaims.M42 HT_ ?_
        all_goals first | refine pn_ 42 (some 58) spec_AreClaims.M43 HT_ ?_ | refine pu_ 42 (some 58) spec_AreClaims.M43 HT_ ?_
        all_goals refine done_ (done_of HT_.out (by kernel_rfl)) ?_
        all_goals try go_wp2
        all_goals go_meet
        all_goals exact ⟨_, rfl, ⟨by unfold spec_AreClaims.okA; (try simp only [hj1]); simp only [F1.out, F2.out, F3.out, F4.out, F5.out]; (try simp only [c17]); (try simp only [c20]); first | rfl | simp⟩, ⟨bd_ BK.out⟩, ⟨spec_AreClaims.HB_⟩⟩
      case rest =>
        clear hx0 hx1 hx2 hx3 hx4 HY C17 p2 q2
        obtain ⟨b, rfl, HA2, BK, HB⟩ := hcut
        cases b with
        | true =>
          have hA : spec_AreClaims.okA l0 i = false := by have := HA2.out; revert this; cases spec_AreClaims.okA l0 i <;> simp
          obtain rfl : r = false := HR.out.symm.trans (spec_AreClaims.badA l0 i I0.out HL.out hA)
          go_wp2
          go_ret
          exact ⟨rfl, spec_AreClaims.HB_⟩
        | false =>
          have hA : Aside0 (spec_AreClaims.okA l0 i = true) := ⟨by have := HA2.out; revert this; cases spec_AreClaims.okA l0 i <;> simp⟩
          clear HA2
          go_wp2
          go_loopg [5] i.toNat (fun gg v w' => ∃ z : Int, v = .int .i64 z ∧ Aside0 (0 ≤ z) ∧ Aside0 (z ≤ i) ∧ Aside0 (i - z ≤ gg) ∧ Aside0 ((l0.take z.toNat).all (spec_AreClaims.okB (rd_T73 l0 i)) = true) ∧ Aside0 (spec_AreClaims.B w' gb (rd_T73 l0 i)) ∧ Aside0 (Below w.heap.size w w'))
          case atStart => exact ⟨0, rfl, ⟨by omega⟩, ⟨by have := I0.out; omega⟩, ⟨by have := I0.out; omega⟩, ⟨by simp⟩, ⟨bd_ BK.out⟩, ⟨spec_AreClaims.HB_⟩⟩
          case round =>
            clear BK HB
            obtain ⟨z, rfl, Z0, Z1, ZG, HZ, BK, HB⟩ := hrel
            by_cases hz : z < i
            · have c36 : decide (z < i) = true := decide_eq_true hz
              have hzl : z < (l0.length : Int) := by have := HL.out; omega
              obtain ⟨ad2, e2, hy⟩ := at_T73 HR0.out z Z0.out hzl
              obtain rfl : ad = ad2 := by injection e2
              have HY := Aside0.mk hy
              have p2 := eq_true Z0.out
              have q2 := eq_true hzl
              have c38 : decide (0 ≤ z) = true := decide_eq_true Z0.out
              have c39 : decide (z < (l0.length : Int)) = true := decide_eq_true hzl
              have HZI := Aside0.mk hz
              have HW2 := Aside0.mk (show wrap64 (z + 1) = z + 1 from by have := Z0.out; have := HM.out; unfold wrap64; omega)
              clear hy e2 hz hzl
              try go_wp2
              have n0_ := Aside0.mk (blk_drew BK.out)
              have n1_ := Aside0.mk (below_drew1 HB.out)
              clear BK HB
              have BK := n0_
              have HB := n1_
              clear n0_ n1_
              refine start_ (n := 21) (S := fun w' => spec_AreClaims.H w' gb (rd_T73 l0 i) (ad.add ((z).toNat * 5)) (rd_T73 l0 z)) (ds := []) spec_AreClaims.m0 (by kernel_rfl) rfl rfl (spec_AreClaims.held (bd_ BK.out) spec_AreClaims.HB_ HY.out) (fun hHeld => ?_); refine with_tabW spec_AreClaims.tab10 spec_AreClaims.bits10 (fun HT_ HW_ => ?_)
              generalize wr.drew = w42 at BK HB hHeld ⊢
              refine pu_ 0 (some 64) spec_AreClaims.m1 HT_ ?_
              refine tk_ 1 (some 65) spec_AreClaims.m2 HT_ HW_ hHeld ?_
              all_goals first
              | refine pn_ 2 (some 66) spec_AreClaims.m3 HT_ ?_
              | rcases spec_AreClaims.two ((rd_T73 l0 i).f4 == 3) with c37 | c37 <;> refine pu_ 2 (some 66) spec_AreClaims.m3 HT_ ?_
              all_goals first | refine pn_ 3 (some 67) spec_AreClaims.m4 HT_ ?_ | refine pu_ 3 (some 67) spec_AreClaims.m4 HT_ ?_
              all_goals first | refine pn_ 4 (some 68) spec_AreClaims.m5 HT_ ?_ | refine pu_ 4 (some 68) spec_AreClaims.m5 HT_ ?_
              all_goals first | refine pn_ 5 (some 69) spec_AreClaims.m6 HT_ ?_ | refine pu_ 5 (some 69) spec_AreClaims.m6 HT_ ?_
              all_goals first | refine pn_ 6 (some 70) spec_AreClaims.m7 HT_ ?_ | refine pu_ 6 (some 70) spec_AreClaims.m7 HT_ ?_
              all_goals first | refine pn_ 7 (some 71) spec_AreClaims.m8 HT_ ?_ | refine pu_ 7 (some 71) spec_AreClaims.m8 HT_ ?_
              all_goals first | refine pn_ 8 (some 72) spec_AreClaims.m9 HT_ ?_ | refine tk_ 8 (some 72) spec_AreClaims.m9 HT_ HW_ hHeld ?_
              all_goals first
              | refine pn_ 9 (some 73) spec_AreClaims.m10 HT_ ?_
              | rcases spec_AreClaims.two ((rd_T73 l0 z).f4 == 3) with c40 | c40 <;> refine pu_ 9 (some 73) spec_AreClaims.m10 HT_ ?_
              all_goals first | refine pn_ 10 (some 74) spec_AreClaims.m11 HT_ ?_ | refine pu_ 10 (some 74) spec_AreClaims.m11 HT_ ?_
              all_goals first | refine pn_ 11 (some 75) spec_AreClaims.m12 HT_ ?_ | refine pu_ 11 (some 75) spec_AreClaims.m12 HT_ ?_
              all_goals first | refine pn_ 12 (some 76) spec_AreClaims.m13 HT_ ?_ | refine pu_ 12 (some 76) spec_AreClaims.m13 HT_ ?_
              all_goals first | refine pn_ 13 (some 77) spec_AreClaims.m14 HT_ ?_ | refine pu_ 13 (some 77) spec_AreClaims.m14 HT_ ?_
              all_goals first | refine pn_ 14 (some 78) spec_AreClaims.m15 HT_ ?_ | refine pu_ 14 (some 78) spec_AreClaims.m15 HT_ ?_
              all_goals first | refine pn_ 15 (some 79) spec_AreClaims.m16 HT_ ?_ | refine pu_ 15 (some 79) spec_AreClaims.m16 HT_ ?_
              all_goals first | refine pn_ 17 (some 81) spec_AreClaims.m17 HT_ ?_ | refine pu_ 17 (some 81) spec_AreClaims.m17 HT_ ?_
              all_goals first | refine pn_ 16 (some 80) spec_AreClaims.m18 HT_ ?_ | refine tk_ 16 (some 80) spec_AreClaims.m18 HT_ HW_ hHeld ?_
              all_goals first | refine pn_ 18 (some 82) spec_AreClaims.m19 HT_ ?_ | refine tk_ 18 (some 82) spec_AreClaims.m19 HT_ HW_ hHeld ?_
              all_goals first
              | refine pn_ 19 (some 83) spec_AreClaims.m20 HT_ ?_
              | rcases spec_AreClaims.two ((rd_T73 l0 z).f2 == (rd_T73 l0 i).f2) with c41 | c41 <;> refine pu_ 19 (some 83) spec_AreClaims.m20 HT_ ?_
              all_goals first | refine pn_ 20 (some 84) spec_AreClaims.m21 HT_ ?_ | refine pu_ 20 (some 84) spec_AreClaims.m21 HT_ ?_
              all_goals refine done_ (done_of HT_.out (by kernel_rfl)) ?_
              all_goals try go_wp2
              all_goals first
              | (obtain rfl : r = false := HR.out.symm.trans (spec_AreClaims.badB l0 i z Z0.out HZI.out HL.out (by unfold spec_AreClaims.okB; rw [c37, c40, c41]; rfl)))
                go_ret
                exact ⟨rfl, spec_AreClaims.HB_⟩
              | go_roundg (i - (z + 1)).toNat
                case measure => have := Z0.out; have := HZI.out; have := ZG.out; omega
                case rel => exact ⟨z + 1, (by first | rw [HW2.out] | rw [i64_w, HW2.out]), ⟨by have := Z0.out; omega⟩, ⟨by have := HZI.out; omega⟩, ⟨by have := HZI.out; omega⟩, ⟨spec_AreClaims.stepB l0 _ z Z0.out (by have := HZI.out; have := HL.out; omega) HZ.out (by unfold spec_AreClaims.okB; (try rw [c37]); (try rw [c40]); (try rw [c41]); first | rfl | simp)⟩, ⟨bd_ BK.out⟩, ⟨spec_AreClaims.HB_⟩⟩
            · have c36 : decide (z < i) = false := decide_eq_false hz
              go_wp2
              go_roundg ((l0.length : Int) - (i + 1)).toNat
              case measure => have := I0.out; have := HL.out; have := IG.out; omega
              case rel =>
                refine ⟨i + 1, (by first | rw [HW1.out] | rw [i64_w, HW1.out]), ⟨by have := I0.out; omega⟩, ⟨by have := HL.out; omega⟩, ⟨by have := HL.out; omega⟩, ⟨?_⟩, ⟨spec_AreClaims.HB_⟩⟩
                have hzi : z = i := by have := Z1.out; omega
                exact spec_AreClaims.step l0 i I0.out HA.out hA.out (hzi ▸ HZ.out)
    · have c2 : decide (i < (l0.length : Int)) = false := decide_eq_false hlt
      obtain rfl : r = decide ((l0.length : Int) ≤ 20) := by
        have hi : i.toNat = l0.length := by have := I1.out; omega
        have := HA.out
        rw [hi] at this
        have e := HR.out
        unfold spec_AreClaims.okL at e
        rw [this, Bool.and_true] at e
        exact e.symm
      go_wp2
      go_ret
      exact ⟨by first | rfl | simp, hd_ HB.out⟩


end Go.Proofs.YtnlgilmbmoiniaaDoor.PFnTasks
