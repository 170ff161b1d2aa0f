-- Written for this claim by a program (a printer turned to this claim); Lean checks it.
import Derived.Test.YtnlgilmbmoiniaaDoorPFnTasksx0
import Derived.Test.YtnlgilmbmoiniaaDoorPFnTasksx3
import Derived.Test.YtnlgilmbmoiniaaDoorPFnTasksx5
namespace Go.Proofs.YtnlgilmbmoiniaaDoor.PFnTasks
open Go.RowKit Go.Proofs.YtnlgilmbmoiniaaDoorW.PrintWords Go.Proofs.YtnlgilmbmoiniaaDoorW.PrintLast Go.Proofs.YtnlgilmbmoiniaaDoorW.PrintMore
attribute [local go_sem] max2_int min2_int max_two min_two max_three min_three max_four min_four   -- for this text's walks alone
set_option linter.unusedVariables false
set_option linter.unusedSimpArgs false

/-! ### spec_SetState: function 77 -/
def spec_SetState.j0 : Nat → List (S73) → Int → List (S73) → Int → Bool → Option ((List (S73)) × Bool)
 | 0, _, _, _, _, _ => none
 | k + 1, x0, x2, x8, x9, x24 => if x24 = true then (some (x8, false)) else (if 0 ≤ x9 then (if x9 < (x0.length : Int) then (if ((rd_T73 x0 x9).f4) = 0 then (if x2 = 1 then (if x9 < (x8.length : Int) then ((some (x8.set (x9 : Int).toNat (⟨(rd_T73 x8 x9).f0, (rd_T73 x8 x9).f1, (rd_T73 x8 x9).f2, (rd_T73 x8 x9).f3, x2⟩ : S73) : List (S73))).bind fun y307 => ((spec_AreClaims.f y307).bind fun t308 => (if t308 = true then (some (y307, true)) else ((some (([] : List (S73)) : List (S73))).bind fun y309 => (if y309.length + x0.length < 3518437208883 then (some ((y309 ++ x0), false)) else (none)))))) else (none)) else (if x2 = 2 then (if x9 < (x8.length : Int) then ((some (x8.set (x9 : Int).toNat (⟨(rd_T73 x8 x9).f0, (rd_T73 x8 x9).f1, (rd_T73 x8 x9).f2, (rd_T73 x8 x9).f3, x2⟩ : S73) : List (S73))).bind fun y315 => ((spec_AreClaims.f y315).bind fun t316 => (if t316 = true then (some (y315, true)) else ((some (([] : List (S73)) : List (S73))).bind fun y317 => (if y317.length + x0.length < 3518437208883 then (some ((y317 ++ x0), false)) else (none)))))) else (none)) else (if ((rd_T73 x0 x9).f4) = 1 then (if x9 < (x8.length : Int) then ((some (x8.set (x9 : Int).toNat (⟨(rd_T73 x8 x9).f0, (rd_T73 x8 x9).f1, (rd_T73 x8 x9).f2, (rd_T73 x8 x9).f3, x2⟩ : S73) : List (S73))).bind fun y323 => (if x2 = 3 then ((spec_AreClaims.f y323).bind fun t324 => (if t324 = true then (some (y323, true)) else ((some (([] : List (S73)) : List (S73))).bind fun y325 => (if y325.length + x0.length < 3518437208883 then (some ((y325 ++ x0), false)) else (none))))) else ((some (([] : List (S73)) : List (S73))).bind fun y331 => (if y331.length + x0.length < 3518437208883 then (some ((y331 ++ x0), false)) else (none))))) else (none)) else (if x9 < (x8.length : Int) then ((some (([] : List (S73)) : List (S73))).bind fun y338 => (if y338.length + x0.length < 3518437208883 then (some ((y338 ++ x0), false)) else (none))) else (none))))) else (if ((rd_T73 x0 x9).f4) = 1 then (if x9 < (x8.length : Int) then ((some (x8.set (x9 : Int).toNat (⟨(rd_T73 x8 x9).f0, (rd_T73 x8 x9).f1, (rd_T73 x8 x9).f2, (rd_T73 x8 x9).f3, x2⟩ : S73) : List (S73))).bind fun y344 => (if x2 = 3 then ((spec_AreClaims.f y344).bind fun t345 => (if t345 = true then (some (y344, true)) else ((some (([] : List (S73)) : List (S73))).bind fun y346 => (if y346.length + x0.length < 3518437208883 then (some ((y346 ++ x0), false)) else (none))))) else ((some (([] : List (S73)) : List (S73))).bind fun y352 => (if y352.length + x0.length < 3518437208883 then (some ((y352 ++ x0), false)) else (none))))) else (none)) else (if x9 < (x8.length : Int) then ((some (([] : List (S73)) : List (S73))).bind fun y359 => (if y359.length + x0.length < 3518437208883 then (some ((y359 ++ x0), false)) else (none))) else (none)))) else (none)) else (none))
def spec_SetState.f (k : Nat) (l0 : List (S73)) (a1 : Int) (a2 : Int) : Option ((List (S73)) × Bool) := (some (([] : List (S73)) : List (S73))).bind fun y298 => (if y298.length + l0.length < 3518437208883 then ((some (y298 ++ l0 : List (S73))).bind fun y301 => ((spec_FindClaim.f k l0 a1).bind fun t304 => (if t304 < 0 then (spec_SetState.j0 k l0 a2 y301 t304 true) else ((spec_AreClaims.f l0).bind fun t305 => (spec_SetState.j0 k l0 a2 y301 t304 (!t305)))))) else (none))
theorem spec_SetState.mono_l : ∀ k, (∀ y0 y1 y2 y3 y4, LeO (spec_SetState.j0 k y0 y1 y2 y3 y4) (spec_SetState.j0 (k + 1) y0 y1 y2 y3 y4))
 | 0 => fun _ _ _ _ _ r h => by simp [spec_SetState.j0] at h
 | k + 1 => by
  have ih0 := spec_SetState.mono_l k
  ·
   intro y0 y1 y2 y3 y4
   unfold spec_SetState.j0
   have jh0 := @spec_FindClaim.mono
   exact mo_
theorem spec_SetState.mono : ∀ a0 a1 a2 k, LeO (spec_SetState.f k a0 a1 a2) (spec_SetState.f (k + 1) a0 a1 a2) := by
 intro a0 a1 a2 k
 have ih0 := spec_SetState.mono_l k
 unfold spec_SetState.f
 have jh0 := @spec_FindClaim.mono
 exact mo_
theorem spec_SetState.ends_ (l0 y301 : List S73) (t304 a2 : Int) (r1 : List S73) (r2 : Bool) (hy : y301 = l0) (hb : t304 < (l0.length : Int)) (h : (if ((rd_T73 l0 t304).f4) = 0 then (if a2 = 1 then (if t304 < (y301.length : Int) then ((some (y301.set (t304 : Int).toNat (⟨(rd_T73 y301 t304).f0, (rd_T73 y301 t304).f1, (rd_T73 y301 t304).f2, (rd_T73 y301 t304).f3, a2⟩ : S73) : List (S73))).bind fun y307 => ((spec_AreClaims.f y307).bind fun t308 => (if t308 = true then (some (y307, true)) else ((some (([] : List (S73)) : List (S73))).bind fun y309 => (if y309.length + l0.length < 3518437208883 then (some ((y309 ++ l0), false)) else (none)))))) else (none)) else (if a2 = 2 then (if t304 < (y301.length : Int) then ((some (y301.set (t304 : Int).toNat (⟨(rd_T73 y301 t304).f0, (rd_T73 y301 t304).f1, (rd_T73 y301 t304).f2, (rd_T73 y301 t304).f3, a2⟩ : S73) : List (S73))).bind fun y315 => ((spec_AreClaims.f y315).bind fun t316 => (if t316 = true then (some (y315, true)) else ((some (([] : List (S73)) : List (S73))).bind fun y317 => (if y317.length + l0.length < 3518437208883 then (some ((y317 ++ l0), false)) else (none)))))) else (none)) else (if ((rd_T73 l0 t304).f4) = 1 then (if t304 < (y301.length : Int) then ((some (y301.set (t304 : Int).toNat (⟨(rd_T73 y301 t304).f0, (rd_T73 y301 t304).f1, (rd_T73 y301 t304).f2, (rd_T73 y301 t304).f3, a2⟩ : S73) : List (S73))).bind fun y323 => (if a2 = 3 then ((spec_AreClaims.f y323).bind fun t324 => (if t324 = true then (some (y323, true)) else ((some (([] : List (S73)) : List (S73))).bind fun y325 => (if y325.length + l0.length < 3518437208883 then (some ((y325 ++ l0), false)) else (none))))) else ((some (([] : List (S73)) : List (S73))).bind fun y331 => (if y331.length + l0.length < 3518437208883 then (some ((y331 ++ l0), false)) else (none))))) else (none)) else (if t304 < (y301.length : Int) then ((some (([] : List (S73)) : List (S73))).bind fun y338 => (if y338.length + l0.length < 3518437208883 then (some ((y338 ++ l0), false)) else (none))) else (none))))) else (if ((rd_T73 l0 t304).f4) = 1 then (if t304 < (y301.length : Int) then ((some (y301.set (t304 : Int).toNat (⟨(rd_T73 y301 t304).f0, (rd_T73 y301 t304).f1, (rd_T73 y301 t304).f2, (rd_T73 y301 t304).f3, a2⟩ : S73) : List (S73))).bind fun y344 => (if a2 = 3 then ((spec_AreClaims.f y344).bind fun t345 => (if t345 = true then (some (y344, true)) else ((some (([] : List (S73)) : List (S73))).bind fun y346 => (if y346.length + l0.length < 3518437208883 then (some ((y346 ++ l0), false)) else (none))))) else ((some (([] : List (S73)) : List (S73))).bind fun y352 => (if y352.length + l0.length < 3518437208883 then (some ((y352 ++ l0), false)) else (none))))) else (none)) else (if t304 < (y301.length : Int) then ((some (([] : List (S73)) : List (S73))).bind fun y359 => (if y359.length + l0.length < 3518437208883 then (some ((y359 ++ l0), false)) else (none))) else (none)))) = some (r1, r2)) :
  (((((rd_T73 l0 t304).f4 == 0) = true ∧ (a2 == 1) = true ∧ True) ∨ (((rd_T73 l0 t304).f4 == 0) = true ∧ (a2 == 1) = false ∧ (a2 == 2) = true) ∨ (((rd_T73 l0 t304).f4 == 0) = false ∧ ((rd_T73 l0 t304).f4 == 1) = true ∧ (a2 == 3) = true)) ∧ ((spec_AreClaims.f (y301.set (t304 : Int).toNat (⟨(rd_T73 y301 t304).f0, (rd_T73 y301 t304).f1, (rd_T73 y301 t304).f2, (rd_T73 y301 t304).f3, a2⟩ : S73)) = some true ∧ (y301.set (t304 : Int).toNat (⟨(rd_T73 y301 t304).f0, (rd_T73 y301 t304).f1, (rd_T73 y301 t304).f2, (rd_T73 y301 t304).f3, a2⟩ : S73)) = r1 ∧ true = r2) ∨ (spec_AreClaims.f (y301.set (t304 : Int).toNat (⟨(rd_T73 y301 t304).f0, (rd_T73 y301 t304).f1, (rd_T73 y301 t304).f2, (rd_T73 y301 t304).f3, a2⟩ : S73)) = some false ∧ l0.length < 3518437208883 ∧ l0 = r1 ∧ false = r2))) ∨
  (((((rd_T73 l0 t304).f4 == 0) = true ∧ (a2 == 1) = false ∧ (a2 == 2) = false ∧ ((rd_T73 l0 t304).f4 == 1) = false) ∨ (((rd_T73 l0 t304).f4 == 0) = false ∧ ((rd_T73 l0 t304).f4 == 1) = true ∧ (a2 == 3) = false ∧ True) ∨ (((rd_T73 l0 t304).f4 == 0) = false ∧ ((rd_T73 l0 t304).f4 == 1) = false ∧ True ∧ True)) ∧ l0.length < 3518437208883 ∧ l0 = r1 ∧ false = r2) := by
  have hy2 := hy.symm
  clear hy
  subst hy2
  have e0 : ∀ x : Int, ∀ n : Int, x ≠ n → (x == n) = false := fun x n g => beq_eq_false_iff_ne.mpr g
  have e1 : ∀ x : Int, ∀ n : Int, x = n → (x == n) = true := fun x n g => beq_iff_eq.mpr g
  have q1 : ∀ l : List S73, ((some ([] : List S73)).bind fun y => (if y.length + l.length < 3518437208883 then some ((y ++ l), false) else none)) = some (r1, r2) → l.length < 3518437208883 ∧ l = r1 ∧ false = r2 := by
    intro l g
    rw [Option.bind_some] at g
    simp only [List.length_nil, Nat.zero_add, List.nil_append] at g
    split at g
    · simp only [Option.some.injEq, Prod.mk.injEq] at g; exact ⟨by assumption, g⟩
    · exact absurd g (by simp)
  have q2 : ∀ s l : List S73, ((spec_AreClaims.f s).bind fun t => (if t = true then some (s, true) else ((some ([] : List S73)).bind fun y => (if y.length + l.length < 3518437208883 then some ((y ++ l), false) else none)))) = some (r1, r2) → (spec_AreClaims.f s = some true ∧ s = r1 ∧ true = r2) ∨ (spec_AreClaims.f s = some false ∧ l.length < 3518437208883 ∧ l = r1 ∧ false = r2) := by
    intro s l g
    obtain ⟨b, g1, g2⟩ := Option.bind_eq_some_iff.mp g
    cases b with
    | true => rw [if_pos rfl] at g2; simp only [Option.some.injEq, Prod.mk.injEq] at g2; exact Or.inl ⟨g1, g2⟩
    | false => rw [if_neg (by decide)] at g2; exact Or.inr ⟨g1, q1 l g2⟩
  by_cases c0 : (rd_T73 l0 t304).f4 = 0
  · rw [if_pos c0] at h
    by_cases c1 : a2 = 1
    · rw [if_pos c1, if_pos hb, Option.bind_some] at h
      exact Or.inl ⟨Or.inl ⟨e1 _ _ c0, e1 _ _ c1, trivial⟩, q2 _ _ h⟩
    · rw [if_neg c1] at h
      by_cases c2 : a2 = 2
      · rw [if_pos c2, if_pos hb, Option.bind_some] at h
        exact Or.inl ⟨Or.inr (Or.inl ⟨e1 _ _ c0, e0 _ _ c1, e1 _ _ c2⟩), q2 _ _ h⟩
      · rw [if_neg c2, if_neg (show ¬ ((rd_T73 l0 t304).f4 = 1) by omega), if_pos hb, Option.bind_some] at h
        exact Or.inr ⟨Or.inl ⟨e1 _ _ c0, e0 _ _ c1, e0 _ _ c2, e0 _ _ (by omega)⟩, q1 _ h⟩
  · rw [if_neg c0] at h
    by_cases c3 : (rd_T73 l0 t304).f4 = 1
    · rw [if_pos c3, if_pos hb, Option.bind_some] at h
      by_cases c4 : a2 = 3
      · rw [if_pos c4] at h
        exact Or.inl ⟨Or.inr (Or.inr ⟨e0 _ _ c0, e1 _ _ c3, e1 _ _ c4⟩), q2 _ _ h⟩
      · rw [if_neg c4] at h
        exact Or.inr ⟨Or.inr (Or.inl ⟨e0 _ _ c0, e1 _ _ c3, e0 _ _ c4, trivial⟩), q1 _ h⟩
    · rw [if_neg c3, if_pos hb, Option.bind_some] at h
      exact Or.inr ⟨Or.inr (Or.inr ⟨e0 _ _ c0, e0 _ _ c3, trivial, trivial⟩), q1 _ h⟩
set_option maxHeartbeats 8000000 in
set_option maxRecDepth 100000 in
theorem spec_SetState.calls (k : Nat) (A0 : Option Addr) (c0 : Nat) (l0 : List (S73)) (a1 : Int) (a2 : Int) (r1 : List (S73)) (r2 : Bool) (w : World) (hr0 : Kd.C k73 w A0 l0.length l0) (hc0 : l0.length ≤ c0) (h : spec_SetState.f k l0 a1 a2 = some (r1, r2)) :
  Calls Tryd.prog 77 #[.slice A0 l0.length c0, .int .i64 a1, .int .i64 a2] w fun e w' => ∃ v0_ : Value, e = .returned (.tuple #[v0_, .bool r2]) ∧ Kd.R k73 73 w' w.heap.size (fun _ => True) v0_ r1 ∧ Below w.heap.size w w' := by
 have HR0 := Aside0.mk hr0
 have HC0 := Aside0.mk hc0
 clear hr0 hc0
 have HB := Aside0.mk (Below.refl w.heap.size w)
 have H : ((some (([] : List (S73)) : List (S73))).bind fun y298 => (if y298.length + l0.length < 3518437208883 then ((some (y298 ++ l0 : List (S73))).bind fun y301 => ((spec_FindClaim.f k l0 a1).bind fun t304 => (if t304 < 0 then (spec_SetState.j0 k l0 a2 y301 t304 true) else ((spec_AreClaims.f l0).bind fun t305 => (spec_SetState.j0 k l0 a2 y301 t304 (!t305)))))) else (none))) = some (r1, r2) := h
 clear h
 obtain ⟨y298, hy298⟩ : ∃ y_ : List (S73), y_ = (([] : List (S73))) := ⟨_, rfl⟩
 replace H : (if y298.length + l0.length < 3518437208883 then ((some (y298 ++ l0 : List (S73))).bind fun y301 => ((spec_FindClaim.f k l0 a1).bind fun t304 => (if t304 < 0 then (spec_SetState.j0 k l0 a2 y301 t304 true) else ((spec_AreClaims.f l0).bind fun t305 => (spec_SetState.j0 k l0 a2 y301 t304 (!t305)))))) else (none)) = some (r1, r2) := by first | (rw [hy298]; with_reducible exact H) | (have H2_ := (Option.bind_some _ _).symm.trans H; rw [hy298]; with_reducible exact H2_) | (have H2_ := (Option.bind_some _ _).symm.trans H; with_reducible exact H2_) | with_reducible exact H | (rw [hy298]; exact H) | exact H
 have Ny298 := Aside0.mk hy298
 clear hy298
 by_cases c4 : y298.length + l0.length < 3518437208883
 ·
  rw [if_pos c4] at H
  have LMc4 := Aside0.mk c4
  clear c4
  obtain ⟨y301, hy301⟩ : ∃ y_ : List (S73), y_ = (y298 ++ l0) := ⟨_, rfl⟩
  replace H : ((spec_FindClaim.f k l0 a1).bind fun t304 => (if t304 < 0 then (spec_SetState.j0 k l0 a2 y301 t304 true) else ((spec_AreClaims.f l0).bind fun t305 => (spec_SetState.j0 k l0 a2 y301 t304 (!t305))))) = some (r1, r2) := by first | (rw [hy301]; with_reducible exact H) | (have H2_ := (Option.bind_some _ _).symm.trans H; rw [hy301]; with_reducible exact H2_) | (have H2_ := (Option.bind_some _ _).symm.trans H; with_reducible exact H2_) | with_reducible exact H | (rw [hy301]; exact H) | exact H
  have Ny301 := Aside0.mk hy301
  clear hy301
  replace H := Option.bind_eq_some_iff.mp H
  obtain ⟨t304, A50, H⟩ := H
  replace H : (if t304 < 0 then (spec_SetState.j0 k l0 a2 y301 t304 true) else ((spec_AreClaims.f l0).bind fun t305 => (spec_SetState.j0 k l0 a2 y301 t304 (!t305)))) = some (r1, r2) := H
  have A5 := Aside0.mk A50
  clear A50
  have HC6 := Aside0.mk H
  clear H
  go_enter Tryd.func77, Tryd.ntmps77
  go_upto_region 3 with (first | ((with_reducible refine gate_dst (N := 12) rfl ?_); refine Kd.R_lit k73 _ 73 ?hg (N := 12) ?hd (xs := ([] : List (S73))) (inner := []) (ok := fun _ => True) (okp := fun _ => True) ?hr ?hp (fun _ hk => hk) trivial (Below.refl _ _) (Nat.le_refl _) (by simp) ?_; (case hd => rfl); (case hg => rfl); (case hr => first | (go_simp; done) | (go_simp; rfl)); (case hp => exact (Reps.none _ _)); intro v299 w7 ho8 hb hg_ hnew_; clear hg_ hnew_; (first | rw [← Ny298.out] at ho8 | (simp only [Int.reduceToNat] at ho8; rw [← Ny298.out] at ho8)); have HO300 := Aside0.mk (Kd.R_lower ho8 (below_size (hd_ HB.out))); have n1_ := Aside0.mk (below_step (hd_ HB.out) hb); clear HB; have HB := n1_; clear n1_; clear hb ho8) | ((with_reducible refine gate_builtin (b := .append) (xs := #[.tmp 12, .tmp 13]) rfl ?_); at_builtin; refine Kd.R_append_rows k73 (w0 := w) w.heap.size rfl (.tmp 12) (.tmp 13) 25 73 (.agg #[(.int .i64 0), (.int .i64 0), (.int .i64 0), (.int .i64 0), (.int .i64 0)]) 40 rfl Tryd.underlying25 info73 rfl (by decide) (by omega) v299 y298 l0 _ _ _ (fun _ => True) (fun _ => False) rfl rfl ?aO ?aR (fun _ _ h => h) (fun _ h => h.elim) ?aF ?aB ?aS ?aL ?_; (case aR => repeat (first | exact (Kd.C_below HR0.out HB.out) | (with_reducible refine Kd.C_alloc ?_ _) | (with_reducible refine Kd.C_drewN ?_ _) | (with_reducible refine Kd.C_drew ?_))); (case aB => exact hd_ HB.out); (case aF => exact (fun _ _ => trivial)); (case aO => exact (rd_ HO300.out)); (case aS => exact (below_size (hd_ HB.out))); (case aL => have := LMc4.out; omega); intro v302 w9 ho hb hg hat; rw [← Ny301.out] at ho; have n0_ := Aside0.mk (hb); have HO303 := Aside0.mk (ho); clear HB; clear HO300; have HB := n0_; clear n0_; clear ho hb hg hat) | ((with_reducible refine gate_callee (f := 85) rfl ?_); refine goesL_ (some 17) rfl rfl Tryd.func85 (by kernel_rfl) rfl #[.slice A0 l0.length c0, .int .i64 a1] rfl ma_ ?_; (with_reducible refine (spec_FindClaim.calls k _ _ l0 a1 t304 _ ?side1 ?side2 A5.out).mono ?_); (case side1 => exact cd_ (Kd.C_below HR0.out HB.out)); (case side2 => exact HC0.out); rintro e w' ⟨rfl, ⟨nd, rfl⟩⟩; refine ⟨_, rfl, ?_⟩))
  (try simp only [Act.put, List.setIfInBounds_toArray, List.set_cons_zero, List.set_cons_succ])
  go_cut [24] (fun v24 wc => ∃ (kq : Nat) (x24_5 : Bool), v24 = .bool x24_5 ∧ Aside0 (spec_SetState.j0 kq l0 a2 y301 t304 x24_5 = some (r1, r2)) ∧ Aside0 (kq ≤ k) ∧ Aside0 (Kd.R k73 73 wc w.heap.size (fun _ => True) v302 y301) ∧ Aside0 (Below w.heap.size w wc))
  case first =>
   have H := HC6.out
   clear HC6
   by_cases c10 : t304 < 0
   ·
    rw [if_pos c10] at H
    have c10b0 : decide (t304 < 0) = true := decide_eq_true c10
    clear c10
    (first | rw [c10b0] | (simp only [i64_w, i32_w]; rw [c10b0]) | skip)
    have H' := Aside0.mk H
    clear H
    go_wp2
    go_meet
    case rel => exact ⟨_, (true), rs_, H', ⟨by first | omega | exact Nat.le_refl _⟩, ⟨rd_ HO303.out⟩, ⟨hd_ HB.out⟩⟩
   ·
    rw [if_neg c10] at H
    have c10b0 : decide (t304 < 0) = false := decide_eq_false c10
    clear c10
    (first | rw [c10b0] | (simp only [i64_w, i32_w]; rw [c10b0]) | skip)
    replace H := Option.bind_eq_some_iff.mp H
    obtain ⟨t305, A110, H⟩ := H
    replace H : (spec_SetState.j0 k l0 a2 y301 t304 (!t305)) = some (r1, r2) := H
    have A11 := Aside0.mk A110
    clear A110
    have H' := Aside0.mk H
    clear H
    go_wp2_with (first | (go_at_call 84; (with_reducible refine (spec_AreClaims.calls _ _ l0 t305 _ ?side1 ?side2 A11.out).mono ?_); (case side1 => exact cd_ (Kd.C_below HR0.out HB.out)); (case side2 => exact HC0.out); rintro e w12 ⟨rfl, hb⟩; have n0_ := Aside0.mk (Kd.R_below (rd_ HO303.out) hb); have n1_ := Aside0.mk (below_step (hd_ HB.out) hb); clear HO303; clear HB; have HO303 := n0_; have HB := n1_; clear n0_ n1_; (try clear hb)))
    go_meet
    case rel => exact ⟨_, (!t305), rs_, H', ⟨by first | omega | exact Nat.le_refl _⟩, ⟨rd_ HO303.out⟩, ⟨hd_ HB.out⟩⟩
  case rest =>
   clear HC6
   try clear c1
   try clear p2
   try clear c4
   try clear c7
   try clear c8
   try clear c10
   try clear c10b0
   obtain ⟨kq, x24_5, rfl, HA, HJ5, HO_8, HB⟩ := hcut
   cases kq with
   | zero => exact absurd HA.out (by simp [spec_SetState.j0])
   | succ kj5 =>
    have H := HA.out
    clear HA
    simp only [spec_SetState.j0] at H
    by_cases c13 : x24_5 = true
    ·
     subst c13
     have H1 : (some (y301, false)) = some (r1, r2) := by rw [if_pos rfl] at H; exact H
     clear H
     have H := H1
     clear H1
     simp only [Option.some.injEq, Prod.mk.injEq] at H
     obtain ⟨rfl, rfl⟩ := H
     go_wp2
     go_ret2
     exact ⟨_, by first | rfl | (simp [errW_none, errW_some] <;> rfl) | (simp [*, errW_none, errW_some] <;> rfl), rd_ HO_8.out, hd_ HB.out⟩
    ·
     replace c13 := Bool.eq_false_iff.mpr c13
     subst c13
     have H1 : (if 0 ≤ t304 then (if t304 < (l0.length : Int) then (if ((rd_T73 l0 t304).f4) = 0 then (if a2 = 1 then (if t304 < (y301.length : Int) then ((some (y301.set (t304 : Int).toNat (⟨(rd_T73 y301 t304).f0, (rd_T73 y301 t304).f1, (rd_T73 y301 t304).f2, (rd_T73 y301 t304).f3, a2⟩ : S73) : List (S73))).bind fun y307 => ((spec_AreClaims.f y307).bind fun t308 => (if t308 = true then (some (y307, true)) else ((some (([] : List (S73)) : List (S73))).bind fun y309 => (if y309.length + l0.length < 3518437208883 then (some ((y309 ++ l0), false)) else (none)))))) else (none)) else (if a2 = 2 then (if t304 < (y301.length : Int) then ((some (y301.set (t304 : Int).toNat (⟨(rd_T73 y301 t304).f0, (rd_T73 y301 t304).f1, (rd_T73 y301 t304).f2, (rd_T73 y301 t304).f3, a2⟩ : S73) : List (S73))).bind fun y315 => ((spec_AreClaims.f y315).bind fun t316 => (if t316 = true then (some (y315, true)) else ((some (([] : List (S73)) : List (S73))).bind fun y317 => (if y317.length + l0.length < 3518437208883 then (some ((y317 ++ l0), false)) else (none)))))) else (none)) else (if ((rd_T73 l0 t304).f4) = 1 then (if t304 < (y301.length : Int) then ((some (y301.set (t304 : Int).toNat (⟨(rd_T73 y301 t304).f0, (rd_T73 y301 t304).f1, (rd_T73 y301 t304).f2, (rd_T73 y301 t304).f3, a2⟩ : S73) : List (S73))).bind fun y323 => (if a2 = 3 then ((spec_AreClaims.f y323).bind fun t324 => (if t324 = true then (some (y323, true)) else ((some (([] : List (S73)) : List (S73))).bind fun y325 => (if y325.length + l0.length < 3518437208883 then (some ((y325 ++ l0), false)) else (none))))) else ((some (([] : List (S73)) : List (S73))).bind fun y331 => (if y331.length + l0.length < 3518437208883 then (some ((y331 ++ l0), false)) else (none))))) else (none)) else (if t304 < (y301.length : Int) then ((some (([] : List (S73)) : List (S73))).bind fun y338 => (if y338.length + l0.length < 3518437208883 then (some ((y338 ++ l0), false)) else (none))) else (none))))) else (if ((rd_T73 l0 t304).f4) = 1 then (if t304 < (y301.length : Int) then ((some (y301.set (t304 : Int).toNat (⟨(rd_T73 y301 t304).f0, (rd_T73 y301 t304).f1, (rd_T73 y301 t304).f2, (rd_T73 y301 t304).f3, a2⟩ : S73) : List (S73))).bind fun y344 => (if a2 = 3 then ((spec_AreClaims.f y344).bind fun t345 => (if t345 = true then (some (y344, true)) else ((some (([] : List (S73)) : List (S73))).bind fun y346 => (if y346.length + l0.length < 3518437208883 then (some ((y346 ++ l0), false)) else (none))))) else ((some (([] : List (S73)) : List (S73))).bind fun y352 => (if y352.length + l0.length < 3518437208883 then (some ((y352 ++ l0), false)) else (none))))) else (none)) else (if t304 < (y301.length : Int) then ((some (([] : List (S73)) : List (S73))).bind fun y359 => (if y359.length + l0.length < 3518437208883 then (some ((y359 ++ l0), false)) else (none))) else (none)))) else (none)) else (none)) = some (r1, r2) := by rw [if_neg (show ¬ (false = true) by decide)] at H; exact H
     clear H
     have H := H1
     clear H1
     by_cases c14 : 0 ≤ t304
     ·
      rw [if_pos c14] at H
      have c14b0 : decide (0 ≤ t304) = true := decide_eq_true c14
      clear c14
      by_cases c15 : t304 < (l0.length : Int)
      ·
       rw [if_pos c15] at H
       have c15b0 : decide (t304 < (l0.length : Int)) = true := decide_eq_true c15
       clear c15
       have hyl_ : y301 = l0 := by rw [Ny301.out, Ny298.out, List.nil_append]
       have hb_ : t304 < (l0.length : Int) := of_decide_eq_true c15b0
       have c18b0 : decide (t304 < (y301.length : Int)) = true := decide_eq_true (by rw [hyl_]; exact hb_)
       have HE_ := Aside0.mk (spec_SetState.ends_ l0 y301 t304 a2 r1 r2 hyl_ hb_ H)
       have HYL_ := Aside0.mk hyl_
       clear H hyl_ hb_
       rcases HE_.out with ⟨hk_, ⟨ha_, g1_, g2_⟩ | ⟨ha_, hl_, g1_, g2_⟩⟩ | ⟨hk_, hl_, g1_, g2_⟩
       ·
        clear HE_
        obtain ⟨y307, hy307⟩ : ∃ y_ : List S73, y_ = (y301.set (t304 : Int).toNat (⟨(rd_T73 y301 t304).f0, (rd_T73 y301 t304).f1, (rd_T73 y301 t304).f2, (rd_T73 y301 t304).f3, a2⟩ : S73)) := ⟨_, rfl⟩
        rw [← hy307] at ha_ g1_
        have Ny307 := Aside0.mk hy307
        have A20 := Aside0.mk ha_
        clear hy307 ha_
        subst g1_
        subst g2_
        rcases hk_ with ⟨k0_, k1_, k2_⟩ | ⟨k0_, k1_, k2_⟩ | ⟨k0_, k1_, k2_⟩
        all_goals (
         have p306 : 0 ≤ (t304 : Int) := of_decide_eq_true as_
         have q306 : t304 < (l0.length : Int) := of_decide_eq_true as_
         obtain ⟨ad306, e306, hx306_0, hx306_1, hx306_2, hx306_3, hx306_4⟩ := at_T73 HR0.out t304 p306 q306
         cases e306
         replace hx306_0 := cb_ HB.out hx306_0
         replace hx306_1 := cb_ HB.out hx306_1
         replace hx306_2 := cb_ HB.out hx306_2
         replace hx306_3 := cb_ HB.out hx306_3
         replace hx306_4 := cb_ HB.out hx306_4
         replace p306 := eq_true p306
         replace q306 := eq_true q306
         have p19 : 0 ≤ (t304 : Int) := of_decide_eq_true as_
         have q19 : (t304 : Int) < ((y301.length : Int) : Int) := of_decide_eq_true as_
         obtain ⟨go19, co19, eo19, gb19, gl19, cl19, HG19⟩ := Kd.R_form HO_8.out (by omega)
         (first | cases eo19 | (injection eo19 with ea_ en_ ec_; (first | subst ea_ | (injection ea_ with ea_; subst ea_)); subst ec_; clear en_))
         have GB19 := Aside0.mk gb19
         have GG19 := Aside0.mk HG19
         clear gb19 gl19 HG19
         obtain ⟨ce19, hcl19, hM19, hcc19, hfr19⟩ := Kd.R_elem HO_8.out z73 (t304 : Int) p19 q19
         obtain rfl := k73_openM hM19
         have hx19_0 : wc.cell? ⟨go19, (t304 : Int).toNat * 5, none⟩ = some (.int .i64 ((rd_T73 y301 t304).f0)) := hcc19 0 _ rfl
         have hx19_1 : wc.cell? ⟨go19, (t304 : Int).toNat * 5 + 1, none⟩ = some (.int .i64 ((rd_T73 y301 t304).f1)) := hcc19 1 _ rfl
         have hx19_2 : wc.cell? ⟨go19, (t304 : Int).toNat * 5 + 2, none⟩ = some (.int .i64 ((rd_T73 y301 t304).f2)) := hcc19 2 _ rfl
         have hx19_3 : wc.cell? ⟨go19, (t304 : Int).toNat * 5 + 3, none⟩ = some (.int .i64 ((rd_T73 y301 t304).f3)) := hcc19 3 _ rfl
         have hx19_4 : wc.cell? ⟨go19, (t304 : Int).toNat * 5 + 4, none⟩ = some (.int .i64 ((rd_T73 y301 t304).f4)) := hcc19 4 _ rfl
         have hf19_0 : wc.frozen? ⟨go19, (t304 : Int).toNat * 5, none⟩ = false := hfr19 0
         have hf19_1 : wc.frozen? ⟨go19, (t304 : Int).toNat * 5 + 1, none⟩ = false := hfr19 1
         have hf19_2 : wc.frozen? ⟨go19, (t304 : Int).toNat * 5 + 2, none⟩ = false := hfr19 2
         have hf19_3 : wc.frozen? ⟨go19, (t304 : Int).toNat * 5 + 3, none⟩ = false := hfr19 3
         have hf19_4 : wc.frozen? ⟨go19, (t304 : Int).toNat * 5 + 4, none⟩ = false := hfr19 4
         clear hcl19 hcc19 hfr19 hM19
         replace p19 := eq_true p19
         replace q19 := eq_true q19
         have HX22 := Aside0.mk (show Kd.R k73 73 wc w.heap.size (fun _ => True) (.slice (some ⟨go19, 0, none⟩) y301.length co19) y301 from (rd_ HO_8.out))
         obtain ⟨ce22, hcl22, hM22, hcc22, hfr22⟩ := Kd.R_elem HX22.out z73 (t304 : Int) (of_decide_eq_true as_) (by have h_ : (t304 : Int) < ((y301.length : Int) : Int) := of_decide_eq_true as_; first | exact h_ | (have e_ := (Kd.R_reads' HO_8.out).1; omega) | simpa using h_)
         obtain rfl := k73_openM hM22
         have HP22 := Kd.R_seg HX22.out (t304 : Int) (of_decide_eq_true as_) (by have h_ : (t304 : Int) < ((y301.length : Int) : Int) := of_decide_eq_true as_; first | exact h_ | (have e_ := (Kd.R_reads' HO_8.out).1; omega) | simpa using h_) (seg := [.int .i64 a2]) (j := 4) hcl22 hcc22 (show 5 ≤ 5 from by decide) (x' := (⟨(rd_T73 y301 t304).f0, (rd_T73 y301 t304).f1, (rd_T73 y301 t304).f2, (rd_T73 y301 t304).f3, a2⟩ : S73)) (k73_mkM _ _ _ (⟨(rd_T73 y301 t304).f0, (rd_T73 y301 t304).f1, (rd_T73 y301 t304).f2, (rd_T73 y301 t304).f3, a2⟩ : S73) ) (fun _ hk => hk)
         have hx22_4 := hcc22 4 _ rfl
         (try simp only [show (k73).sz = 5 from rfl, Nat.mul_one, Nat.add_zero] at hx22_4)
         have hf22_4 := hfr22 4
         (try simp only [show (k73).sz = 5 from rfl, Nat.mul_one, Nat.add_zero] at hf22_4)
         clear hcl22 hcc22 hfr22 hM22
         go_wp2_with (first | ((with_reducible refine gate_store (t := 3) (p := 53) rfl ?_); refine store_event (t := 3) (p := 53) (v := ?vo_w23) (w1 := (wc.setCell ⟨go19, (t304 : Int).toNat * 5 + 4, none⟩ (.int .i64 a2))) ?hg ?ho ?hn ?hr ?_; (case ho => rfl); (case hg => rfl); (case hn => rfl); (case hr => first | (go_simp; done) | (go_simp; rfl)); intro w23 hw; have hg : wc.grownBy w23 (some go19) := (by rw [hw]; exact HP22.2); have hp_ : Kd.R k73 73 w23 w.heap.size (fun _ => True) (.slice (some ⟨go19, 0, none⟩) y301.length co19) y307 := (by rw [hw, Ny307.out]; exact HP22.1); clear HP22; have n0_ := Aside0.mk (hp_); have n1_ := Aside0.mk ((by rw [hw]; exact below_set (HB.out) GB19.out : Below w.heap.size w w23)); clear HO_8; clear HB; have HO_8 := n0_; have HB := n1_; clear n0_ n1_; clear hg hw hp_) | (go_at_call 84; refine calls_of_args (args' := #[.slice (some ⟨go19, 0, none⟩) y307.length co19]) (by first | (rw [show y307.length = y301.length from (Kd.R_reads' HO_8.out).1.symm] <;> rfl) | rfl) ?_; (with_reducible refine (spec_AreClaims.calls _ _ y307 true _ ?side1 ?side2 A20.out).mono ?_); (case side1 => exact cd_ (Kd.R_reads' HO_8.out).2.2); (case side2 => rw [show y307.length = y301.length from (Kd.R_reads' HO_8.out).1.symm]; exact (Kd.R_reads' HO_8.out).2.1); rintro e w24 ⟨rfl, hb⟩; have n0_ := Aside0.mk (Kd.R_below (rd_ HO_8.out) hb); have n1_ := Aside0.mk (below_step (hd_ HB.out) hb); clear HO_8; clear HB; have HO_8 := n0_; have HB := n1_; clear n0_ n1_; (try clear hb)))
         go_ret2
         exact ⟨_, by first | rfl | (simp [errW_none, errW_some] <;> rfl) | (simp [*, errW_none, errW_some] <;> rfl), rd_ HO_8.out, hd_ HB.out⟩
         )
       ·
        clear HE_
        obtain ⟨y307, hy307⟩ : ∃ y_ : List S73, y_ = (y301.set (t304 : Int).toNat (⟨(rd_T73 y301 t304).f0, (rd_T73 y301 t304).f1, (rd_T73 y301 t304).f2, (rd_T73 y301 t304).f3, a2⟩ : S73)) := ⟨_, rfl⟩
        rw [← hy307] at ha_
        have Ny307 := Aside0.mk hy307
        have A20 := Aside0.mk ha_
        clear hy307 ha_
        obtain ⟨y309, hy309⟩ : ∃ y_ : List S73, y_ = ([] : List S73) := ⟨_, rfl⟩
        obtain ⟨y312, hy312⟩ : ∃ y_ : List S73, y_ = y309 ++ l0 := ⟨_, rfl⟩
        have LMc25 := Aside0.mk (show y309.length + l0.length < 3518437208883 from by rw [hy309, List.length_nil]; omega)
        have g3_ : y312 = r1 := by rw [hy312, hy309, List.nil_append]; exact g1_
        have Ny309 := Aside0.mk hy309
        have Ny312 := Aside0.mk hy312
        clear hy309 hy312 g1_ hl_
        subst g3_
        subst g2_
        rcases hk_ with ⟨k0_, k1_, k2_⟩ | ⟨k0_, k1_, k2_⟩ | ⟨k0_, k1_, k2_⟩
        all_goals (
         have p306 : 0 ≤ (t304 : Int) := of_decide_eq_true as_
         have q306 : t304 < (l0.length : Int) := of_decide_eq_true as_
         obtain ⟨ad306, e306, hx306_0, hx306_1, hx306_2, hx306_3, hx306_4⟩ := at_T73 HR0.out t304 p306 q306
         cases e306
         replace hx306_0 := cb_ HB.out hx306_0
         replace hx306_1 := cb_ HB.out hx306_1
         replace hx306_2 := cb_ HB.out hx306_2
         replace hx306_3 := cb_ HB.out hx306_3
         replace hx306_4 := cb_ HB.out hx306_4
         replace p306 := eq_true p306
         replace q306 := eq_true q306
         have p19 : 0 ≤ (t304 : Int) := of_decide_eq_true as_
         have q19 : (t304 : Int) < ((y301.length : Int) : Int) := of_decide_eq_true as_
         obtain ⟨go19, co19, eo19, gb19, gl19, cl19, HG19⟩ := Kd.R_form HO_8.out (by omega)
         (first | cases eo19 | (injection eo19 with ea_ en_ ec_; (first | subst ea_ | (injection ea_ with ea_; subst ea_)); subst ec_; clear en_))
         have GB19 := Aside0.mk gb19
         have GG19 := Aside0.mk HG19
         clear gb19 gl19 HG19
         obtain ⟨ce19, hcl19, hM19, hcc19, hfr19⟩ := Kd.R_elem HO_8.out z73 (t304 : Int) p19 q19
         obtain rfl := k73_openM hM19
         have hx19_0 : wc.cell? ⟨go19, (t304 : Int).toNat * 5, none⟩ = some (.int .i64 ((rd_T73 y301 t304).f0)) := hcc19 0 _ rfl
         have hx19_1 : wc.cell? ⟨go19, (t304 : Int).toNat * 5 + 1, none⟩ = some (.int .i64 ((rd_T73 y301 t304).f1)) := hcc19 1 _ rfl
         have hx19_2 : wc.cell? ⟨go19, (t304 : Int).toNat * 5 + 2, none⟩ = some (.int .i64 ((rd_T73 y301 t304).f2)) := hcc19 2 _ rfl
         have hx19_3 : wc.cell? ⟨go19, (t304 : Int).toNat * 5 + 3, none⟩ = some (.int .i64 ((rd_T73 y301 t304).f3)) := hcc19 3 _ rfl
         have hx19_4 : wc.cell? ⟨go19, (t304 : Int).toNat * 5 + 4, none⟩ = some (.int .i64 ((rd_T73 y301 t304).f4)) := hcc19 4 _ rfl
         have hf19_0 : wc.frozen? ⟨go19, (t304 : Int).toNat * 5, none⟩ = false := hfr19 0
         have hf19_1 : wc.frozen? ⟨go19, (t304 : Int).toNat * 5 + 1, none⟩ = false := hfr19 1
         have hf19_2 : wc.frozen? ⟨go19, (t304 : Int).toNat * 5 + 2, none⟩ = false := hfr19 2
         have hf19_3 : wc.frozen? ⟨go19, (t304 : Int).toNat * 5 + 3, none⟩ = false := hfr19 3
         have hf19_4 : wc.frozen? ⟨go19, (t304 : Int).toNat * 5 + 4, none⟩ = false := hfr19 4
         clear hcl19 hcc19 hfr19 hM19
         replace p19 := eq_true p19
         replace q19 := eq_true q19
         have HX26 := Aside0.mk (show Kd.R k73 73 wc w.heap.size (fun _ => True) (.slice (some ⟨go19, 0, none⟩) y301.length co19) y301 from (rd_ HO_8.out))
         obtain ⟨ce26, hcl26, hM26, hcc26, hfr26⟩ := Kd.R_elem HX26.out z73 (t304 : Int) (of_decide_eq_true as_) (by have h_ : (t304 : Int) < ((y301.length : Int) : Int) := of_decide_eq_true as_; first | exact h_ | (have e_ := (Kd.R_reads' HO_8.out).1; omega) | simpa using h_)
         obtain rfl := k73_openM hM26
         have HP26 := Kd.R_seg HX26.out (t304 : Int) (of_decide_eq_true as_) (by have h_ : (t304 : Int) < ((y301.length : Int) : Int) := of_decide_eq_true as_; first | exact h_ | (have e_ := (Kd.R_reads' HO_8.out).1; omega) | simpa using h_) (seg := [.int .i64 a2]) (j := 4) hcl26 hcc26 (show 5 ≤ 5 from by decide) (x' := (⟨(rd_T73 y301 t304).f0, (rd_T73 y301 t304).f1, (rd_T73 y301 t304).f2, (rd_T73 y301 t304).f3, a2⟩ : S73)) (k73_mkM _ _ _ (⟨(rd_T73 y301 t304).f0, (rd_T73 y301 t304).f1, (rd_T73 y301 t304).f2, (rd_T73 y301 t304).f3, a2⟩ : S73) ) (fun _ hk => hk)
         have hx26_4 := hcc26 4 _ rfl
         (try simp only [show (k73).sz = 5 from rfl, Nat.mul_one, Nat.add_zero] at hx26_4)
         have hf26_4 := hfr26 4
         (try simp only [show (k73).sz = 5 from rfl, Nat.mul_one, Nat.add_zero] at hf26_4)
         clear hcl26 hcc26 hfr26 hM26
         go_wp2_with (first | ((with_reducible refine gate_store (t := 3) (p := 53) rfl ?_); refine store_event (t := 3) (p := 53) (v := ?vo_w27) (w1 := (wc.setCell ⟨go19, (t304 : Int).toNat * 5 + 4, none⟩ (.int .i64 a2))) ?hg ?ho ?hn ?hr ?_; (case ho => rfl); (case hg => rfl); (case hn => rfl); (case hr => first | (go_simp; done) | (go_simp; rfl)); intro w27 hw; have hg : wc.grownBy w27 (some go19) := (by rw [hw]; exact HP26.2); have hp_ : Kd.R k73 73 w27 w.heap.size (fun _ => True) (.slice (some ⟨go19, 0, none⟩) y301.length co19) y307 := (by rw [hw, Ny307.out]; exact HP26.1); clear HP26; have n0_ := Aside0.mk (hp_); have n1_ := Aside0.mk ((by rw [hw]; exact below_set (HB.out) GB19.out : Below w.heap.size w w27)); clear HO_8; clear HB; have HO_8 := n0_; have HB := n1_; clear n0_ n1_; clear hg hw hp_) | (go_at_call 84; refine calls_of_args (args' := #[.slice (some ⟨go19, 0, none⟩) y307.length co19]) (by first | (rw [show y307.length = y301.length from (Kd.R_reads' HO_8.out).1.symm] <;> rfl) | rfl) ?_; (with_reducible refine (spec_AreClaims.calls _ _ y307 false _ ?side1 ?side2 A20.out).mono ?_); (case side1 => exact cd_ (Kd.R_reads' HO_8.out).2.2); (case side2 => rw [show y307.length = y301.length from (Kd.R_reads' HO_8.out).1.symm]; exact (Kd.R_reads' HO_8.out).2.1); rintro e w28 ⟨rfl, hb⟩; have n0_ := Aside0.mk (Kd.R_below (rd_ HO_8.out) hb); have n1_ := Aside0.mk (below_step (hd_ HB.out) hb); clear HO_8; clear HB; have HO_8 := n0_; have HB := n1_; clear n0_ n1_; (try clear hb)) | ((with_reducible refine gate_dst (N := 61) rfl ?_); refine Kd.R_lit k73 _ 73 ?hg (N := 61) ?hd (xs := ([] : List (S73))) (inner := []) (ok := fun _ => True) (okp := fun _ => True) ?hr ?hp (fun _ hk => hk) trivial (Below.refl _ _) (Nat.le_refl _) (by simp) ?_; (case hd => rfl); (case hg => rfl); (case hr => first | (go_simp; done) | (go_simp; rfl)); (case hp => exact (Reps.none _ _)); intro v310 w29 ho30 hb hg_ hnew_; clear hg_ hnew_; (first | rw [← Ny309.out] at ho30 | (simp only [Int.reduceToNat] at ho30; rw [← Ny309.out] at ho30)); have n0_ := Aside0.mk (Kd.R_elder' (rd_ HO_8.out) (Kd.R_base ho30) hb); have HO311 := Aside0.mk (Kd.R_lower (Kd.R_new' ho30 (Kd.R_lt (rd_ HO_8.out))) (below_size (hd_ HB.out))); have n2_ := Aside0.mk (below_step (hd_ HB.out) hb); clear HO_8; clear HB; have HO_8 := n0_; have HB := n2_; clear n0_ n2_; clear hb ho30) | ((with_reducible refine gate_builtin (b := .append) (xs := #[.tmp 61, .tmp 62]) rfl ?_); at_builtin; refine Kd.R_append_rows k73 (w0 := w) w.heap.size rfl (.tmp 61) (.tmp 62) 25 73 (.agg #[(.int .i64 0), (.int .i64 0), (.int .i64 0), (.int .i64 0), (.int .i64 0)]) 40 rfl Tryd.underlying25 info73 rfl (by decide) (by omega) v310 y309 l0 _ _ _ (fun k_ => some k_ ≠ (.slice (some ⟨go19, 0, none⟩) y301.length co19 : Value).ownBlock) (fun _ => False) rfl rfl ?aO ?aR (fun _ _ h => h) (fun _ h => h.elim) ?aF ?aB ?aS ?aL ?_; (case aR => repeat (first | exact (Kd.C_below HR0.out HB.out) | (with_reducible refine Kd.C_alloc ?_ _) | (with_reducible refine Kd.C_drewN ?_ _) | (with_reducible refine Kd.C_drew ?_))); (case aB => exact hd_ HB.out); (case aF => exact (fun k_ hk => Kd.fresh' (Kd.R_lt (rd_ HO_8.out)) k_ hk)); (case aO => exact (by (with_reducible repeat (first | apply Kd.R_alloc | apply Kd.R_drewN | apply Kd.R_drew)); exact Kd.R_mono HO311.out (fun _ hk => hk.2))); (case aS => exact (below_size (hd_ HB.out))); (case aL => have := LMc25.out; omega); intro v313 w31 ho hb hg hat; rw [← Ny312.out] at ho; have n0_ := Aside0.mk (Kd.R_after (ok := (fun _ => True)) (rd_ HO_8.out) hg hat); have n1_ := Aside0.mk (hb); have HO314 := Aside0.mk (ho); clear HO_8; clear HB; clear HO311; have HO_8 := n0_; have HB := n1_; clear n0_ n1_; clear ho hb hg hat))
         go_ret2
         exact ⟨_, by first | rfl | (simp [errW_none, errW_some] <;> rfl) | (simp [*, errW_none, errW_some] <;> rfl), by (with_reducible repeat (first | apply Kd.R_alloc | apply Kd.R_drewN | apply Kd.R_drew)); exact Kd.R_mono HO314.out (fun _ hk => trivial), hd_ HB.out⟩
         )
       ·
        clear HE_
        obtain ⟨y358, hy358⟩ : ∃ y_ : List S73, y_ = (y301.set (t304 : Int).toNat (⟨(rd_T73 y301 t304).f0, (rd_T73 y301 t304).f1, (rd_T73 y301 t304).f2, (rd_T73 y301 t304).f3, a2⟩ : S73)) := ⟨_, rfl⟩
        have Ny358 := Aside0.mk hy358
        clear hy358
        obtain ⟨y359, hy359⟩ : ∃ y_ : List S73, y_ = ([] : List S73) := ⟨_, rfl⟩
        obtain ⟨y362, hy362⟩ : ∃ y_ : List S73, y_ = y359 ++ l0 := ⟨_, rfl⟩
        have LMc101 := Aside0.mk (show y359.length + l0.length < 3518437208883 from by rw [hy359, List.length_nil]; omega)
        have g3_ : y362 = r1 := by rw [hy362, hy359, List.nil_append]; exact g1_
        have Ny359 := Aside0.mk hy359
        have Ny362 := Aside0.mk hy362
        clear hy359 hy362 g1_ hl_
        subst g3_
        subst g2_
        rcases hk_ with ⟨k0_, k1_, k2_, k3_⟩ | ⟨k0_, k1_, k2_, k3_⟩ | ⟨k0_, k1_, k2_, k3_⟩
        all_goals (
         have p306 : 0 ≤ (t304 : Int) := of_decide_eq_true as_
         have q306 : t304 < (l0.length : Int) := of_decide_eq_true as_
         obtain ⟨ad306, e306, hx306_0, hx306_1, hx306_2, hx306_3, hx306_4⟩ := at_T73 HR0.out t304 p306 q306
         cases e306
         replace hx306_0 := cb_ HB.out hx306_0
         replace hx306_1 := cb_ HB.out hx306_1
         replace hx306_2 := cb_ HB.out hx306_2
         replace hx306_3 := cb_ HB.out hx306_3
         replace hx306_4 := cb_ HB.out hx306_4
         replace p306 := eq_true p306
         replace q306 := eq_true q306
         have p100 : 0 ≤ (t304 : Int) := of_decide_eq_true as_
         have q100 : (t304 : Int) < ((y301.length : Int) : Int) := of_decide_eq_true as_
         obtain ⟨go100, co100, eo100, gb100, gl100, cl100, HG100⟩ := Kd.R_form HO_8.out (by omega)
         (first | cases eo100 | (injection eo100 with ea_ en_ ec_; (first | subst ea_ | (injection ea_ with ea_; subst ea_)); subst ec_; clear en_))
         have GB100 := Aside0.mk gb100
         have GG100 := Aside0.mk HG100
         clear gb100 gl100 HG100
         obtain ⟨ce100, hcl100, hM100, hcc100, hfr100⟩ := Kd.R_elem HO_8.out z73 (t304 : Int) p100 q100
         obtain rfl := k73_openM hM100
         have hx100_0 : wc.cell? ⟨go100, (t304 : Int).toNat * 5, none⟩ = some (.int .i64 ((rd_T73 y301 t304).f0)) := hcc100 0 _ rfl
         have hx100_1 : wc.cell? ⟨go100, (t304 : Int).toNat * 5 + 1, none⟩ = some (.int .i64 ((rd_T73 y301 t304).f1)) := hcc100 1 _ rfl
         have hx100_2 : wc.cell? ⟨go100, (t304 : Int).toNat * 5 + 2, none⟩ = some (.int .i64 ((rd_T73 y301 t304).f2)) := hcc100 2 _ rfl
         have hx100_3 : wc.cell? ⟨go100, (t304 : Int).toNat * 5 + 3, none⟩ = some (.int .i64 ((rd_T73 y301 t304).f3)) := hcc100 3 _ rfl
         have hx100_4 : wc.cell? ⟨go100, (t304 : Int).toNat * 5 + 4, none⟩ = some (.int .i64 ((rd_T73 y301 t304).f4)) := hcc100 4 _ rfl
         have hf100_0 : wc.frozen? ⟨go100, (t304 : Int).toNat * 5, none⟩ = false := hfr100 0
         have hf100_1 : wc.frozen? ⟨go100, (t304 : Int).toNat * 5 + 1, none⟩ = false := hfr100 1
         have hf100_2 : wc.frozen? ⟨go100, (t304 : Int).toNat * 5 + 2, none⟩ = false := hfr100 2
         have hf100_3 : wc.frozen? ⟨go100, (t304 : Int).toNat * 5 + 3, none⟩ = false := hfr100 3
         have hf100_4 : wc.frozen? ⟨go100, (t304 : Int).toNat * 5 + 4, none⟩ = false := hfr100 4
         clear hcl100 hcc100 hfr100 hM100
         replace p100 := eq_true p100
         replace q100 := eq_true q100
         have HX102 := Aside0.mk (show Kd.R k73 73 wc w.heap.size (fun _ => True) (.slice (some ⟨go100, 0, none⟩) y301.length co100) y301 from (rd_ HO_8.out))
         obtain ⟨ce102, hcl102, hM102, hcc102, hfr102⟩ := Kd.R_elem HX102.out z73 (t304 : Int) (of_decide_eq_true as_) (by have h_ : (t304 : Int) < ((y301.length : Int) : Int) := of_decide_eq_true as_; first | exact h_ | (have e_ := (Kd.R_reads' HO_8.out).1; omega) | simpa using h_)
         obtain rfl := k73_openM hM102
         have HP102 := Kd.R_seg HX102.out (t304 : Int) (of_decide_eq_true as_) (by have h_ : (t304 : Int) < ((y301.length : Int) : Int) := of_decide_eq_true as_; first | exact h_ | (have e_ := (Kd.R_reads' HO_8.out).1; omega) | simpa using h_) (seg := [.int .i64 a2]) (j := 4) hcl102 hcc102 (show 5 ≤ 5 from by decide) (x' := (⟨(rd_T73 y301 t304).f0, (rd_T73 y301 t304).f1, (rd_T73 y301 t304).f2, (rd_T73 y301 t304).f3, a2⟩ : S73)) (k73_mkM _ _ _ (⟨(rd_T73 y301 t304).f0, (rd_T73 y301 t304).f1, (rd_T73 y301 t304).f2, (rd_T73 y301 t304).f3, a2⟩ : S73) ) (fun _ hk => hk)
         have hx102_4 := hcc102 4 _ rfl
         (try simp only [show (k73).sz = 5 from rfl, Nat.mul_one, Nat.add_zero] at hx102_4)
         have hf102_4 := hfr102 4
         (try simp only [show (k73).sz = 5 from rfl, Nat.mul_one, Nat.add_zero] at hf102_4)
         clear hcl102 hcc102 hfr102 hM102
         go_wp2_with (first | ((with_reducible refine gate_store (t := 3) (p := 53) rfl ?_); refine store_event (t := 3) (p := 53) (v := ?vo_w103) (w1 := (wc.setCell ⟨go100, (t304 : Int).toNat * 5 + 4, none⟩ (.int .i64 a2))) ?hg ?ho ?hn ?hr ?_; (case ho => rfl); (case hg => rfl); (case hn => rfl); (case hr => first | (go_simp; done) | (go_simp; rfl)); intro w103 hw; have hg : wc.grownBy w103 (some go100) := (by rw [hw]; exact HP102.2); have hp_ : Kd.R k73 73 w103 w.heap.size (fun _ => True) (.slice (some ⟨go100, 0, none⟩) y301.length co100) y358 := (by rw [hw, Ny358.out]; exact HP102.1); clear HP102; have n0_ := Aside0.mk (hp_); have n1_ := Aside0.mk ((by rw [hw]; exact below_set (HB.out) GB100.out : Below w.heap.size w w103)); clear HO_8; clear HB; have HO_8 := n0_; have HB := n1_; clear n0_ n1_; clear hg hw hp_) | ((with_reducible refine gate_dst (N := 61) rfl ?_); refine Kd.R_lit k73 _ 73 ?hg (N := 61) ?hd (xs := ([] : List (S73))) (inner := []) (ok := fun _ => True) (okp := fun _ => True) ?hr ?hp (fun _ hk => hk) trivial (Below.refl _ _) (Nat.le_refl _) (by simp) ?_; (case hd => rfl); (case hg => rfl); (case hr => first | (go_simp; done) | (go_simp; rfl)); (case hp => exact (Reps.none _ _)); intro v360 w104 ho105 hb hg_ hnew_; clear hg_ hnew_; (first | rw [← Ny359.out] at ho105 | (simp only [Int.reduceToNat] at ho105; rw [← Ny359.out] at ho105)); have n0_ := Aside0.mk (Kd.R_elder' (rd_ HO_8.out) (Kd.R_base ho105) hb); have HO361 := Aside0.mk (Kd.R_lower (Kd.R_new' ho105 (Kd.R_lt (rd_ HO_8.out))) (below_size (hd_ HB.out))); have n2_ := Aside0.mk (below_step (hd_ HB.out) hb); clear HO_8; clear HB; have HO_8 := n0_; have HB := n2_; clear n0_ n2_; clear hb ho105) | ((with_reducible refine gate_builtin (b := .append) (xs := #[.tmp 61, .tmp 62]) rfl ?_); at_builtin; refine Kd.R_append_rows k73 (w0 := w) w.heap.size rfl (.tmp 61) (.tmp 62) 25 73 (.agg #[(.int .i64 0), (.int .i64 0), (.int .i64 0), (.int .i64 0), (.int .i64 0)]) 40 rfl Tryd.underlying25 info73 rfl (by decide) (by omega) v360 y359 l0 _ _ _ (fun k_ => some k_ ≠ (.slice (some ⟨go100, 0, none⟩) y301.length co100 : Value).ownBlock) (fun _ => False) rfl rfl ?aO ?aR (fun _ _ h => h) (fun _ h => h.elim) ?aF ?aB ?aS ?aL ?_; (case aR => repeat (first | exact (Kd.C_below HR0.out HB.out) | (with_reducible refine Kd.C_alloc ?_ _) | (with_reducible refine Kd.C_drewN ?_ _) | (with_reducible refine Kd.C_drew ?_))); (case aB => exact hd_ HB.out); (case aF => exact (fun k_ hk => Kd.fresh' (Kd.R_lt (rd_ HO_8.out)) k_ hk)); (case aO => exact (by (with_reducible repeat (first | apply Kd.R_alloc | apply Kd.R_drewN | apply Kd.R_drew)); exact Kd.R_mono HO361.out (fun _ hk => hk.2))); (case aS => exact (below_size (hd_ HB.out))); (case aL => have := LMc101.out; omega); intro v363 w106 ho hb hg hat; rw [← Ny362.out] at ho; have n0_ := Aside0.mk (Kd.R_after (ok := (fun _ => True)) (rd_ HO_8.out) hg hat); have n1_ := Aside0.mk (hb); have HO364 := Aside0.mk (ho); clear HO_8; clear HB; clear HO361; have HO_8 := n0_; have HB := n1_; clear n0_ n1_; clear ho hb hg hat))
         go_ret2
         exact ⟨_, by first | rfl | (simp [errW_none, errW_some] <;> rfl) | (simp [*, errW_none, errW_some] <;> rfl), by (with_reducible repeat (first | apply Kd.R_alloc | apply Kd.R_drewN | apply Kd.R_drew)); exact Kd.R_mono HO364.out (fun _ hk => trivial), hd_ HB.out⟩
         )
      ·
       rw [if_neg c15] at H
       exact absurd H (by simp)
     ·
      rw [if_neg c14] at H
      exact absurd H (by simp)
 ·
  rw [if_neg c4] at H
  exact absurd H (by simp)

end Go.Proofs.YtnlgilmbmoiniaaDoor.PFnTasks
