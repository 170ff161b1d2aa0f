-- Written for this claim by a program (a printer turned to this claim); Lean checks it.
import Derived.Test.YtnlgilmbmoiniaaDoorPFnTasksx0
import Derived.Test.YtnlgilmbmoiniaaDoorPFnTasksx7
import Derived.Test.YtnlgilmbmoiniaaDoorPFnTasksx8
import Derived.Test.YtnlgilmbmoiniaaDoorPFnTasksx12
namespace Go.Proofs.YtnlgilmbmoiniaaDoor.PFnTasks
open Go.RowKit Go.Proofs.YtnlgilmbmoiniaaDoorW.PrintWords Go.Proofs.YtnlgilmbmoiniaaDoorW.PrintLast Go.Proofs.YtnlgilmbmoiniaaDoorW.PrintMore
attribute [local go_sem] max2_int min2_int max_two min_two max_three min_three max_four min_four   -- for this text's walks alone
set_option linter.unusedVariables false
set_option linter.unusedSimpArgs false

/-! ### impl_FindThing: function 8 -/
set_option maxHeartbeats 8000000 in
set_option maxRecDepth 100000 in
theorem impl_FindThing_1.calls (x : S38) (a : Int) (g : Nat) (w : World) (hc : w.cell? ⟨g, 0, none⟩ = some (.int .i64 a)) :
    Calls Tryd.prog 26 #[.agg #[.int .i64 x.f0.f0, .int .i64 x.f0.f1, .int .i64 x.f0.f2, .int .i64 x.f0.f3, .int .i64 x.f0.f4, .int .i64 x.f1, .int .i64 x.f2, .int .i64 x.f3], .pointer (some ⟨g, 0, none⟩)] w fun e w' => e = .returned (.bool (x.f0.f0 == a)) ∧ Below w.heap.size w w' := by
  have hu38 := Tryd.underlying38
  have hu36 := Tryd.underlying36
  have hc2 : ∀ o, (w.alloc o).cell? ⟨g, 0, none⟩ = some (.int .i64 a) := fun o => pw_cell_below (below_alloc (Below.refl _ _) o) hc
  go_enter Tryd.func26, Tryd.ntmps26
  go_wp2
  go_ret
  exact ⟨rfl, by repeat (first | exact Below.refl _ _ | apply below_alloc | apply pw_below_drewN | apply below_drew1)⟩
def impl_FindThing.f (l0 : List S38) (a1 : Int) : Option Int := some (EvLib.idxB (fun x => x.f0.f0 == a1) l0 0)
set_option maxHeartbeats 8000000 in
set_option maxRecDepth 100000 in
theorem impl_FindThing.calls (A0 : Option Addr) (c0 : Nat) (l0 : List S38) (a1 : Int) (r : Int) (w : World) (hr0 : Kd.C k38 w A0 l0.length l0) (hc0 : l0.length ≤ c0) (h : impl_FindThing.f l0 a1 = some r) :
    Calls Tryd.prog 8 #[.slice A0 l0.length c0, .int .i64 a1] w fun e w' => e = .returned (.int .i64 r) ∧ Below w.heap.size w w' := by
  have HR0 := Aside0.mk hr0
  clear hr0 hc0
  have H : EvLib.idxB (fun x : S38 => x.f0.f0 == a1) l0 0 = r := Option.some.inj h
  subst H
  clear h
  have eg : ∀ args w, (callFunc 26 args).run Tryd.prog w = .ok (.enter 26 args) w := enters_of Tryd.func26 (by kernel_rfl) rfl
  have HC := Aside0.mk (impl_Find.calls (fun x : S38 => x.f0.f0 == a1) 26 #[.pointer (some ⟨w.heap.size, 0, none⟩)] eg A0 c0 l0 (w.alloc (.cells #[.int .i64 a1] 3)) (Kd.C_alloc HR0.out _)
    (fun x W hb => impl_FindThing_1.calls x a1 w.heap.size W ((hb.cell (p := ⟨w.heap.size, 0, none⟩) (by simp)).trans (by simp))))
  clear eg
  have HS := Aside0.mk (below_alloc (Below.refl w.heap.size w) (.cells #[.int .i64 a1] 3))
  generalize EvLib.idxB (fun x : S38 => x.f0.f0 == a1) l0 0 = r at HC ⊢
  go_enter Tryd.func8, Tryd.ntmps8
  go_wp2_with (go_at_call 25; refine HC.out.mono ?_; rintro e w' ⟨rfl, hb⟩; have HB := Aside0.mk (below_step HS.out hb); clear hb)
  go_ret
  exact ⟨rfl, HB.out⟩


/-! ### impl_FateName: function 33 -/
def impl_FateName.L : List ByteArray := [(⟨#[107, 101, 101, 112]⟩ : ByteArray), (⟨#[115, 101, 114, 118, 101]⟩ : ByteArray), (⟨#[102, 105, 110, 100, 101, 114]⟩ : ByteArray), (⟨#[115, 101, 108, 108]⟩ : ByteArray), (⟨#[103, 105, 118, 101]⟩ : ByteArray), (⟨#[116, 104, 114, 111, 119]⟩ : ByteArray)]
def impl_FateName.f (a0 : Int) : Option ByteArray := some (if 0 ≤ a0 ∧ a0 ≤ 5 then impl_FateName.L.getD a0.toNat ⟨#[]⟩ else ⟨#[]⟩)
set_option maxHeartbeats 8000000 in
set_option maxRecDepth 100000 in
theorem impl_FateName.calls (a0 : Int) (r : ByteArray) (w : World) (h : impl_FateName.f a0 = some r) :
    Calls Tryd.prog 33 #[.int .i64 a0] w fun e w' => e = .returned (.string r) ∧ Below w.heap.size w w' := by
  have HB := Aside0.mk (Below.refl w.heap.size w)
  obtain rfl := Option.some.inj h
  clear h
  by_cases hin : 0 ≤ a0 ∧ a0 ≤ 5
  · rw [if_pos hin]
    have h5 : a0 = 0 ∨ a0 = 1 ∨ a0 = 2 ∨ a0 = 3 ∨ a0 = 4 ∨ a0 = 5 := by omega
    clear hin
    rcases h5 with rfl | rfl | rfl | rfl | rfl | rfl
    · skip
      go_enter Tryd.func33, Tryd.ntmps33
      go_wp2
      go_ret
      exact ⟨rfl, by repeat (first | exact HB.out | apply below_alloc | apply pw_below_drewN | apply below_drew1)⟩
    · skip
      go_enter Tryd.func33, Tryd.ntmps33
      go_wp2
      go_ret
      exact ⟨rfl, by repeat (first | exact HB.out | apply below_alloc | apply pw_below_drewN | apply below_drew1)⟩
    · skip
      go_enter Tryd.func33, Tryd.ntmps33
      go_wp2
      go_ret
      exact ⟨rfl, by repeat (first | exact HB.out | apply below_alloc | apply pw_below_drewN | apply below_drew1)⟩
    · skip
      go_enter Tryd.func33, Tryd.ntmps33
      go_wp2
      go_ret
      exact ⟨rfl, by repeat (first | exact HB.out | apply below_alloc | apply pw_below_drewN | apply below_drew1)⟩
    · skip
      go_enter Tryd.func33, Tryd.ntmps33
      go_wp2
      go_ret
      exact ⟨rfl, by repeat (first | exact HB.out | apply below_alloc | apply pw_below_drewN | apply below_drew1)⟩
    · skip
      go_enter Tryd.func33, Tryd.ntmps33
      go_wp2
      go_ret
      exact ⟨rfl, by repeat (first | exact HB.out | apply below_alloc | apply pw_below_drewN | apply below_drew1)⟩
  · rw [if_neg hin]
    by_cases h0 : a0 < 0
    · have h0b := decide_eq_true h0
      clear hin h0
      go_enter Tryd.func33, Tryd.ntmps33
      go_wp2
      go_ret
      exact ⟨rfl, by repeat (first | exact HB.out | apply below_alloc | apply pw_below_drewN | apply below_drew1)⟩
    · have h0b := decide_eq_false h0
      have h6 : decide (6 ≤ a0) = true := decide_eq_true (by omega)
      clear hin h0
      go_enter Tryd.func33, Tryd.ntmps33
      go_wp2
      go_ret
      exact ⟨rfl, by repeat (first | exact HB.out | apply below_alloc | apply pw_below_drewN | apply below_drew1)⟩


/-! ### strconv_Itoa: function 52 -/
def strconv_Itoa.f (a0 : Int) : Option ByteArray := if -9223372036854775808 ≤ a0 ∧ a0 ≤ 9223372036854775807 then some ⟨(Lib.itoa a0).toArray⟩ else none
theorem strconv_Itoa.calls (a0 : Int) (r : ByteArray) (w : World) (h : strconv_Itoa.f a0 = some r) (TB_ : Ito.Tb w) :
    Calls Tryd.prog 52 #[.int .i64 a0] w fun e w' => e = .returned (.string r) ∧ Below w.heap.size w w' := by
  unfold strconv_Itoa.f at h
  split at h
  case isFalse => cases h
  rename_i hin
  obtain rfl := Option.some.inj h
  exact Ito.itoa a0 hin.1 hin.2 w TB_


/-! ### impl_FormatInt: function 34 -/
def impl_FormatInt.f (a0 : Int) : Option (ByteArray) := (strconv_Itoa.f a0).bind fun t551 => (some t551)
set_option maxHeartbeats 8000000 in
set_option maxRecDepth 100000 in
theorem impl_FormatInt.calls (a0 : Int) (r : ByteArray) (w : World) (h : impl_FormatInt.f a0 = some r) (TB_ : Ito.Tb w) :
    Calls Tryd.prog 34 #[.int .i64 a0] w fun e w' => e = .returned (.string r) ∧ Below w.heap.size w w' := by
  have HB := Aside0.mk (Below.refl w.heap.size w)
  have H : ((strconv_Itoa.f a0).bind fun t551 => (some t551)) = some r := h
  clear h
  replace H := Option.bind_eq_some_iff.mp H
  obtain ⟨t551, A20, H⟩ := H
  replace H : (some t551) = some r := H
  have A2 := Aside0.mk A20
  clear A20
  obtain rfl := Option.some.inj H
  go_enter Tryd.func34, Tryd.ntmps34
  go_wp2_with (first | ((with_reducible refine gate_callee (f := 52) rfl ?_); refine goesL_ (some 4) rfl rfl Tryd.func52 (by kernel_rfl) rfl #[.int .i64 a0] rfl ma_ ?_; (with_reducible refine (strconv_Itoa.calls a0 t551 _ A2.out (TB_.below (hd_ HB.out))).mono ?_); rintro e w3 ⟨rfl, hb⟩; refine ⟨_, rfl, ?_⟩; have n0_ := Aside0.mk (below_step (hd_ HB.out) hb); clear HB; have HB := n0_; clear n0_; (try clear hb)))
  go_ret
  exact ⟨rt_, hd_ HB.out⟩

/-! ### impl_TaskText: function 10 -/
def impl_TaskText.f (a0_0 : Int) (a0_1 : Int) (a0_2 : Int) : Option (ByteArray) := (impl_FateName.f a0_1).bind fun t553 => (if t553.toList = ([] : List UInt8) then (some (⟨#[]⟩ : ByteArray)) else (if t553.size + 1 ≤ 9223372036854775807 then ((impl_FormatInt.f a0_0).bind fun t554 => (if (t553 ++ (⟨#[32]⟩ : ByteArray)).size + t554.size ≤ 9223372036854775807 then (if ((t553 ++ (⟨#[32]⟩ : ByteArray)) ++ t554).size + 4 ≤ 9223372036854775807 then ((impl_FormatInt.f a0_2).bind fun t555 => (if (((t553 ++ (⟨#[32]⟩ : ByteArray)) ++ t554) ++ (⟨#[32, 111, 110, 32]⟩ : ByteArray)).size + t555.size ≤ 9223372036854775807 then (some ((((t553 ++ (⟨#[32]⟩ : ByteArray)) ++ t554) ++ (⟨#[32, 111, 110, 32]⟩ : ByteArray)) ++ t555)) else (none))) else (none)) else (none))) else (none)))
def impl_TaskText.T4 : Bool × List (List Nat × List Nat) := (true, [([], []), ([0], [0]), ([], []), ([2], [2]), ([3], [3]), ([1, 4], [1, 4]), ([5], [5]), ([], []), ([7], [7]), ([8, 4], [8]), ([6, 9], [6, 9]), ([10, 9, 0, 1, 2, 3, 4, 5, 6, 7, 8, 9, 10], [10])])
def impl_TaskText.B4 : List Nat := [0, 1, 0, 4, 12, 31, 63, 0, 128, 412, 1023, 2047]
theorem impl_TaskText.tab4 : rtab .any (opsOf Tryd.f10 4) = impl_TaskText.T4 := by kernel_rfl
theorem impl_TaskText.bits4 : waitsOk impl_TaskText.T4.2 impl_TaskText.B4 = true := by kernel_rfl
abbrev M3_0 := bm_ 12 0
abbrev M3_1 := bm_ 12 1
abbrev M3_2 := bm_ 12 3
abbrev M3_3 := bm_ 12 7
abbrev M3_4 := bm_ 12 135
abbrev M3_5 := bm_ 12 143
abbrev M3_6 := bm_ 12 399
abbrev M3_7 := bm_ 12 415
abbrev M3_8 := bm_ 12 447
abbrev M3_9 := bm_ 12 511
abbrev M3_10 := bm_ 12 1023
abbrev M3_11 := bm_ 12 2047
abbrev M3_12 := bm_ 12 4095
theorem e209_ {w : World} {g : Nat} {t : TypeId} {i0 : Int} {i1 : Int} {i2 : Int} (h : w.heap[g]? = some (.cells #[.int .i64 i0, .int .i64 i1, .int .i64 i2] t (0, 0))) : w.cell? ⟨g, 0, none⟩ = some (.int .i64 i0) ∧ w.cell? ⟨g, 1, none⟩ = some (.int .i64 i1) ∧ w.cell? ⟨g, 2, none⟩ = some (.int .i64 i2) := ⟨(blk_cell h 0).trans rfl, (blk_cell h 1).trans rfl, (blk_cell h 2).trans rfl⟩
theorem z210_ {w : World} {g : Nat} {t : TypeId} {cs : Array Value} (h : w.heap[g]? = some (.cells cs t (0, 0))) : w.frozen? ⟨g, 0, none⟩ = false ∧ w.frozen? ⟨g, 1, none⟩ = false ∧ w.frozen? ⟨g, 2, none⟩ = false := ⟨blk_frozen h 0, blk_frozen h 1, blk_frozen h 2⟩
theorem y211_ {P : Prop} (h : P := by repeat (first | (with_reducible first | exact HB.out | apply below_alloc | apply pw_below_drewN | apply below_drew1 | refine below_set ?_ GE552.out) | exact HB.out)) : P := h
set_option maxHeartbeats 8000000 in
set_option maxRecDepth 100000 in
theorem impl_TaskText.calls (a0_0 : Int) (a0_1 : Int) (a0_2 : Int) (r : ByteArray) (w : World) (h : impl_TaskText.f a0_0 a0_1 a0_2 = some r) (TB_ : Ito.Tb w) :
    Calls Tryd.prog 10 #[.agg #[.int .i64 a0_0, .int .i64 a0_1, .int .i64 a0_2]] w fun e w' => e = .returned (.string r) ∧ Below w.heap.size w w' := by
  have hu33 := Tryd.underlying33
  have HB := Aside0.mk (Below.refl w.heap.size w)
  have H : ((impl_FateName.f a0_1).bind fun t553 => (if t553.toList = ([] : List UInt8) then (some (⟨#[]⟩ : ByteArray)) else (if t553.size + 1 ≤ 9223372036854775807 then ((impl_FormatInt.f a0_0).bind fun t554 => (if (t553 ++ (⟨#[32]⟩ : ByteArray)).size + t554.size ≤ 9223372036854775807 then (if ((t553 ++ (⟨#[32]⟩ : ByteArray)) ++ t554).size + 4 ≤ 9223372036854775807 then ((impl_FormatInt.f a0_2).bind fun t555 => (if (((t553 ++ (⟨#[32]⟩ : ByteArray)) ++ t554) ++ (⟨#[32, 111, 110, 32]⟩ : ByteArray)).size + t555.size ≤ 9223372036854775807 then (some ((((t553 ++ (⟨#[32]⟩ : ByteArray)) ++ t554) ++ (⟨#[32, 111, 110, 32]⟩ : ByteArray)) ++ t555)) else (none))) else (none)) else (none))) else (none)))) = some r := h
  clear h
  replace H := Option.bind_eq_some_iff.mp H
  obtain ⟨t553, A20, H⟩ := H
  replace H : (if t553.toList = ([] : List UInt8) then (some (⟨#[]⟩ : ByteArray)) else (if t553.size + 1 ≤ 9223372036854775807 then ((impl_FormatInt.f a0_0).bind fun t554 => (if (t553 ++ (⟨#[32]⟩ : ByteArray)).size + t554.size ≤ 9223372036854775807 then (if ((t553 ++ (⟨#[32]⟩ : ByteArray)) ++ t554).size + 4 ≤ 9223372036854775807 then ((impl_FormatInt.f a0_2).bind fun t555 => (if (((t553 ++ (⟨#[32]⟩ : ByteArray)) ++ t554) ++ (⟨#[32, 111, 110, 32]⟩ : ByteArray)).size + t555.size ≤ 9223372036854775807 then (some ((((t553 ++ (⟨#[32]⟩ : ByteArray)) ++ t554) ++ (⟨#[32, 111, 110, 32]⟩ : ByteArray)) ++ t555)) else (none))) else (none)) else (none))) else (none))) = some r := H
  have A2 := Aside0.mk A20
  clear A20
  by_cases c3 : t553.toList = ([] : List UInt8)
  · rw [if_pos c3] at H
    have c3b0 : (t553.toList == ([] : List UInt8)) = true := beq_iff_eq.mpr c3
    have c3b1 : (t553.toList != ([] : List UInt8)) = false := bne_eq_false_iff_eq.mpr c3
    clear c3
    obtain rfl := Option.some.inj H
    go_enter Tryd.func10, Tryd.ntmps10
    go_wp2_with (first | ((with_reducible refine gate_dst (N := 1) rfl ?_); refine bx_ 1 #[.int .i64 a0_0, .int .i64 a0_1, .int .i64 a0_2] 33 ?_; intro gb552 hg w4 hbox hb; have n0_ := Aside0.mk (below_step (hd_ HB.out) hb); have BK552 := Aside0.mk (hbox); have GW552 := Aside0.mk ((by rw [hg]; exact (below_size (hd_ HB.out)) : w.heap.size ≤ gb552)); have GE552 := GW552; clear HB; have HB := n0_; clear n0_; clear hb hbox hg; obtain ⟨hcz5_0, hcz5_1, hcz5_2⟩ := e209_ BK552.out; obtain ⟨hfz5_0, hfz5_1, hfz5_2⟩ := z210_ BK552.out) | ((with_reducible refine gate_callee (f := 33) rfl ?_); refine goesL_ (some 6) rfl rfl Tryd.func33 (by kernel_rfl) rfl #[.int .i64 a0_1] rfl ma_ ?_; (with_reducible refine (impl_FateName.calls a0_1 t553 _ A2.out).mono ?_); rintro e w6 ⟨rfl, hb⟩; refine ⟨_, rfl, ?_⟩; have n0_ := Aside0.mk (blk_below (bd_ BK552.out) hb); have n1_ := Aside0.mk (below_step y211_ hb); clear BK552; clear HB; have BK552 := n0_; have HB := n1_; clear n0_ n1_; (try clear hb)))
    go_ret
    exact ⟨rt_, by repeat (first | (with_reducible first | exact HB.out | apply below_alloc | apply pw_below_drewN | apply below_drew1 | refine below_set ?_ GE552.out) | exact HB.out)⟩
  · rw [if_neg c3] at H
    have c3b0 : (t553.toList == ([] : List UInt8)) = false := beq_eq_false_iff_ne.mpr c3
    have c3b1 : (t553.toList != ([] : List UInt8)) = true := bne_iff_ne.mpr c3
    by_cases c7 : t553.size + 1 ≤ 9223372036854775807
    · rw [if_pos c7] at H
      have c7b0 := eq_true c7
      have c7b1 : decide (t553.size + 1 ≤ 9223372036854775807) = true := decide_eq_true c7
      try have c7b2 : (9223372036854775807 < t553.size + 1) = False := eq_false (Nat.not_lt.2 c7)
      replace H := Option.bind_eq_some_iff.mp H
      obtain ⟨t554, A80, H⟩ := H
      replace H : (if (t553 ++ (⟨#[32]⟩ : ByteArray)).size + t554.size ≤ 9223372036854775807 then (if ((t553 ++ (⟨#[32]⟩ : ByteArray)) ++ t554).size + 4 ≤ 9223372036854775807 then ((impl_FormatInt.f a0_2).bind fun t555 => (if (((t553 ++ (⟨#[32]⟩ : ByteArray)) ++ t554) ++ (⟨#[32, 111, 110, 32]⟩ : ByteArray)).size + t555.size ≤ 9223372036854775807 then (some ((((t553 ++ (⟨#[32]⟩ : ByteArray)) ++ t554) ++ (⟨#[32, 111, 110, 32]⟩ : ByteArray)) ++ t555)) else (none))) else (none)) else (none)) = some r := H
      have A8 := Aside0.mk A80
      clear A80
      by_cases c9 : (t553 ++ (⟨#[32]⟩ : ByteArray)).size + t554.size ≤ 9223372036854775807
      · rw [if_pos c9] at H
        have c9b0 := eq_true c9
        have c9b1 : decide ((t553 ++ (⟨#[32]⟩ : ByteArray)).size + t554.size ≤ 9223372036854775807) = true := decide_eq_true c9
        try have c9b2 : (9223372036854775807 < (t553 ++ (⟨#[32]⟩ : ByteArray)).size + t554.size) = False := eq_false (Nat.not_lt.2 c9)
        try have c9b3 : (9223372036854775807 < t553.size + 1 + t554.size) = False := eq_false (Nat.not_lt.2 (by have h_ := c9; simp only [ByteArray.size_append] at h_; exact h_))
        by_cases c10 : ((t553 ++ (⟨#[32]⟩ : ByteArray)) ++ t554).size + 4 ≤ 9223372036854775807
        · rw [if_pos c10] at H
          have c10b0 := eq_true c10
          have c10b1 : decide (((t553 ++ (⟨#[32]⟩ : ByteArray)) ++ t554).size + 4 ≤ 9223372036854775807) = true := decide_eq_true c10
          try have c10b2 : (9223372036854775807 < ((t553 ++ (⟨#[32]⟩ : ByteArray)) ++ t554).size + 4) = False := eq_false (Nat.not_lt.2 c10)
          try have c10b3 : (9223372036854775807 < t553.size + 1 + t554.size + 4) = False := eq_false (Nat.not_lt.2 (by have h_ := c10; simp only [ByteArray.size_append] at h_; exact h_))
          replace H := Option.bind_eq_some_iff.mp H
          obtain ⟨t555, A110, H⟩ := H
          replace H : (if (((t553 ++ (⟨#[32]⟩ : ByteArray)) ++ t554) ++ (⟨#[32, 111, 110, 32]⟩ : ByteArray)).size + t555.size ≤ 9223372036854775807 then (some ((((t553 ++ (⟨#[32]⟩ : ByteArray)) ++ t554) ++ (⟨#[32, 111, 110, 32]⟩ : ByteArray)) ++ t555)) else (none)) = some r := H
          have A11 := Aside0.mk A110
          clear A110
          by_cases c12 : (((t553 ++ (⟨#[32]⟩ : ByteArray)) ++ t554) ++ (⟨#[32, 111, 110, 32]⟩ : ByteArray)).size + t555.size ≤ 9223372036854775807
          · rw [if_pos c12] at H
            have c12b0 := eq_true c12
            have c12b1 : decide ((((t553 ++ (⟨#[32]⟩ : ByteArray)) ++ t554) ++ (⟨#[32, 111, 110, 32]⟩ : ByteArray)).size + t555.size ≤ 9223372036854775807) = true := decide_eq_true c12
            try have c12b2 : (9223372036854775807 < (((t553 ++ (⟨#[32]⟩ : ByteArray)) ++ t554) ++ (⟨#[32, 111, 110, 32]⟩ : ByteArray)).size + t555.size) = False := eq_false (Nat.not_lt.2 c12)
            try have c12b3 : (9223372036854775807 < t553.size + 1 + t554.size + 4 + t555.size) = False := eq_false (Nat.not_lt.2 (by have h_ := c12; simp only [ByteArray.size_append] at h_; exact h_))
            obtain rfl := Option.some.inj H
            go_enter Tryd.func10, Tryd.ntmps10
            try go_wp2_with (first | ((with_reducible refine gate_dst (N := 1) rfl ?_); refine bx_ 1 #[.int .i64 a0_0, .int .i64 a0_1, .int .i64 a0_2] 33 ?_; intro gb552 hg w13 hbox hb; have n0_ := Aside0.mk (below_step (hd_ HB.out) hb); have BK552 := Aside0.mk (hbox); have GW552 := Aside0.mk ((by rw [hg]; exact (below_size (hd_ HB.out)) : w.heap.size ≤ gb552)); have GE552 := GW552; clear HB; have HB := n0_; clear n0_; clear hb hbox hg; obtain ⟨hcz14_0, hcz14_1, hcz14_2⟩ := e209_ BK552.out; obtain ⟨hfz14_0, hfz14_1, hfz14_2⟩ := z210_ BK552.out) | ((with_reducible refine gate_callee (f := 33) rfl ?_); refine goesL_ (some 6) rfl rfl Tryd.func33 (by kernel_rfl) rfl #[.int .i64 a0_1] rfl ma_ ?_; (with_reducible refine (impl_FateName.calls a0_1 t553 _ A2.out).mono ?_); rintro e w15 ⟨rfl, hb⟩; refine ⟨_, rfl, ?_⟩; have n0_ := Aside0.mk (blk_below (bd_ BK552.out) hb); have n1_ := Aside0.mk (below_step y211_ hb); clear BK552; clear HB; have BK552 := n0_; have HB := n1_; clear n0_ n1_; (try clear hb)))
            have n0_ := Aside0.mk (blk_drew BK552.out)
            have n1_ := Aside0.mk (below_drew1 HB.out)
            clear BK552
            clear HB
            have BK552 := n0_
            have HB := n1_
            clear n0_ n1_
            refine start_ (n := 12) (S := fun w' => q5e_ w' gb552 a0_0 a0_1 a0_2) (ds := []) M3_0 (by kernel_rfl) rfl rfl (k5e_ BK552.out) (fun hHeld => ?_); refine with_tabW impl_TaskText.tab4 impl_TaskText.bits4 (fun HT_ HW_ => ?_)
            generalize w15.drew = w16 at BK552 HB hHeld ⊢
            refine pu_ 0 (some 9) M3_1 HT_ ?_
            refine pu_ 1 (some 10) M3_2 HT_ ?_
            refine pu_ 2 (some 11) M3_3 HT_ ?_
            refine pu_ 7 (some 16) M3_4 HT_ ?_
            refine tk_ 3 (some 12) M3_5 HT_ HW_ hHeld ?_
            refine tk_ 8 (some 17) M3_6 HT_ HW_ hHeld ?_
            refine one_ (i := 4) (N := some 13) M3_7 rfl rfl (one_of HT_.out (by kernel_rfl)) (by decide) (fun K hK => ?_)
            refine goes_ Tryd.func34 (by kernel_rfl) rfl #[.int .i64 a0_0] (by rfl) rfl rfl ma_ ?_
            with_reducible refine (impl_FormatInt.calls a0_0 t554 _ A8.out (TB_.below y211_)).mono ?_
            rintro e w17 ⟨rfl, hb⟩
            refine ⟨_, rfl, ?_⟩
            have n0_ := Aside0.mk (blk_below (bd_ BK552.out) hb)
            have n1_ := Aside0.mk (below_step y211_ hb)
            clear BK552
            clear HB
            have BK552 := n0_
            have HB := n1_
            clear n0_ n1_
            (try clear hb)
            (try clear hb2)
            (try clear hk)
            (try clear hi)
            refine hK.out _ _ (k5e_ BK552.out) (fun hHeld => ?_)
            clear hK K
            refine norm_ (a' := ?_) ?_ ?_
            rotate_left
            · show Act.put _ (some 13) _ = _
              simp only [Act.put, List.setIfInBounds_toArray, List.set_cons_zero, List.set_cons_succ, i64_w, i32_w]
              rfl
            refine pu_ 5 (some 14) M3_8 HT_ ?_
            refine pu_ 6 (some 15) M3_9 HT_ ?_
            refine one_ (i := 9) (N := some 18) M3_10 rfl rfl (one_of HT_.out (by kernel_rfl)) (by decide) (fun K hK => ?_)
            refine goes_ Tryd.func34 (by kernel_rfl) rfl #[.int .i64 a0_2] (by rfl) rfl rfl ma_ ?_
            with_reducible refine (impl_FormatInt.calls a0_2 t555 _ A11.out (TB_.below y211_)).mono ?_
            rintro e w18 ⟨rfl, hb⟩
            refine ⟨_, rfl, ?_⟩
            have n0_ := Aside0.mk (blk_below (bd_ BK552.out) hb)
            have n1_ := Aside0.mk (below_step y211_ hb)
            clear BK552
            clear HB
            have BK552 := n0_
            have HB := n1_
            clear n0_ n1_
            (try clear hb)
            (try clear hb2)
            (try clear hk)
            (try clear hi)
            refine hK.out _ _ (k5e_ BK552.out) (fun hHeld => ?_)
            clear hK K
            refine norm_ (a' := ?_) ?_ ?_
            rotate_left
            · show Act.put _ (some 18) _ = _
              simp only [Act.put, List.setIfInBounds_toArray, List.set_cons_zero, List.set_cons_succ, i64_w, i32_w]
              rfl
            refine pu_ 10 (some 19) M3_11 HT_ ?_
            refine pu_ 11 (some 2) M3_12 HT_ ?_
            refine done_ (done_of HT_.out (by kernel_rfl)) ?_
            try go_wp2
            go_ret
            exact ⟨rt_, by repeat (first | (with_reducible first | exact HB.out | apply below_alloc | apply pw_below_drewN | apply below_drew1 | refine below_set ?_ GE552.out) | exact HB.out)⟩
          · rw [if_neg c12] at H
            exact absurd H (by simp)
        · rw [if_neg c10] at H
          exact absurd H (by simp)
      · rw [if_neg c9] at H
        exact absurd H (by simp)
    · rw [if_neg c7] at H
      exact absurd H (by simp)

/-! ### impl_IsOpen: function 11 -/
def impl_IsOpen.f (k : Nat) (l0 : List Bool) (a1 : Int) : Option (Bool) := (impl_IsCalendar.f k l0).bind fun t556 => (if t556 = true then ((impl_InRange.f a1 0 100000).bind fun t557 => (if t557 = true then (if 0 ≤ (Int.tmod a1 7) then (if (Int.tmod a1 7) < (l0.length : Int) then (some (rdOf false l0 (Int.tmod a1 7))) else (none)) else (none)) else (some false))) else (some false))
theorem impl_IsOpen.mono : ∀ a0 a1 k, LeO (impl_IsOpen.f k a0 a1) (impl_IsOpen.f (k + 1) a0 a1) := by
  intro a0 a1 k
  unfold impl_IsOpen.f
  have jh0 := @impl_IsCalendar.mono
  exact mo_
set_option maxHeartbeats 8000000 in
set_option maxRecDepth 100000 in
theorem impl_IsOpen.calls (k : Nat) (A0 : Option Addr) (c0 : Nat) (l0 : List Bool) (a1 : Int) (r : Bool) (w : World) (hr0 : Kd.C Kd.bool w A0 l0.length l0) (hc0 : l0.length ≤ c0) (h : impl_IsOpen.f k l0 a1 = some r) :
    Calls Tryd.prog 11 #[.slice A0 l0.length c0, .int .i64 a1] w fun e w' => e = .returned (.bool r) ∧ Drawn0 w w' := by
  have HR0 := Aside0.mk hr0
  have HC0 := Aside0.mk hc0
  clear hr0 hc0
  have H : ((impl_IsCalendar.f k l0).bind fun t556 => (if t556 = true then ((impl_InRange.f a1 0 100000).bind fun t557 => (if t557 = true then (if 0 ≤ (Int.tmod a1 7) then (if (Int.tmod a1 7) < (l0.length : Int) then (some (rdOf false l0 (Int.tmod a1 7))) else (none)) else (none)) else (some false))) else (some false))) = some r := h
  clear h
  replace H := Option.bind_eq_some_iff.mp H
  obtain ⟨t556, A30, H⟩ := H
  replace H : (if t556 = true then ((impl_InRange.f a1 0 100000).bind fun t557 => (if t557 = true then (if 0 ≤ (Int.tmod a1 7) then (if (Int.tmod a1 7) < (l0.length : Int) then (some (rdOf false l0 (Int.tmod a1 7))) else (none)) else (none)) else (some false))) else (some false)) = some r := H
  have A3 := Aside0.mk A30
  clear A30
  by_cases c4 : t556 = true
  · subst c4
    have H1 : ((impl_InRange.f a1 0 100000).bind fun t557 => (if t557 = true then (if 0 ≤ (Int.tmod a1 7) then (if (Int.tmod a1 7) < (l0.length : Int) then (some (rdOf false l0 (Int.tmod a1 7))) else (none)) else (none)) else (some false))) = some r := by rw [if_pos rfl] at H; exact H
    clear H
    have H := H1
    clear H1
    replace H := Option.bind_eq_some_iff.mp H
    obtain ⟨t557, A50, H⟩ := H
    replace H : (if t557 = true then (if 0 ≤ (Int.tmod a1 7) then (if (Int.tmod a1 7) < (l0.length : Int) then (some (rdOf false l0 (Int.tmod a1 7))) else (none)) else (none)) else (some false)) = some r := H
    have A5 := Aside0.mk A50
    clear A50
    by_cases c6 : t557 = true
    · subst c6
      have H1 : (if 0 ≤ (Int.tmod a1 7) then (if (Int.tmod a1 7) < (l0.length : Int) then (some (rdOf false l0 (Int.tmod a1 7))) else (none)) else (none)) = some r := by rw [if_pos rfl] at H; exact H
      clear H
      have H := H1
      clear H1
      obtain ⟨ji7, hji7⟩ : ∃ j_ : Int, (Int.tmod a1 7) = j_ := ⟨_, rfl⟩
      replace H : (if 0 ≤ (ji7) then (if (ji7) < (l0.length : Int) then (some (rdOf false l0 (ji7))) else (none)) else (none)) = some r := by first | (rw [hji7] at H; exact H) | (simp only [hji7] at H ⊢; exact H)
      (try rw [hji7] at A3)
      (try rw [hji7] at A5)
      by_cases c8 : 0 ≤ (ji7)
      · rw [if_pos c8] at H
        have c8b0 : decide (0 ≤ (ji7)) = true := decide_eq_true c8
        clear c8
        by_cases c9 : (ji7) < (l0.length : Int)
        · rw [if_pos c9] at H
          have c9b0 : decide ((ji7) < (l0.length : Int)) = true := decide_eq_true c9
          clear c9
          obtain rfl := Option.some.inj H
          go_enter Tryd.func11, Tryd.ntmps11
          go_wp2_with (first | ((with_reducible refine gate_callee (f := 28) rfl ?_); refine goesL_ (some 6) rfl rfl Tryd.func28 (by kernel_rfl) rfl #[.slice A0 l0.length c0] rfl ma_ ?_; (with_reducible refine (impl_IsCalendar.calls k _ _ l0 true _ ?side1 ?side2 A3.out).mono ?_); (case side1 => exact cd_ HR0.out); (case side2 => exact HC0.out); rintro e w' ⟨rfl, ⟨nd, rfl⟩⟩; refine ⟨_, rfl, ?_⟩) | (go_at_call 29; (with_reducible refine (impl_InRange.calls a1 0 100000 true _ A5.out).mono ?_); rintro e w' ⟨rfl, ⟨nd, rfl⟩⟩; have p558 : 0 ≤ ((ji7) : Int) := of_decide_eq_true as_; have q558 : (ji7) < (l0.length : Int) := of_decide_eq_true as_; obtain ⟨ad558, e558, hx558_0⟩ := Kd.at_bool HR0.out (ji7) p558 q558; cases e558; replace p558 := eq_true p558; replace q558 := eq_true q558))
          go_ret
          exact ⟨by first | rfl | (simp; done) | (simp only [← hji7] <;> (first | rfl | simp)) | (simp [*]; done), by repeat (first | exact Drawn0.refl _ | apply Drawn0.step)⟩
        · rw [if_neg c9] at H
          exact absurd H (by simp)
      · rw [if_neg c8] at H
        exact absurd H (by simp)
    · replace c6 := Bool.eq_false_iff.mpr c6
      subst c6
      have H1 : (some false) = some r := by rw [if_neg (show ¬ (false = true) by decide)] at H; exact H
      clear H
      have H := H1
      clear H1
      obtain rfl := Option.some.inj H
      go_enter Tryd.func11, Tryd.ntmps11
      go_wp2_with (first | ((with_reducible refine gate_callee (f := 28) rfl ?_); refine goesL_ (some 6) rfl rfl Tryd.func28 (by kernel_rfl) rfl #[.slice A0 l0.length c0] rfl ma_ ?_; (with_reducible refine (impl_IsCalendar.calls k _ _ l0 true _ ?side1 ?side2 A3.out).mono ?_); (case side1 => exact cd_ HR0.out); (case side2 => exact HC0.out); rintro e w' ⟨rfl, ⟨nd, rfl⟩⟩; refine ⟨_, rfl, ?_⟩) | (go_at_call 29; (with_reducible refine (impl_InRange.calls a1 0 100000 false _ A5.out).mono ?_); rintro e w' ⟨rfl, ⟨nd, rfl⟩⟩))
      go_ret
      exact ⟨rs_, by repeat (first | exact Drawn0.refl _ | apply Drawn0.step)⟩
  · replace c4 := Bool.eq_false_iff.mpr c4
    subst c4
    have H1 : (some false) = some r := by rw [if_neg (show ¬ (false = true) by decide)] at H; exact H
    clear H
    have H := H1
    clear H1
    obtain rfl := Option.some.inj H
    go_enter Tryd.func11, Tryd.ntmps11
    go_wp2_with (first | ((with_reducible refine gate_callee (f := 28) rfl ?_); refine goesL_ (some 6) rfl rfl Tryd.func28 (by kernel_rfl) rfl #[.slice A0 l0.length c0] rfl ma_ ?_; (with_reducible refine (impl_IsCalendar.calls k _ _ l0 false _ ?side1 ?side2 A3.out).mono ?_); (case side1 => exact cd_ HR0.out); (case side2 => exact HC0.out); rintro e w' ⟨rfl, ⟨nd, rfl⟩⟩; refine ⟨_, rfl, ?_⟩))
    go_ret
    exact ⟨rs_, by repeat (first | exact Drawn0.refl _ | apply Drawn0.step)⟩

/-! ### impl_Today: function 12 -/
def impl_Today.l0 : Nat → Int → List (S33) → List (S33) → Int → Int → Option ((List (S33)))
  | 0, _, _, _, _, _ => none
  | k + 1, x1, x5, x13, x14, x15 => if x15 < x14 then (if 0 ≤ x15 then (if x15 < (x13.length : Int) then (if ((rd_T33 x13 x15).f2) ≤ (wrap64 (Int.tdiv x1 24)) then (if ((rd_T33 x13 x15).f1) = 0 then (impl_Today.l0 k x1 x5 x13 x14 (wrap64 (x15 + 1))) else (if x5.length < 5864062014805 then (impl_Today.l0 k x1 (x5 ++ [(⟨(rd_T33 x13 x15).f0, (rd_T33 x13 x15).f1, (rd_T33 x13 x15).f2⟩ : S33)]) x13 x14 (wrap64 (x15 + 1))) else (none))) else (impl_Today.l0 k x1 x5 x13 x14 (wrap64 (x15 + 1)))) else (none)) else (none)) else (some x5)
def impl_Today.f (k : Nat) (l0 : List (S33)) (a1 : Int) : Option ((List (S33))) := (some (([] : List (S33)) : List (S33))).bind fun y559 => ((impl_InRange.f a1 0 100000).bind fun t562 => (if t562 = true then (impl_Today.l0 k a1 y559 l0 (l0.length : Int) 0) else (some y559)))
theorem impl_Today.mono_l : ∀ k, (∀ y0 y1 y2 y3 y4, LeO (impl_Today.l0 k y0 y1 y2 y3 y4) (impl_Today.l0 (k + 1) y0 y1 y2 y3 y4))
  | 0 => fun _ _ _ _ _ r h => by simp [impl_Today.l0] at h
  | k + 1 => by
    have ih0 := impl_Today.mono_l k
    · intro y0 y1 y2 y3 y4
      unfold impl_Today.l0
      exact mo_
theorem impl_Today.mono : ∀ a0 a1 k, LeO (impl_Today.f k a0 a1) (impl_Today.f (k + 1) a0 a1) := by
  intro a0 a1 k
  have ih0 := impl_Today.mono_l k
  unfold impl_Today.f
  exact mo_
theorem e216_ {w : World} {g : Nat} {t : TypeId} {i0 : Int} {i1 : Int} {i2 : Int} (h : w.heap[g]? = some (.cells #[.int .i64 i0, .int .i64 i1, .int .i64 i2] t (0, 0))) : w.cell? ⟨g, 0, none⟩ = some (.int .i64 i0) ∧ w.cell? ⟨g, 1, none⟩ = some (.int .i64 i1) ∧ w.cell? ⟨g, 2, none⟩ = some (.int .i64 i2) := ⟨(blk_cell h 0).trans rfl, (blk_cell h 1).trans rfl, (blk_cell h 2).trans rfl⟩
theorem z217_ {w : World} {g : Nat} {t : TypeId} {cs : Array Value} (h : w.heap[g]? = some (.cells cs t (0, 0))) : w.frozen? ⟨g, 0, none⟩ = false ∧ w.frozen? ⟨g, 1, none⟩ = false ∧ w.frozen? ⟨g, 2, none⟩ = false := ⟨blk_frozen h 0, blk_frozen h 1, blk_frozen h 2⟩
theorem y219_ {P : Prop} (h : P := by (with_reducible repeat (first | refine blk_drewN ?_ _ | refine blk_drew ?_ | refine blk_alloc ?_ _)); refine blk_put (cs := #[.int .i64 ((rd_T33 l0 x15_1).f0), .int .i64 ((rd_T33 l0 x15_1).f1), .int .i64 0]) ?_ 2 _ rfl; (with_reducible repeat (first | refine blk_drewN ?_ _ | refine blk_drew ?_ | refine blk_alloc ?_ _)); refine blk_put (cs := #[.int .i64 ((rd_T33 l0 x15_1).f0), .int .i64 0, .int .i64 0]) ?_ 1 _ rfl; (with_reducible repeat (first | refine blk_drewN ?_ _ | refine blk_drew ?_ | refine blk_alloc ?_ _)); refine blk_put (cs := #[.int .i64 0, .int .i64 0, .int .i64 0]) ?_ 0 _ rfl; (with_reducible repeat (first | refine blk_drewN ?_ _ | refine blk_drew ?_ | refine blk_alloc ?_ _)); exact BK564.out) : P := h
theorem y220_ {P : Prop} (h : P := by repeat (first | (with_reducible first | exact HB.out | apply below_alloc | apply pw_below_drewN | apply below_drew1 | refine below_set ?_ GE564.out) | exact HB.out)) : P := h
set_option maxHeartbeats 8000000 in
set_option maxRecDepth 100000 in
theorem impl_Today.calls (k : Nat) (A0 : Option Addr) (c0 : Nat) (l0 : List (S33)) (a1 : Int) (r : List (S33)) (w : World) (hr0 : Kd.C k33 w A0 l0.length l0) (hc0 : l0.length ≤ c0) (h : impl_Today.f k l0 a1 = some r) :
    Calls Tryd.prog 12 #[.slice A0 l0.length c0, .int .i64 a1] w fun e w' => ∃ v0_ : Value, e = .returned (v0_) ∧ Kd.R k33 33 w' w.heap.size (fun _ => True) v0_ r ∧ Below w.heap.size w w' := by
  have hu33 := Tryd.underlying33
  have HR0 := Aside0.mk hr0
  have HC0 := Aside0.mk hc0
  clear hr0 hc0
  have HB := Aside0.mk (Below.refl w.heap.size w)
  have H : ((some (([] : List (S33)) : List (S33))).bind fun y559 => ((impl_InRange.f a1 0 100000).bind fun t562 => (if t562 = true then (impl_Today.l0 k a1 y559 l0 (l0.length : Int) 0) else (some y559)))) = some r := h
  clear h
  obtain ⟨y559, hy559⟩ : ∃ y_ : List (S33), y_ = (([] : List (S33))) := ⟨_, rfl⟩
  replace H : ((impl_InRange.f a1 0 100000).bind fun t562 => (if t562 = true then (impl_Today.l0 k a1 y559 l0 (l0.length : Int) 0) else (some y559))) = some r := by first | (rw [hy559]; with_reducible exact H) | (have H2_ := (Option.bind_some _ _).symm.trans H; rw [hy559]; with_reducible exact H2_) | (have H2_ := (Option.bind_some _ _).symm.trans H; with_reducible exact H2_) | with_reducible exact H | (rw [hy559]; exact H) | exact H
  have Ny559 := Aside0.mk hy559
  clear hy559
  replace H := Option.bind_eq_some_iff.mp H
  obtain ⟨t562, A30, H⟩ := H
  replace H : (if t562 = true then (impl_Today.l0 k a1 y559 l0 (l0.length : Int) 0) else (some y559)) = some r := H
  have A3 := Aside0.mk A30
  clear A30
  by_cases c4 : t562 = true
  · subst c4
    have H1 : (impl_Today.l0 k a1 y559 l0 (l0.length : Int) 0) = some r := by rw [if_pos rfl] at H; exact H
    clear H
    have H := H1
    clear H1
    have H' := Aside0.mk H
    clear H
    go_enter Tryd.func12, Tryd.ntmps12
    go_wp2_with (first | ((with_reducible refine gate_dst (N := 8) rfl ?_); refine Kd.R_lit k33 _ 33 ?hg (N := 8) ?hd (xs := ([] : List (S33))) (inner := []) (ok := fun _ => True) (okp := fun _ => True) ?hr ?hp (fun _ hk => hk) trivial (Below.refl _ _) (Nat.le_refl _) (by simp) ?_; (case hd => rfl); (case hg => rfl); (case hr => first | (go_simp; done) | (go_simp; rfl)); (case hp => exact (Reps.none _ _)); intro v560 w5 ho6 hb hg_ hnew_; clear hg_ hnew_; (first | rw [← Ny559.out] at ho6 | (simp only [Int.reduceToNat] at ho6; rw [← Ny559.out] at ho6)); have HO561 := Aside0.mk (Kd.R_lower ho6 (below_size (hd_ HB.out))); have n1_ := Aside0.mk (below_step (hd_ HB.out) hb); clear HB; have HB := n1_; clear n1_; clear hb ho6) | ((with_reducible refine gate_callee (f := 29) rfl ?_); refine goesL_ (some 10) rfl rfl Tryd.func29 (by kernel_rfl) rfl #[.int .i64 a1, .int .i64 0, .int .i64 100000] rfl ma_ ?_; (with_reducible refine (impl_InRange.calls a1 0 100000 true _ A3.out).mono ?_); rintro e w' ⟨rfl, ⟨nd, rfl⟩⟩; refine ⟨_, rfl, ?_⟩))
    go_loopg [5, 15] k (fun kq v5 v15 w' => ∃ (x5_1 : List (S33)) (x15_1 : Int), v15 = .int .i64 x15_1 ∧ Aside0 (impl_Today.l0 kq a1 x5_1 l0 (l0.length : Int) x15_1 = some r) ∧ Aside0 (kq ≤ k) ∧ Aside0 (Kd.R k33 33 w' w.heap.size (fun _ => True) v5 x5_1) ∧ Aside0 (Below w.heap.size w w'))
    case atStart => exact ⟨(y559), (0), rs_, H', ⟨Nat.le_refl _⟩, ⟨rd_ HO561.out⟩, ⟨hd_ HB.out⟩⟩
    case round =>
      clear H'
      try clear c1
      try clear c2
      try clear p2
      try clear c4
      obtain ⟨x5_1, x15_1, rfl, HA, HK1, HO_5, HB⟩ := hrel
      cases gk with
      | zero => exact absurd HA.out (by simp [impl_Today.l0])
      | succ k1 =>
        have H := HA.out
        clear HA
        simp only [impl_Today.l0] at H
        by_cases c7 : x15_1 < (l0.length : Int)
        · rw [if_pos c7] at H
          have c7b0 : decide (x15_1 < (l0.length : Int)) = true := decide_eq_true c7
          clear c7
          by_cases c8 : 0 ≤ x15_1
          · rw [if_pos c8] at H
            have c8b0 : decide (0 ≤ x15_1) = true := decide_eq_true c8
            clear c8
            by_cases c9 : x15_1 < (l0.length : Int)
            · rw [if_pos c9] at H
              have c9b0 : decide (x15_1 < (l0.length : Int)) = true := decide_eq_true c9
              clear c9
              by_cases c10 : ((rd_T33 l0 x15_1).f2) ≤ (wrap64 (Int.tdiv a1 24))
              · rw [if_pos c10] at H
                have c10b0 : decide (((rd_T33 l0 x15_1).f2) ≤ (wrap64 (Int.tdiv a1 24))) = true := decide_eq_true c10
                clear c10
                by_cases c11 : ((rd_T33 l0 x15_1).f1) = 0
                · rw [if_pos c11] at H
                  have c11b0 : (((rd_T33 l0 x15_1).f1) == 0) = true := beq_iff_eq.mpr c11
                  have c11b1 : (((rd_T33 l0 x15_1).f1) != 0) = false := bne_eq_false_iff_eq.mpr c11
                  clear c11
                  have H' := Aside0.mk H
                  clear H
                  have p563 : 0 ≤ (x15_1 : Int) := of_decide_eq_true as_
                  have q563 : x15_1 < (l0.length : Int) := of_decide_eq_true as_
                  obtain ⟨ad563, e563, hx563_0, hx563_1, hx563_2⟩ := at_T33 HR0.out x15_1 p563 q563
                  cases e563
                  replace hx563_0 := cb_ HB.out hx563_0
                  replace hx563_1 := cb_ HB.out hx563_1
                  replace hx563_2 := cb_ HB.out hx563_2
                  replace p563 := eq_true p563
                  replace q563 := eq_true q563
                  go_wp2_with (first | ((with_reducible refine gate_dst (N := 7) rfl ?_); refine bx_ 7 #[.int .i64 0, .int .i64 0, .int .i64 0] 33 ?_; intro gb564 hg w12 hbox hb; have n0_ := Aside0.mk (Kd.R_below (Kd.R_elderB (rd_ HO_5.out) gb564 (Nat.le_of_eq hg.symm)) hb); have n1_ := Aside0.mk (below_step (hd_ HB.out) hb); have BK564 := Aside0.mk (hbox); have GW564 := Aside0.mk ((by rw [hg]; exact (below_size (hd_ HB.out)) : w.heap.size ≤ gb564)); have GE564 := GW564; clear HO_5; clear HB; have HO_5 := n0_; have HB := n1_; clear n0_ n1_; clear hb hbox hg; obtain ⟨hcz13_0, hcz13_1, hcz13_2⟩ := e216_ BK564.out; obtain ⟨hfz13_0, hfz13_1, hfz13_2⟩ := z217_ BK564.out))
                  go_roundg k1
                  case measure => have := HK1.out; omega
                  case rel => exact ⟨(x5_1), (wrap64 (x15_1 + 1)), rs_, H', ⟨by have := HK1.out; omega⟩, ⟨by (with_reducible repeat (first | apply Kd.R_alloc | apply Kd.R_drewN | apply Kd.R_drew)); exact Kd.R_mono (Kd.R_far (p := ⟨gb564, 2, none⟩) (Kd.R_far (p := ⟨gb564, 1, none⟩) (Kd.R_far (p := ⟨gb564, 0, none⟩) (Kd.R_mono HO_5.out (fun k_ hk => (⟨hk, hk.2⟩ : _ ∧ k_ ≠ gb564))) (fun _ hk => hk.2) (.int .i64 ((rd_T33 l0 x15_1).f0))) (fun _ hk => hk.2) (.int .i64 ((rd_T33 l0 x15_1).f1))) (fun _ hk => hk.2) (.int .i64 ((rd_T33 l0 x15_1).f2))) (fun _ hk => trivial)⟩, ⟨y220_⟩⟩
                · rw [if_neg c11] at H
                  have c11b0 : (((rd_T33 l0 x15_1).f1) == 0) = false := beq_eq_false_iff_ne.mpr c11
                  have c11b1 : (((rd_T33 l0 x15_1).f1) != 0) = true := bne_iff_ne.mpr c11
                  by_cases c14 : x5_1.length < 5864062014805
                  · rw [if_pos c14] at H
                    have LMc14 := Aside0.mk c14
                    clear c14
                    obtain ⟨y565, hy565⟩ : ∃ y_ : List (S33), y_ = (x5_1 ++ [(⟨(rd_T33 l0 x15_1).f0, (rd_T33 l0 x15_1).f1, (rd_T33 l0 x15_1).f2⟩ : S33)]) := ⟨_, rfl⟩
                    replace H : (impl_Today.l0 k1 a1 y565 l0 (l0.length : Int) (wrap64 (x15_1 + 1))) = some r := by first | (rw [hy565]; with_reducible exact H) | (have H2_ := (Option.bind_some _ _).symm.trans H; rw [hy565]; with_reducible exact H2_) | (have H2_ := (Option.bind_some _ _).symm.trans H; with_reducible exact H2_) | with_reducible exact H | (rw [hy565]; exact H) | exact H
                    have Ny565 := Aside0.mk hy565
                    clear hy565
                    have H' := Aside0.mk H
                    clear H
                    have p563 : 0 ≤ (x15_1 : Int) := of_decide_eq_true as_
                    have q563 : x15_1 < (l0.length : Int) := of_decide_eq_true as_
                    obtain ⟨ad563, e563, hx563_0, hx563_1, hx563_2⟩ := at_T33 HR0.out x15_1 p563 q563
                    cases e563
                    replace hx563_0 := cb_ HB.out hx563_0
                    replace hx563_1 := cb_ HB.out hx563_1
                    replace hx563_2 := cb_ HB.out hx563_2
                    replace p563 := eq_true p563
                    replace q563 := eq_true q563
                    go_wp2_with (first | ((with_reducible refine gate_dst (N := 7) rfl ?_); refine bx_ 7 #[.int .i64 0, .int .i64 0, .int .i64 0] 33 ?_; intro gb564 hg w15 hbox hb; have n0_ := Aside0.mk (Kd.R_below (Kd.R_elderB (rd_ HO_5.out) gb564 (Nat.le_of_eq hg.symm)) hb); have n1_ := Aside0.mk (below_step (hd_ HB.out) hb); have BK564 := Aside0.mk (hbox); have GW564 := Aside0.mk ((by rw [hg]; exact (below_size (hd_ HB.out)) : w.heap.size ≤ gb564)); have GE564 := GW564; clear HO_5; clear HB; have HO_5 := n0_; have HB := n1_; clear n0_ n1_; clear hb hbox hg; obtain ⟨hcz16_0, hcz16_1, hcz16_2⟩ := e216_ BK564.out; obtain ⟨hfz16_0, hfz16_1, hfz16_2⟩ := z217_ BK564.out) | ((with_reducible refine gate_builtin (b := .append) (xs := #[.tmp 29, .tmp 31]) rfl ?_); at_builtin; refine Kd.R_append k33 (w0 := w) w.heap.size rfl (.tmp 29) (.tmp 31) 29 33 (.agg #[(.int .i64 0), (.int .i64 0), (.int .i64 0)]) 24 rfl Tryd.underlying29 info33 rfl (by decide) (by omega) u5 x5_1 (⟨(rd_T33 l0 x15_1).f0, (rd_T33 l0 x15_1).f1, (rd_T33 l0 x15_1).f2⟩ : S33) [.int .i64 ((rd_T33 l0 x15_1).f0), .int .i64 ((rd_T33 l0 x15_1).f1), .int .i64 ((rd_T33 l0 x15_1).f2)] (fun k_ => k_ ≠ gb564) (fun _ => False) rfl (by first | (go_simp; done) | (go_simp; rfl)) ?aP (fun _ hk => hk.elim) ?aF ?aO ?aB ?aS ?aL ?_; (case aP => exact k33_mkM _ _ _ (⟨(rd_T33 l0 x15_1).f0, (rd_T33 l0 x15_1).f1, (rd_T33 l0 x15_1).f2⟩ : S33)); (case aB => exact (y220_)); (case aF => exact (fun k_ hk => Kd.freshB (g := gb564) (o := .cells #[.int .i64 ((rd_T33 l0 x15_1).f0), .int .i64 ((rd_T33 l0 x15_1).f1), .int .i64 ((rd_T33 l0 x15_1).f2)] 33 (0, 0)) y219_ k_ hk)); (case aO => exact (by (with_reducible repeat (first | apply Kd.R_alloc | apply Kd.R_drewN | apply Kd.R_drew)); exact Kd.R_mono (Kd.R_far (p := ⟨gb564, 2, none⟩) (Kd.R_far (p := ⟨gb564, 1, none⟩) (Kd.R_far (p := ⟨gb564, 0, none⟩) (Kd.R_mono HO_5.out (fun k_ hk => (⟨hk, hk.2⟩ : _ ∧ k_ ≠ gb564))) (fun _ hk => hk.2) (.int .i64 ((rd_T33 l0 x15_1).f0))) (fun _ hk => hk.2) (.int .i64 ((rd_T33 l0 x15_1).f1))) (fun _ hk => hk.2) (.int .i64 ((rd_T33 l0 x15_1).f2))) (fun _ hk => hk.1.2))); (case aS => exact (below_size (y220_))); (case aL => have := LMc14.out; omega); intro v566 w17 ho hb hg hat; rw [← Ny565.out] at ho; have n0_ := Aside0.mk (blk_grown (g := gb564) (o := .cells #[.int .i64 ((rd_T33 l0 x15_1).f0), .int .i64 ((rd_T33 l0 x15_1).f1), .int .i64 ((rd_T33 l0 x15_1).f2)] 33 (0, 0)) y219_ hg (Kd.R_away HO_5.out (fun _ hk => hk.2))); have n1_ := Aside0.mk (hb); have HO567 := Aside0.mk (ho); clear BK564; clear HB; clear HO_5; have BK564 := n0_; have HB := n1_; clear n0_ n1_; clear ho hb hg hat))
                    go_roundg k1
                    case measure => have := HK1.out; omega
                    case rel => exact ⟨(y565), (wrap64 (x15_1 + 1)), rs_, H', ⟨by have := HK1.out; omega⟩, ⟨by (with_reducible repeat (first | apply Kd.R_alloc | apply Kd.R_drewN | apply Kd.R_drew)); exact Kd.R_mono HO567.out (fun _ hk => trivial)⟩, ⟨y220_⟩⟩
                  · rw [if_neg c14] at H
                    exact absurd H (by simp)
              · rw [if_neg c10] at H
                have c10b0 : decide (((rd_T33 l0 x15_1).f2) ≤ (wrap64 (Int.tdiv a1 24))) = false := decide_eq_false c10
                clear c10
                have H' := Aside0.mk H
                clear H
                have p563 : 0 ≤ (x15_1 : Int) := of_decide_eq_true as_
                have q563 : x15_1 < (l0.length : Int) := of_decide_eq_true as_
                obtain ⟨ad563, e563, hx563_0, hx563_1, hx563_2⟩ := at_T33 HR0.out x15_1 p563 q563
                cases e563
                replace hx563_0 := cb_ HB.out hx563_0
                replace hx563_1 := cb_ HB.out hx563_1
                replace hx563_2 := cb_ HB.out hx563_2
                replace p563 := eq_true p563
                replace q563 := eq_true q563
                go_wp2_with (first | ((with_reducible refine gate_dst (N := 7) rfl ?_); refine bx_ 7 #[.int .i64 0, .int .i64 0, .int .i64 0] 33 ?_; intro gb564 hg w18 hbox hb; have n0_ := Aside0.mk (Kd.R_below (Kd.R_elderB (rd_ HO_5.out) gb564 (Nat.le_of_eq hg.symm)) hb); have n1_ := Aside0.mk (below_step (hd_ HB.out) hb); have BK564 := Aside0.mk (hbox); have GW564 := Aside0.mk ((by rw [hg]; exact (below_size (hd_ HB.out)) : w.heap.size ≤ gb564)); have GE564 := GW564; clear HO_5; clear HB; have HO_5 := n0_; have HB := n1_; clear n0_ n1_; clear hb hbox hg; obtain ⟨hcz19_0, hcz19_1, hcz19_2⟩ := e216_ BK564.out; obtain ⟨hfz19_0, hfz19_1, hfz19_2⟩ := z217_ BK564.out))
                go_roundg k1
                case measure => have := HK1.out; omega
                case rel => exact ⟨(x5_1), (wrap64 (x15_1 + 1)), rs_, H', ⟨by have := HK1.out; omega⟩, ⟨by (with_reducible repeat (first | apply Kd.R_alloc | apply Kd.R_drewN | apply Kd.R_drew)); exact Kd.R_mono (Kd.R_far (p := ⟨gb564, 2, none⟩) (Kd.R_far (p := ⟨gb564, 1, none⟩) (Kd.R_far (p := ⟨gb564, 0, none⟩) (Kd.R_mono HO_5.out (fun k_ hk => (⟨hk, hk.2⟩ : _ ∧ k_ ≠ gb564))) (fun _ hk => hk.2) (.int .i64 ((rd_T33 l0 x15_1).f0))) (fun _ hk => hk.2) (.int .i64 ((rd_T33 l0 x15_1).f1))) (fun _ hk => hk.2) (.int .i64 ((rd_T33 l0 x15_1).f2))) (fun _ hk => trivial)⟩, ⟨y220_⟩⟩
            · rw [if_neg c9] at H
              exact absurd H (by simp)
          · rw [if_neg c8] at H
            exact absurd H (by simp)
        · rw [if_neg c7] at H
          have c7b0 : decide (x15_1 < (l0.length : Int)) = false := decide_eq_false c7
          clear c7
          obtain rfl := Option.some.inj H
          go_wp2
          go_ret
          exact ⟨_, by first | rfl | (simp [errW_none, errW_some] <;> rfl) | (simp [*, errW_none, errW_some] <;> rfl), rd_ HO_5.out, hd_ HB.out⟩
  · replace c4 := Bool.eq_false_iff.mpr c4
    subst c4
    have H1 : (some y559) = some r := by rw [if_neg (show ¬ (false = true) by decide)] at H; exact H
    clear H
    have H := H1
    clear H1
    obtain rfl := Option.some.inj H
    go_enter Tryd.func12, Tryd.ntmps12
    go_wp2_with (first | ((with_reducible refine gate_dst (N := 8) rfl ?_); refine Kd.R_lit k33 _ 33 ?hg (N := 8) ?hd (xs := ([] : List (S33))) (inner := []) (ok := fun _ => True) (okp := fun _ => True) ?hr ?hp (fun _ hk => hk) trivial (Below.refl _ _) (Nat.le_refl _) (by simp) ?_; (case hd => rfl); (case hg => rfl); (case hr => first | (go_simp; done) | (go_simp; rfl)); (case hp => exact (Reps.none _ _)); intro v560 w20 ho21 hb hg_ hnew_; clear hg_ hnew_; (first | rw [← Ny559.out] at ho21 | (simp only [Int.reduceToNat] at ho21; rw [← Ny559.out] at ho21)); have HO561 := Aside0.mk (Kd.R_lower ho21 (below_size (hd_ HB.out))); have n1_ := Aside0.mk (below_step (hd_ HB.out) hb); clear HB; have HB := n1_; clear n1_; clear hb ho21) | ((with_reducible refine gate_callee (f := 29) rfl ?_); refine goesL_ (some 10) rfl rfl Tryd.func29 (by kernel_rfl) rfl #[.int .i64 a1, .int .i64 0, .int .i64 100000] rfl ma_ ?_; (with_reducible refine (impl_InRange.calls a1 0 100000 false _ A3.out).mono ?_); rintro e w' ⟨rfl, ⟨nd, rfl⟩⟩; refine ⟨_, rfl, ?_⟩))
    go_ret
    exact ⟨_, by first | rfl | (simp [errW_none, errW_some] <;> rfl) | (simp [*, errW_none, errW_some] <;> rfl), rd_ HO561.out, hd_ HB.out⟩

/-! ### impl_Quiet: function 13 -/
def impl_Quiet.f (k : Nat) (l0 : List (S33)) (a1 : Int) : Option (Bool) := (impl_Today.f k l0 a1).bind fun t568 => (some ((t568.length : Int) == 0))
theorem impl_Quiet.mono : ∀ a0 a1 k, LeO (impl_Quiet.f k a0 a1) (impl_Quiet.f (k + 1) a0 a1) := by
  intro a0 a1 k
  unfold impl_Quiet.f
  have jh0 := @impl_Today.mono
  exact mo_
set_option maxHeartbeats 8000000 in
set_option maxRecDepth 100000 in
theorem impl_Quiet.calls (k : Nat) (A0 : Option Addr) (c0 : Nat) (l0 : List (S33)) (a1 : Int) (r : Bool) (w : World) (hr0 : Kd.C k33 w A0 l0.length l0) (hc0 : l0.length ≤ c0) (h : impl_Quiet.f k l0 a1 = some r) :
    Calls Tryd.prog 13 #[.slice A0 l0.length c0, .int .i64 a1] w fun e w' => e = .returned (.bool r) ∧ Below w.heap.size w w' := by
  have HR0 := Aside0.mk hr0
  have HC0 := Aside0.mk hc0
  clear hr0 hc0
  have HB := Aside0.mk (Below.refl w.heap.size w)
  have H : ((impl_Today.f k l0 a1).bind fun t568 => (some ((t568.length : Int) == 0))) = some r := h
  clear h
  replace H := Option.bind_eq_some_iff.mp H
  obtain ⟨t568, A30, H⟩ := H
  replace H : (some ((t568.length : Int) == 0)) = some r := H
  have A3 := Aside0.mk A30
  clear A30
  obtain rfl := Option.some.inj H
  go_enter Tryd.func13, Tryd.ntmps13
  go_wp2_with (first | ((with_reducible refine gate_callee (f := 12) rfl ?_); refine goesL_ (some 7) rfl rfl Tryd.func12 (by kernel_rfl) rfl #[.slice A0 l0.length c0, .int .i64 a1] rfl ma_ ?_; (with_reducible refine (impl_Today.calls k _ _ l0 a1 t568 _ ?side1 ?side2 A3.out).mono ?_); (case side1 => exact cd_ HR0.out); (case side2 => exact HC0.out); rintro e w4 ⟨v569, rfl, ho0, hb⟩; refine ⟨_, rfl, ?_⟩; have HO570 := Aside0.mk (Kd.R_lower ho0 (below_size (hd_ HB.out))); have n1_ := Aside0.mk (below_step (hd_ HB.out) hb); clear HB; have HB := n1_; clear n1_; (try clear hb); (try clear ho0); obtain ⟨Ao5, co5, eo5⟩ := Kd.R_slice HO570.out; subst eo5))
  go_ret
  exact ⟨rt_, hd_ HB.out⟩

end Go.Proofs.YtnlgilmbmoiniaaDoor.PFnTasks
