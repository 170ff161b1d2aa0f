-- Written for this claim by a program (a printer turned to this claim); Lean checks it.
import Derived.Test.YtihnanfekchlhaaDoorPFnFormsx0
import Derived.Test.YtihnanfekchlhaaDoorPFnFormsx1
import Derived.Test.YtihnanfekchlhaaDoorPFnFormsx4
import Derived.Test.YtihnanfekchlhaaDoorPFnFormsx5
namespace Go.Proofs.YtihnanfekchlhaaDoor.PFnForms
open Go.RowKit Go.Proofs.YtihnanfekchlhaaDoorW.PrintWords Go.Proofs.YtihnanfekchlhaaDoorW.PrintLast Go.Proofs.YtihnanfekchlhaaDoorW.PrintMore
attribute [local go_sem] max2_int min2_int max_two min_two max_three min_three max_four min_four   -- for this text's walks alone
set_option linter.unusedVariables false
set_option linter.unusedSimpArgs false

attribute [local go_sem high] eqA26
/-! ### impl_ParseReport: function 11 -/
def impl_ParseReport.f (k : Nat) (a0 : ByteArray) : Option (Int × Int × List Int × Int × Int × List Int × Int × Int × Bool) := (strings_Split.f a0 (⟨#[32]⟩ : ByteArray)).bind fun t342 => (if (t342.length : Int) = 6 then (if 0 < (t342.length : Int) then ((impl_ParseInt.f k (rdOf ByteArray.empty t342 0)).bind fun bt346 => (if 2 < (t342.length : Int) then ((impl_ParseList.f k (rdOf ByteArray.empty t342 2)).bind fun bt349 => (if 3 < (t342.length : Int) then ((impl_parsePair.f k (rdOf ByteArray.empty t342 3)).bind fun bt354 => (if 4 < (t342.length : Int) then ((impl_ParseList.f k (rdOf ByteArray.empty t342 4)).bind fun bt358 => (if 5 < (t342.length : Int) then ((impl_parsePair.f k (rdOf ByteArray.empty t342 5)).bind fun bt363 => (if 1 < (t342.length : Int) then ((impl_KindOf.f k (rdOf ByteArray.empty t342 1)).bind fun t367 => (if bt346.2 = true then (if bt349.2 = true then (if bt354.2.2 = true then (if bt358.2 = true then (if bt363.2.2 = true then ((impl_ReportText.f k bt346.1 t367 bt349.1 bt354.1 bt354.2.1 bt358.1 bt363.1 bt363.2.1).bind fun t369 => (if t369.toList = a0.toList then (some (bt346.1, t367, bt349.1, bt354.1, bt354.2.1, bt358.1, bt363.1, bt363.2.1, true)) else (some (0, 0, ([] : List Int), 0, 0, ([] : List Int), 0, 0, false)))) else (some (0, 0, ([] : List Int), 0, 0, ([] : List Int), 0, 0, false))) else (some (0, 0, ([] : List Int), 0, 0, ([] : List Int), 0, 0, false))) else (some (0, 0, ([] : List Int), 0, 0, ([] : List Int), 0, 0, false))) else (some (0, 0, ([] : List Int), 0, 0, ([] : List Int), 0, 0, false))) else (some (0, 0, ([] : List Int), 0, 0, ([] : List Int), 0, 0, false)))) else (none))) else (none))) else (none))) else (none))) else (none))) else (none)) else (some (0, 0, ([] : List Int), 0, 0, ([] : List Int), 0, 0, false)))
theorem impl_ParseReport.mono : ∀ a0 k, LeO (impl_ParseReport.f k a0) (impl_ParseReport.f (k + 1) a0) := by
 intro a0 k
 unfold impl_ParseReport.f
 have jh0 := @impl_KindOf.mono
 have jh1 := @impl_ParseInt.mono
 have jh2 := @impl_ParseList.mono
 have jh3 := @impl_ReportText.mono
 have jh4 := @impl_parsePair.mono
 exact mo_
abbrev c117_ (i0 : Int) (i1 : Int) (A2 : Option Addr) (n2 c2 : Nat) (i3 : Int) (i4 : Int) (A5 : Option Addr) (n5 c5 : Nat) (i6 : Int) (i7 : Int) : Obj := .cells #[.int .i64 i0, .int .i64 i1, .slice A2 n2 c2, .int .i64 i3, .int .i64 i4, .slice A5 n5 c5, .int .i64 i6, .int .i64 i7] 28 (0, 0)
theorem e118_ {w : World} {g : Nat} {t : TypeId} {i0 : Int} {i1 : Int} {A2 : Option Addr} {n2 c2 : Nat} {i3 : Int} {i4 : Int} {A5 : Option Addr} {n5 c5 : Nat} {i6 : Int} {i7 : Int} (h : w.heap[g]? = some (.cells #[.int .i64 i0, .int .i64 i1, .slice A2 n2 c2, .int .i64 i3, .int .i64 i4, .slice A5 n5 c5, .int .i64 i6, .int .i64 i7] t (0, 0))) : w.cell? ⟨g, 0, none⟩ = some (.int .i64 i0) ∧ w.cell? ⟨g, 1, none⟩ = some (.int .i64 i1) ∧ w.cell? ⟨g, 2, none⟩ = some (.slice A2 n2 c2) ∧ w.cell? ⟨g, 3, none⟩ = some (.int .i64 i3) ∧ w.cell? ⟨g, 4, none⟩ = some (.int .i64 i4) ∧ w.cell? ⟨g, 5, none⟩ = some (.slice A5 n5 c5) ∧ w.cell? ⟨g, 6, none⟩ = some (.int .i64 i6) ∧ w.cell? ⟨g, 7, none⟩ = some (.int .i64 i7) := ⟨(blk_cell h 0).trans rfl, (blk_cell h 1).trans rfl, (blk_cell h 2).trans rfl, (blk_cell h 3).trans rfl, (blk_cell h 4).trans rfl, (blk_cell h 5).trans rfl, (blk_cell h 6).trans rfl, (blk_cell h 7).trans rfl⟩
theorem z119_ {w : World} {g : Nat} {t : TypeId} {cs : Array Value} (h : w.heap[g]? = some (.cells cs t (0, 0))) : w.frozen? ⟨g, 0, none⟩ = false ∧ w.frozen? ⟨g, 1, none⟩ = false ∧ w.frozen? ⟨g, 2, none⟩ = false ∧ w.frozen? ⟨g, 3, none⟩ = false ∧ w.frozen? ⟨g, 4, none⟩ = false ∧ w.frozen? ⟨g, 5, none⟩ = false ∧ w.frozen? ⟨g, 6, none⟩ = false ∧ w.frozen? ⟨g, 7, none⟩ = false := ⟨blk_frozen h 0, blk_frozen h 1, blk_frozen h 2, blk_frozen h 3, blk_frozen h 4, blk_frozen h 5, blk_frozen h 6, blk_frozen h 7⟩
theorem y133_ {P : Prop} (h : P := by (with_reducible repeat (first | apply Kd.R_alloc | apply Kd.R_drewN | apply Kd.R_drew)); exact (Kd.R_mono (Kd.R_far (p := ⟨gb368, 7, none⟩) (Kd.R_far (p := ⟨gb368, 6, none⟩) (Kd.R_far (p := ⟨gb368, 5, none⟩) (Kd.R_far (p := ⟨gb368, 4, none⟩) (Kd.R_far (p := ⟨gb368, 3, none⟩) (Kd.R_far (p := ⟨gb368, 2, none⟩) (Kd.R_far (p := ⟨gb368, 1, none⟩) (Kd.R_far (p := ⟨gb368, 0, none⟩) (Kd.R_types HO352.1 BK368.1 (by decide)) (fun _ hk => hk.2) (.int .i64 t346)) (fun _ hk => hk.2) (.int .i64 t367)) (fun _ hk => hk.2) (.slice Ao32 t349.length co32)) (fun _ hk => hk.2) (.int .i64 t354)) (fun _ hk => hk.2) (.int .i64 t355)) (fun _ hk => hk.2) (.slice Ao31 t358.length co31)) (fun _ hk => hk.2) (.int .i64 t363)) (fun _ hk => hk.2) (.int .i64 t364)) (fun _ h_ => h_.1))) : P := h
theorem y134_ {P : Prop} (h : P := by (with_reducible repeat (first | apply Kd.R_alloc | apply Kd.R_drewN | apply Kd.R_drew)); exact (Kd.R_mono (Kd.R_far (p := ⟨gb368, 7, none⟩) (Kd.R_far (p := ⟨gb368, 6, none⟩) (Kd.R_far (p := ⟨gb368, 5, none⟩) (Kd.R_far (p := ⟨gb368, 4, none⟩) (Kd.R_far (p := ⟨gb368, 3, none⟩) (Kd.R_far (p := ⟨gb368, 2, none⟩) (Kd.R_far (p := ⟨gb368, 1, none⟩) (Kd.R_far (p := ⟨gb368, 0, none⟩) (Kd.R_types HO361.1 BK368.1 (by decide)) (fun _ hk => hk.2) (.int .i64 t346)) (fun _ hk => hk.2) (.int .i64 t367)) (fun _ hk => hk.2) (.slice Ao32 t349.length co32)) (fun _ hk => hk.2) (.int .i64 t354)) (fun _ hk => hk.2) (.int .i64 t355)) (fun _ hk => hk.2) (.slice Ao31 t358.length co31)) (fun _ hk => hk.2) (.int .i64 t363)) (fun _ hk => hk.2) (.int .i64 t364)) (fun _ h_ => h_.1))) : P := h
theorem y135_ {P : Prop} (h : P := by (with_reducible repeat (first | apply Kd.R_alloc | apply Kd.R_drewN | apply Kd.R_drew)); exact (Kd.R_mono (Kd.R_far (p := ⟨gb368, 7, none⟩) (Kd.R_far (p := ⟨gb368, 6, none⟩) (Kd.R_far (p := ⟨gb368, 5, none⟩) (Kd.R_far (p := ⟨gb368, 4, none⟩) (Kd.R_far (p := ⟨gb368, 3, none⟩) (Kd.R_far (p := ⟨gb368, 2, none⟩) (Kd.R_far (p := ⟨gb368, 1, none⟩) (Kd.R_far (p := ⟨gb368, 0, none⟩) (Kd.R_types HO352.1 BK368.1 (by decide)) (fun _ hk => hk.2) (.int .i64 t346)) (fun _ hk => hk.2) (.int .i64 t367)) (fun _ hk => hk.2) (.slice Ao48 t349.length co48)) (fun _ hk => hk.2) (.int .i64 t354)) (fun _ hk => hk.2) (.int .i64 t355)) (fun _ hk => hk.2) (.slice Ao47 t358.length co47)) (fun _ hk => hk.2) (.int .i64 t363)) (fun _ hk => hk.2) (.int .i64 t364)) (fun _ h_ => h_.1))) : P := h
theorem y136_ {P : Prop} (h : P := by (with_reducible repeat (first | apply Kd.R_alloc | apply Kd.R_drewN | apply Kd.R_drew)); exact (Kd.R_mono (Kd.R_far (p := ⟨gb368, 7, none⟩) (Kd.R_far (p := ⟨gb368, 6, none⟩) (Kd.R_far (p := ⟨gb368, 5, none⟩) (Kd.R_far (p := ⟨gb368, 4, none⟩) (Kd.R_far (p := ⟨gb368, 3, none⟩) (Kd.R_far (p := ⟨gb368, 2, none⟩) (Kd.R_far (p := ⟨gb368, 1, none⟩) (Kd.R_far (p := ⟨gb368, 0, none⟩) (Kd.R_types HO361.1 BK368.1 (by decide)) (fun _ hk => hk.2) (.int .i64 t346)) (fun _ hk => hk.2) (.int .i64 t367)) (fun _ hk => hk.2) (.slice Ao48 t349.length co48)) (fun _ hk => hk.2) (.int .i64 t354)) (fun _ hk => hk.2) (.int .i64 t355)) (fun _ hk => hk.2) (.slice Ao47 t358.length co47)) (fun _ hk => hk.2) (.int .i64 t363)) (fun _ hk => hk.2) (.int .i64 t364)) (fun _ h_ => h_.1))) : P := h
theorem y137_ {P : Prop} (h : P := by rw [hg]; exact Nat.ne_of_lt (blk_lt (bd_ BK341.1))) : P := h
theorem y138_ {P : Prop} (h : P := by rw [hg]; exact Nat.ne_of_gt (blk_lt (bd_ BK341.1))) : P := h
theorem y139_ {P : Prop} (h : P := by rw [hg]; exact (below_size (hd_ HB.1))) : P := h
theorem y140_ {P : Prop} (h : P := by rw [hg]; exact (below_size wB_)) : P := h
set_option maxHeartbeats 8000000 in
set_option maxRecDepth 100000 in
theorem impl_ParseReport.calls (k : Nat) (a0 : ByteArray) (r1 : Int) (r2 : Int) (r3 : List Int) (r4 : Int) (r5 : Int) (r6 : List Int) (r7 : Int) (r8 : Int) (r9 : Bool) (w : World) (h : impl_ParseReport.f k a0 = some (r1, r2, r3, r4, r5, r6, r7, r8, r9)) (TB_ : (Itm.Tb true true) w) :
  Calls Tryd.prog 11 #[.string a0] w fun e w' => ∃ v2_ v5_ : Value, e = .returned (.tuple #[.agg #[.int .i64 r1, .int .i64 r2, v2_, .int .i64 r4, .int .i64 r5, v5_, .int .i64 r7, .int .i64 r8], .bool r9]) ∧ Kd.R (Kd.int .i64) 3 w' w.heap.size (fun k_ => some k_ ≠ (v5_ : Value).ownBlock) v2_ r3 ∧ Kd.R (Kd.int .i64) 3 w' w.heap.size (fun k_ => some k_ ≠ (v2_ : Value).ownBlock) v5_ r6 ∧ Below w.heap.size w w' := by
 have hu28 := Tryd.underlying28
 have hu26 := Tryd.underlying26
 have HB := o_ (Below.refl w.heap.size w)
 have H : ((strings_Split.f a0 (⟨#[32]⟩ : ByteArray)).bind fun t342 => (if (t342.length : Int) = 6 then (if 0 < (t342.length : Int) then ((impl_ParseInt.f k (rdOf ByteArray.empty t342 0)).bind fun bt346 => (if 2 < (t342.length : Int) then ((impl_ParseList.f k (rdOf ByteArray.empty t342 2)).bind fun bt349 => (if 3 < (t342.length : Int) then ((impl_parsePair.f k (rdOf ByteArray.empty t342 3)).bind fun bt354 => (if 4 < (t342.length : Int) then ((impl_ParseList.f k (rdOf ByteArray.empty t342 4)).bind fun bt358 => (if 5 < (t342.length : Int) then ((impl_parsePair.f k (rdOf ByteArray.empty t342 5)).bind fun bt363 => (if 1 < (t342.length : Int) then ((impl_KindOf.f k (rdOf ByteArray.empty t342 1)).bind fun t367 => (if bt346.2 = true then (if bt349.2 = true then (if bt354.2.2 = true then (if bt358.2 = true then (if bt363.2.2 = true then ((impl_ReportText.f k bt346.1 t367 bt349.1 bt354.1 bt354.2.1 bt358.1 bt363.1 bt363.2.1).bind fun t369 => (if t369.toList = a0.toList then (some (bt346.1, t367, bt349.1, bt354.1, bt354.2.1, bt358.1, bt363.1, bt363.2.1, true)) else (some (0, 0, ([] : List Int), 0, 0, ([] : List Int), 0, 0, false)))) else (some (0, 0, ([] : List Int), 0, 0, ([] : List Int), 0, 0, false))) else (some (0, 0, ([] : List Int), 0, 0, ([] : List Int), 0, 0, false))) else (some (0, 0, ([] : List Int), 0, 0, ([] : List Int), 0, 0, false))) else (some (0, 0, ([] : List Int), 0, 0, ([] : List Int), 0, 0, false))) else (some (0, 0, ([] : List Int), 0, 0, ([] : List Int), 0, 0, false)))) else (none))) else (none))) else (none))) else (none))) else (none))) else (none)) else (some (0, 0, ([] : List Int), 0, 0, ([] : List Int), 0, 0, false)))) = some (r1, r2, r3, r4, r5, r6, r7, r8, r9) := h
 clear h
 replace H := Option.bind_eq_some_iff.mp H
 obtain ⟨t342, A20, H⟩ := H
 try dsimp only at H
 have A2 := o_ A20
 clear A20
 by_cases c3 : (t342.length : Int) = 6
 ·
  rw [if_pos c3] at H
  have c3b0 := beq_iff_eq.mpr c3
  have c3b1 := bne_eq_false_iff_eq.mpr c3
  clear c3
  by_cases c4 : 0 < (t342.length : Int)
  ·
   rw [if_pos c4] at H
   have c4b0 := decide_eq_true c4
   have c4b1 : decide (0 < t342.length) = true := decide_eq_true (by omega)
   clear c4
   replace H := Option.bind_eq_some_iff.mp H
   obtain ⟨⟨t346, t347⟩, A50, H⟩ := H
   try dsimp only at H
   have A5 := o_ A50
   clear A50
   by_cases c6 : 2 < (t342.length : Int)
   ·
    rw [if_pos c6] at H
    have c6b0 := decide_eq_true c6
    have c6b1 : decide (2 < t342.length) = true := decide_eq_true (by omega)
    clear c6
    replace H := Option.bind_eq_some_iff.mp H
    obtain ⟨⟨t349, t350⟩, A70, H⟩ := H
    try dsimp only at H
    have A7 := o_ A70
    clear A70
    by_cases c8 : 3 < (t342.length : Int)
    ·
     rw [if_pos c8] at H
     have c8b0 := decide_eq_true c8
     have c8b1 : decide (3 < t342.length) = true := decide_eq_true (by omega)
     clear c8
     replace H := Option.bind_eq_some_iff.mp H
     obtain ⟨⟨t354, t355, t356⟩, A90, H⟩ := H
     try dsimp only at H
     have A9 := o_ A90
     clear A90
     by_cases c10 : 4 < (t342.length : Int)
     ·
      rw [if_pos c10] at H
      have c10b0 := decide_eq_true c10
      have c10b1 : decide (4 < t342.length) = true := decide_eq_true (by omega)
      clear c10
      replace H := Option.bind_eq_some_iff.mp H
      obtain ⟨⟨t358, t359⟩, A110, H⟩ := H
      try dsimp only at H
      have A11 := o_ A110
      clear A110
      by_cases c12 : 5 < (t342.length : Int)
      ·
       rw [if_pos c12] at H
       have c12b0 := decide_eq_true c12
       have c12b1 : decide (5 < t342.length) = true := decide_eq_true (by omega)
       clear c12
       replace H := Option.bind_eq_some_iff.mp H
       obtain ⟨⟨t363, t364, t365⟩, A130, H⟩ := H
       try dsimp only at H
       have A13 := o_ A130
       clear A130
       by_cases c14 : 1 < (t342.length : Int)
       ·
        rw [if_pos c14] at H
        have c14b0 := decide_eq_true c14
        have c14b1 : decide (1 < t342.length) = true := decide_eq_true (by omega)
        clear c14
        replace H := Option.bind_eq_some_iff.mp H
        obtain ⟨t367, A150, H⟩ := H
        try dsimp only at H
        have A15 := o_ A150
        clear A150
        by_cases c16 : t347 = true
        ·
         subst c16
         have H1 := H
         rw [if_pos rfl] at H1
         clear H
         have H := H1
         clear H1
         by_cases c17 : t350 = true
         ·
          subst c17
          have H1 := H
          rw [if_pos rfl] at H1
          clear H
          have H := H1
          clear H1
          by_cases c18 : t356 = true
          ·
           subst c18
           have H1 := H
           rw [if_pos rfl] at H1
           clear H
           have H := H1
           clear H1
           by_cases c19 : t359 = true
           ·
            subst c19
            have H1 := H
            rw [if_pos rfl] at H1
            clear H
            have H := H1
            clear H1
            by_cases c20 : t365 = true
            ·
             subst c20
             have H1 := H
             rw [if_pos rfl] at H1
             clear H
             have H := H1
             clear H1
             replace H := Option.bind_eq_some_iff.mp H
             obtain ⟨t369, A210, H⟩ := H
             try dsimp only at H
             have A21 := o_ A210
             clear A210
             by_cases c22 : t369.toList = a0.toList
             ·
              rw [if_pos c22] at H
              have c22b0 := beq_iff_eq.mpr c22
              have c22b1 := bne_eq_false_iff_eq.mpr c22
              clear c22
              simp only [Option.some.injEq, Prod.mk.injEq] at H
              obtain ⟨rfl, rfl, rfl, rfl, rfl, rfl, rfl, rfl, rfl⟩ := H
              go_enter Tryd.func11, Tryd.ntmps11
              go_wp2_with (first | ((with_reducible refine gate_dst (N := 2) rfl ?_); refine bx_ 2 #[.int .i64 0, .int .i64 0, .slice none 0 0, .int .i64 0, .int .i64 0, .slice none 0 0, .int .i64 0, .int .i64 0] 28 ?_; intro gb341 hg w23 hbox hb; have BK341 := o_ (hbox); have GW341 := o_ ((y139_ : w.heap.size ≤ gb341)); replace HB := o_ (below_step (hd_ HB.1) hb); have GE341 := GW341; clear hb hbox hg) | (refine gl_ (some 19) Tryd.func43 #[.string a0, .string (⟨#[32]⟩ : ByteArray)] ?_; (with_reducible refine (strings_Split.calls a0 (⟨#[32]⟩ : ByteArray) t342 _ A2.1 (TB_.below wB_)).mono ?_); rintro e w24 ⟨v343, rfl, ho0, hb⟩; refine ⟨_, rfl, ?_⟩; have HO344 := o_ (Kd.R_lower ho0 (below_size wB_)); replace BK341 := o_ (blk_below (bd_ BK341.1) hb); replace HB := o_ (below_step wB_ hb); (try clear hb ho0); obtain ⟨Ao25, co25, eo25⟩ := Kd.R_slice HO344.1; subst eo25; have p345 : 0 ≤ (0 : Int) := (by omega); have q345 : 0 < (t342.length : Int) := of_decide_eq_true as_; obtain ⟨ad345, e345, hx345_0⟩ := Kd.at_string (Kd.R_reads' HO344.1).2.2 0 p345 q345; cases e345; have qi345 : (0 < t342.length) = True := eq_true (by omega); (try rw [show ((0 : Int)).toNat = 0 from rfl] at hx345_0); (try rw [Addr.add_zero'] at hx345_0); replace p345 := eq_true p345; replace q345 := eq_true q345) | (refine gl_ (some 28) Tryd.func44 #[.string (rdOf ByteArray.empty t342 0)] ?_; (with_reducible refine (impl_ParseInt.calls k (rdOf ByteArray.empty t342 0) t346 true _ A5.1).mono ?_); rintro e w' ⟨rfl, ⟨nd, rfl⟩⟩; refine ⟨_, rfl, ?_⟩; (try (rw [drewN_self w24]; generalize hq_ : World.drewN w24 _ = w24; replace HO344 : Aside0 (Kd.R Kd.string 9 w24 w.heap.size (fun _ => True) (.slice (some ad345) t342.length co25) t342) := ⟨by rw [← hq_]; exact rd_ HO344.1⟩; replace BK341 : Aside0 (w24.heap[gb341]? = some (c117_ 0 0 none 0 0 0 0 none 0 0 0 0)) := ⟨by rw [← hq_]; exact bd_ BK341.1⟩; replace HB : Aside0 (Below w.heap.size w w24) := ⟨by rw [← hq_]; exact wB_⟩; clear hq_)); have p348 : 0 ≤ (2 : Int) := (by omega); have q348 : 2 < (t342.length : Int) := of_decide_eq_true as_; obtain ⟨ad348, e348, hx348_0⟩ := Kd.at_string (Kd.R_reads' HO344.1).2.2 2 p348 q348; obtain rfl : ad345 = ad348 := (by injection e348); (try simp only [show (2 : Int).toNat = 2 from rfl, Nat.reduceMul, Nat.reduceEqDiff, Go.Addr.add, ↓reduceIte] at hx348_0); have qi348 : (2 < t342.length) = True := eq_true (by omega); (try rw [show ((2 : Int)).toNat = 2 from rfl] at hx348_0); replace p348 := eq_true p348; replace q348 := eq_true q348) | (refine gl_ (some 35) Tryd.func17 #[.string (rdOf ByteArray.empty t342 2)] ?_; (with_reducible refine (impl_ParseList.calls k (rdOf ByteArray.empty t342 2) t349 true _ A7.1 (TB_.below wB_)).mono ?_); rintro e w26 ⟨v351, rfl, ho0, hb⟩; refine ⟨_, rfl, ?_⟩; replace HO344 := o_ (Kd.R_below (rd_ HO344.1) hb); have HO352 := o_ (Kd.R_lower ho0 (below_size wB_)); replace BK341 := o_ (blk_below (bd_ BK341.1) hb); replace HB := o_ (below_step wB_ hb); (try clear hb ho0); have p353 : 0 ≤ (3 : Int) := (by omega); have q353 : 3 < (t342.length : Int) := of_decide_eq_true as_; obtain ⟨ad353, e353, hx353_0⟩ := Kd.at_string (Kd.R_reads' HO344.1).2.2 3 p353 q353; obtain rfl : ad345 = ad353 := (by injection e353); (try simp only [show (3 : Int).toNat = 3 from rfl, Nat.reduceMul, Nat.reduceEqDiff, Go.Addr.add, ↓reduceIte] at hx353_0); have qi353 : (3 < t342.length) = True := eq_true (by omega); (try rw [show ((3 : Int)).toNat = 3 from rfl] at hx353_0); replace p353 := eq_true p353; replace q353 := eq_true q353) | (refine gl_ (some 42) Tryd.func45 #[.string (rdOf ByteArray.empty t342 3)] ?_; (with_reducible refine (impl_parsePair.calls k (rdOf ByteArray.empty t342 3) t354 t355 true _ A9.1 (TB_.below wB_)).mono ?_); rintro e w27 ⟨rfl, hb⟩; refine ⟨_, rfl, ?_⟩; replace HO344 := o_ (Kd.R_below (rd_ HO344.1) hb); replace HO352 := o_ (Kd.R_below (rd_ HO352.1) hb); replace BK341 := o_ (blk_below (bd_ BK341.1) hb); replace HB := o_ (below_step wB_ hb); (try clear hb); have p357 : 0 ≤ (4 : Int) := (by omega); have q357 : 4 < (t342.length : Int) := of_decide_eq_true as_; obtain ⟨ad357, e357, hx357_0⟩ := Kd.at_string (Kd.R_reads' HO344.1).2.2 4 p357 q357; obtain rfl : ad345 = ad357 := (by injection e357); (try simp only [show (4 : Int).toNat = 4 from rfl, Nat.reduceMul, Nat.reduceEqDiff, Go.Addr.add, ↓reduceIte] at hx357_0); have qi357 : (4 < t342.length) = True := eq_true (by omega); (try rw [show ((4 : Int)).toNat = 4 from rfl] at hx357_0); replace p357 := eq_true p357; replace q357 := eq_true q357) | (refine gl_ (some 50) Tryd.func17 #[.string (rdOf ByteArray.empty t342 4)] ?_; (with_reducible refine (impl_ParseList.calls k (rdOf ByteArray.empty t342 4) t358 true _ A11.1 (TB_.below wB_)).mono ?_); rintro e w28 ⟨v360, rfl, ho0, hb⟩; refine ⟨_, rfl, ?_⟩; replace HO344 := o_ (Kd.R_below (rd_ HO344.1) hb); have HO361 := o_ (Kd.R_lower (Kd.R_new' ho0 (Kd.R_lt (rd_ HO352.1))) (below_size wB_)); replace HO352 := o_ (Kd.R_elder' (rd_ HO352.1) (Kd.R_base ho0) hb); replace BK341 := o_ (blk_below (bd_ BK341.1) hb); replace HB := o_ (below_step wB_ hb); (try clear hb ho0); have p362 : 0 ≤ (5 : Int) := (by omega); have q362 : 5 < (t342.length : Int) := of_decide_eq_true as_; obtain ⟨ad362, e362, hx362_0⟩ := Kd.at_string (Kd.R_reads' HO344.1).2.2 5 p362 q362; obtain rfl : ad345 = ad362 := (by injection e362); (try simp only [show (5 : Int).toNat = 5 from rfl, Nat.reduceMul, Nat.reduceEqDiff, Go.Addr.add, ↓reduceIte] at hx362_0); have qi362 : (5 < t342.length) = True := eq_true (by omega); (try rw [show ((5 : Int)).toNat = 5 from rfl] at hx362_0); replace p362 := eq_true p362; replace q362 := eq_true q362) | (refine gl_ (some 57) Tryd.func45 #[.string (rdOf ByteArray.empty t342 5)] ?_; (with_reducible refine (impl_parsePair.calls k (rdOf ByteArray.empty t342 5) t363 t364 true _ A13.1 (TB_.below wB_)).mono ?_); rintro e w29 ⟨rfl, hb⟩; refine ⟨_, rfl, ?_⟩; replace HO344 := o_ (Kd.R_below (rd_ HO344.1) hb); replace HO352 := o_ (Kd.R_below (rd_ HO352.1) hb); replace HO361 := o_ (Kd.R_below (rd_ HO361.1) hb); replace BK341 := o_ (blk_below (bd_ BK341.1) hb); replace HB := o_ (below_step wB_ hb); (try clear hb); have p366 : 0 ≤ (1 : Int) := (by omega); have q366 : 1 < (t342.length : Int) := of_decide_eq_true as_; obtain ⟨ad366, e366, hx366_0⟩ := Kd.at_string (Kd.R_reads' HO344.1).2.2 1 p366 q366; obtain rfl : ad345 = ad366 := (by injection e366); (try simp only [show (1 : Int).toNat = 1 from rfl, Nat.reduceMul, Nat.reduceEqDiff, Go.Addr.add, ↓reduceIte] at hx366_0); have qi366 : (1 < t342.length) = True := eq_true (by omega); (try rw [show ((1 : Int)).toNat = 1 from rfl] at hx366_0); replace p366 := eq_true p366; replace q366 := eq_true q366) | (refine gl_ (some 65) Tryd.func23 #[.string (rdOf ByteArray.empty t342 1)] ?_; (with_reducible refine (impl_KindOf.calls k (rdOf ByteArray.empty t342 1) t367 _ A15.1).mono ?_); rintro e w30 ⟨rfl, hb⟩; refine ⟨_, rfl, ?_⟩; replace HO344 := o_ (Kd.R_below (rd_ HO344.1) hb); replace HO352 := o_ (Kd.R_below (rd_ HO352.1) hb); replace HO361 := o_ (Kd.R_below (rd_ HO361.1) hb); replace BK341 := o_ (blk_below (bd_ BK341.1) hb); replace HB := o_ (below_step wB_ hb); (try clear hb); obtain ⟨Ao31, co31, eo31⟩ := Kd.R_slice HO361.1; subst eo31; obtain ⟨Ao32, co32, eo32⟩ := Kd.R_slice HO352.1; subst eo32) | ((with_reducible refine gate_dst (N := 17) rfl ?_); refine bx_ 17 #[.int .i64 0, .int .i64 0, .slice none 0 0, .int .i64 0, .int .i64 0, .slice none 0 0, .int .i64 0, .int .i64 0] 28 ?_; intro gb368 hg w33 hbox hb; replace HO344 := o_ (Kd.R_below (rd_ HO344.1) hb); replace HO352 := o_ (Kd.R_below (rd_ HO352.1) hb); replace HO361 := o_ (Kd.R_below (rd_ HO361.1) hb); have BK368 := o_ (hbox); have GW368 := o_ ((y140_ : w.heap.size ≤ gb368)); replace HB := o_ (below_step wB_ hb); have GE368 := GW368; have NB341_368 := o_ ((y137_ : gb341 ≠ gb368)); have NB368_341 := o_ ((y138_ : gb368 ≠ gb341)); replace BK341 := o_ (blk_below (bd_ BK341.1) hb); clear hb hbox hg; have hnb34 := NB368_341.1; have hnc34 := NB341_368.1; obtain ⟨hcz35_0, hcz35_1, hcz35_2, hcz35_3, hcz35_4, hcz35_5, hcz35_6, hcz35_7⟩ := e118_ BK368.1; obtain ⟨hfz35_0, hfz35_1, hfz35_2, hfz35_3, hfz35_4, hfz35_5, hfz35_6, hfz35_7⟩ := z119_ BK368.1) | (go_at_call 12; (with_reducible refine (impl_ReportText.calls k t346 t367 _ _ t349 t354 t355 _ _ t358 t363 t364 t369 _ ?side1 ?side2 ?side3 ?side4 A21.1 (TB_.below wB_)).mono ?_); (case side1 => refine (Kd.R_reads' (e := 3) (base := w.heap.size) (ok := fun k_ => (True ∧ some k_ ≠ (.slice Ao31 t358.length co31 : Value).ownBlock)) (n := t349.length) (c := co32) ?_).2.2; exact y133_); (case side2 => exact (Kd.R_reads' HO352.1).2.1); (case side3 => refine (Kd.R_reads' (e := 3) (base := w.heap.size) (ok := fun k_ => (True ∧ some k_ ≠ (.slice Ao32 t349.length co32 : Value).ownBlock)) (n := t358.length) (c := co31) ?_).2.2; exact y134_); (case side4 => exact (Kd.R_reads' HO361.1).2.1); rintro e w36 ⟨rfl, hb⟩; replace HO344 := o_ (Kd.R_below (by (with_reducible repeat (first | apply Kd.R_alloc | apply Kd.R_drewN | apply Kd.R_drew)); exact (Kd.R_mono (Kd.R_far (p := ⟨gb368, 7, none⟩) (Kd.R_far (p := ⟨gb368, 6, none⟩) (Kd.R_far (p := ⟨gb368, 5, none⟩) (Kd.R_far (p := ⟨gb368, 4, none⟩) (Kd.R_far (p := ⟨gb368, 3, none⟩) (Kd.R_far (p := ⟨gb368, 2, none⟩) (Kd.R_far (p := ⟨gb368, 1, none⟩) (Kd.R_far (p := ⟨gb368, 0, none⟩) (Kd.R_types HO344.1 BK368.1 (by decide)) (fun _ hk => hk.2) (.int .i64 t346)) (fun _ hk => hk.2) (.int .i64 t367)) (fun _ hk => hk.2) (.slice Ao32 t349.length co32)) (fun _ hk => hk.2) (.int .i64 t354)) (fun _ hk => hk.2) (.int .i64 t355)) (fun _ hk => hk.2) (.slice Ao31 t358.length co31)) (fun _ hk => hk.2) (.int .i64 t363)) (fun _ hk => hk.2) (.int .i64 t364)) (fun _ h_ => h_.1))) hb); replace HO352 := o_ (Kd.R_below y133_ hb); replace HO361 := o_ (Kd.R_below y134_ hb); replace BK341 := o_ (blk_below (g := gb341) (o := c117_ 0 0 none 0 0 0 0 none 0 0 0 0) (bk_ BK341.1) hb); replace BK368 := o_ (blk_below (g := gb368) (o := .cells #[.int .i64 t346, .int .i64 t367, .slice Ao32 t349.length co32, .int .i64 t354, .int .i64 t355, .slice Ao31 t358.length co31, .int .i64 t363, .int .i64 t364] 28 (0, 0)) (bk_ BK368.1) hb); replace HB := o_ (below_step wB_ hb); (try clear hb); obtain ⟨hcz37_0, hcz37_1, hcz37_2, hcz37_3, hcz37_4, hcz37_5, hcz37_6, hcz37_7⟩ := e118_ BK368.1; obtain ⟨hfz37_0, hfz37_1, hfz37_2, hfz37_3, hfz37_4, hfz37_5, hfz37_6, hfz37_7⟩ := z119_ BK368.1; obtain ⟨hcz38_0, hcz38_1, hcz38_2, hcz38_3, hcz38_4, hcz38_5, hcz38_6, hcz38_7⟩ := e118_ BK341.1; obtain ⟨hfz38_0, hfz38_1, hfz38_2, hfz38_3, hfz38_4, hfz38_5, hfz38_6, hfz38_7⟩ := z119_ BK341.1))
              refine bodyPost_ret (results_ct rfl _ _ gb341 28 #[.int .i64 t346, .int .i64 t367, .slice Ao32 t349.length co32, .int .i64 t354, .int .i64 t355, .slice Ao31 t358.length co31, .int .i64 t363, .int .i64 t364] (0, 0) _ rfl (bk_ BK341.1) Tryd.underlying28 rfl (by kernel_rfl)) rfl ?_
              exact ⟨_, _, by first | rfl | (simp [errW_none, errW_some] <;> rfl) | (simp [*, errW_none, errW_some] <;> rfl), rf_ (R2_ HO352.1 BK341.1) (fun _ hk => hk.1.2), rf_ (R2_ HO361.1 BK341.1) (fun _ hk => hk.1.2), wB_⟩
             ·
              rw [if_neg c22] at H
              have c22b0 := beq_eq_false_iff_ne.mpr c22
              have c22b1 := bne_iff_ne.mpr c22
              simp only [Option.some.injEq, Prod.mk.injEq] at H
              obtain ⟨rfl, rfl, rfl, rfl, rfl, rfl, rfl, rfl, rfl⟩ := H
              go_enter Tryd.func11, Tryd.ntmps11
              go_wp2_with (first | ((with_reducible refine gate_dst (N := 2) rfl ?_); refine bx_ 2 #[.int .i64 0, .int .i64 0, .slice none 0 0, .int .i64 0, .int .i64 0, .slice none 0 0, .int .i64 0, .int .i64 0] 28 ?_; intro gb341 hg w39 hbox hb; have BK341 := o_ (hbox); have GW341 := o_ ((y139_ : w.heap.size ≤ gb341)); replace HB := o_ (below_step (hd_ HB.1) hb); have GE341 := GW341; clear hb hbox hg) | (refine gl_ (some 19) Tryd.func43 #[.string a0, .string (⟨#[32]⟩ : ByteArray)] ?_; (with_reducible refine (strings_Split.calls a0 (⟨#[32]⟩ : ByteArray) t342 _ A2.1 (TB_.below wB_)).mono ?_); rintro e w40 ⟨v343, rfl, ho0, hb⟩; refine ⟨_, rfl, ?_⟩; have HO344 := o_ (Kd.R_lower ho0 (below_size wB_)); replace BK341 := o_ (blk_below (bd_ BK341.1) hb); replace HB := o_ (below_step wB_ hb); (try clear hb ho0); obtain ⟨Ao41, co41, eo41⟩ := Kd.R_slice HO344.1; subst eo41; have p345 : 0 ≤ (0 : Int) := (by omega); have q345 : 0 < (t342.length : Int) := of_decide_eq_true as_; obtain ⟨ad345, e345, hx345_0⟩ := Kd.at_string (Kd.R_reads' HO344.1).2.2 0 p345 q345; cases e345; have qi345 : (0 < t342.length) = True := eq_true (by omega); (try rw [show ((0 : Int)).toNat = 0 from rfl] at hx345_0); (try rw [Addr.add_zero'] at hx345_0); replace p345 := eq_true p345; replace q345 := eq_true q345) | (refine gl_ (some 28) Tryd.func44 #[.string (rdOf ByteArray.empty t342 0)] ?_; (with_reducible refine (impl_ParseInt.calls k (rdOf ByteArray.empty t342 0) t346 true _ A5.1).mono ?_); rintro e w' ⟨rfl, ⟨nd, rfl⟩⟩; refine ⟨_, rfl, ?_⟩; (try (rw [drewN_self w40]; generalize hq_ : World.drewN w40 _ = w40; replace HO344 : Aside0 (Kd.R Kd.string 9 w40 w.heap.size (fun _ => True) (.slice (some ad345) t342.length co41) t342) := ⟨by rw [← hq_]; exact rd_ HO344.1⟩; replace BK341 : Aside0 (w40.heap[gb341]? = some (c117_ 0 0 none 0 0 0 0 none 0 0 0 0)) := ⟨by rw [← hq_]; exact bd_ BK341.1⟩; replace HB : Aside0 (Below w.heap.size w w40) := ⟨by rw [← hq_]; exact wB_⟩; clear hq_)); have p348 : 0 ≤ (2 : Int) := (by omega); have q348 : 2 < (t342.length : Int) := of_decide_eq_true as_; obtain ⟨ad348, e348, hx348_0⟩ := Kd.at_string (Kd.R_reads' HO344.1).2.2 2 p348 q348; obtain rfl : ad345 = ad348 := (by injection e348); (try simp only [show (2 : Int).toNat = 2 from rfl, Nat.reduceMul, Nat.reduceEqDiff, Go.Addr.add, ↓reduceIte] at hx348_0); have qi348 : (2 < t342.length) = True := eq_true (by omega); (try rw [show ((2 : Int)).toNat = 2 from rfl] at hx348_0); replace p348 := eq_true p348; replace q348 := eq_true q348) | (refine gl_ (some 35) Tryd.func17 #[.string (rdOf ByteArray.empty t342 2)] ?_; (with_reducible refine (impl_ParseList.calls k (rdOf ByteArray.empty t342 2) t349 true _ A7.1 (TB_.below wB_)).mono ?_); rintro e w42 ⟨v351, rfl, ho0, hb⟩; refine ⟨_, rfl, ?_⟩; replace HO344 := o_ (Kd.R_below (rd_ HO344.1) hb); have HO352 := o_ (Kd.R_lower ho0 (below_size wB_)); replace BK341 := o_ (blk_below (bd_ BK341.1) hb); replace HB := o_ (below_step wB_ hb); (try clear hb ho0); have p353 : 0 ≤ (3 : Int) := (by omega); have q353 : 3 < (t342.length : Int) := of_decide_eq_true as_; obtain ⟨ad353, e353, hx353_0⟩ := Kd.at_string (Kd.R_reads' HO344.1).2.2 3 p353 q353; obtain rfl : ad345 = ad353 := (by injection e353); (try simp only [show (3 : Int).toNat = 3 from rfl, Nat.reduceMul, Nat.reduceEqDiff, Go.Addr.add, ↓reduceIte] at hx353_0); have qi353 : (3 < t342.length) = True := eq_true (by omega); (try rw [show ((3 : Int)).toNat = 3 from rfl] at hx353_0); replace p353 := eq_true p353; replace q353 := eq_true q353) | (refine gl_ (some 42) Tryd.func45 #[.string (rdOf ByteArray.empty t342 3)] ?_; (with_reducible refine (impl_parsePair.calls k (rdOf ByteArray.empty t342 3) t354 t355 true _ A9.1 (TB_.below wB_)).mono ?_); rintro e w43 ⟨rfl, hb⟩; refine ⟨_, rfl, ?_⟩; replace HO344 := o_ (Kd.R_below (rd_ HO344.1) hb); replace HO352 := o_ (Kd.R_below (rd_ HO352.1) hb); replace BK341 := o_ (blk_below (bd_ BK341.1) hb); replace HB := o_ (below_step wB_ hb); (try clear hb); have p357 : 0 ≤ (4 : Int) := (by omega); have q357 : 4 < (t342.length : Int) := of_decide_eq_true as_; obtain ⟨ad357, e357, hx357_0⟩ := Kd.at_string (Kd.R_reads' HO344.1).2.2 4 p357 q357; obtain rfl : ad345 = ad357 := (by injection e357); (try simp only [show (4 : Int).toNat = 4 from rfl, Nat.reduceMul, Nat.reduceEqDiff, Go.Addr.add, ↓reduceIte] at hx357_0); have qi357 : (4 < t342.length) = True := eq_true (by omega); (try rw [show ((4 : Int)).toNat = 4 from rfl] at hx357_0); replace p357 := eq_true p357; replace q357 := eq_true q357) | (refine gl_ (some 50) Tryd.func17 #[.string (rdOf ByteArray.empty t342 4)] ?_; (with_reducible refine (impl_ParseList.calls k (rdOf ByteArray.empty t342 4) t358 true _ A11.1 (TB_.below wB_)).mono ?_); rintro e w44 ⟨v360, rfl, ho0, hb⟩; refine ⟨_, rfl, ?_⟩; replace HO344 := o_ (Kd.R_below (rd_ HO344.1) hb); have HO361 := o_ (Kd.R_lower (Kd.R_new' ho0 (Kd.R_lt (rd_ HO352.1))) (below_size wB_)); replace HO352 := o_ (Kd.R_elder' (rd_ HO352.1) (Kd.R_base ho0) hb); replace BK341 := o_ (blk_below (bd_ BK341.1) hb); replace HB := o_ (below_step wB_ hb); (try clear hb ho0); have p362 : 0 ≤ (5 : Int) := (by omega); have q362 : 5 < (t342.length : Int) := of_decide_eq_true as_; obtain ⟨ad362, e362, hx362_0⟩ := Kd.at_string (Kd.R_reads' HO344.1).2.2 5 p362 q362; obtain rfl : ad345 = ad362 := (by injection e362); (try simp only [show (5 : Int).toNat = 5 from rfl, Nat.reduceMul, Nat.reduceEqDiff, Go.Addr.add, ↓reduceIte] at hx362_0); have qi362 : (5 < t342.length) = True := eq_true (by omega); (try rw [show ((5 : Int)).toNat = 5 from rfl] at hx362_0); replace p362 := eq_true p362; replace q362 := eq_true q362) | (refine gl_ (some 57) Tryd.func45 #[.string (rdOf ByteArray.empty t342 5)] ?_; (with_reducible refine (impl_parsePair.calls k (rdOf ByteArray.empty t342 5) t363 t364 true _ A13.1 (TB_.below wB_)).mono ?_); rintro e w45 ⟨rfl, hb⟩; refine ⟨_, rfl, ?_⟩; replace HO344 := o_ (Kd.R_below (rd_ HO344.1) hb); replace HO352 := o_ (Kd.R_below (rd_ HO352.1) hb); replace HO361 := o_ (Kd.R_below (rd_ HO361.1) hb); replace BK341 := o_ (blk_below (bd_ BK341.1) hb); replace HB := o_ (below_step wB_ hb); (try clear hb); have p366 : 0 ≤ (1 : Int) := (by omega); have q366 : 1 < (t342.length : Int) := of_decide_eq_true as_; obtain ⟨ad366, e366, hx366_0⟩ := Kd.at_string (Kd.R_reads' HO344.1).2.2 1 p366 q366; obtain rfl : ad345 = ad366 := (by injection e366); (try simp only [show (1 : Int).toNat = 1 from rfl, Nat.reduceMul, Nat.reduceEqDiff, Go.Addr.add, ↓reduceIte] at hx366_0); have qi366 : (1 < t342.length) = True := eq_true (by omega); (try rw [show ((1 : Int)).toNat = 1 from rfl] at hx366_0); replace p366 := eq_true p366; replace q366 := eq_true q366) | (refine gl_ (some 65) Tryd.func23 #[.string (rdOf ByteArray.empty t342 1)] ?_; (with_reducible refine (impl_KindOf.calls k (rdOf ByteArray.empty t342 1) t367 _ A15.1).mono ?_); rintro e w46 ⟨rfl, hb⟩; refine ⟨_, rfl, ?_⟩; replace HO344 := o_ (Kd.R_below (rd_ HO344.1) hb); replace HO352 := o_ (Kd.R_below (rd_ HO352.1) hb); replace HO361 := o_ (Kd.R_below (rd_ HO361.1) hb); replace BK341 := o_ (blk_below (bd_ BK341.1) hb); replace HB := o_ (below_step wB_ hb); (try clear hb); obtain ⟨Ao47, co47, eo47⟩ := Kd.R_slice HO361.1; subst eo47; obtain ⟨Ao48, co48, eo48⟩ := Kd.R_slice HO352.1; subst eo48) | ((with_reducible refine gate_dst (N := 17) rfl ?_); refine bx_ 17 #[.int .i64 0, .int .i64 0, .slice none 0 0, .int .i64 0, .int .i64 0, .slice none 0 0, .int .i64 0, .int .i64 0] 28 ?_; intro gb368 hg w49 hbox hb; replace HO344 := o_ (Kd.R_below (rd_ HO344.1) hb); replace HO352 := o_ (Kd.R_below (rd_ HO352.1) hb); replace HO361 := o_ (Kd.R_below (rd_ HO361.1) hb); have BK368 := o_ (hbox); have GW368 := o_ ((y140_ : w.heap.size ≤ gb368)); replace HB := o_ (below_step wB_ hb); have GE368 := GW368; have NB341_368 := o_ ((y137_ : gb341 ≠ gb368)); have NB368_341 := o_ ((y138_ : gb368 ≠ gb341)); replace BK341 := o_ (blk_below (bd_ BK341.1) hb); clear hb hbox hg; have hnb50 := NB368_341.1; have hnc50 := NB341_368.1; obtain ⟨hcz51_0, hcz51_1, hcz51_2, hcz51_3, hcz51_4, hcz51_5, hcz51_6, hcz51_7⟩ := e118_ BK368.1; obtain ⟨hfz51_0, hfz51_1, hfz51_2, hfz51_3, hfz51_4, hfz51_5, hfz51_6, hfz51_7⟩ := z119_ BK368.1) | (go_at_call 12; (with_reducible refine (impl_ReportText.calls k t346 t367 _ _ t349 t354 t355 _ _ t358 t363 t364 t369 _ ?side1 ?side2 ?side3 ?side4 A21.1 (TB_.below wB_)).mono ?_); (case side1 => refine (Kd.R_reads' (e := 3) (base := w.heap.size) (ok := fun k_ => (True ∧ some k_ ≠ (.slice Ao47 t358.length co47 : Value).ownBlock)) (n := t349.length) (c := co48) ?_).2.2; exact y135_); (case side2 => exact (Kd.R_reads' HO352.1).2.1); (case side3 => refine (Kd.R_reads' (e := 3) (base := w.heap.size) (ok := fun k_ => (True ∧ some k_ ≠ (.slice Ao48 t349.length co48 : Value).ownBlock)) (n := t358.length) (c := co47) ?_).2.2; exact y136_); (case side4 => exact (Kd.R_reads' HO361.1).2.1); rintro e w52 ⟨rfl, hb⟩; replace HO344 := o_ (Kd.R_below (by (with_reducible repeat (first | apply Kd.R_alloc | apply Kd.R_drewN | apply Kd.R_drew)); exact (Kd.R_mono (Kd.R_far (p := ⟨gb368, 7, none⟩) (Kd.R_far (p := ⟨gb368, 6, none⟩) (Kd.R_far (p := ⟨gb368, 5, none⟩) (Kd.R_far (p := ⟨gb368, 4, none⟩) (Kd.R_far (p := ⟨gb368, 3, none⟩) (Kd.R_far (p := ⟨gb368, 2, none⟩) (Kd.R_far (p := ⟨gb368, 1, none⟩) (Kd.R_far (p := ⟨gb368, 0, none⟩) (Kd.R_types HO344.1 BK368.1 (by decide)) (fun _ hk => hk.2) (.int .i64 t346)) (fun _ hk => hk.2) (.int .i64 t367)) (fun _ hk => hk.2) (.slice Ao48 t349.length co48)) (fun _ hk => hk.2) (.int .i64 t354)) (fun _ hk => hk.2) (.int .i64 t355)) (fun _ hk => hk.2) (.slice Ao47 t358.length co47)) (fun _ hk => hk.2) (.int .i64 t363)) (fun _ hk => hk.2) (.int .i64 t364)) (fun _ h_ => h_.1))) hb); replace HO352 := o_ (Kd.R_below y135_ hb); replace HO361 := o_ (Kd.R_below y136_ hb); replace BK341 := o_ (blk_below (g := gb341) (o := c117_ 0 0 none 0 0 0 0 none 0 0 0 0) (bk_ BK341.1) hb); replace BK368 := o_ (blk_below (g := gb368) (o := .cells #[.int .i64 t346, .int .i64 t367, .slice Ao48 t349.length co48, .int .i64 t354, .int .i64 t355, .slice Ao47 t358.length co47, .int .i64 t363, .int .i64 t364] 28 (0, 0)) (bk_ BK368.1) hb); replace HB := o_ (below_step wB_ hb); (try clear hb); obtain ⟨hcz53_0, hcz53_1, hcz53_2, hcz53_3, hcz53_4, hcz53_5, hcz53_6, hcz53_7⟩ := e118_ BK341.1; obtain ⟨hfz53_0, hfz53_1, hfz53_2, hfz53_3, hfz53_4, hfz53_5, hfz53_6, hfz53_7⟩ := z119_ BK341.1))
              refine bodyPost_ret (results_ct rfl _ _ gb341 28 #[.int .i64 0, .int .i64 0, .slice none 0 0, .int .i64 0, .int .i64 0, .slice none 0 0, .int .i64 0, .int .i64 0] (0, 0) _ rfl (bk_ BK341.1) Tryd.underlying28 rfl (by kernel_rfl)) rfl ?_
              exact ⟨_, _, by first | rfl | (simp [errW_none, errW_some] <;> rfl) | (simp [*, errW_none, errW_some] <;> rfl), by first | exact Kd.R_nil _ _ _ _ _ | exact Kd.N_nil _ _ _ _ _ | exact Kd.V_nil _ _ _ _ _ | exact Kd.Q_nil _ _ _ _ _ | exact Kd.S_nil _ _ _ _ _, by first | exact Kd.R_nil _ _ _ _ _ | exact Kd.N_nil _ _ _ _ _ | exact Kd.V_nil _ _ _ _ _ | exact Kd.Q_nil _ _ _ _ _ | exact Kd.S_nil _ _ _ _ _, wB_⟩
            ·
             replace c20 := Bool.eq_false_iff.mpr c20
             subst c20
             have H1 := H
             rw [if_neg nt_] at H1
             clear H
             have H := H1
             clear H1
             simp only [Option.some.injEq, Prod.mk.injEq] at H
             obtain ⟨rfl, rfl, rfl, rfl, rfl, rfl, rfl, rfl, rfl⟩ := H
             go_enter Tryd.func11, Tryd.ntmps11
             go_wp2_with (first | ((with_reducible refine gate_dst (N := 2) rfl ?_); refine bx_ 2 #[.int .i64 0, .int .i64 0, .slice none 0 0, .int .i64 0, .int .i64 0, .slice none 0 0, .int .i64 0, .int .i64 0] 28 ?_; intro gb341 hg w54 hbox hb; have BK341 := o_ (hbox); have GW341 := o_ ((y139_ : w.heap.size ≤ gb341)); replace HB := o_ (below_step (hd_ HB.1) hb); have GE341 := GW341; clear hb hbox hg) | (refine gl_ (some 19) Tryd.func43 #[.string a0, .string (⟨#[32]⟩ : ByteArray)] ?_; (with_reducible refine (strings_Split.calls a0 (⟨#[32]⟩ : ByteArray) t342 _ A2.1 (TB_.below wB_)).mono ?_); rintro e w55 ⟨v343, rfl, ho0, hb⟩; refine ⟨_, rfl, ?_⟩; have HO344 := o_ (Kd.R_lower ho0 (below_size wB_)); replace BK341 := o_ (blk_below (bd_ BK341.1) hb); replace HB := o_ (below_step wB_ hb); (try clear hb ho0); obtain ⟨Ao56, co56, eo56⟩ := Kd.R_slice HO344.1; subst eo56; have p345 : 0 ≤ (0 : Int) := (by omega); have q345 : 0 < (t342.length : Int) := of_decide_eq_true as_; obtain ⟨ad345, e345, hx345_0⟩ := Kd.at_string (Kd.R_reads' HO344.1).2.2 0 p345 q345; cases e345; have qi345 : (0 < t342.length) = True := eq_true (by omega); (try rw [show ((0 : Int)).toNat = 0 from rfl] at hx345_0); (try rw [Addr.add_zero'] at hx345_0); replace p345 := eq_true p345; replace q345 := eq_true q345) | (refine gl_ (some 28) Tryd.func44 #[.string (rdOf ByteArray.empty t342 0)] ?_; (with_reducible refine (impl_ParseInt.calls k (rdOf ByteArray.empty t342 0) t346 true _ A5.1).mono ?_); rintro e w' ⟨rfl, ⟨nd, rfl⟩⟩; refine ⟨_, rfl, ?_⟩; (try (rw [drewN_self w55]; generalize hq_ : World.drewN w55 _ = w55; replace HO344 : Aside0 (Kd.R Kd.string 9 w55 w.heap.size (fun _ => True) (.slice (some ad345) t342.length co56) t342) := ⟨by rw [← hq_]; exact rd_ HO344.1⟩; replace BK341 : Aside0 (w55.heap[gb341]? = some (c117_ 0 0 none 0 0 0 0 none 0 0 0 0)) := ⟨by rw [← hq_]; exact bd_ BK341.1⟩; replace HB : Aside0 (Below w.heap.size w w55) := ⟨by rw [← hq_]; exact wB_⟩; clear hq_)); have p348 : 0 ≤ (2 : Int) := (by omega); have q348 : 2 < (t342.length : Int) := of_decide_eq_true as_; obtain ⟨ad348, e348, hx348_0⟩ := Kd.at_string (Kd.R_reads' HO344.1).2.2 2 p348 q348; obtain rfl : ad345 = ad348 := (by injection e348); (try simp only [show (2 : Int).toNat = 2 from rfl, Nat.reduceMul, Nat.reduceEqDiff, Go.Addr.add, ↓reduceIte] at hx348_0); have qi348 : (2 < t342.length) = True := eq_true (by omega); (try rw [show ((2 : Int)).toNat = 2 from rfl] at hx348_0); replace p348 := eq_true p348; replace q348 := eq_true q348) | (refine gl_ (some 35) Tryd.func17 #[.string (rdOf ByteArray.empty t342 2)] ?_; (with_reducible refine (impl_ParseList.calls k (rdOf ByteArray.empty t342 2) t349 true _ A7.1 (TB_.below wB_)).mono ?_); rintro e w57 ⟨v351, rfl, ho0, hb⟩; refine ⟨_, rfl, ?_⟩; replace HO344 := o_ (Kd.R_below (rd_ HO344.1) hb); have HO352 := o_ (Kd.R_lower ho0 (below_size wB_)); replace BK341 := o_ (blk_below (bd_ BK341.1) hb); replace HB := o_ (below_step wB_ hb); (try clear hb ho0); have p353 : 0 ≤ (3 : Int) := (by omega); have q353 : 3 < (t342.length : Int) := of_decide_eq_true as_; obtain ⟨ad353, e353, hx353_0⟩ := Kd.at_string (Kd.R_reads' HO344.1).2.2 3 p353 q353; obtain rfl : ad345 = ad353 := (by injection e353); (try simp only [show (3 : Int).toNat = 3 from rfl, Nat.reduceMul, Nat.reduceEqDiff, Go.Addr.add, ↓reduceIte] at hx353_0); have qi353 : (3 < t342.length) = True := eq_true (by omega); (try rw [show ((3 : Int)).toNat = 3 from rfl] at hx353_0); replace p353 := eq_true p353; replace q353 := eq_true q353) | (refine gl_ (some 42) Tryd.func45 #[.string (rdOf ByteArray.empty t342 3)] ?_; (with_reducible refine (impl_parsePair.calls k (rdOf ByteArray.empty t342 3) t354 t355 true _ A9.1 (TB_.below wB_)).mono ?_); rintro e w58 ⟨rfl, hb⟩; refine ⟨_, rfl, ?_⟩; replace HO344 := o_ (Kd.R_below (rd_ HO344.1) hb); replace HO352 := o_ (Kd.R_below (rd_ HO352.1) hb); replace BK341 := o_ (blk_below (bd_ BK341.1) hb); replace HB := o_ (below_step wB_ hb); (try clear hb); have p357 : 0 ≤ (4 : Int) := (by omega); have q357 : 4 < (t342.length : Int) := of_decide_eq_true as_; obtain ⟨ad357, e357, hx357_0⟩ := Kd.at_string (Kd.R_reads' HO344.1).2.2 4 p357 q357; obtain rfl : ad345 = ad357 := (by injection e357); (try simp only [show (4 : Int).toNat = 4 from rfl, Nat.reduceMul, Nat.reduceEqDiff, Go.Addr.add, ↓reduceIte] at hx357_0); have qi357 : (4 < t342.length) = True := eq_true (by omega); (try rw [show ((4 : Int)).toNat = 4 from rfl] at hx357_0); replace p357 := eq_true p357; replace q357 := eq_true q357) | (refine gl_ (some 50) Tryd.func17 #[.string (rdOf ByteArray.empty t342 4)] ?_; (with_reducible refine (impl_ParseList.calls k (rdOf ByteArray.empty t342 4) t358 true _ A11.1 (TB_.below wB_)).mono ?_); rintro e w59 ⟨v360, rfl, ho0, hb⟩; refine ⟨_, rfl, ?_⟩; replace HO344 := o_ (Kd.R_below (rd_ HO344.1) hb); have HO361 := o_ (Kd.R_lower (Kd.R_new' ho0 (Kd.R_lt (rd_ HO352.1))) (below_size wB_)); replace HO352 := o_ (Kd.R_elder' (rd_ HO352.1) (Kd.R_base ho0) hb); replace BK341 := o_ (blk_below (bd_ BK341.1) hb); replace HB := o_ (below_step wB_ hb); (try clear hb ho0); have p362 : 0 ≤ (5 : Int) := (by omega); have q362 : 5 < (t342.length : Int) := of_decide_eq_true as_; obtain ⟨ad362, e362, hx362_0⟩ := Kd.at_string (Kd.R_reads' HO344.1).2.2 5 p362 q362; obtain rfl : ad345 = ad362 := (by injection e362); (try simp only [show (5 : Int).toNat = 5 from rfl, Nat.reduceMul, Nat.reduceEqDiff, Go.Addr.add, ↓reduceIte] at hx362_0); have qi362 : (5 < t342.length) = True := eq_true (by omega); (try rw [show ((5 : Int)).toNat = 5 from rfl] at hx362_0); replace p362 := eq_true p362; replace q362 := eq_true q362) | (refine gl_ (some 57) Tryd.func45 #[.string (rdOf ByteArray.empty t342 5)] ?_; (with_reducible refine (impl_parsePair.calls k (rdOf ByteArray.empty t342 5) t363 t364 false _ A13.1 (TB_.below wB_)).mono ?_); rintro e w60 ⟨rfl, hb⟩; refine ⟨_, rfl, ?_⟩; replace HO344 := o_ (Kd.R_below (rd_ HO344.1) hb); replace HO352 := o_ (Kd.R_below (rd_ HO352.1) hb); replace HO361 := o_ (Kd.R_below (rd_ HO361.1) hb); replace BK341 := o_ (blk_below (bd_ BK341.1) hb); replace HB := o_ (below_step wB_ hb); (try clear hb); have p366 : 0 ≤ (1 : Int) := (by omega); have q366 : 1 < (t342.length : Int) := of_decide_eq_true as_; obtain ⟨ad366, e366, hx366_0⟩ := Kd.at_string (Kd.R_reads' HO344.1).2.2 1 p366 q366; obtain rfl : ad345 = ad366 := (by injection e366); (try simp only [show (1 : Int).toNat = 1 from rfl, Nat.reduceMul, Nat.reduceEqDiff, Go.Addr.add, ↓reduceIte] at hx366_0); have qi366 : (1 < t342.length) = True := eq_true (by omega); (try rw [show ((1 : Int)).toNat = 1 from rfl] at hx366_0); replace p366 := eq_true p366; replace q366 := eq_true q366) | (refine gl_ (some 65) Tryd.func23 #[.string (rdOf ByteArray.empty t342 1)] ?_; (with_reducible refine (impl_KindOf.calls k (rdOf ByteArray.empty t342 1) t367 _ A15.1).mono ?_); rintro e w61 ⟨rfl, hb⟩; refine ⟨_, rfl, ?_⟩; replace HO344 := o_ (Kd.R_below (rd_ HO344.1) hb); replace HO352 := o_ (Kd.R_below (rd_ HO352.1) hb); replace HO361 := o_ (Kd.R_below (rd_ HO361.1) hb); replace BK341 := o_ (blk_below (bd_ BK341.1) hb); replace HB := o_ (below_step wB_ hb); (try clear hb); obtain ⟨Ao62, co62, eo62⟩ := Kd.R_slice HO361.1; subst eo62; obtain ⟨Ao63, co63, eo63⟩ := Kd.R_slice HO352.1; subst eo63) | ((with_reducible refine gate_dst (N := 17) rfl ?_); refine bx_ 17 #[.int .i64 0, .int .i64 0, .slice none 0 0, .int .i64 0, .int .i64 0, .slice none 0 0, .int .i64 0, .int .i64 0] 28 ?_; intro gb368 hg w64 hbox hb; replace HO344 := o_ (Kd.R_below (rd_ HO344.1) hb); replace HO352 := o_ (Kd.R_below (rd_ HO352.1) hb); replace HO361 := o_ (Kd.R_below (rd_ HO361.1) hb); have BK368 := o_ (hbox); have GW368 := o_ ((y140_ : w.heap.size ≤ gb368)); replace HB := o_ (below_step wB_ hb); have GE368 := GW368; have NB341_368 := o_ ((y137_ : gb341 ≠ gb368)); have NB368_341 := o_ ((y138_ : gb368 ≠ gb341)); replace BK341 := o_ (blk_below (bd_ BK341.1) hb); clear hb hbox hg; have hnb65 := NB368_341.1; have hnc65 := NB341_368.1; obtain ⟨hcz66_0, hcz66_1, hcz66_2, hcz66_3, hcz66_4, hcz66_5, hcz66_6, hcz66_7⟩ := e118_ BK368.1; obtain ⟨hfz66_0, hfz66_1, hfz66_2, hfz66_3, hfz66_4, hfz66_5, hfz66_6, hfz66_7⟩ := z119_ BK368.1; obtain ⟨hcz67_0, hcz67_1, hcz67_2, hcz67_3, hcz67_4, hcz67_5, hcz67_6, hcz67_7⟩ := e118_ BK341.1; obtain ⟨hfz67_0, hfz67_1, hfz67_2, hfz67_3, hfz67_4, hfz67_5, hfz67_6, hfz67_7⟩ := z119_ BK341.1))
             refine bodyPost_ret (results_ct rfl _ _ gb341 28 #[.int .i64 0, .int .i64 0, .slice none 0 0, .int .i64 0, .int .i64 0, .slice none 0 0, .int .i64 0, .int .i64 0] (0, 0) _ rfl (bk_ BK341.1) Tryd.underlying28 rfl (by kernel_rfl)) rfl ?_
             exact ⟨_, _, by first | rfl | (simp [errW_none, errW_some] <;> rfl) | (simp [*, errW_none, errW_some] <;> rfl), by first | exact Kd.R_nil _ _ _ _ _ | exact Kd.N_nil _ _ _ _ _ | exact Kd.V_nil _ _ _ _ _ | exact Kd.Q_nil _ _ _ _ _ | exact Kd.S_nil _ _ _ _ _, by first | exact Kd.R_nil _ _ _ _ _ | exact Kd.N_nil _ _ _ _ _ | exact Kd.V_nil _ _ _ _ _ | exact Kd.Q_nil _ _ _ _ _ | exact Kd.S_nil _ _ _ _ _, wB_⟩
           ·
            replace c19 := Bool.eq_false_iff.mpr c19
            subst c19
            have H1 := H
            rw [if_neg nt_] at H1
            clear H
            have H := H1
            clear H1
            simp only [Option.some.injEq, Prod.mk.injEq] at H
            obtain ⟨rfl, rfl, rfl, rfl, rfl, rfl, rfl, rfl, rfl⟩ := H
            go_enter Tryd.func11, Tryd.ntmps11
            go_wp2_with (first | ((with_reducible refine gate_dst (N := 2) rfl ?_); refine bx_ 2 #[.int .i64 0, .int .i64 0, .slice none 0 0, .int .i64 0, .int .i64 0, .slice none 0 0, .int .i64 0, .int .i64 0] 28 ?_; intro gb341 hg w68 hbox hb; have BK341 := o_ (hbox); have GW341 := o_ ((y139_ : w.heap.size ≤ gb341)); replace HB := o_ (below_step (hd_ HB.1) hb); have GE341 := GW341; clear hb hbox hg) | (refine gl_ (some 19) Tryd.func43 #[.string a0, .string (⟨#[32]⟩ : ByteArray)] ?_; (with_reducible refine (strings_Split.calls a0 (⟨#[32]⟩ : ByteArray) t342 _ A2.1 (TB_.below wB_)).mono ?_); rintro e w69 ⟨v343, rfl, ho0, hb⟩; refine ⟨_, rfl, ?_⟩; have HO344 := o_ (Kd.R_lower ho0 (below_size wB_)); replace BK341 := o_ (blk_below (bd_ BK341.1) hb); replace HB := o_ (below_step wB_ hb); (try clear hb ho0); obtain ⟨Ao70, co70, eo70⟩ := Kd.R_slice HO344.1; subst eo70; have p345 : 0 ≤ (0 : Int) := (by omega); have q345 : 0 < (t342.length : Int) := of_decide_eq_true as_; obtain ⟨ad345, e345, hx345_0⟩ := Kd.at_string (Kd.R_reads' HO344.1).2.2 0 p345 q345; cases e345; have qi345 : (0 < t342.length) = True := eq_true (by omega); (try rw [show ((0 : Int)).toNat = 0 from rfl] at hx345_0); (try rw [Addr.add_zero'] at hx345_0); replace p345 := eq_true p345; replace q345 := eq_true q345) | (refine gl_ (some 28) Tryd.func44 #[.string (rdOf ByteArray.empty t342 0)] ?_; (with_reducible refine (impl_ParseInt.calls k (rdOf ByteArray.empty t342 0) t346 true _ A5.1).mono ?_); rintro e w' ⟨rfl, ⟨nd, rfl⟩⟩; refine ⟨_, rfl, ?_⟩; (try (rw [drewN_self w69]; generalize hq_ : World.drewN w69 _ = w69; replace HO344 : Aside0 (Kd.R Kd.string 9 w69 w.heap.size (fun _ => True) (.slice (some ad345) t342.length co70) t342) := ⟨by rw [← hq_]; exact rd_ HO344.1⟩; replace BK341 : Aside0 (w69.heap[gb341]? = some (c117_ 0 0 none 0 0 0 0 none 0 0 0 0)) := ⟨by rw [← hq_]; exact bd_ BK341.1⟩; replace HB : Aside0 (Below w.heap.size w w69) := ⟨by rw [← hq_]; exact wB_⟩; clear hq_)); have p348 : 0 ≤ (2 : Int) := (by omega); have q348 : 2 < (t342.length : Int) := of_decide_eq_true as_; obtain ⟨ad348, e348, hx348_0⟩ := Kd.at_string (Kd.R_reads' HO344.1).2.2 2 p348 q348; obtain rfl : ad345 = ad348 := (by injection e348); (try simp only [show (2 : Int).toNat = 2 from rfl, Nat.reduceMul, Nat.reduceEqDiff, Go.Addr.add, ↓reduceIte] at hx348_0); have qi348 : (2 < t342.length) = True := eq_true (by omega); (try rw [show ((2 : Int)).toNat = 2 from rfl] at hx348_0); replace p348 := eq_true p348; replace q348 := eq_true q348) | (refine gl_ (some 35) Tryd.func17 #[.string (rdOf ByteArray.empty t342 2)] ?_; (with_reducible refine (impl_ParseList.calls k (rdOf ByteArray.empty t342 2) t349 true _ A7.1 (TB_.below wB_)).mono ?_); rintro e w71 ⟨v351, rfl, ho0, hb⟩; refine ⟨_, rfl, ?_⟩; replace HO344 := o_ (Kd.R_below (rd_ HO344.1) hb); have HO352 := o_ (Kd.R_lower ho0 (below_size wB_)); replace BK341 := o_ (blk_below (bd_ BK341.1) hb); replace HB := o_ (below_step wB_ hb); (try clear hb ho0); have p353 : 0 ≤ (3 : Int) := (by omega); have q353 : 3 < (t342.length : Int) := of_decide_eq_true as_; obtain ⟨ad353, e353, hx353_0⟩ := Kd.at_string (Kd.R_reads' HO344.1).2.2 3 p353 q353; obtain rfl : ad345 = ad353 := (by injection e353); (try simp only [show (3 : Int).toNat = 3 from rfl, Nat.reduceMul, Nat.reduceEqDiff, Go.Addr.add, ↓reduceIte] at hx353_0); have qi353 : (3 < t342.length) = True := eq_true (by omega); (try rw [show ((3 : Int)).toNat = 3 from rfl] at hx353_0); replace p353 := eq_true p353; replace q353 := eq_true q353) | (refine gl_ (some 42) Tryd.func45 #[.string (rdOf ByteArray.empty t342 3)] ?_; (with_reducible refine (impl_parsePair.calls k (rdOf ByteArray.empty t342 3) t354 t355 true _ A9.1 (TB_.below wB_)).mono ?_); rintro e w72 ⟨rfl, hb⟩; refine ⟨_, rfl, ?_⟩; replace HO344 := o_ (Kd.R_below (rd_ HO344.1) hb); replace HO352 := o_ (Kd.R_below (rd_ HO352.1) hb); replace BK341 := o_ (blk_below (bd_ BK341.1) hb); replace HB := o_ (below_step wB_ hb); (try clear hb); have p357 : 0 ≤ (4 : Int) := (by omega); have q357 : 4 < (t342.length : Int) := of_decide_eq_true as_; obtain ⟨ad357, e357, hx357_0⟩ := Kd.at_string (Kd.R_reads' HO344.1).2.2 4 p357 q357; obtain rfl : ad345 = ad357 := (by injection e357); (try simp only [show (4 : Int).toNat = 4 from rfl, Nat.reduceMul, Nat.reduceEqDiff, Go.Addr.add, ↓reduceIte] at hx357_0); have qi357 : (4 < t342.length) = True := eq_true (by omega); (try rw [show ((4 : Int)).toNat = 4 from rfl] at hx357_0); replace p357 := eq_true p357; replace q357 := eq_true q357) | (refine gl_ (some 50) Tryd.func17 #[.string (rdOf ByteArray.empty t342 4)] ?_; (with_reducible refine (impl_ParseList.calls k (rdOf ByteArray.empty t342 4) t358 false _ A11.1 (TB_.below wB_)).mono ?_); rintro e w73 ⟨v360, rfl, ho0, hb⟩; refine ⟨_, rfl, ?_⟩; replace HO344 := o_ (Kd.R_below (rd_ HO344.1) hb); have HO361 := o_ (Kd.R_lower (Kd.R_new' ho0 (Kd.R_lt (rd_ HO352.1))) (below_size wB_)); replace HO352 := o_ (Kd.R_elder' (rd_ HO352.1) (Kd.R_base ho0) hb); replace BK341 := o_ (blk_below (bd_ BK341.1) hb); replace HB := o_ (below_step wB_ hb); (try clear hb ho0); have p362 : 0 ≤ (5 : Int) := (by omega); have q362 : 5 < (t342.length : Int) := of_decide_eq_true as_; obtain ⟨ad362, e362, hx362_0⟩ := Kd.at_string (Kd.R_reads' HO344.1).2.2 5 p362 q362; obtain rfl : ad345 = ad362 := (by injection e362); (try simp only [show (5 : Int).toNat = 5 from rfl, Nat.reduceMul, Nat.reduceEqDiff, Go.Addr.add, ↓reduceIte] at hx362_0); have qi362 : (5 < t342.length) = True := eq_true (by omega); (try rw [show ((5 : Int)).toNat = 5 from rfl] at hx362_0); replace p362 := eq_true p362; replace q362 := eq_true q362) | (refine gl_ (some 57) Tryd.func45 #[.string (rdOf ByteArray.empty t342 5)] ?_; (with_reducible refine (impl_parsePair.calls k (rdOf ByteArray.empty t342 5) t363 t364 t365 _ A13.1 (TB_.below wB_)).mono ?_); rintro e w74 ⟨rfl, hb⟩; refine ⟨_, rfl, ?_⟩; replace HO344 := o_ (Kd.R_below (rd_ HO344.1) hb); replace HO352 := o_ (Kd.R_below (rd_ HO352.1) hb); replace HO361 := o_ (Kd.R_below (rd_ HO361.1) hb); replace BK341 := o_ (blk_below (bd_ BK341.1) hb); replace HB := o_ (below_step wB_ hb); (try clear hb); have p366 : 0 ≤ (1 : Int) := (by omega); have q366 : 1 < (t342.length : Int) := of_decide_eq_true as_; obtain ⟨ad366, e366, hx366_0⟩ := Kd.at_string (Kd.R_reads' HO344.1).2.2 1 p366 q366; obtain rfl : ad345 = ad366 := (by injection e366); (try simp only [show (1 : Int).toNat = 1 from rfl, Nat.reduceMul, Nat.reduceEqDiff, Go.Addr.add, ↓reduceIte] at hx366_0); have qi366 : (1 < t342.length) = True := eq_true (by omega); (try rw [show ((1 : Int)).toNat = 1 from rfl] at hx366_0); replace p366 := eq_true p366; replace q366 := eq_true q366) | (refine gl_ (some 65) Tryd.func23 #[.string (rdOf ByteArray.empty t342 1)] ?_; (with_reducible refine (impl_KindOf.calls k (rdOf ByteArray.empty t342 1) t367 _ A15.1).mono ?_); rintro e w75 ⟨rfl, hb⟩; refine ⟨_, rfl, ?_⟩; replace HO344 := o_ (Kd.R_below (rd_ HO344.1) hb); replace HO352 := o_ (Kd.R_below (rd_ HO352.1) hb); replace HO361 := o_ (Kd.R_below (rd_ HO361.1) hb); replace BK341 := o_ (blk_below (bd_ BK341.1) hb); replace HB := o_ (below_step wB_ hb); (try clear hb); obtain ⟨Ao76, co76, eo76⟩ := Kd.R_slice HO361.1; subst eo76; obtain ⟨Ao77, co77, eo77⟩ := Kd.R_slice HO352.1; subst eo77) | ((with_reducible refine gate_dst (N := 17) rfl ?_); refine bx_ 17 #[.int .i64 0, .int .i64 0, .slice none 0 0, .int .i64 0, .int .i64 0, .slice none 0 0, .int .i64 0, .int .i64 0] 28 ?_; intro gb368 hg w78 hbox hb; replace HO344 := o_ (Kd.R_below (rd_ HO344.1) hb); replace HO352 := o_ (Kd.R_below (rd_ HO352.1) hb); replace HO361 := o_ (Kd.R_below (rd_ HO361.1) hb); have BK368 := o_ (hbox); have GW368 := o_ ((y140_ : w.heap.size ≤ gb368)); replace HB := o_ (below_step wB_ hb); have GE368 := GW368; have NB341_368 := o_ ((y137_ : gb341 ≠ gb368)); have NB368_341 := o_ ((y138_ : gb368 ≠ gb341)); replace BK341 := o_ (blk_below (bd_ BK341.1) hb); clear hb hbox hg; have hnb79 := NB368_341.1; have hnc79 := NB341_368.1; obtain ⟨hcz80_0, hcz80_1, hcz80_2, hcz80_3, hcz80_4, hcz80_5, hcz80_6, hcz80_7⟩ := e118_ BK368.1; obtain ⟨hfz80_0, hfz80_1, hfz80_2, hfz80_3, hfz80_4, hfz80_5, hfz80_6, hfz80_7⟩ := z119_ BK368.1; obtain ⟨hcz81_0, hcz81_1, hcz81_2, hcz81_3, hcz81_4, hcz81_5, hcz81_6, hcz81_7⟩ := e118_ BK341.1; obtain ⟨hfz81_0, hfz81_1, hfz81_2, hfz81_3, hfz81_4, hfz81_5, hfz81_6, hfz81_7⟩ := z119_ BK341.1))
            refine bodyPost_ret (results_ct rfl _ _ gb341 28 #[.int .i64 0, .int .i64 0, .slice none 0 0, .int .i64 0, .int .i64 0, .slice none 0 0, .int .i64 0, .int .i64 0] (0, 0) _ rfl (bk_ BK341.1) Tryd.underlying28 rfl (by kernel_rfl)) rfl ?_
            exact ⟨_, _, by first | rfl | (simp [errW_none, errW_some] <;> rfl) | (simp [*, errW_none, errW_some] <;> rfl), by first | exact Kd.R_nil _ _ _ _ _ | exact Kd.N_nil _ _ _ _ _ | exact Kd.V_nil _ _ _ _ _ | exact Kd.Q_nil _ _ _ _ _ | exact Kd.S_nil _ _ _ _ _, by first | exact Kd.R_nil _ _ _ _ _ | exact Kd.N_nil _ _ _ _ _ | exact Kd.V_nil _ _ _ _ _ | exact Kd.Q_nil _ _ _ _ _ | exact Kd.S_nil _ _ _ _ _, wB_⟩
          ·
           replace c18 := Bool.eq_false_iff.mpr c18
           subst c18
           have H1 := H
           rw [if_neg nt_] at H1
           clear H
           have H := H1
           clear H1
           simp only [Option.some.injEq, Prod.mk.injEq] at H
           obtain ⟨rfl, rfl, rfl, rfl, rfl, rfl, rfl, rfl, rfl⟩ := H
           go_enter Tryd.func11, Tryd.ntmps11
           go_wp2_with (first | ((with_reducible refine gate_dst (N := 2) rfl ?_); refine bx_ 2 #[.int .i64 0, .int .i64 0, .slice none 0 0, .int .i64 0, .int .i64 0, .slice none 0 0, .int .i64 0, .int .i64 0] 28 ?_; intro gb341 hg w82 hbox hb; have BK341 := o_ (hbox); have GW341 := o_ ((y139_ : w.heap.size ≤ gb341)); replace HB := o_ (below_step (hd_ HB.1) hb); have GE341 := GW341; clear hb hbox hg) | (refine gl_ (some 19) Tryd.func43 #[.string a0, .string (⟨#[32]⟩ : ByteArray)] ?_; (with_reducible refine (strings_Split.calls a0 (⟨#[32]⟩ : ByteArray) t342 _ A2.1 (TB_.below wB_)).mono ?_); rintro e w83 ⟨v343, rfl, ho0, hb⟩; refine ⟨_, rfl, ?_⟩; have HO344 := o_ (Kd.R_lower ho0 (below_size wB_)); replace BK341 := o_ (blk_below (bd_ BK341.1) hb); replace HB := o_ (below_step wB_ hb); (try clear hb ho0); obtain ⟨Ao84, co84, eo84⟩ := Kd.R_slice HO344.1; subst eo84; have p345 : 0 ≤ (0 : Int) := (by omega); have q345 : 0 < (t342.length : Int) := of_decide_eq_true as_; obtain ⟨ad345, e345, hx345_0⟩ := Kd.at_string (Kd.R_reads' HO344.1).2.2 0 p345 q345; cases e345; have qi345 : (0 < t342.length) = True := eq_true (by omega); (try rw [show ((0 : Int)).toNat = 0 from rfl] at hx345_0); (try rw [Addr.add_zero'] at hx345_0); replace p345 := eq_true p345; replace q345 := eq_true q345) | (refine gl_ (some 28) Tryd.func44 #[.string (rdOf ByteArray.empty t342 0)] ?_; (with_reducible refine (impl_ParseInt.calls k (rdOf ByteArray.empty t342 0) t346 true _ A5.1).mono ?_); rintro e w' ⟨rfl, ⟨nd, rfl⟩⟩; refine ⟨_, rfl, ?_⟩; (try (rw [drewN_self w83]; generalize hq_ : World.drewN w83 _ = w83; replace HO344 : Aside0 (Kd.R Kd.string 9 w83 w.heap.size (fun _ => True) (.slice (some ad345) t342.length co84) t342) := ⟨by rw [← hq_]; exact rd_ HO344.1⟩; replace BK341 : Aside0 (w83.heap[gb341]? = some (c117_ 0 0 none 0 0 0 0 none 0 0 0 0)) := ⟨by rw [← hq_]; exact bd_ BK341.1⟩; replace HB : Aside0 (Below w.heap.size w w83) := ⟨by rw [← hq_]; exact wB_⟩; clear hq_)); have p348 : 0 ≤ (2 : Int) := (by omega); have q348 : 2 < (t342.length : Int) := of_decide_eq_true as_; obtain ⟨ad348, e348, hx348_0⟩ := Kd.at_string (Kd.R_reads' HO344.1).2.2 2 p348 q348; obtain rfl : ad345 = ad348 := (by injection e348); (try simp only [show (2 : Int).toNat = 2 from rfl, Nat.reduceMul, Nat.reduceEqDiff, Go.Addr.add, ↓reduceIte] at hx348_0); have qi348 : (2 < t342.length) = True := eq_true (by omega); (try rw [show ((2 : Int)).toNat = 2 from rfl] at hx348_0); replace p348 := eq_true p348; replace q348 := eq_true q348) | (refine gl_ (some 35) Tryd.func17 #[.string (rdOf ByteArray.empty t342 2)] ?_; (with_reducible refine (impl_ParseList.calls k (rdOf ByteArray.empty t342 2) t349 true _ A7.1 (TB_.below wB_)).mono ?_); rintro e w85 ⟨v351, rfl, ho0, hb⟩; refine ⟨_, rfl, ?_⟩; replace HO344 := o_ (Kd.R_below (rd_ HO344.1) hb); have HO352 := o_ (Kd.R_lower ho0 (below_size wB_)); replace BK341 := o_ (blk_below (bd_ BK341.1) hb); replace HB := o_ (below_step wB_ hb); (try clear hb ho0); have p353 : 0 ≤ (3 : Int) := (by omega); have q353 : 3 < (t342.length : Int) := of_decide_eq_true as_; obtain ⟨ad353, e353, hx353_0⟩ := Kd.at_string (Kd.R_reads' HO344.1).2.2 3 p353 q353; obtain rfl : ad345 = ad353 := (by injection e353); (try simp only [show (3 : Int).toNat = 3 from rfl, Nat.reduceMul, Nat.reduceEqDiff, Go.Addr.add, ↓reduceIte] at hx353_0); have qi353 : (3 < t342.length) = True := eq_true (by omega); (try rw [show ((3 : Int)).toNat = 3 from rfl] at hx353_0); replace p353 := eq_true p353; replace q353 := eq_true q353) | (refine gl_ (some 42) Tryd.func45 #[.string (rdOf ByteArray.empty t342 3)] ?_; (with_reducible refine (impl_parsePair.calls k (rdOf ByteArray.empty t342 3) t354 t355 false _ A9.1 (TB_.below wB_)).mono ?_); rintro e w86 ⟨rfl, hb⟩; refine ⟨_, rfl, ?_⟩; replace HO344 := o_ (Kd.R_below (rd_ HO344.1) hb); replace HO352 := o_ (Kd.R_below (rd_ HO352.1) hb); replace BK341 := o_ (blk_below (bd_ BK341.1) hb); replace HB := o_ (below_step wB_ hb); (try clear hb); have p357 : 0 ≤ (4 : Int) := (by omega); have q357 : 4 < (t342.length : Int) := of_decide_eq_true as_; obtain ⟨ad357, e357, hx357_0⟩ := Kd.at_string (Kd.R_reads' HO344.1).2.2 4 p357 q357; obtain rfl : ad345 = ad357 := (by injection e357); (try simp only [show (4 : Int).toNat = 4 from rfl, Nat.reduceMul, Nat.reduceEqDiff, Go.Addr.add, ↓reduceIte] at hx357_0); have qi357 : (4 < t342.length) = True := eq_true (by omega); (try rw [show ((4 : Int)).toNat = 4 from rfl] at hx357_0); replace p357 := eq_true p357; replace q357 := eq_true q357) | (refine gl_ (some 50) Tryd.func17 #[.string (rdOf ByteArray.empty t342 4)] ?_; (with_reducible refine (impl_ParseList.calls k (rdOf ByteArray.empty t342 4) t358 t359 _ A11.1 (TB_.below wB_)).mono ?_); rintro e w87 ⟨v360, rfl, ho0, hb⟩; refine ⟨_, rfl, ?_⟩; replace HO344 := o_ (Kd.R_below (rd_ HO344.1) hb); have HO361 := o_ (Kd.R_lower (Kd.R_new' ho0 (Kd.R_lt (rd_ HO352.1))) (below_size wB_)); replace HO352 := o_ (Kd.R_elder' (rd_ HO352.1) (Kd.R_base ho0) hb); replace BK341 := o_ (blk_below (bd_ BK341.1) hb); replace HB := o_ (below_step wB_ hb); (try clear hb ho0); have p362 : 0 ≤ (5 : Int) := (by omega); have q362 : 5 < (t342.length : Int) := of_decide_eq_true as_; obtain ⟨ad362, e362, hx362_0⟩ := Kd.at_string (Kd.R_reads' HO344.1).2.2 5 p362 q362; obtain rfl : ad345 = ad362 := (by injection e362); (try simp only [show (5 : Int).toNat = 5 from rfl, Nat.reduceMul, Nat.reduceEqDiff, Go.Addr.add, ↓reduceIte] at hx362_0); have qi362 : (5 < t342.length) = True := eq_true (by omega); (try rw [show ((5 : Int)).toNat = 5 from rfl] at hx362_0); replace p362 := eq_true p362; replace q362 := eq_true q362) | (refine gl_ (some 57) Tryd.func45 #[.string (rdOf ByteArray.empty t342 5)] ?_; (with_reducible refine (impl_parsePair.calls k (rdOf ByteArray.empty t342 5) t363 t364 t365 _ A13.1 (TB_.below wB_)).mono ?_); rintro e w88 ⟨rfl, hb⟩; refine ⟨_, rfl, ?_⟩; replace HO344 := o_ (Kd.R_below (rd_ HO344.1) hb); replace HO352 := o_ (Kd.R_below (rd_ HO352.1) hb); replace HO361 := o_ (Kd.R_below (rd_ HO361.1) hb); replace BK341 := o_ (blk_below (bd_ BK341.1) hb); replace HB := o_ (below_step wB_ hb); (try clear hb); have p366 : 0 ≤ (1 : Int) := (by omega); have q366 : 1 < (t342.length : Int) := of_decide_eq_true as_; obtain ⟨ad366, e366, hx366_0⟩ := Kd.at_string (Kd.R_reads' HO344.1).2.2 1 p366 q366; obtain rfl : ad345 = ad366 := (by injection e366); (try simp only [show (1 : Int).toNat = 1 from rfl, Nat.reduceMul, Nat.reduceEqDiff, Go.Addr.add, ↓reduceIte] at hx366_0); have qi366 : (1 < t342.length) = True := eq_true (by omega); (try rw [show ((1 : Int)).toNat = 1 from rfl] at hx366_0); replace p366 := eq_true p366; replace q366 := eq_true q366) | (refine gl_ (some 65) Tryd.func23 #[.string (rdOf ByteArray.empty t342 1)] ?_; (with_reducible refine (impl_KindOf.calls k (rdOf ByteArray.empty t342 1) t367 _ A15.1).mono ?_); rintro e w89 ⟨rfl, hb⟩; refine ⟨_, rfl, ?_⟩; replace HO344 := o_ (Kd.R_below (rd_ HO344.1) hb); replace HO352 := o_ (Kd.R_below (rd_ HO352.1) hb); replace HO361 := o_ (Kd.R_below (rd_ HO361.1) hb); replace BK341 := o_ (blk_below (bd_ BK341.1) hb); replace HB := o_ (below_step wB_ hb); (try clear hb); obtain ⟨Ao90, co90, eo90⟩ := Kd.R_slice HO361.1; subst eo90; obtain ⟨Ao91, co91, eo91⟩ := Kd.R_slice HO352.1; subst eo91) | ((with_reducible refine gate_dst (N := 17) rfl ?_); refine bx_ 17 #[.int .i64 0, .int .i64 0, .slice none 0 0, .int .i64 0, .int .i64 0, .slice none 0 0, .int .i64 0, .int .i64 0] 28 ?_; intro gb368 hg w92 hbox hb; replace HO344 := o_ (Kd.R_below (rd_ HO344.1) hb); replace HO352 := o_ (Kd.R_below (rd_ HO352.1) hb); replace HO361 := o_ (Kd.R_below (rd_ HO361.1) hb); have BK368 := o_ (hbox); have GW368 := o_ ((y140_ : w.heap.size ≤ gb368)); replace HB := o_ (below_step wB_ hb); have GE368 := GW368; have NB341_368 := o_ ((y137_ : gb341 ≠ gb368)); have NB368_341 := o_ ((y138_ : gb368 ≠ gb341)); replace BK341 := o_ (blk_below (bd_ BK341.1) hb); clear hb hbox hg; have hnb93 := NB368_341.1; have hnc93 := NB341_368.1; obtain ⟨hcz94_0, hcz94_1, hcz94_2, hcz94_3, hcz94_4, hcz94_5, hcz94_6, hcz94_7⟩ := e118_ BK368.1; obtain ⟨hfz94_0, hfz94_1, hfz94_2, hfz94_3, hfz94_4, hfz94_5, hfz94_6, hfz94_7⟩ := z119_ BK368.1; obtain ⟨hcz95_0, hcz95_1, hcz95_2, hcz95_3, hcz95_4, hcz95_5, hcz95_6, hcz95_7⟩ := e118_ BK341.1; obtain ⟨hfz95_0, hfz95_1, hfz95_2, hfz95_3, hfz95_4, hfz95_5, hfz95_6, hfz95_7⟩ := z119_ BK341.1))
           refine bodyPost_ret (results_ct rfl _ _ gb341 28 #[.int .i64 0, .int .i64 0, .slice none 0 0, .int .i64 0, .int .i64 0, .slice none 0 0, .int .i64 0, .int .i64 0] (0, 0) _ rfl (bk_ BK341.1) Tryd.underlying28 rfl (by kernel_rfl)) rfl ?_
           exact ⟨_, _, by first | rfl | (simp [errW_none, errW_some] <;> rfl) | (simp [*, errW_none, errW_some] <;> rfl), by first | exact Kd.R_nil _ _ _ _ _ | exact Kd.N_nil _ _ _ _ _ | exact Kd.V_nil _ _ _ _ _ | exact Kd.Q_nil _ _ _ _ _ | exact Kd.S_nil _ _ _ _ _, by first | exact Kd.R_nil _ _ _ _ _ | exact Kd.N_nil _ _ _ _ _ | exact Kd.V_nil _ _ _ _ _ | exact Kd.Q_nil _ _ _ _ _ | exact Kd.S_nil _ _ _ _ _, wB_⟩
         ·
          replace c17 := Bool.eq_false_iff.mpr c17
          subst c17
          have H1 := H
          rw [if_neg nt_] at H1
          clear H
          have H := H1
          clear H1
          simp only [Option.some.injEq, Prod.mk.injEq] at H
          obtain ⟨rfl, rfl, rfl, rfl, rfl, rfl, rfl, rfl, rfl⟩ := H
          go_enter Tryd.func11, Tryd.ntmps11
          go_wp2_with (first | ((with_reducible refine gate_dst (N := 2) rfl ?_); refine bx_ 2 #[.int .i64 0, .int .i64 0, .slice none 0 0, .int .i64 0, .int .i64 0, .slice none 0 0, .int .i64 0, .int .i64 0] 28 ?_; intro gb341 hg w96 hbox hb; have BK341 := o_ (hbox); have GW341 := o_ ((y139_ : w.heap.size ≤ gb341)); replace HB := o_ (below_step (hd_ HB.1) hb); have GE341 := GW341; clear hb hbox hg) | (refine gl_ (some 19) Tryd.func43 #[.string a0, .string (⟨#[32]⟩ : ByteArray)] ?_; (with_reducible refine (strings_Split.calls a0 (⟨#[32]⟩ : ByteArray) t342 _ A2.1 (TB_.below wB_)).mono ?_); rintro e w97 ⟨v343, rfl, ho0, hb⟩; refine ⟨_, rfl, ?_⟩; have HO344 := o_ (Kd.R_lower ho0 (below_size wB_)); replace BK341 := o_ (blk_below (bd_ BK341.1) hb); replace HB := o_ (below_step wB_ hb); (try clear hb ho0); obtain ⟨Ao98, co98, eo98⟩ := Kd.R_slice HO344.1; subst eo98; have p345 : 0 ≤ (0 : Int) := (by omega); have q345 : 0 < (t342.length : Int) := of_decide_eq_true as_; obtain ⟨ad345, e345, hx345_0⟩ := Kd.at_string (Kd.R_reads' HO344.1).2.2 0 p345 q345; cases e345; have qi345 : (0 < t342.length) = True := eq_true (by omega); (try rw [show ((0 : Int)).toNat = 0 from rfl] at hx345_0); (try rw [Addr.add_zero'] at hx345_0); replace p345 := eq_true p345; replace q345 := eq_true q345) | (refine gl_ (some 28) Tryd.func44 #[.string (rdOf ByteArray.empty t342 0)] ?_; (with_reducible refine (impl_ParseInt.calls k (rdOf ByteArray.empty t342 0) t346 true _ A5.1).mono ?_); rintro e w' ⟨rfl, ⟨nd, rfl⟩⟩; refine ⟨_, rfl, ?_⟩; (try (rw [drewN_self w97]; generalize hq_ : World.drewN w97 _ = w97; replace HO344 : Aside0 (Kd.R Kd.string 9 w97 w.heap.size (fun _ => True) (.slice (some ad345) t342.length co98) t342) := ⟨by rw [← hq_]; exact rd_ HO344.1⟩; replace BK341 : Aside0 (w97.heap[gb341]? = some (c117_ 0 0 none 0 0 0 0 none 0 0 0 0)) := ⟨by rw [← hq_]; exact bd_ BK341.1⟩; replace HB : Aside0 (Below w.heap.size w w97) := ⟨by rw [← hq_]; exact wB_⟩; clear hq_)); have p348 : 0 ≤ (2 : Int) := (by omega); have q348 : 2 < (t342.length : Int) := of_decide_eq_true as_; obtain ⟨ad348, e348, hx348_0⟩ := Kd.at_string (Kd.R_reads' HO344.1).2.2 2 p348 q348; obtain rfl : ad345 = ad348 := (by injection e348); (try simp only [show (2 : Int).toNat = 2 from rfl, Nat.reduceMul, Nat.reduceEqDiff, Go.Addr.add, ↓reduceIte] at hx348_0); have qi348 : (2 < t342.length) = True := eq_true (by omega); (try rw [show ((2 : Int)).toNat = 2 from rfl] at hx348_0); replace p348 := eq_true p348; replace q348 := eq_true q348) | (refine gl_ (some 35) Tryd.func17 #[.string (rdOf ByteArray.empty t342 2)] ?_; (with_reducible refine (impl_ParseList.calls k (rdOf ByteArray.empty t342 2) t349 false _ A7.1 (TB_.below wB_)).mono ?_); rintro e w99 ⟨v351, rfl, ho0, hb⟩; refine ⟨_, rfl, ?_⟩; replace HO344 := o_ (Kd.R_below (rd_ HO344.1) hb); have HO352 := o_ (Kd.R_lower ho0 (below_size wB_)); replace BK341 := o_ (blk_below (bd_ BK341.1) hb); replace HB := o_ (below_step wB_ hb); (try clear hb ho0); have p353 : 0 ≤ (3 : Int) := (by omega); have q353 : 3 < (t342.length : Int) := of_decide_eq_true as_; obtain ⟨ad353, e353, hx353_0⟩ := Kd.at_string (Kd.R_reads' HO344.1).2.2 3 p353 q353; obtain rfl : ad345 = ad353 := (by injection e353); (try simp only [show (3 : Int).toNat = 3 from rfl, Nat.reduceMul, Nat.reduceEqDiff, Go.Addr.add, ↓reduceIte] at hx353_0); have qi353 : (3 < t342.length) = True := eq_true (by omega); (try rw [show ((3 : Int)).toNat = 3 from rfl] at hx353_0); replace p353 := eq_true p353; replace q353 := eq_true q353) | (refine gl_ (some 42) Tryd.func45 #[.string (rdOf ByteArray.empty t342 3)] ?_; (with_reducible refine (impl_parsePair.calls k (rdOf ByteArray.empty t342 3) t354 t355 t356 _ A9.1 (TB_.below wB_)).mono ?_); rintro e w100 ⟨rfl, hb⟩; refine ⟨_, rfl, ?_⟩; replace HO344 := o_ (Kd.R_below (rd_ HO344.1) hb); replace HO352 := o_ (Kd.R_below (rd_ HO352.1) hb); replace BK341 := o_ (blk_below (bd_ BK341.1) hb); replace HB := o_ (below_step wB_ hb); (try clear hb); have p357 : 0 ≤ (4 : Int) := (by omega); have q357 : 4 < (t342.length : Int) := of_decide_eq_true as_; obtain ⟨ad357, e357, hx357_0⟩ := Kd.at_string (Kd.R_reads' HO344.1).2.2 4 p357 q357; obtain rfl : ad345 = ad357 := (by injection e357); (try simp only [show (4 : Int).toNat = 4 from rfl, Nat.reduceMul, Nat.reduceEqDiff, Go.Addr.add, ↓reduceIte] at hx357_0); have qi357 : (4 < t342.length) = True := eq_true (by omega); (try rw [show ((4 : Int)).toNat = 4 from rfl] at hx357_0); replace p357 := eq_true p357; replace q357 := eq_true q357) | (refine gl_ (some 50) Tryd.func17 #[.string (rdOf ByteArray.empty t342 4)] ?_; (with_reducible refine (impl_ParseList.calls k (rdOf ByteArray.empty t342 4) t358 t359 _ A11.1 (TB_.below wB_)).mono ?_); rintro e w101 ⟨v360, rfl, ho0, hb⟩; refine ⟨_, rfl, ?_⟩; replace HO344 := o_ (Kd.R_below (rd_ HO344.1) hb); have HO361 := o_ (Kd.R_lower (Kd.R_new' ho0 (Kd.R_lt (rd_ HO352.1))) (below_size wB_)); replace HO352 := o_ (Kd.R_elder' (rd_ HO352.1) (Kd.R_base ho0) hb); replace BK341 := o_ (blk_below (bd_ BK341.1) hb); replace HB := o_ (below_step wB_ hb); (try clear hb ho0); have p362 : 0 ≤ (5 : Int) := (by omega); have q362 : 5 < (t342.length : Int) := of_decide_eq_true as_; obtain ⟨ad362, e362, hx362_0⟩ := Kd.at_string (Kd.R_reads' HO344.1).2.2 5 p362 q362; obtain rfl : ad345 = ad362 := (by injection e362); (try simp only [show (5 : Int).toNat = 5 from rfl, Nat.reduceMul, Nat.reduceEqDiff, Go.Addr.add, ↓reduceIte] at hx362_0); have qi362 : (5 < t342.length) = True := eq_true (by omega); (try rw [show ((5 : Int)).toNat = 5 from rfl] at hx362_0); replace p362 := eq_true p362; replace q362 := eq_true q362) | (refine gl_ (some 57) Tryd.func45 #[.string (rdOf ByteArray.empty t342 5)] ?_; (with_reducible refine (impl_parsePair.calls k (rdOf ByteArray.empty t342 5) t363 t364 t365 _ A13.1 (TB_.below wB_)).mono ?_); rintro e w102 ⟨rfl, hb⟩; refine ⟨_, rfl, ?_⟩; replace HO344 := o_ (Kd.R_below (rd_ HO344.1) hb); replace HO352 := o_ (Kd.R_below (rd_ HO352.1) hb); replace HO361 := o_ (Kd.R_below (rd_ HO361.1) hb); replace BK341 := o_ (blk_below (bd_ BK341.1) hb); replace HB := o_ (below_step wB_ hb); (try clear hb); have p366 : 0 ≤ (1 : Int) := (by omega); have q366 : 1 < (t342.length : Int) := of_decide_eq_true as_; obtain ⟨ad366, e366, hx366_0⟩ := Kd.at_string (Kd.R_reads' HO344.1).2.2 1 p366 q366; obtain rfl : ad345 = ad366 := (by injection e366); (try simp only [show (1 : Int).toNat = 1 from rfl, Nat.reduceMul, Nat.reduceEqDiff, Go.Addr.add, ↓reduceIte] at hx366_0); have qi366 : (1 < t342.length) = True := eq_true (by omega); (try rw [show ((1 : Int)).toNat = 1 from rfl] at hx366_0); replace p366 := eq_true p366; replace q366 := eq_true q366) | (refine gl_ (some 65) Tryd.func23 #[.string (rdOf ByteArray.empty t342 1)] ?_; (with_reducible refine (impl_KindOf.calls k (rdOf ByteArray.empty t342 1) t367 _ A15.1).mono ?_); rintro e w103 ⟨rfl, hb⟩; refine ⟨_, rfl, ?_⟩; replace HO344 := o_ (Kd.R_below (rd_ HO344.1) hb); replace HO352 := o_ (Kd.R_below (rd_ HO352.1) hb); replace HO361 := o_ (Kd.R_below (rd_ HO361.1) hb); replace BK341 := o_ (blk_below (bd_ BK341.1) hb); replace HB := o_ (below_step wB_ hb); (try clear hb); obtain ⟨Ao104, co104, eo104⟩ := Kd.R_slice HO361.1; subst eo104; obtain ⟨Ao105, co105, eo105⟩ := Kd.R_slice HO352.1; subst eo105) | ((with_reducible refine gate_dst (N := 17) rfl ?_); refine bx_ 17 #[.int .i64 0, .int .i64 0, .slice none 0 0, .int .i64 0, .int .i64 0, .slice none 0 0, .int .i64 0, .int .i64 0] 28 ?_; intro gb368 hg w106 hbox hb; replace HO344 := o_ (Kd.R_below (rd_ HO344.1) hb); replace HO352 := o_ (Kd.R_below (rd_ HO352.1) hb); replace HO361 := o_ (Kd.R_below (rd_ HO361.1) hb); have BK368 := o_ (hbox); have GW368 := o_ ((y140_ : w.heap.size ≤ gb368)); replace HB := o_ (below_step wB_ hb); have GE368 := GW368; have NB341_368 := o_ ((y137_ : gb341 ≠ gb368)); have NB368_341 := o_ ((y138_ : gb368 ≠ gb341)); replace BK341 := o_ (blk_below (bd_ BK341.1) hb); clear hb hbox hg; have hnb107 := NB368_341.1; have hnc107 := NB341_368.1; obtain ⟨hcz108_0, hcz108_1, hcz108_2, hcz108_3, hcz108_4, hcz108_5, hcz108_6, hcz108_7⟩ := e118_ BK368.1; obtain ⟨hfz108_0, hfz108_1, hfz108_2, hfz108_3, hfz108_4, hfz108_5, hfz108_6, hfz108_7⟩ := z119_ BK368.1; obtain ⟨hcz109_0, hcz109_1, hcz109_2, hcz109_3, hcz109_4, hcz109_5, hcz109_6, hcz109_7⟩ := e118_ BK341.1; obtain ⟨hfz109_0, hfz109_1, hfz109_2, hfz109_3, hfz109_4, hfz109_5, hfz109_6, hfz109_7⟩ := z119_ BK341.1))
          refine bodyPost_ret (results_ct rfl _ _ gb341 28 #[.int .i64 0, .int .i64 0, .slice none 0 0, .int .i64 0, .int .i64 0, .slice none 0 0, .int .i64 0, .int .i64 0] (0, 0) _ rfl (bk_ BK341.1) Tryd.underlying28 rfl (by kernel_rfl)) rfl ?_
          exact ⟨_, _, by first | rfl | (simp [errW_none, errW_some] <;> rfl) | (simp [*, errW_none, errW_some] <;> rfl), by first | exact Kd.R_nil _ _ _ _ _ | exact Kd.N_nil _ _ _ _ _ | exact Kd.V_nil _ _ _ _ _ | exact Kd.Q_nil _ _ _ _ _ | exact Kd.S_nil _ _ _ _ _, by first | exact Kd.R_nil _ _ _ _ _ | exact Kd.N_nil _ _ _ _ _ | exact Kd.V_nil _ _ _ _ _ | exact Kd.Q_nil _ _ _ _ _ | exact Kd.S_nil _ _ _ _ _, wB_⟩
        ·
         replace c16 := Bool.eq_false_iff.mpr c16
         subst c16
         have H1 := H
         rw [if_neg nt_] at H1
         clear H
         have H := H1
         clear H1
         simp only [Option.some.injEq, Prod.mk.injEq] at H
         obtain ⟨rfl, rfl, rfl, rfl, rfl, rfl, rfl, rfl, rfl⟩ := H
         go_enter Tryd.func11, Tryd.ntmps11
         go_wp2_with (first | ((with_reducible refine gate_dst (N := 2) rfl ?_); refine bx_ 2 #[.int .i64 0, .int .i64 0, .slice none 0 0, .int .i64 0, .int .i64 0, .slice none 0 0, .int .i64 0, .int .i64 0] 28 ?_; intro gb341 hg w110 hbox hb; have BK341 := o_ (hbox); have GW341 := o_ ((y139_ : w.heap.size ≤ gb341)); replace HB := o_ (below_step (hd_ HB.1) hb); have GE341 := GW341; clear hb hbox hg) | (refine gl_ (some 19) Tryd.func43 #[.string a0, .string (⟨#[32]⟩ : ByteArray)] ?_; (with_reducible refine (strings_Split.calls a0 (⟨#[32]⟩ : ByteArray) t342 _ A2.1 (TB_.below wB_)).mono ?_); rintro e w111 ⟨v343, rfl, ho0, hb⟩; refine ⟨_, rfl, ?_⟩; have HO344 := o_ (Kd.R_lower ho0 (below_size wB_)); replace BK341 := o_ (blk_below (bd_ BK341.1) hb); replace HB := o_ (below_step wB_ hb); (try clear hb ho0); obtain ⟨Ao112, co112, eo112⟩ := Kd.R_slice HO344.1; subst eo112; have p345 : 0 ≤ (0 : Int) := (by omega); have q345 : 0 < (t342.length : Int) := of_decide_eq_true as_; obtain ⟨ad345, e345, hx345_0⟩ := Kd.at_string (Kd.R_reads' HO344.1).2.2 0 p345 q345; cases e345; have qi345 : (0 < t342.length) = True := eq_true (by omega); (try rw [show ((0 : Int)).toNat = 0 from rfl] at hx345_0); (try rw [Addr.add_zero'] at hx345_0); replace p345 := eq_true p345; replace q345 := eq_true q345) | (refine gl_ (some 28) Tryd.func44 #[.string (rdOf ByteArray.empty t342 0)] ?_; (with_reducible refine (impl_ParseInt.calls k (rdOf ByteArray.empty t342 0) t346 false _ A5.1).mono ?_); rintro e w' ⟨rfl, ⟨nd, rfl⟩⟩; refine ⟨_, rfl, ?_⟩; (try (rw [drewN_self w111]; generalize hq_ : World.drewN w111 _ = w111; replace HO344 : Aside0 (Kd.R Kd.string 9 w111 w.heap.size (fun _ => True) (.slice (some ad345) t342.length co112) t342) := ⟨by rw [← hq_]; exact rd_ HO344.1⟩; replace BK341 : Aside0 (w111.heap[gb341]? = some (c117_ 0 0 none 0 0 0 0 none 0 0 0 0)) := ⟨by rw [← hq_]; exact bd_ BK341.1⟩; replace HB : Aside0 (Below w.heap.size w w111) := ⟨by rw [← hq_]; exact wB_⟩; clear hq_)); have p348 : 0 ≤ (2 : Int) := (by omega); have q348 : 2 < (t342.length : Int) := of_decide_eq_true as_; obtain ⟨ad348, e348, hx348_0⟩ := Kd.at_string (Kd.R_reads' HO344.1).2.2 2 p348 q348; obtain rfl : ad345 = ad348 := (by injection e348); (try simp only [show (2 : Int).toNat = 2 from rfl, Nat.reduceMul, Nat.reduceEqDiff, Go.Addr.add, ↓reduceIte] at hx348_0); have qi348 : (2 < t342.length) = True := eq_true (by omega); (try rw [show ((2 : Int)).toNat = 2 from rfl] at hx348_0); replace p348 := eq_true p348; replace q348 := eq_true q348) | (refine gl_ (some 35) Tryd.func17 #[.string (rdOf ByteArray.empty t342 2)] ?_; (with_reducible refine (impl_ParseList.calls k (rdOf ByteArray.empty t342 2) t349 t350 _ A7.1 (TB_.below wB_)).mono ?_); rintro e w113 ⟨v351, rfl, ho0, hb⟩; refine ⟨_, rfl, ?_⟩; replace HO344 := o_ (Kd.R_below (rd_ HO344.1) hb); have HO352 := o_ (Kd.R_lower ho0 (below_size wB_)); replace BK341 := o_ (blk_below (bd_ BK341.1) hb); replace HB := o_ (below_step wB_ hb); (try clear hb ho0); have p353 : 0 ≤ (3 : Int) := (by omega); have q353 : 3 < (t342.length : Int) := of_decide_eq_true as_; obtain ⟨ad353, e353, hx353_0⟩ := Kd.at_string (Kd.R_reads' HO344.1).2.2 3 p353 q353; obtain rfl : ad345 = ad353 := (by injection e353); (try simp only [show (3 : Int).toNat = 3 from rfl, Nat.reduceMul, Nat.reduceEqDiff, Go.Addr.add, ↓reduceIte] at hx353_0); have qi353 : (3 < t342.length) = True := eq_true (by omega); (try rw [show ((3 : Int)).toNat = 3 from rfl] at hx353_0); replace p353 := eq_true p353; replace q353 := eq_true q353) | (refine gl_ (some 42) Tryd.func45 #[.string (rdOf ByteArray.empty t342 3)] ?_; (with_reducible refine (impl_parsePair.calls k (rdOf ByteArray.empty t342 3) t354 t355 t356 _ A9.1 (TB_.below wB_)).mono ?_); rintro e w114 ⟨rfl, hb⟩; refine ⟨_, rfl, ?_⟩; replace HO344 := o_ (Kd.R_below (rd_ HO344.1) hb); replace HO352 := o_ (Kd.R_below (rd_ HO352.1) hb); replace BK341 := o_ (blk_below (bd_ BK341.1) hb); replace HB := o_ (below_step wB_ hb); (try clear hb); have p357 : 0 ≤ (4 : Int) := (by omega); have q357 : 4 < (t342.length : Int) := of_decide_eq_true as_; obtain ⟨ad357, e357, hx357_0⟩ := Kd.at_string (Kd.R_reads' HO344.1).2.2 4 p357 q357; obtain rfl : ad345 = ad357 := (by injection e357); (try simp only [show (4 : Int).toNat = 4 from rfl, Nat.reduceMul, Nat.reduceEqDiff, Go.Addr.add, ↓reduceIte] at hx357_0); have qi357 : (4 < t342.length) = True := eq_true (by omega); (try rw [show ((4 : Int)).toNat = 4 from rfl] at hx357_0); replace p357 := eq_true p357; replace q357 := eq_true q357) | (refine gl_ (some 50) Tryd.func17 #[.string (rdOf ByteArray.empty t342 4)] ?_; (with_reducible refine (impl_ParseList.calls k (rdOf ByteArray.empty t342 4) t358 t359 _ A11.1 (TB_.below wB_)).mono ?_); rintro e w115 ⟨v360, rfl, ho0, hb⟩; refine ⟨_, rfl, ?_⟩; replace HO344 := o_ (Kd.R_below (rd_ HO344.1) hb); have HO361 := o_ (Kd.R_lower (Kd.R_new' ho0 (Kd.R_lt (rd_ HO352.1))) (below_size wB_)); replace HO352 := o_ (Kd.R_elder' (rd_ HO352.1) (Kd.R_base ho0) hb); replace BK341 := o_ (blk_below (bd_ BK341.1) hb); replace HB := o_ (below_step wB_ hb); (try clear hb ho0); have p362 : 0 ≤ (5 : Int) := (by omega); have q362 : 5 < (t342.length : Int) := of_decide_eq_true as_; obtain ⟨ad362, e362, hx362_0⟩ := Kd.at_string (Kd.R_reads' HO344.1).2.2 5 p362 q362; obtain rfl : ad345 = ad362 := (by injection e362); (try simp only [show (5 : Int).toNat = 5 from rfl, Nat.reduceMul, Nat.reduceEqDiff, Go.Addr.add, ↓reduceIte] at hx362_0); have qi362 : (5 < t342.length) = True := eq_true (by omega); (try rw [show ((5 : Int)).toNat = 5 from rfl] at hx362_0); replace p362 := eq_true p362; replace q362 := eq_true q362) | (refine gl_ (some 57) Tryd.func45 #[.string (rdOf ByteArray.empty t342 5)] ?_; (with_reducible refine (impl_parsePair.calls k (rdOf ByteArray.empty t342 5) t363 t364 t365 _ A13.1 (TB_.below wB_)).mono ?_); rintro e w116 ⟨rfl, hb⟩; refine ⟨_, rfl, ?_⟩; replace HO344 := o_ (Kd.R_below (rd_ HO344.1) hb); replace HO352 := o_ (Kd.R_below (rd_ HO352.1) hb); replace HO361 := o_ (Kd.R_below (rd_ HO361.1) hb); replace BK341 := o_ (blk_below (bd_ BK341.1) hb); replace HB := o_ (below_step wB_ hb); (try clear hb); have p366 : 0 ≤ (1 : Int) := (by omega); have q366 : 1 < (t342.length : Int) := of_decide_eq_true as_; obtain ⟨ad366, e366, hx366_0⟩ := Kd.at_string (Kd.R_reads' HO344.1).2.2 1 p366 q366; obtain rfl : ad345 = ad366 := (by injection e366); (try simp only [show (1 : Int).toNat = 1 from rfl, Nat.reduceMul, Nat.reduceEqDiff, Go.Addr.add, ↓reduceIte] at hx366_0); have qi366 : (1 < t342.length) = True := eq_true (by omega); (try rw [show ((1 : Int)).toNat = 1 from rfl] at hx366_0); replace p366 := eq_true p366; replace q366 := eq_true q366) | (refine gl_ (some 65) Tryd.func23 #[.string (rdOf ByteArray.empty t342 1)] ?_; (with_reducible refine (impl_KindOf.calls k (rdOf ByteArray.empty t342 1) t367 _ A15.1).mono ?_); rintro e w117 ⟨rfl, hb⟩; refine ⟨_, rfl, ?_⟩; replace HO344 := o_ (Kd.R_below (rd_ HO344.1) hb); replace HO352 := o_ (Kd.R_below (rd_ HO352.1) hb); replace HO361 := o_ (Kd.R_below (rd_ HO361.1) hb); replace BK341 := o_ (blk_below (bd_ BK341.1) hb); replace HB := o_ (below_step wB_ hb); (try clear hb); obtain ⟨Ao118, co118, eo118⟩ := Kd.R_slice HO361.1; subst eo118; obtain ⟨Ao119, co119, eo119⟩ := Kd.R_slice HO352.1; subst eo119) | ((with_reducible refine gate_dst (N := 17) rfl ?_); refine bx_ 17 #[.int .i64 0, .int .i64 0, .slice none 0 0, .int .i64 0, .int .i64 0, .slice none 0 0, .int .i64 0, .int .i64 0] 28 ?_; intro gb368 hg w120 hbox hb; replace HO344 := o_ (Kd.R_below (rd_ HO344.1) hb); replace HO352 := o_ (Kd.R_below (rd_ HO352.1) hb); replace HO361 := o_ (Kd.R_below (rd_ HO361.1) hb); have BK368 := o_ (hbox); have GW368 := o_ ((y140_ : w.heap.size ≤ gb368)); replace HB := o_ (below_step wB_ hb); have GE368 := GW368; have NB341_368 := o_ ((y137_ : gb341 ≠ gb368)); have NB368_341 := o_ ((y138_ : gb368 ≠ gb341)); replace BK341 := o_ (blk_below (bd_ BK341.1) hb); clear hb hbox hg; have hnb121 := NB368_341.1; have hnc121 := NB341_368.1; obtain ⟨hcz122_0, hcz122_1, hcz122_2, hcz122_3, hcz122_4, hcz122_5, hcz122_6, hcz122_7⟩ := e118_ BK368.1; obtain ⟨hfz122_0, hfz122_1, hfz122_2, hfz122_3, hfz122_4, hfz122_5, hfz122_6, hfz122_7⟩ := z119_ BK368.1; obtain ⟨hcz123_0, hcz123_1, hcz123_2, hcz123_3, hcz123_4, hcz123_5, hcz123_6, hcz123_7⟩ := e118_ BK341.1; obtain ⟨hfz123_0, hfz123_1, hfz123_2, hfz123_3, hfz123_4, hfz123_5, hfz123_6, hfz123_7⟩ := z119_ BK341.1))
         refine bodyPost_ret (results_ct rfl _ _ gb341 28 #[.int .i64 0, .int .i64 0, .slice none 0 0, .int .i64 0, .int .i64 0, .slice none 0 0, .int .i64 0, .int .i64 0] (0, 0) _ rfl (bk_ BK341.1) Tryd.underlying28 rfl (by kernel_rfl)) rfl ?_
         exact ⟨_, _, by first | rfl | (simp [errW_none, errW_some] <;> rfl) | (simp [*, errW_none, errW_some] <;> rfl), by first | exact Kd.R_nil _ _ _ _ _ | exact Kd.N_nil _ _ _ _ _ | exact Kd.V_nil _ _ _ _ _ | exact Kd.Q_nil _ _ _ _ _ | exact Kd.S_nil _ _ _ _ _, by first | exact Kd.R_nil _ _ _ _ _ | exact Kd.N_nil _ _ _ _ _ | exact Kd.V_nil _ _ _ _ _ | exact Kd.Q_nil _ _ _ _ _ | exact Kd.S_nil _ _ _ _ _, wB_⟩
       ·
        rw [if_neg c14] at H
        exact absurd H (by simp)
      ·
       rw [if_neg c12] at H
       exact absurd H (by simp)
     ·
      rw [if_neg c10] at H
      exact absurd H (by simp)
    ·
     rw [if_neg c8] at H
     exact absurd H (by simp)
   ·
    rw [if_neg c6] at H
    exact absurd H (by simp)
  ·
   rw [if_neg c4] at H
   exact absurd H (by simp)
 ·
  rw [if_neg c3] at H
  have c3b0 := beq_eq_false_iff_ne.mpr c3
  have c3b1 := bne_iff_ne.mpr c3
  simp only [Option.some.injEq, Prod.mk.injEq] at H
  obtain ⟨rfl, rfl, rfl, rfl, rfl, rfl, rfl, rfl, rfl⟩ := H
  go_enter Tryd.func11, Tryd.ntmps11
  go_wp2_with (first | ((with_reducible refine gate_dst (N := 2) rfl ?_); refine bx_ 2 #[.int .i64 0, .int .i64 0, .slice none 0 0, .int .i64 0, .int .i64 0, .slice none 0 0, .int .i64 0, .int .i64 0] 28 ?_; intro gb341 hg w124 hbox hb; have BK341 := o_ (hbox); have GW341 := o_ ((y139_ : w.heap.size ≤ gb341)); replace HB := o_ (below_step (hd_ HB.1) hb); have GE341 := GW341; clear hb hbox hg) | (refine gl_ (some 19) Tryd.func43 #[.string a0, .string (⟨#[32]⟩ : ByteArray)] ?_; (with_reducible refine (strings_Split.calls a0 (⟨#[32]⟩ : ByteArray) t342 _ A2.1 (TB_.below wB_)).mono ?_); rintro e w125 ⟨v343, rfl, ho0, hb⟩; refine ⟨_, rfl, ?_⟩; have HO344 := o_ (Kd.R_lower ho0 (below_size wB_)); replace BK341 := o_ (blk_below (bd_ BK341.1) hb); replace HB := o_ (below_step wB_ hb); (try clear hb ho0); obtain ⟨Ao126, co126, eo126⟩ := Kd.R_slice HO344.1; subst eo126; obtain ⟨hcz127_0, hcz127_1, hcz127_2, hcz127_3, hcz127_4, hcz127_5, hcz127_6, hcz127_7⟩ := e118_ BK341.1; obtain ⟨hfz127_0, hfz127_1, hfz127_2, hfz127_3, hfz127_4, hfz127_5, hfz127_6, hfz127_7⟩ := z119_ BK341.1))
  refine bodyPost_ret (results_ct rfl _ _ gb341 28 #[.int .i64 0, .int .i64 0, .slice none 0 0, .int .i64 0, .int .i64 0, .slice none 0 0, .int .i64 0, .int .i64 0] (0, 0) _ rfl (bk_ BK341.1) Tryd.underlying28 rfl (by kernel_rfl)) rfl ?_
  exact ⟨_, _, by first | rfl | (simp [errW_none, errW_some] <;> rfl) | (simp [*, errW_none, errW_some] <;> rfl), by first | exact Kd.R_nil _ _ _ _ _ | exact Kd.N_nil _ _ _ _ _ | exact Kd.V_nil _ _ _ _ _ | exact Kd.Q_nil _ _ _ _ _ | exact Kd.S_nil _ _ _ _ _, by first | exact Kd.R_nil _ _ _ _ _ | exact Kd.N_nil _ _ _ _ _ | exact Kd.V_nil _ _ _ _ _ | exact Kd.Q_nil _ _ _ _ _ | exact Kd.S_nil _ _ _ _ _, wB_⟩

/-! ### slices_Equal_int_int: function 52 -/
def slices_Equal_int_int.l0 : Nat → List Int → List Int → Int → Int → Option (Bool)
  | 0, _, _, _, _ => none
  | k + 1, x0, x1, x12, x13 => if x13 < x12 then (if 0 ≤ x13 then (if x13 < (x0.length : Int) then (if x13 < (x1.length : Int) then (if (rd x0 x13) = (rd x1 x13) then (slices_Equal_int_int.l0 k x0 x1 x12 (wrap64 (x13 + 1))) else (some false)) else (none)) else (none)) else (none)) else (some true)
def slices_Equal_int_int.f (k : Nat) (l0 : List Int) (l1 : List Int) : Option (Bool) := if (l0.length : Int) = (l1.length : Int) then (slices_Equal_int_int.l0 k l0 l1 (l0.length : Int) 0) else (some false)
theorem slices_Equal_int_int.mono_l : ∀ k, (∀ y0 y1 y2 y3, LeO (slices_Equal_int_int.l0 k y0 y1 y2 y3) (slices_Equal_int_int.l0 (k + 1) y0 y1 y2 y3))
  | 0 => fun _ _ _ _ r h => by simp [slices_Equal_int_int.l0] at h
  | k + 1 => by
    have ih0 := slices_Equal_int_int.mono_l k
    · intro y0 y1 y2 y3
      unfold slices_Equal_int_int.l0
      exact mo_
theorem slices_Equal_int_int.mono : ∀ a0 a1 k, LeO (slices_Equal_int_int.f k a0 a1) (slices_Equal_int_int.f (k + 1) a0 a1) := by
  intro a0 a1 k
  have ih0 := slices_Equal_int_int.mono_l k
  unfold slices_Equal_int_int.f
  exact mo_
theorem y142_ {P : Prop} (h : P := by repeat (first | exact Drawn0.refl _ | apply Drawn0.step)) : P := h
set_option maxHeartbeats 8000000 in
set_option maxRecDepth 100000 in
theorem slices_Equal_int_int.calls (k : Nat) (A0 : Option Addr) (c0 : Nat) (l0 : List Int) (A1 : Option Addr) (c1 : Nat) (l1 : List Int) (r : Bool) (w : World) (hr0 : Kd.C (Kd.int .i64) w A0 l0.length l0) (hc0 : l0.length ≤ c0) (hr1 : Kd.C (Kd.int .i64) w A1 l1.length l1) (hc1 : l1.length ≤ c1) (h : slices_Equal_int_int.f k l0 l1 = some r) :
    Calls Tryd.prog 52 #[.slice A0 l0.length c0, .slice A1 l1.length c1] w fun e w' => e = .returned (.bool r) ∧ Drawn0 w w' := by
  have HR0 := o_ hr0
  have HC0 := o_ hc0
  clear hr0 hc0
  have HR1 := o_ hr1
  have HC1 := o_ hc1
  clear hr1 hc1
  have H : (if (l0.length : Int) = (l1.length : Int) then (slices_Equal_int_int.l0 k l0 l1 (l0.length : Int) 0) else (some false)) = some r := h
  clear h
  by_cases c3 : (l0.length : Int) = (l1.length : Int)
  · rw [if_pos c3] at H
    have c3b0 := beq_iff_eq.mpr c3
    have c3b1 := bne_eq_false_iff_eq.mpr c3
    have c3b2 : (l0.length == l1.length) = true := by first | simpa using c3 | (simp at c3 ⊢; omega)
    clear c3
    have H' := o_ H
    clear H
    go_enter Tryd.func52, Tryd.ntmps52
    go_wp2
    repeat (go_quiet (fail); try go_wp2)
    go_loopg [13] k (fun kq v13 w' => ∃ (x13_1 : Int), v13 = .int .i64 x13_1 ∧ Aside0 (slices_Equal_int_int.l0 kq l0 l1 (l0.length : Int) x13_1 = some r) ∧ Aside0 (kq ≤ k) ∧ Drawn0 w w')
    case atStart => exact ⟨(0), rs_, H', ⟨Nat.le_refl _⟩, y142_⟩
    case round =>
      clear H'
      try clear c1
      try clear p2
      try clear c3
      try clear c3b0
      try clear c3b1
      try clear c3b2
      obtain ⟨x13_1, rfl, HA, HK1, ⟨m1, rfl⟩⟩ := hrel
      cases gk with
      | zero => exact absurd HA.1 (by simp [slices_Equal_int_int.l0])
      | succ k1 =>
        have H := HA.1
        clear HA
        simp only [slices_Equal_int_int.l0] at H
        by_cases c4 : x13_1 < (l0.length : Int)
        · rw [if_pos c4] at H
          have c4b0 := decide_eq_true c4
          clear c4
          by_cases c5 : 0 ≤ x13_1
          · rw [if_pos c5] at H
            have c5b0 := decide_eq_true c5
            clear c5
            by_cases c6 : x13_1 < (l0.length : Int)
            · rw [if_pos c6] at H
              have c6b0 := decide_eq_true c6
              clear c6
              by_cases c7 : x13_1 < (l1.length : Int)
              · rw [if_pos c7] at H
                have c7b0 := decide_eq_true c7
                clear c7
                by_cases c8 : (rd l0 x13_1) = (rd l1 x13_1)
                · rw [if_pos c8] at H
                  have c8b0 := beq_iff_eq.mpr c8
                  have c8b1 := bne_eq_false_iff_eq.mpr c8
                  clear c8
                  have H' := o_ H
                  clear H
                  have p370 : 0 ≤ (x13_1 : Int) := of_decide_eq_true as_
                  have q370 : x13_1 < (l0.length : Int) := of_decide_eq_true as_
                  obtain ⟨ad370, e370, hx370_0⟩ := Kd.at_int HR0.1 x13_1 p370 q370
                  cases e370
                  replace p370 := eq_true p370
                  replace q370 := eq_true q370
                  have p371 : 0 ≤ (x13_1 : Int) := of_decide_eq_true as_
                  have q371 : x13_1 < (l1.length : Int) := of_decide_eq_true as_
                  obtain ⟨ad371, e371, hx371_0⟩ := Kd.at_int HR1.1 x13_1 p371 q371
                  cases e371
                  replace p371 := eq_true p371
                  replace q371 := eq_true q371
                  go_wp2
                  repeat (go_quiet (fail); try go_wp2)
                  go_roundg k1
                  case measure => have := HK1.1; omega
                  case rel => exact ⟨(wrap64 (x13_1 + 1)), rs_, H', ⟨by have := HK1.1; omega⟩, y142_⟩
                · rw [if_neg c8] at H
                  have c8b0 := beq_eq_false_iff_ne.mpr c8
                  have c8b1 := bne_iff_ne.mpr c8
                  obtain rfl := Option.some.inj H
                  have p370 : 0 ≤ (x13_1 : Int) := of_decide_eq_true as_
                  have q370 : x13_1 < (l0.length : Int) := of_decide_eq_true as_
                  obtain ⟨ad370, e370, hx370_0⟩ := Kd.at_int HR0.1 x13_1 p370 q370
                  cases e370
                  replace p370 := eq_true p370
                  replace q370 := eq_true q370
                  have p371 : 0 ≤ (x13_1 : Int) := of_decide_eq_true as_
                  have q371 : x13_1 < (l1.length : Int) := of_decide_eq_true as_
                  obtain ⟨ad371, e371, hx371_0⟩ := Kd.at_int HR1.1 x13_1 p371 q371
                  cases e371
                  replace p371 := eq_true p371
                  replace q371 := eq_true q371
                  go_wp2
                  repeat (go_quiet (fail); try go_wp2)
                  go_ret
                  exact ⟨rs_, y142_⟩
              · rw [if_neg c7] at H
                exact absurd H (by simp)
            · rw [if_neg c6] at H
              exact absurd H (by simp)
          · rw [if_neg c5] at H
            exact absurd H (by simp)
        · rw [if_neg c4] at H
          have c4b0 := decide_eq_false c4
          clear c4
          obtain rfl := Option.some.inj H
          go_wp2
          repeat (go_quiet (fail); try go_wp2)
          go_ret
          exact ⟨rs_, y142_⟩
  · rw [if_neg c3] at H
    have c3b0 := beq_eq_false_iff_ne.mpr c3
    have c3b1 := bne_iff_ne.mpr c3
    have c3b2 : (l0.length == l1.length) = false := by first | simpa using c3 | (simp at c3 ⊢; omega)
    obtain rfl := Option.some.inj H
    go_enter Tryd.func52, Tryd.ntmps52
    go_wp2
    repeat (go_quiet (fail); try go_wp2)
    go_ret
    exact ⟨rs_, y142_⟩

/-! ### impl_EqualReports: function 14 -/
def impl_EqualReports.f (k : Nat) (a0_0 : Int) (a0_1 : Int) (l0_2 : List Int) (a0_3 : Int) (a0_4 : Int) (l0_5 : List Int) (a0_6 : Int) (a0_7 : Int) (a1_0 : Int) (a1_1 : Int) (l1_2 : List Int) (a1_3 : Int) (a1_4 : Int) (l1_5 : List Int) (a1_6 : Int) (a1_7 : Int) : Option (Bool) := if a0_0 = a1_0 then (if a0_1 = a1_1 then (if a0_3 = a1_3 then (if a0_4 = a1_4 then (if (a0_6 == a1_6 && (a0_7 == a1_7)) = true then ((slices_Equal_int_int.f k l0_2 l1_2).bind fun t374 => (if t374 = true then ((slices_Equal_int_int.f k l0_5 l1_5).bind fun t375 => (some t375)) else (some false))) else (some false)) else (some false)) else (some false)) else (some false)) else (some false)
theorem impl_EqualReports.mono : ∀ a0 a1 a2 a3 a4 a5 a6 a7 a8 a9 a10 a11 a12 a13 a14 a15 k, LeO (impl_EqualReports.f k a0 a1 a2 a3 a4 a5 a6 a7 a8 a9 a10 a11 a12 a13 a14 a15) (impl_EqualReports.f (k + 1) a0 a1 a2 a3 a4 a5 a6 a7 a8 a9 a10 a11 a12 a13 a14 a15) := by
  intro a0 a1 a2 a3 a4 a5 a6 a7 a8 a9 a10 a11 a12 a13 a14 a15 k
  unfold impl_EqualReports.f
  have jh0 := @slices_Equal_int_int.mono
  exact mo_
abbrev c143_ (i0 : Int) (i1 : Int) (A2 : Option Addr) (n2 c2 : Nat) (i3 : Int) (i4 : Int) (A5 : Option Addr) (n5 c5 : Nat) (i6 : Int) (i7 : Int) : Obj := .cells #[.int .i64 i0, .int .i64 i1, .slice A2 n2 c2, .int .i64 i3, .int .i64 i4, .slice A5 n5 c5, .int .i64 i6, .int .i64 i7] 28 (0, 0)
theorem e144_ {w : World} {g : Nat} {t : TypeId} {i0 : Int} {i1 : Int} {A2 : Option Addr} {n2 c2 : Nat} {i3 : Int} {i4 : Int} {A5 : Option Addr} {n5 c5 : Nat} {i6 : Int} {i7 : Int} (h : w.heap[g]? = some (.cells #[.int .i64 i0, .int .i64 i1, .slice A2 n2 c2, .int .i64 i3, .int .i64 i4, .slice A5 n5 c5, .int .i64 i6, .int .i64 i7] t (0, 0))) : w.cell? ⟨g, 0, none⟩ = some (.int .i64 i0) ∧ w.cell? ⟨g, 1, none⟩ = some (.int .i64 i1) ∧ w.cell? ⟨g, 2, none⟩ = some (.slice A2 n2 c2) ∧ w.cell? ⟨g, 3, none⟩ = some (.int .i64 i3) ∧ w.cell? ⟨g, 4, none⟩ = some (.int .i64 i4) ∧ w.cell? ⟨g, 5, none⟩ = some (.slice A5 n5 c5) ∧ w.cell? ⟨g, 6, none⟩ = some (.int .i64 i6) ∧ w.cell? ⟨g, 7, none⟩ = some (.int .i64 i7) := ⟨(blk_cell h 0).trans rfl, (blk_cell h 1).trans rfl, (blk_cell h 2).trans rfl, (blk_cell h 3).trans rfl, (blk_cell h 4).trans rfl, (blk_cell h 5).trans rfl, (blk_cell h 6).trans rfl, (blk_cell h 7).trans rfl⟩
theorem z145_ {w : World} {g : Nat} {t : TypeId} {cs : Array Value} (h : w.heap[g]? = some (.cells cs t (0, 0))) : w.frozen? ⟨g, 0, none⟩ = false ∧ w.frozen? ⟨g, 1, none⟩ = false ∧ w.frozen? ⟨g, 2, none⟩ = false ∧ w.frozen? ⟨g, 3, none⟩ = false ∧ w.frozen? ⟨g, 4, none⟩ = false ∧ w.frozen? ⟨g, 5, none⟩ = false ∧ w.frozen? ⟨g, 6, none⟩ = false ∧ w.frozen? ⟨g, 7, none⟩ = false := ⟨blk_frozen h 0, blk_frozen h 1, blk_frozen h 2, blk_frozen h 3, blk_frozen h 4, blk_frozen h 5, blk_frozen h 6, blk_frozen h 7⟩
theorem y150_ {P : Prop} (h : P := by rw [hg]; exact Nat.ne_of_lt (blk_lt (bd_ BK372.1))) : P := h
theorem y151_ {P : Prop} (h : P := by rw [hg]; exact Nat.ne_of_gt (blk_lt (bd_ BK372.1))) : P := h
set_option maxHeartbeats 8000000 in
set_option maxRecDepth 100000 in
theorem impl_EqualReports.calls (k : Nat) (a0_0 : Int) (a0_1 : Int) (A0_2 : Option Addr) (c0_2 : Nat) (l0_2 : List Int) (a0_3 : Int) (a0_4 : Int) (A0_5 : Option Addr) (c0_5 : Nat) (l0_5 : List Int) (a0_6 : Int) (a0_7 : Int) (a1_0 : Int) (a1_1 : Int) (A1_2 : Option Addr) (c1_2 : Nat) (l1_2 : List Int) (a1_3 : Int) (a1_4 : Int) (A1_5 : Option Addr) (c1_5 : Nat) (l1_5 : List Int) (a1_6 : Int) (a1_7 : Int) (r : Bool) (w : World) (hr0_2 : Kd.C (Kd.int .i64) w A0_2 l0_2.length l0_2) (hc0_2 : l0_2.length ≤ c0_2) (hr0_5 : Kd.C (Kd.int .i64) w A0_5 l0_5.length l0_5) (hc0_5 : l0_5.length ≤ c0_5) (hr1_2 : Kd.C (Kd.int .i64) w A1_2 l1_2.length l1_2) (hc1_2 : l1_2.length ≤ c1_2) (hr1_5 : Kd.C (Kd.int .i64) w A1_5 l1_5.length l1_5) (hc1_5 : l1_5.length ≤ c1_5) (h : impl_EqualReports.f k a0_0 a0_1 l0_2 a0_3 a0_4 l0_5 a0_6 a0_7 a1_0 a1_1 l1_2 a1_3 a1_4 l1_5 a1_6 a1_7 = some r) :
    Calls Tryd.prog 14 #[.agg #[.int .i64 a0_0, .int .i64 a0_1, .slice A0_2 l0_2.length c0_2, .int .i64 a0_3, .int .i64 a0_4, .slice A0_5 l0_5.length c0_5, .int .i64 a0_6, .int .i64 a0_7], .agg #[.int .i64 a1_0, .int .i64 a1_1, .slice A1_2 l1_2.length c1_2, .int .i64 a1_3, .int .i64 a1_4, .slice A1_5 l1_5.length c1_5, .int .i64 a1_6, .int .i64 a1_7]] w fun e w' => e = .returned (.bool r) ∧ Below w.heap.size w w' := by
  have hu28 := Tryd.underlying28
  have hu26 := Tryd.underlying26
  have HR0_2 := o_ hr0_2
  have HC0_2 := o_ hc0_2
  clear hr0_2 hc0_2
  have HR0_5 := o_ hr0_5
  have HC0_5 := o_ hc0_5
  clear hr0_5 hc0_5
  have HR1_2 := o_ hr1_2
  have HC1_2 := o_ hc1_2
  clear hr1_2 hc1_2
  have HR1_5 := o_ hr1_5
  have HC1_5 := o_ hc1_5
  clear hr1_5 hc1_5
  have HB := o_ (Below.refl w.heap.size w)
  have H : (if a0_0 = a1_0 then (if a0_1 = a1_1 then (if a0_3 = a1_3 then (if a0_4 = a1_4 then (if (a0_6 == a1_6 && (a0_7 == a1_7)) = true then ((slices_Equal_int_int.f k l0_2 l1_2).bind fun t374 => (if t374 = true then ((slices_Equal_int_int.f k l0_5 l1_5).bind fun t375 => (some t375)) else (some false))) else (some false)) else (some false)) else (some false)) else (some false)) else (some false)) = some r := h
  clear h
  by_cases c3 : a0_0 = a1_0
  · rw [if_pos c3] at H
    have c3b0 := beq_iff_eq.mpr c3
    have c3b1 := bne_eq_false_iff_eq.mpr c3
    clear c3
    by_cases c4 : a0_1 = a1_1
    · rw [if_pos c4] at H
      have c4b0 := beq_iff_eq.mpr c4
      have c4b1 := bne_eq_false_iff_eq.mpr c4
      clear c4
      by_cases c5 : a0_3 = a1_3
      · rw [if_pos c5] at H
        have c5b0 := beq_iff_eq.mpr c5
        have c5b1 := bne_eq_false_iff_eq.mpr c5
        clear c5
        by_cases c6 : a0_4 = a1_4
        · rw [if_pos c6] at H
          have c6b0 := beq_iff_eq.mpr c6
          have c6b1 := bne_eq_false_iff_eq.mpr c6
          clear c6
          by_cases c7 : (a0_6 == a1_6 && (a0_7 == a1_7)) = true
          · rw [if_pos c7] at H
            have c7b0 : (a0_6 == a1_6 && (a0_7 == a1_7)) = true := c7
            (try (have c7b1 : decide (a0_6 = a1_6 && (a0_7 == a1_7)) = true := by simpa using c7))
            (try (have c7b2 : (a0_6 == a1_6 && (a0_7 == a1_7)) = true := by simpa using c7))
            clear c7
            replace H := Option.bind_eq_some_iff.mp H
            obtain ⟨t374, A80, H⟩ := H
            try dsimp only at H
            have A8 := o_ A80
            clear A80
            by_cases c9 : t374 = true
            · subst c9
              have H1 := H
              rw [if_pos rfl] at H1
              clear H
              have H := H1
              clear H1
              replace H := Option.bind_eq_some_iff.mp H
              obtain ⟨t375, A100, H⟩ := H
              try dsimp only at H
              have A10 := o_ A100
              clear A100
              obtain rfl := Option.some.inj H
              go_enter Tryd.func14, Tryd.ntmps14
              go_wp2_with (first | ((with_reducible refine gate_dst (N := 2) rfl ?_); refine bx_ 2 #[.int .i64 a0_0, .int .i64 a0_1, .slice A0_2 l0_2.length c0_2, .int .i64 a0_3, .int .i64 a0_4, .slice A0_5 l0_5.length c0_5, .int .i64 a0_6, .int .i64 a0_7] 28 ?_; intro gb372 hg w11 hbox hb; have BK372 := o_ (hbox); have GW372 := o_ ((y139_ : w.heap.size ≤ gb372)); replace HB := o_ (below_step (hd_ HB.1) hb); have GE372 := GW372; clear hb hbox hg) | ((with_reducible refine gate_dst (N := 3) rfl ?_); refine bx_ 3 #[.int .i64 a1_0, .int .i64 a1_1, .slice A1_2 l1_2.length c1_2, .int .i64 a1_3, .int .i64 a1_4, .slice A1_5 l1_5.length c1_5, .int .i64 a1_6, .int .i64 a1_7] 28 ?_; intro gb373 hg w12 hbox hb; have BK373 := o_ (hbox); have GW373 := o_ ((y140_ : w.heap.size ≤ gb373)); replace HB := o_ (below_step wB_ hb); have GE373 := GW373; have NB372_373 := o_ ((y150_ : gb372 ≠ gb373)); have NB373_372 := o_ ((y151_ : gb373 ≠ gb372)); replace BK372 := o_ (blk_below (bd_ BK372.1) hb); clear hb hbox hg; have hnb13 := NB372_373.1; have hnc13 := NB373_372.1; obtain ⟨hcz14_0, hcz14_1, hcz14_2, hcz14_3, hcz14_4, hcz14_5, hcz14_6, hcz14_7⟩ := e144_ BK372.1; obtain ⟨hfz14_0, hfz14_1, hfz14_2, hfz14_3, hfz14_4, hfz14_5, hfz14_6, hfz14_7⟩ := z145_ BK372.1; obtain ⟨hcz15_0, hcz15_1, hcz15_2, hcz15_3, hcz15_4, hcz15_5, hcz15_6, hcz15_7⟩ := e144_ BK373.1; obtain ⟨hfz15_0, hfz15_1, hfz15_2, hfz15_3, hfz15_4, hfz15_5, hfz15_6, hfz15_7⟩ := z145_ BK373.1) | (go_at_call 52; (with_reducible refine (slices_Equal_int_int.calls k _ _ l0_2 _ _ l1_2 true _ ?side1 ?side2 ?side3 ?side4 A8.1).mono ?_); (case side1 => exact cd_ (Kd.C_below HR0_2.1 HB.1)); (case side2 => exact HC0_2.1); (case side3 => exact cd_ (Kd.C_below HR1_2.1 HB.1)); (case side4 => exact HC1_2.1); rintro e w' ⟨rfl, ⟨nd, rfl⟩⟩) | (go_at_call 52; (with_reducible refine (slices_Equal_int_int.calls k _ _ l0_5 _ _ l1_5 t375 _ ?side1 ?side2 ?side3 ?side4 A10.1).mono ?_); (case side1 => repeat (first | exact (Kd.C_below HR0_5.1 (wB_)) | (with_reducible refine Kd.C_alloc ?_ _) | (with_reducible refine Kd.C_drewN ?_ _) | (with_reducible refine Kd.C_drew ?_))); (case side2 => exact HC0_5.1); (case side3 => repeat (first | exact (Kd.C_below HR1_5.1 (wB_)) | (with_reducible refine Kd.C_alloc ?_ _) | (with_reducible refine Kd.C_drewN ?_ _) | (with_reducible refine Kd.C_drew ?_))); (case side4 => exact HC1_5.1); rintro e w' ⟨rfl, ⟨nd, rfl⟩⟩))
              go_ret
              exact ⟨rt_, wB_⟩
            · replace c9 := Bool.eq_false_iff.mpr c9
              subst c9
              have H1 := H
              rw [if_neg nt_] at H1
              clear H
              have H := H1
              clear H1
              obtain rfl := Option.some.inj H
              go_enter Tryd.func14, Tryd.ntmps14
              go_wp2_with (first | ((with_reducible refine gate_dst (N := 2) rfl ?_); refine bx_ 2 #[.int .i64 a0_0, .int .i64 a0_1, .slice A0_2 l0_2.length c0_2, .int .i64 a0_3, .int .i64 a0_4, .slice A0_5 l0_5.length c0_5, .int .i64 a0_6, .int .i64 a0_7] 28 ?_; intro gb372 hg w16 hbox hb; have BK372 := o_ (hbox); have GW372 := o_ ((y139_ : w.heap.size ≤ gb372)); replace HB := o_ (below_step (hd_ HB.1) hb); have GE372 := GW372; clear hb hbox hg) | ((with_reducible refine gate_dst (N := 3) rfl ?_); refine bx_ 3 #[.int .i64 a1_0, .int .i64 a1_1, .slice A1_2 l1_2.length c1_2, .int .i64 a1_3, .int .i64 a1_4, .slice A1_5 l1_5.length c1_5, .int .i64 a1_6, .int .i64 a1_7] 28 ?_; intro gb373 hg w17 hbox hb; have BK373 := o_ (hbox); have GW373 := o_ ((y140_ : w.heap.size ≤ gb373)); replace HB := o_ (below_step wB_ hb); have GE373 := GW373; have NB372_373 := o_ ((y150_ : gb372 ≠ gb373)); have NB373_372 := o_ ((y151_ : gb373 ≠ gb372)); replace BK372 := o_ (blk_below (bd_ BK372.1) hb); clear hb hbox hg; have hnb18 := NB372_373.1; have hnc18 := NB373_372.1; obtain ⟨hcz19_0, hcz19_1, hcz19_2, hcz19_3, hcz19_4, hcz19_5, hcz19_6, hcz19_7⟩ := e144_ BK372.1; obtain ⟨hfz19_0, hfz19_1, hfz19_2, hfz19_3, hfz19_4, hfz19_5, hfz19_6, hfz19_7⟩ := z145_ BK372.1; obtain ⟨hcz20_0, hcz20_1, hcz20_2, hcz20_3, hcz20_4, hcz20_5, hcz20_6, hcz20_7⟩ := e144_ BK373.1; obtain ⟨hfz20_0, hfz20_1, hfz20_2, hfz20_3, hfz20_4, hfz20_5, hfz20_6, hfz20_7⟩ := z145_ BK373.1) | (go_at_call 52; (with_reducible refine (slices_Equal_int_int.calls k _ _ l0_2 _ _ l1_2 false _ ?side1 ?side2 ?side3 ?side4 A8.1).mono ?_); (case side1 => exact cd_ (Kd.C_below HR0_2.1 HB.1)); (case side2 => exact HC0_2.1); (case side3 => exact cd_ (Kd.C_below HR1_2.1 HB.1)); (case side4 => exact HC1_2.1); rintro e w' ⟨rfl, ⟨nd, rfl⟩⟩))
              go_ret
              exact ⟨rt_, wB_⟩
          · rw [if_neg c7] at H
            have c7b0 : (a0_6 == a1_6 && (a0_7 == a1_7)) = false := by simpa using c7
            (try (have c7b1 : decide (a0_6 = a1_6 && (a0_7 == a1_7)) = false := by simpa using c7))
            (try (have c7b2 : (a0_6 == a1_6 && (a0_7 == a1_7)) = false := by simpa using c7))
            (try (have c7b3 : ¬ (a0_6 = a1_6 && (a0_7 == a1_7)) := by simpa using c7))
            clear c7
            obtain rfl := Option.some.inj H
            go_enter Tryd.func14, Tryd.ntmps14
            go_wp2_with (first | ((with_reducible refine gate_dst (N := 2) rfl ?_); refine bx_ 2 #[.int .i64 a0_0, .int .i64 a0_1, .slice A0_2 l0_2.length c0_2, .int .i64 a0_3, .int .i64 a0_4, .slice A0_5 l0_5.length c0_5, .int .i64 a0_6, .int .i64 a0_7] 28 ?_; intro gb372 hg w21 hbox hb; have BK372 := o_ (hbox); have GW372 := o_ ((y139_ : w.heap.size ≤ gb372)); replace HB := o_ (below_step (hd_ HB.1) hb); have GE372 := GW372; clear hb hbox hg) | ((with_reducible refine gate_dst (N := 3) rfl ?_); refine bx_ 3 #[.int .i64 a1_0, .int .i64 a1_1, .slice A1_2 l1_2.length c1_2, .int .i64 a1_3, .int .i64 a1_4, .slice A1_5 l1_5.length c1_5, .int .i64 a1_6, .int .i64 a1_7] 28 ?_; intro gb373 hg w22 hbox hb; have BK373 := o_ (hbox); have GW373 := o_ ((y140_ : w.heap.size ≤ gb373)); replace HB := o_ (below_step wB_ hb); have GE373 := GW373; have NB372_373 := o_ ((y150_ : gb372 ≠ gb373)); have NB373_372 := o_ ((y151_ : gb373 ≠ gb372)); replace BK372 := o_ (blk_below (bd_ BK372.1) hb); clear hb hbox hg; have hnb23 := NB372_373.1; have hnc23 := NB373_372.1; obtain ⟨hcz24_0, hcz24_1, hcz24_2, hcz24_3, hcz24_4, hcz24_5, hcz24_6, hcz24_7⟩ := e144_ BK372.1; obtain ⟨hfz24_0, hfz24_1, hfz24_2, hfz24_3, hfz24_4, hfz24_5, hfz24_6, hfz24_7⟩ := z145_ BK372.1; obtain ⟨hcz25_0, hcz25_1, hcz25_2, hcz25_3, hcz25_4, hcz25_5, hcz25_6, hcz25_7⟩ := e144_ BK373.1; obtain ⟨hfz25_0, hfz25_1, hfz25_2, hfz25_3, hfz25_4, hfz25_5, hfz25_6, hfz25_7⟩ := z145_ BK373.1))
            go_ret
            exact ⟨rt_, wB_⟩
        · rw [if_neg c6] at H
          have c6b0 := beq_eq_false_iff_ne.mpr c6
          have c6b1 := bne_iff_ne.mpr c6
          obtain rfl := Option.some.inj H
          go_enter Tryd.func14, Tryd.ntmps14
          go_wp2_with (first | ((with_reducible refine gate_dst (N := 2) rfl ?_); refine bx_ 2 #[.int .i64 a0_0, .int .i64 a0_1, .slice A0_2 l0_2.length c0_2, .int .i64 a0_3, .int .i64 a0_4, .slice A0_5 l0_5.length c0_5, .int .i64 a0_6, .int .i64 a0_7] 28 ?_; intro gb372 hg w26 hbox hb; have BK372 := o_ (hbox); have GW372 := o_ ((y139_ : w.heap.size ≤ gb372)); replace HB := o_ (below_step (hd_ HB.1) hb); have GE372 := GW372; clear hb hbox hg) | ((with_reducible refine gate_dst (N := 3) rfl ?_); refine bx_ 3 #[.int .i64 a1_0, .int .i64 a1_1, .slice A1_2 l1_2.length c1_2, .int .i64 a1_3, .int .i64 a1_4, .slice A1_5 l1_5.length c1_5, .int .i64 a1_6, .int .i64 a1_7] 28 ?_; intro gb373 hg w27 hbox hb; have BK373 := o_ (hbox); have GW373 := o_ ((y140_ : w.heap.size ≤ gb373)); replace HB := o_ (below_step wB_ hb); have GE373 := GW373; have NB372_373 := o_ ((y150_ : gb372 ≠ gb373)); have NB373_372 := o_ ((y151_ : gb373 ≠ gb372)); replace BK372 := o_ (blk_below (bd_ BK372.1) hb); clear hb hbox hg; have hnb28 := NB372_373.1; have hnc28 := NB373_372.1; obtain ⟨hcz29_0, hcz29_1, hcz29_2, hcz29_3, hcz29_4, hcz29_5, hcz29_6, hcz29_7⟩ := e144_ BK372.1; obtain ⟨hfz29_0, hfz29_1, hfz29_2, hfz29_3, hfz29_4, hfz29_5, hfz29_6, hfz29_7⟩ := z145_ BK372.1; obtain ⟨hcz30_0, hcz30_1, hcz30_2, hcz30_3, hcz30_4, hcz30_5, hcz30_6, hcz30_7⟩ := e144_ BK373.1; obtain ⟨hfz30_0, hfz30_1, hfz30_2, hfz30_3, hfz30_4, hfz30_5, hfz30_6, hfz30_7⟩ := z145_ BK373.1))
          go_ret
          exact ⟨rt_, wB_⟩
      · rw [if_neg c5] at H
        have c5b0 := beq_eq_false_iff_ne.mpr c5
        have c5b1 := bne_iff_ne.mpr c5
        obtain rfl := Option.some.inj H
        go_enter Tryd.func14, Tryd.ntmps14
        go_wp2_with (first | ((with_reducible refine gate_dst (N := 2) rfl ?_); refine bx_ 2 #[.int .i64 a0_0, .int .i64 a0_1, .slice A0_2 l0_2.length c0_2, .int .i64 a0_3, .int .i64 a0_4, .slice A0_5 l0_5.length c0_5, .int .i64 a0_6, .int .i64 a0_7] 28 ?_; intro gb372 hg w31 hbox hb; have BK372 := o_ (hbox); have GW372 := o_ ((y139_ : w.heap.size ≤ gb372)); replace HB := o_ (below_step (hd_ HB.1) hb); have GE372 := GW372; clear hb hbox hg) | ((with_reducible refine gate_dst (N := 3) rfl ?_); refine bx_ 3 #[.int .i64 a1_0, .int .i64 a1_1, .slice A1_2 l1_2.length c1_2, .int .i64 a1_3, .int .i64 a1_4, .slice A1_5 l1_5.length c1_5, .int .i64 a1_6, .int .i64 a1_7] 28 ?_; intro gb373 hg w32 hbox hb; have BK373 := o_ (hbox); have GW373 := o_ ((y140_ : w.heap.size ≤ gb373)); replace HB := o_ (below_step wB_ hb); have GE373 := GW373; have NB372_373 := o_ ((y150_ : gb372 ≠ gb373)); have NB373_372 := o_ ((y151_ : gb373 ≠ gb372)); replace BK372 := o_ (blk_below (bd_ BK372.1) hb); clear hb hbox hg; have hnb33 := NB372_373.1; have hnc33 := NB373_372.1; obtain ⟨hcz34_0, hcz34_1, hcz34_2, hcz34_3, hcz34_4, hcz34_5, hcz34_6, hcz34_7⟩ := e144_ BK372.1; obtain ⟨hfz34_0, hfz34_1, hfz34_2, hfz34_3, hfz34_4, hfz34_5, hfz34_6, hfz34_7⟩ := z145_ BK372.1; obtain ⟨hcz35_0, hcz35_1, hcz35_2, hcz35_3, hcz35_4, hcz35_5, hcz35_6, hcz35_7⟩ := e144_ BK373.1; obtain ⟨hfz35_0, hfz35_1, hfz35_2, hfz35_3, hfz35_4, hfz35_5, hfz35_6, hfz35_7⟩ := z145_ BK373.1))
        go_ret
        exact ⟨rt_, wB_⟩
    · rw [if_neg c4] at H
      have c4b0 := beq_eq_false_iff_ne.mpr c4
      have c4b1 := bne_iff_ne.mpr c4
      obtain rfl := Option.some.inj H
      go_enter Tryd.func14, Tryd.ntmps14
      go_wp2_with (first | ((with_reducible refine gate_dst (N := 2) rfl ?_); refine bx_ 2 #[.int .i64 a0_0, .int .i64 a0_1, .slice A0_2 l0_2.length c0_2, .int .i64 a0_3, .int .i64 a0_4, .slice A0_5 l0_5.length c0_5, .int .i64 a0_6, .int .i64 a0_7] 28 ?_; intro gb372 hg w36 hbox hb; have BK372 := o_ (hbox); have GW372 := o_ ((y139_ : w.heap.size ≤ gb372)); replace HB := o_ (below_step (hd_ HB.1) hb); have GE372 := GW372; clear hb hbox hg) | ((with_reducible refine gate_dst (N := 3) rfl ?_); refine bx_ 3 #[.int .i64 a1_0, .int .i64 a1_1, .slice A1_2 l1_2.length c1_2, .int .i64 a1_3, .int .i64 a1_4, .slice A1_5 l1_5.length c1_5, .int .i64 a1_6, .int .i64 a1_7] 28 ?_; intro gb373 hg w37 hbox hb; have BK373 := o_ (hbox); have GW373 := o_ ((y140_ : w.heap.size ≤ gb373)); replace HB := o_ (below_step wB_ hb); have GE373 := GW373; have NB372_373 := o_ ((y150_ : gb372 ≠ gb373)); have NB373_372 := o_ ((y151_ : gb373 ≠ gb372)); replace BK372 := o_ (blk_below (bd_ BK372.1) hb); clear hb hbox hg; have hnb38 := NB372_373.1; have hnc38 := NB373_372.1; obtain ⟨hcz39_0, hcz39_1, hcz39_2, hcz39_3, hcz39_4, hcz39_5, hcz39_6, hcz39_7⟩ := e144_ BK372.1; obtain ⟨hfz39_0, hfz39_1, hfz39_2, hfz39_3, hfz39_4, hfz39_5, hfz39_6, hfz39_7⟩ := z145_ BK372.1; obtain ⟨hcz40_0, hcz40_1, hcz40_2, hcz40_3, hcz40_4, hcz40_5, hcz40_6, hcz40_7⟩ := e144_ BK373.1; obtain ⟨hfz40_0, hfz40_1, hfz40_2, hfz40_3, hfz40_4, hfz40_5, hfz40_6, hfz40_7⟩ := z145_ BK373.1))
      go_ret
      exact ⟨rt_, wB_⟩
  · rw [if_neg c3] at H
    have c3b0 := beq_eq_false_iff_ne.mpr c3
    have c3b1 := bne_iff_ne.mpr c3
    obtain rfl := Option.some.inj H
    go_enter Tryd.func14, Tryd.ntmps14
    go_wp2_with (first | ((with_reducible refine gate_dst (N := 2) rfl ?_); refine bx_ 2 #[.int .i64 a0_0, .int .i64 a0_1, .slice A0_2 l0_2.length c0_2, .int .i64 a0_3, .int .i64 a0_4, .slice A0_5 l0_5.length c0_5, .int .i64 a0_6, .int .i64 a0_7] 28 ?_; intro gb372 hg w41 hbox hb; have BK372 := o_ (hbox); have GW372 := o_ ((y139_ : w.heap.size ≤ gb372)); replace HB := o_ (below_step (hd_ HB.1) hb); have GE372 := GW372; clear hb hbox hg) | ((with_reducible refine gate_dst (N := 3) rfl ?_); refine bx_ 3 #[.int .i64 a1_0, .int .i64 a1_1, .slice A1_2 l1_2.length c1_2, .int .i64 a1_3, .int .i64 a1_4, .slice A1_5 l1_5.length c1_5, .int .i64 a1_6, .int .i64 a1_7] 28 ?_; intro gb373 hg w42 hbox hb; have BK373 := o_ (hbox); have GW373 := o_ ((y140_ : w.heap.size ≤ gb373)); replace HB := o_ (below_step wB_ hb); have GE373 := GW373; have NB372_373 := o_ ((y150_ : gb372 ≠ gb373)); have NB373_372 := o_ ((y151_ : gb373 ≠ gb372)); replace BK372 := o_ (blk_below (bd_ BK372.1) hb); clear hb hbox hg; have hnb43 := NB372_373.1; have hnc43 := NB373_372.1; obtain ⟨hcz44_0, hcz44_1, hcz44_2, hcz44_3, hcz44_4, hcz44_5, hcz44_6, hcz44_7⟩ := e144_ BK372.1; obtain ⟨hfz44_0, hfz44_1, hfz44_2, hfz44_3, hfz44_4, hfz44_5, hfz44_6, hfz44_7⟩ := z145_ BK372.1; obtain ⟨hcz45_0, hcz45_1, hcz45_2, hcz45_3, hcz45_4, hcz45_5, hcz45_6, hcz45_7⟩ := e144_ BK373.1; obtain ⟨hfz45_0, hfz45_1, hfz45_2, hfz45_3, hfz45_4, hfz45_5, hfz45_6, hfz45_7⟩ := z145_ BK373.1))
    go_ret
    exact ⟨rt_, wB_⟩

/-! ### spec_FormatInt: function 64 -/
def spec_FormatInt.l0 : Nat → Int → ByteArray → Int → Option (ByteArray)
  | 0, _, _, _ => none
  | k + 1, x0, x3, x4 => if x4 = 0 then (if x0 < 0 then (if 1 + x3.size ≤ 9223372036854775807 then (some ((⟨#[45]⟩ : ByteArray) ++ x3)) else (none)) else (some x3)) else (if (Int.tmod x4 10) < 0 then ((some (([(wrap64 (48 + (wrap64 (-(Int.tmod x4 10))))) % 256] : List Int) : List Int)).bind fun y376 => (if (strOfNums y376).size + x3.size ≤ 9223372036854775807 then (spec_FormatInt.l0 k x0 ((strOfNums y376) ++ x3) (wrap64 (Int.tdiv x4 10))) else (none))) else ((some (([(wrap64 (48 + (Int.tmod x4 10))) % 256] : List Int) : List Int)).bind fun y379 => (if (strOfNums y379).size + x3.size ≤ 9223372036854775807 then (spec_FormatInt.l0 k x0 ((strOfNums y379) ++ x3) (wrap64 (Int.tdiv x4 10))) else (none))))
def spec_FormatInt.f (k : Nat) (a0 : Int) : Option (ByteArray) := if a0 = 0 then (some (⟨#[48]⟩ : ByteArray)) else (spec_FormatInt.l0 k a0 (⟨#[]⟩ : ByteArray) a0)
theorem spec_FormatInt.mono_l : ∀ k, (∀ y0 y1 y2, LeO (spec_FormatInt.l0 k y0 y1 y2) (spec_FormatInt.l0 (k + 1) y0 y1 y2))
  | 0 => fun _ _ _ r h => by simp [spec_FormatInt.l0] at h
  | k + 1 => by
    have ih0 := spec_FormatInt.mono_l k
    · intro y0 y1 y2
      unfold spec_FormatInt.l0
      exact mo_
theorem spec_FormatInt.mono : ∀ a0 k, LeO (spec_FormatInt.f k a0) (spec_FormatInt.f (k + 1) a0) := by
  intro a0 k
  have ih0 := spec_FormatInt.mono_l k
  unfold spec_FormatInt.f
  exact mo_
theorem y155_ {P : Prop} (h : P := by first | rfl | (simp; done) | (simp [*]; done)) : P := h
set_option maxHeartbeats 8000000 in
set_option maxRecDepth 100000 in
theorem spec_FormatInt.calls (k : Nat) (a0 : Int) (r : ByteArray) (w : World) (h : spec_FormatInt.f k a0 = some r) :
    Calls Tryd.prog 64 #[.int .i64 a0] w fun e w' => e = .returned (.string r) ∧ Below w.heap.size w w' := by
  have HB := o_ (Below.refl w.heap.size w)
  have H : (if a0 = 0 then (some (⟨#[48]⟩ : ByteArray)) else (spec_FormatInt.l0 k a0 (⟨#[]⟩ : ByteArray) a0)) = some r := h
  clear h
  by_cases c2 : a0 = 0
  · rw [if_pos c2] at H
    have c2b0 := beq_iff_eq.mpr c2
    have c2b1 := bne_eq_false_iff_eq.mpr c2
    clear c2
    obtain rfl := Option.some.inj H
    go_enter Tryd.func64, Tryd.ntmps64
    go_wp2
    go_ret
    exact ⟨rt_, hd_ HB.1⟩
  · rw [if_neg c2] at H
    have c2b0 := beq_eq_false_iff_ne.mpr c2
    have c2b1 := bne_iff_ne.mpr c2
    have H' := o_ H
    clear H
    go_enter Tryd.func64, Tryd.ntmps64
    go_wp2
    go_loopg [3, 4] k (fun kq v3 v4 w' => ∃ (x3_1 : ByteArray) (x4_1 : Int), v3 = .string x3_1 ∧ v4 = .int .i64 x4_1 ∧ Aside0 (spec_FormatInt.l0 kq a0 x3_1 x4_1 = some r) ∧ Aside0 (kq ≤ k) ∧ Aside0 (Below w.heap.size w w'))
    case atStart => exact ⟨((⟨#[]⟩ : ByteArray)), (a0), y155_, y155_, H', ⟨Nat.le_refl _⟩, ⟨hd_ HB.1⟩⟩
    case round =>
      clear H'
      try clear c2
      try clear c2b0
      try clear c2b1
      try clear p2
      obtain ⟨x3_1, x4_1, rfl, rfl, HA, HK1, HB⟩ := hrel
      cases gk with
      | zero => exact absurd HA.1 (by simp [spec_FormatInt.l0])
      | succ k1 =>
        have H := HA.1
        clear HA
        simp only [spec_FormatInt.l0] at H
        by_cases c3 : x4_1 = 0
        · rw [if_pos c3] at H
          have c3b0 := beq_iff_eq.mpr c3
          have c3b1 := bne_eq_false_iff_eq.mpr c3
          clear c3
          by_cases c4 : a0 < 0
          · rw [if_pos c4] at H
            have c4b0 := decide_eq_true c4
            clear c4
            by_cases c5 : 1 + x3_1.size ≤ 9223372036854775807
            · rw [if_pos c5] at H
              have c5b0 := eq_true c5
              have c5b1 := decide_eq_true c5
              try have c5b2 : (9223372036854775807 < 1 + x3_1.size) = False := eq_false (Nat.not_lt.2 c5)
              obtain rfl := Option.some.inj H
              go_wp2
              go_ret
              exact ⟨rt_, hd_ HB.1⟩
            · rw [if_neg c5] at H
              exact absurd H (by simp)
          · rw [if_neg c4] at H
            have c4b0 := decide_eq_false c4
            clear c4
            obtain rfl := Option.some.inj H
            go_wp2
            go_ret
            exact ⟨rt_, hd_ HB.1⟩
        · rw [if_neg c3] at H
          have c3b0 := beq_eq_false_iff_ne.mpr c3
          have c3b1 := bne_iff_ne.mpr c3
          by_cases c6 : (Int.tmod x4_1 10) < 0
          · rw [if_pos c6] at H
            have c6b0 := decide_eq_true c6
            clear c6
            obtain ⟨y376, hy376⟩ : ∃ y_ : List Int, y_ = (([(wrap64 (48 + (wrap64 (-(Int.tmod x4_1 10))))) % 256] : List Int)) := ⟨_, rfl⟩
            replace H : (if (strOfNums y376).size + x3_1.size ≤ 9223372036854775807 then (spec_FormatInt.l0 k1 a0 ((strOfNums y376) ++ x3_1) (wrap64 (Int.tdiv x4_1 10))) else (none)) = some r := by first | (rw [hy376]; with_reducible exact H) | (have H2_ := (Option.bind_some _ _).symm.trans H; rw [hy376]; with_reducible exact H2_) | (have H2_ := (Option.bind_some _ _).symm.trans H; with_reducible exact H2_) | with_reducible exact H | (rw [hy376]; exact H) | exact H
            have Ny376 := o_ hy376
            clear hy376
            by_cases c7 : (strOfNums y376).size + x3_1.size ≤ 9223372036854775807
            · rw [if_pos c7] at H
              have c7b0 := eq_true c7
              have c7b1 := decide_eq_true c7
              try have c7b2 : (9223372036854775807 < (strOfNums y376).size + x3_1.size) = False := eq_false (Nat.not_lt.2 c7)
              have H' := o_ H
              clear H
              go_wp2_with (first | ((with_reducible refine gate_dst (N := 22) rfl ?_); refine Kd.R_lit (Kd.int .u8) _ 5 ?hg (N := 22) ?hd (xs := ([(wrap64 (48 + (wrap64 (-(Int.tmod x4_1 10))))) % 256] : List Int)) (inner := [.int .u8 ((wrap64 (48 + (wrap64 (-(Int.tmod x4_1 10))))) % 256)]) (ok := fun _ => True) (okp := fun _ => True) ?hr ?hp (fun _ hk => hk) trivial (Below.refl _ _) (Nat.le_refl _) (by simp) ?_; (case hd => rfl); (case hg => rfl); (case hr => first | (go_simp; done) | (go_simp; rfl)); (case hp => exact (Reps.one (show Kd.M (Kd.int .u8) _ _ _ ((wrap64 (48 + (wrap64 (-(Int.tmod x4_1 10))))) % 256) [.int .u8 ((wrap64 (48 + (wrap64 (-(Int.tmod x4_1 10))))) % 256)] from rfl) (Reps.none _ _))); intro v377 w8 ho9 hb hg_ hnew_; clear hg_ hnew_; (first | rw [← Ny376.1] at ho9 | (simp only [Int.reduceToNat] at ho9; rw [← Ny376.1] at ho9)); have HO378 := o_ (Kd.R_lower ho9 (below_size (hd_ HB.1))); replace HB := o_ (below_step (hd_ HB.1) hb); clear hb ho9; have hcv10 := own_string (P := Tryd.prog) Tryd.underlying22 Tryd.underlying5 Tryd.underlying9 (Kd.own_of_R HO378.1)))
              go_roundg k1
              case measure => have := HK1.1; omega
              case rel => exact ⟨((strOfNums y376) ++ x3_1), (wrap64 (Int.tdiv x4_1 10)), y155_, y155_, H', ⟨by have := HK1.1; omega⟩, ⟨hd_ HB.1⟩⟩
            · rw [if_neg c7] at H
              exact absurd H (by simp)
          · rw [if_neg c6] at H
            have c6b0 := decide_eq_false c6
            clear c6
            obtain ⟨y379, hy379⟩ : ∃ y_ : List Int, y_ = (([(wrap64 (48 + (Int.tmod x4_1 10))) % 256] : List Int)) := ⟨_, rfl⟩
            replace H : (if (strOfNums y379).size + x3_1.size ≤ 9223372036854775807 then (spec_FormatInt.l0 k1 a0 ((strOfNums y379) ++ x3_1) (wrap64 (Int.tdiv x4_1 10))) else (none)) = some r := by first | (rw [hy379]; with_reducible exact H) | (have H2_ := (Option.bind_some _ _).symm.trans H; rw [hy379]; with_reducible exact H2_) | (have H2_ := (Option.bind_some _ _).symm.trans H; with_reducible exact H2_) | with_reducible exact H | (rw [hy379]; exact H) | exact H
            have Ny379 := o_ hy379
            clear hy379
            by_cases c11 : (strOfNums y379).size + x3_1.size ≤ 9223372036854775807
            · rw [if_pos c11] at H
              have c11b0 := eq_true c11
              have c11b1 := decide_eq_true c11
              try have c11b2 : (9223372036854775807 < (strOfNums y379).size + x3_1.size) = False := eq_false (Nat.not_lt.2 c11)
              have H' := o_ H
              clear H
              go_wp2_with (first | ((with_reducible refine gate_dst (N := 22) rfl ?_); refine Kd.R_lit (Kd.int .u8) _ 5 ?hg (N := 22) ?hd (xs := ([(wrap64 (48 + (Int.tmod x4_1 10))) % 256] : List Int)) (inner := [.int .u8 ((wrap64 (48 + (Int.tmod x4_1 10))) % 256)]) (ok := fun _ => True) (okp := fun _ => True) ?hr ?hp (fun _ hk => hk) trivial (Below.refl _ _) (Nat.le_refl _) (by simp) ?_; (case hd => rfl); (case hg => rfl); (case hr => first | (go_simp; done) | (go_simp; rfl)); (case hp => exact (Reps.one (show Kd.M (Kd.int .u8) _ _ _ ((wrap64 (48 + (Int.tmod x4_1 10))) % 256) [.int .u8 ((wrap64 (48 + (Int.tmod x4_1 10))) % 256)] from rfl) (Reps.none _ _))); intro v380 w12 ho13 hb hg_ hnew_; clear hg_ hnew_; (first | rw [← Ny379.1] at ho13 | (simp only [Int.reduceToNat] at ho13; rw [← Ny379.1] at ho13)); have HO381 := o_ (Kd.R_lower ho13 (below_size (hd_ HB.1))); replace HB := o_ (below_step (hd_ HB.1) hb); clear hb ho13; have hcv14 := own_string (P := Tryd.prog) Tryd.underlying22 Tryd.underlying5 Tryd.underlying9 (Kd.own_of_R HO381.1)))
              go_roundg k1
              case measure => have := HK1.1; omega
              case rel => exact ⟨((strOfNums y379) ++ x3_1), (wrap64 (Int.tdiv x4_1 10)), y155_, y155_, H', ⟨by have := HK1.1; omega⟩, ⟨hd_ HB.1⟩⟩
            · rw [if_neg c11] at H
              exact absurd H (by simp)

end Go.Proofs.YtihnanfekchlhaaDoor.PFnForms
