-- Written for this claim by a program (a printer turned to this claim); Lean checks it.
import Derived.Test.YtglpmjcknhcjcaaPFnTwinsx0
import Derived.Test.YtglpmjcknhcjcaaPFnTwinsx6
import Derived.Test.YtglpmjcknhcjcaaPFnTwinsx7
namespace Go.Proofs.Ytglpmjcknhcjcaa.PFnTwins
open Go.RowKit Go.Proofs.YtglpmjcknhcjcaaW.PrintWords Go.Proofs.YtglpmjcknhcjcaaW.PrintLast Go.Proofs.YtglpmjcknhcjcaaW.PrintMore
attribute [local go_sem] max2_int min2_int max_two min_two max_three min_three max_four min_four   -- for this text's walks alone
set_option linter.unusedVariables false
set_option linter.unusedSimpArgs false

/-! ### spec_AreTwins: function 41 -/
def spec_AreTwins.f (a0_0 : Int) (a0_1 : Int) (a0_2 : Int) (a0_3 : Int) (a0_4 : Int) (a0_5 : Int) (a0_6 : Int) (a0_7 : Int) (a1_0 : Int) (a1_1 : Int) (a1_2 : Int) (a1_3 : Int) (a1_4 : Int) (a1_5 : Int) (a1_6 : Int) (a1_7 : Int) : Option (Bool) := (spec_IsFind.f a0_0 a0_1 a0_2 a0_3 a0_4 a0_5 a0_6 a0_7).bind fun t202 => (if t202 = true then ((spec_IsFind.f a1_0 a1_1 a1_2 a1_3 a1_4 a1_5 a1_6 a1_7).bind fun t203 => (if t203 = true then (if a0_0 = a1_0 then (some false) else (if a0_1 = a1_1 then (if a0_2 = a1_2 then (if a0_3 = a1_3 then (if a0_5 = a1_5 then ((spec_l1In.f (wrap64 (a0_6 - a1_6)) (-24) 24).bind fun t204 => (some t204)) else (some false)) else (some false)) else (some false)) else (some false))) else (some false))) else (some false))
set_option maxHeartbeats 8000000 in
set_option maxRecDepth 100000 in
theorem spec_AreTwins.calls (a0_0 : Int) (a0_1 : Int) (a0_2 : Int) (a0_3 : Int) (a0_4 : Int) (a0_5 : Int) (a0_6 : Int) (a0_7 : Int) (a1_0 : Int) (a1_1 : Int) (a1_2 : Int) (a1_3 : Int) (a1_4 : Int) (a1_5 : Int) (a1_6 : Int) (a1_7 : Int) (r : Bool) (w : World) (h : spec_AreTwins.f a0_0 a0_1 a0_2 a0_3 a0_4 a0_5 a0_6 a0_7 a1_0 a1_1 a1_2 a1_3 a1_4 a1_5 a1_6 a1_7 = some r) :
  Calls Try.prog 41 #[.agg #[.int .i64 a0_0, .int .i64 a0_1, .int .i64 a0_2, .int .i64 a0_3, .int .i64 a0_4, .int .i64 a0_5, .int .i64 a0_6, .int .i64 a0_7], .agg #[.int .i64 a1_0, .int .i64 a1_1, .int .i64 a1_2, .int .i64 a1_3, .int .i64 a1_4, .int .i64 a1_5, .int .i64 a1_6, .int .i64 a1_7]] w fun e w' => e = .returned (.bool r) ∧ Below w.heap.size w w' := by
 have hu58 := Try.underlying58
 have HB := o_ (Below.refl w.heap.size w)
 have H := h
 unfold spec_AreTwins.f at H
 clear h
 obtain ⟨t202, A3, H⟩ := ob_ H
 try dsimp only at H
 have HH_ := o_ H
 clear H
 go_enter Try.func41, Try.ntmps41
 go_upto_region 1 with (first | ((with_reducible refine gate_dst (N := 2) rfl ?_); refine bx_ 2 #[.int .i64 a0_0, .int .i64 a0_1, .int .i64 a0_2, .int .i64 a0_3, .int .i64 a0_4, .int .i64 a0_5, .int .i64 a0_6, .int .i64 a0_7] 58 ?_; intro gb200 hg w8 hbox hb; have BK200 := o_ (hbox); have GW200 := o_ ((y6_ : w.heap.size ≤ gb200)); replace HB := o_ (below_step (hd_ HB.1) hb); have GE200 := GW200; clear hb hbox hg) | ((with_reducible refine gate_dst (N := 3) rfl ?_); refine bx_ 3 #[.int .i64 a1_0, .int .i64 a1_1, .int .i64 a1_2, .int .i64 a1_3, .int .i64 a1_4, .int .i64 a1_5, .int .i64 a1_6, .int .i64 a1_7] 58 ?_; intro gb201 hg w9 hbox hb; have BK201 := o_ (hbox); have GW201 := o_ ((y73e_ : w.heap.size ≤ gb201)); replace HB := o_ (below_step wb_ hb); have GE201 := GW201; have NB200_201 := o_ ((y147_ : gb200 ≠ gb201)); have NB201_200 := o_ ((y148_ : gb201 ≠ gb200)); replace BK200 := o_ (blk_below (bd_ BK200.1) hb); clear hb hbox hg; have hnb10 := NB200_201.1; have hnc10 := NB201_200.1; obtain ⟨_, _, _, _, _, _, _, _⟩ := e4_ BK200.1; obtain ⟨_, _, _, _, _, _, _, _⟩ := z5_ BK200.1))
 have H := HH_.1
 clear HH_
 by_cases c4 : t202 = true
 ·
  subst c4
  have H1 := H
  rw [if_pos rfl] at H1
  clear H
  have H := H1
  clear H1
  obtain ⟨t203, A5, H⟩ := ob_ H
  try dsimp only at H
  by_cases c6 : t203 = true
  ·
   subst c6
   have H1 := H
   rw [if_pos rfl] at H1
   clear H
   have H := H1
   clear H1
   by_cases c7 : a0_0 = a1_0
   ·
    rw [if_pos c7] at H
    have c7b0 := beq_iff_eq.mpr c7
    have c7b1 := bne_eq_false_iff_eq.mpr c7
    clear c7
    obtain rfl := Option.some.inj H
    go_wp2_with (first | ((with_reducible refine g_ 70 ?_); refine gl_ (some 6) Try.func70 #[.agg #[.int .i64 a0_0, .int .i64 a0_1, .int .i64 a0_2, .int .i64 a0_3, .int .i64 a0_4, .int .i64 a0_5, .int .i64 a0_6, .int .i64 a0_7]] ?_; (with_reducible refine (spec_IsFind.calls a0_0 a0_1 a0_2 a0_3 a0_4 a0_5 a0_6 a0_7 true _ A3.1).mono ?_); rintro e w12 ⟨rfl, hb⟩; refine ⟨_, rfl, ?_⟩; replace BK200 := o_ (blk_below (bd_ BK200.1) hb); replace BK201 := o_ (blk_below (bd_ BK201.1) hb); replace HB := o_ (below_step wb_ hb); (try clear hb); obtain ⟨_, _, _, _, _, _, _, _⟩ := e4_ BK201.1; obtain ⟨_, _, _, _, _, _, _, _⟩ := z5_ BK201.1) | (go_at_call 70; (with_reducible refine (spec_IsFind.calls a1_0 a1_1 a1_2 a1_3 a1_4 a1_5 a1_6 a1_7 true _ A5.1).mono ?_); rintro e w14 ⟨rfl, hb⟩; replace BK200 := o_ (blk_below (bd_ BK200.1) hb); replace BK201 := o_ (blk_below (bd_ BK201.1) hb); replace HB := o_ (below_step wb_ hb); (try clear hb); obtain ⟨_, _, _, _, _, _, _, _⟩ := e4_ BK200.1; obtain ⟨_, _, _, _, _, _, _, _⟩ := z5_ BK200.1; obtain ⟨_, _, _, _, _, _, _, _⟩ := e4_ BK201.1; obtain ⟨_, _, _, _, _, _, _, _⟩ := z5_ BK201.1))
    go_ret
    exact ⟨rt_, wb_⟩
   ·
    rw [if_neg c7] at H
    have c7b0 := beq_eq_false_iff_ne.mpr c7
    have c7b1 := bne_iff_ne.mpr c7
    by_cases c17 : a0_1 = a1_1
    ·
     rw [if_pos c17] at H
     have c17b0 := beq_iff_eq.mpr c17
     have c17b1 := bne_eq_false_iff_eq.mpr c17
     clear c17
     by_cases c18 : a0_2 = a1_2
     ·
      rw [if_pos c18] at H
      have c18b0 := beq_iff_eq.mpr c18
      have c18b1 := bne_eq_false_iff_eq.mpr c18
      clear c18
      by_cases c19 : a0_3 = a1_3
      ·
       rw [if_pos c19] at H
       have c19b0 := beq_iff_eq.mpr c19
       have c19b1 := bne_eq_false_iff_eq.mpr c19
       clear c19
       by_cases c20 : a0_5 = a1_5
       ·
        rw [if_pos c20] at H
        have c20b0 := beq_iff_eq.mpr c20
        have c20b1 := bne_eq_false_iff_eq.mpr c20
        clear c20
        obtain ⟨t204, A21, H⟩ := ob_ H
        try dsimp only at H
        obtain rfl := Option.some.inj H
        go_wp2_with (first | ((with_reducible refine g_ 70 ?_); refine gl_ (some 6) Try.func70 #[.agg #[.int .i64 a0_0, .int .i64 a0_1, .int .i64 a0_2, .int .i64 a0_3, .int .i64 a0_4, .int .i64 a0_5, .int .i64 a0_6, .int .i64 a0_7]] ?_; (with_reducible refine (spec_IsFind.calls a0_0 a0_1 a0_2 a0_3 a0_4 a0_5 a0_6 a0_7 true _ A3.1).mono ?_); rintro e w26 ⟨rfl, hb⟩; refine ⟨_, rfl, ?_⟩; replace BK200 := o_ (blk_below (bd_ BK200.1) hb); replace BK201 := o_ (blk_below (bd_ BK201.1) hb); replace HB := o_ (below_step wb_ hb); (try clear hb); obtain ⟨_, _, _, _, _, _, _, _⟩ := e4_ BK201.1; obtain ⟨_, _, _, _, _, _, _, _⟩ := z5_ BK201.1) | (go_at_call 70; (with_reducible refine (spec_IsFind.calls a1_0 a1_1 a1_2 a1_3 a1_4 a1_5 a1_6 a1_7 true _ A5.1).mono ?_); rintro e w28 ⟨rfl, hb⟩; replace BK200 := o_ (blk_below (bd_ BK200.1) hb); replace BK201 := o_ (blk_below (bd_ BK201.1) hb); replace HB := o_ (below_step wb_ hb); (try clear hb); obtain ⟨_, _, _, _, _, _, _, _⟩ := e4_ BK200.1; obtain ⟨_, _, _, _, _, _, _, _⟩ := z5_ BK200.1; obtain ⟨_, _, _, _, _, _, _, _⟩ := e4_ BK201.1; obtain ⟨_, _, _, _, _, _, _, _⟩ := z5_ BK201.1) | (go_at_call 71; (with_reducible refine (spec_l1In.calls (wrap64 (a0_6 - a1_6)) (-24) 24 t204 _ A21.1).mono ?_); rintro e w' ⟨rfl, ⟨nd, rfl⟩⟩))
        go_ret
        exact ⟨rt_, wb_⟩
       ·
        rw [if_neg c20] at H
        have c20b0 := beq_eq_false_iff_ne.mpr c20
        have c20b1 := bne_iff_ne.mpr c20
        obtain rfl := Option.some.inj H
        go_wp2_with (first | ((with_reducible refine g_ 70 ?_); refine gl_ (some 6) Try.func70 #[.agg #[.int .i64 a0_0, .int .i64 a0_1, .int .i64 a0_2, .int .i64 a0_3, .int .i64 a0_4, .int .i64 a0_5, .int .i64 a0_6, .int .i64 a0_7]] ?_; (with_reducible refine (spec_IsFind.calls a0_0 a0_1 a0_2 a0_3 a0_4 a0_5 a0_6 a0_7 true _ A3.1).mono ?_); rintro e w35 ⟨rfl, hb⟩; refine ⟨_, rfl, ?_⟩; replace BK200 := o_ (blk_below (bd_ BK200.1) hb); replace BK201 := o_ (blk_below (bd_ BK201.1) hb); replace HB := o_ (below_step wb_ hb); (try clear hb); obtain ⟨_, _, _, _, _, _, _, _⟩ := e4_ BK201.1; obtain ⟨_, _, _, _, _, _, _, _⟩ := z5_ BK201.1) | (go_at_call 70; (with_reducible refine (spec_IsFind.calls a1_0 a1_1 a1_2 a1_3 a1_4 a1_5 a1_6 a1_7 true _ A5.1).mono ?_); rintro e w37 ⟨rfl, hb⟩; replace BK200 := o_ (blk_below (bd_ BK200.1) hb); replace BK201 := o_ (blk_below (bd_ BK201.1) hb); replace HB := o_ (below_step wb_ hb); (try clear hb); obtain ⟨_, _, _, _, _, _, _, _⟩ := e4_ BK200.1; obtain ⟨_, _, _, _, _, _, _, _⟩ := z5_ BK200.1; obtain ⟨_, _, _, _, _, _, _, _⟩ := e4_ BK201.1; obtain ⟨_, _, _, _, _, _, _, _⟩ := z5_ BK201.1))
        go_ret
        exact ⟨rt_, wb_⟩
      ·
       rw [if_neg c19] at H
       have c19b0 := beq_eq_false_iff_ne.mpr c19
       have c19b1 := bne_iff_ne.mpr c19
       obtain rfl := Option.some.inj H
       go_wp2_with (first | ((with_reducible refine g_ 70 ?_); refine gl_ (some 6) Try.func70 #[.agg #[.int .i64 a0_0, .int .i64 a0_1, .int .i64 a0_2, .int .i64 a0_3, .int .i64 a0_4, .int .i64 a0_5, .int .i64 a0_6, .int .i64 a0_7]] ?_; (with_reducible refine (spec_IsFind.calls a0_0 a0_1 a0_2 a0_3 a0_4 a0_5 a0_6 a0_7 true _ A3.1).mono ?_); rintro e w44 ⟨rfl, hb⟩; refine ⟨_, rfl, ?_⟩; replace BK200 := o_ (blk_below (bd_ BK200.1) hb); replace BK201 := o_ (blk_below (bd_ BK201.1) hb); replace HB := o_ (below_step wb_ hb); (try clear hb); obtain ⟨_, _, _, _, _, _, _, _⟩ := e4_ BK201.1; obtain ⟨_, _, _, _, _, _, _, _⟩ := z5_ BK201.1) | (go_at_call 70; (with_reducible refine (spec_IsFind.calls a1_0 a1_1 a1_2 a1_3 a1_4 a1_5 a1_6 a1_7 true _ A5.1).mono ?_); rintro e w46 ⟨rfl, hb⟩; replace BK200 := o_ (blk_below (bd_ BK200.1) hb); replace BK201 := o_ (blk_below (bd_ BK201.1) hb); replace HB := o_ (below_step wb_ hb); (try clear hb); obtain ⟨_, _, _, _, _, _, _, _⟩ := e4_ BK200.1; obtain ⟨_, _, _, _, _, _, _, _⟩ := z5_ BK200.1; obtain ⟨_, _, _, _, _, _, _, _⟩ := e4_ BK201.1; obtain ⟨_, _, _, _, _, _, _, _⟩ := z5_ BK201.1))
       go_ret
       exact ⟨rt_, wb_⟩
     ·
      rw [if_neg c18] at H
      have c18b0 := beq_eq_false_iff_ne.mpr c18
      have c18b1 := bne_iff_ne.mpr c18
      obtain rfl := Option.some.inj H
      go_wp2_with (first | ((with_reducible refine g_ 70 ?_); refine gl_ (some 6) Try.func70 #[.agg #[.int .i64 a0_0, .int .i64 a0_1, .int .i64 a0_2, .int .i64 a0_3, .int .i64 a0_4, .int .i64 a0_5, .int .i64 a0_6, .int .i64 a0_7]] ?_; (with_reducible refine (spec_IsFind.calls a0_0 a0_1 a0_2 a0_3 a0_4 a0_5 a0_6 a0_7 true _ A3.1).mono ?_); rintro e w53 ⟨rfl, hb⟩; refine ⟨_, rfl, ?_⟩; replace BK200 := o_ (blk_below (bd_ BK200.1) hb); replace BK201 := o_ (blk_below (bd_ BK201.1) hb); replace HB := o_ (below_step wb_ hb); (try clear hb); obtain ⟨_, _, _, _, _, _, _, _⟩ := e4_ BK201.1; obtain ⟨_, _, _, _, _, _, _, _⟩ := z5_ BK201.1) | (go_at_call 70; (with_reducible refine (spec_IsFind.calls a1_0 a1_1 a1_2 a1_3 a1_4 a1_5 a1_6 a1_7 true _ A5.1).mono ?_); rintro e w55 ⟨rfl, hb⟩; replace BK200 := o_ (blk_below (bd_ BK200.1) hb); replace BK201 := o_ (blk_below (bd_ BK201.1) hb); replace HB := o_ (below_step wb_ hb); (try clear hb); obtain ⟨_, _, _, _, _, _, _, _⟩ := e4_ BK200.1; obtain ⟨_, _, _, _, _, _, _, _⟩ := z5_ BK200.1; obtain ⟨_, _, _, _, _, _, _, _⟩ := e4_ BK201.1; obtain ⟨_, _, _, _, _, _, _, _⟩ := z5_ BK201.1))
      go_ret
      exact ⟨rt_, wb_⟩
    ·
     rw [if_neg c17] at H
     have c17b0 := beq_eq_false_iff_ne.mpr c17
     have c17b1 := bne_iff_ne.mpr c17
     obtain rfl := Option.some.inj H
     go_wp2_with (first | ((with_reducible refine g_ 70 ?_); refine gl_ (some 6) Try.func70 #[.agg #[.int .i64 a0_0, .int .i64 a0_1, .int .i64 a0_2, .int .i64 a0_3, .int .i64 a0_4, .int .i64 a0_5, .int .i64 a0_6, .int .i64 a0_7]] ?_; (with_reducible refine (spec_IsFind.calls a0_0 a0_1 a0_2 a0_3 a0_4 a0_5 a0_6 a0_7 true _ A3.1).mono ?_); rintro e w62 ⟨rfl, hb⟩; refine ⟨_, rfl, ?_⟩; replace BK200 := o_ (blk_below (bd_ BK200.1) hb); replace BK201 := o_ (blk_below (bd_ BK201.1) hb); replace HB := o_ (below_step wb_ hb); (try clear hb); obtain ⟨_, _, _, _, _, _, _, _⟩ := e4_ BK201.1; obtain ⟨_, _, _, _, _, _, _, _⟩ := z5_ BK201.1) | (go_at_call 70; (with_reducible refine (spec_IsFind.calls a1_0 a1_1 a1_2 a1_3 a1_4 a1_5 a1_6 a1_7 true _ A5.1).mono ?_); rintro e w64 ⟨rfl, hb⟩; replace BK200 := o_ (blk_below (bd_ BK200.1) hb); replace BK201 := o_ (blk_below (bd_ BK201.1) hb); replace HB := o_ (below_step wb_ hb); (try clear hb); obtain ⟨_, _, _, _, _, _, _, _⟩ := e4_ BK200.1; obtain ⟨_, _, _, _, _, _, _, _⟩ := z5_ BK200.1; obtain ⟨_, _, _, _, _, _, _, _⟩ := e4_ BK201.1; obtain ⟨_, _, _, _, _, _, _, _⟩ := z5_ BK201.1))
     go_ret
     exact ⟨rt_, wb_⟩
  ·
   replace c6 := Bool.eq_false_iff.mpr c6
   subst c6
   have H1 := H
   rw [if_neg nt_] at H1
   clear H
   have H := H1
   clear H1
   obtain rfl := Option.some.inj H
   go_wp2_with (first | ((with_reducible refine g_ 70 ?_); refine gl_ (some 6) Try.func70 #[.agg #[.int .i64 a0_0, .int .i64 a0_1, .int .i64 a0_2, .int .i64 a0_3, .int .i64 a0_4, .int .i64 a0_5, .int .i64 a0_6, .int .i64 a0_7]] ?_; (with_reducible refine (spec_IsFind.calls a0_0 a0_1 a0_2 a0_3 a0_4 a0_5 a0_6 a0_7 true _ A3.1).mono ?_); rintro e w71 ⟨rfl, hb⟩; refine ⟨_, rfl, ?_⟩; replace BK200 := o_ (blk_below (bd_ BK200.1) hb); replace BK201 := o_ (blk_below (bd_ BK201.1) hb); replace HB := o_ (below_step wb_ hb); (try clear hb); obtain ⟨_, _, _, _, _, _, _, _⟩ := e4_ BK201.1; obtain ⟨_, _, _, _, _, _, _, _⟩ := z5_ BK201.1) | (go_at_call 70; (with_reducible refine (spec_IsFind.calls a1_0 a1_1 a1_2 a1_3 a1_4 a1_5 a1_6 a1_7 false _ A5.1).mono ?_); rintro e w73 ⟨rfl, hb⟩; replace BK200 := o_ (blk_below (bd_ BK200.1) hb); replace BK201 := o_ (blk_below (bd_ BK201.1) hb); replace HB := o_ (below_step wb_ hb); (try clear hb)))
   go_ret
   exact ⟨rt_, wb_⟩
 ·
  replace c4 := Bool.eq_false_iff.mpr c4
  subst c4
  have H1 := H
  rw [if_neg nt_] at H1
  clear H
  have H := H1
  clear H1
  obtain rfl := Option.some.inj H
  go_wp2_with (first | ((with_reducible refine g_ 70 ?_); refine gl_ (some 6) Try.func70 #[.agg #[.int .i64 a0_0, .int .i64 a0_1, .int .i64 a0_2, .int .i64 a0_3, .int .i64 a0_4, .int .i64 a0_5, .int .i64 a0_6, .int .i64 a0_7]] ?_; (with_reducible refine (spec_IsFind.calls a0_0 a0_1 a0_2 a0_3 a0_4 a0_5 a0_6 a0_7 false _ A3.1).mono ?_); rintro e w78 ⟨rfl, hb⟩; refine ⟨_, rfl, ?_⟩; replace BK200 := o_ (blk_below (bd_ BK200.1) hb); replace BK201 := o_ (blk_below (bd_ BK201.1) hb); replace HB := o_ (below_step wb_ hb); (try clear hb)))
  go_ret
  exact ⟨rt_, wb_⟩

/-! ### spec_TwinsOf: function 9 -/
mutual
def spec_TwinsOf.l0 : Nat → List (S58) → List Int → Int → Option (List Int)
  | 0, _, _, _ => none
  | k + 1, x0, x3, x4 => if x4 < (x0.length : Int) then ((spec_AreFinds.f k x0).bind fun t208 => (spec_TwinsOf.j1 k x0 x3 x4 t208)) else (spec_TwinsOf.j1 k x0 x3 x4 false)
def spec_TwinsOf.j1 : Nat → List (S58) → List Int → Int → Bool → Option (List Int)
  | 0, _, _, _, _ => none
  | k + 1, x0, x3, x4, x15 => if x15 = true then (spec_TwinsOf.l1 k x0 x3 x4 false 0) else (some x3)
def spec_TwinsOf.l1 : Nat → List (S58) → List Int → Int → Bool → Int → Option (List Int)
  | 0, _, _, _, _, _ => none
  | k + 1, x0, x3, x4, x5, x6 => if x6 < x4 then (if x5 = true then (spec_TwinsOf.l1 k x0 x3 x4 true (wrap64 (x6 + 1))) else (if 0 ≤ x6 then (if x6 < (x0.length : Int) then (if 0 ≤ x4 then (if x4 < (x0.length : Int) then ((spec_AreTwins.f ((rd_T58 x0 x6).f0.f0) ((rd_T58 x0 x6).f0.f1) ((rd_T58 x0 x6).f0.f2) ((rd_T58 x0 x6).f0.f3) ((rd_T58 x0 x6).f0.f4) ((rd_T58 x0 x6).f1) ((rd_T58 x0 x6).f2) ((rd_T58 x0 x6).f3) ((rd_T58 x0 x4).f0.f0) ((rd_T58 x0 x4).f0.f1) ((rd_T58 x0 x4).f0.f2) ((rd_T58 x0 x4).f0.f3) ((rd_T58 x0 x4).f0.f4) ((rd_T58 x0 x4).f1) ((rd_T58 x0 x4).f2) ((rd_T58 x0 x4).f3)).bind fun t211 => (spec_TwinsOf.l1 k x0 x3 x4 t211 (wrap64 (x6 + 1)))) else (none)) else (none)) else (none)) else (none))) else (if x5 = true then (if 0 ≤ x4 then (if x4 < (x0.length : Int) then (if x3.length < 17592186044416 then (spec_TwinsOf.l0 k x0 (x3 ++ [(rd_T58 x0 x4).f0.f0]) (wrap64 (x4 + 1))) else (none)) else (none)) else (none)) else (spec_TwinsOf.l0 k x0 x3 (wrap64 (x4 + 1))))
end
def spec_TwinsOf.f (k : Nat) (l0 : List (S58)) : Option (List Int) := spec_TwinsOf.l0 k l0 (([] : List Int)) 0
theorem spec_TwinsOf.mono_l : ∀ k, (∀ y0 y1 y2, LeO (spec_TwinsOf.l0 k y0 y1 y2) (spec_TwinsOf.l0 (k + 1) y0 y1 y2)) ∧ (∀ y0 y1 y2 y3, LeO (spec_TwinsOf.j1 k y0 y1 y2 y3) (spec_TwinsOf.j1 (k + 1) y0 y1 y2 y3)) ∧ (∀ y0 y1 y2 y3 y4, LeO (spec_TwinsOf.l1 k y0 y1 y2 y3 y4) (spec_TwinsOf.l1 (k + 1) y0 y1 y2 y3 y4))
  | 0 => ⟨fun _ _ _ r h => by simp [spec_TwinsOf.l0] at h, fun _ _ _ _ r h => by simp [spec_TwinsOf.j1] at h, fun _ _ _ _ _ r h => by simp [spec_TwinsOf.l1] at h⟩
  | k + 1 => by
    obtain ⟨ih0, ih1, ih2⟩ := spec_TwinsOf.mono_l k
    refine ⟨?_, ?_, ?_⟩
    · intro y0 y1 y2
      unfold spec_TwinsOf.l0
      have jh0 := @spec_AreFinds.mono
      exact mo_
    · intro y0 y1 y2 y3
      unfold spec_TwinsOf.j1
      have jh0 := @spec_AreFinds.mono
      exact mo_
    · intro y0 y1 y2 y3 y4
      unfold spec_TwinsOf.l1
      have jh0 := @spec_AreFinds.mono
      exact mo_
theorem spec_TwinsOf.mono : ∀ a0 k, LeO (spec_TwinsOf.f k a0) (spec_TwinsOf.f (k + 1) a0) := by
  intro a0 k
  obtain ⟨ih0, ih1, ih2⟩ := spec_TwinsOf.mono_l k
  unfold spec_TwinsOf.f
  have jh0 := @spec_AreFinds.mono
  exact mo_
def spec_TwinsOf.T9 : Bool × List (List Nat × List Nat) := (true, [([], []), ([0], [0]), ([1], [1]), ([1], [1]), ([2, 3, 1], [1, 2, 3]), ([4, 1], [1, 4]), ([1], [1]), ([1], [1]), ([6, 7, 1], [1, 6, 7]), ([8, 1], [1, 8]), ([5, 9, 1, 1], [1, 5, 9]), ([1, 10], [1, 10]), ([11, 10, 0, 1, 2, 3, 4, 5, 6, 7, 8, 9, 10, 11], [0, 11])])
def spec_TwinsOf.B9 : List Nat := [0, 1, 3, 3, 15, 31, 3, 3, 195, 451, 1023, 2047, 4095]
theorem spec_TwinsOf.tab9 : rtab .any (opsOf Try.f9 9) = spec_TwinsOf.T9 := by kernel_rfl
theorem spec_TwinsOf.bits9 : waitsOk spec_TwinsOf.T9.2 spec_TwinsOf.B9 = true := by kernel_rfl
abbrev M3_0 := bm_ 13 0
abbrev M3_1 := bm_ 13 1
abbrev M3_2 := bm_ 13 3
abbrev M3_3 := bm_ 13 7
abbrev M3_4 := bm_ 13 15
abbrev M3_5 := bm_ 13 31
abbrev M3_6 := bm_ 13 63
abbrev M3_7 := bm_ 13 127
abbrev M3_8 := bm_ 13 255
abbrev M3_9 := bm_ 13 511
abbrev M3_10 := bm_ 13 1023
abbrev M3_11 := bm_ 13 2047
abbrev M3_12 := bm_ 13 4095
abbrev M3_13 := bm_ 13 8191
abbrev M3_14 := bm_ 13 95
abbrev M3_15 := bm_ 13 223
abbrev M3_16 := bm_ 13 479
set_option maxHeartbeats 8000000 in
set_option maxRecDepth 100000 in
theorem spec_TwinsOf.calls (k : Nat) (A0 : Option Addr) (c0 : Nat) (l0 : List (S58)) (r : List Int) (w : World) (hr0 : Kd.C k58 w A0 l0.length l0) (hc0 : l0.length ≤ c0) (h : spec_TwinsOf.f k l0 = some r) :
    Calls Try.prog 9 #[.slice A0 l0.length c0] w fun e w' => ∃ v0_ : Value, e = .returned (v0_) ∧ Kd.R (Kd.int .i64) 3 w' w.heap.size (fun _ => True) v0_ r ∧ Below w.heap.size w w' := by
  have hu58 := Try.underlying58
  have HR0 := o_ hr0
  have HC0 := o_ hc0
  clear hr0 hc0
  have HB := o_ (Below.refl w.heap.size w)
  have H : (spec_TwinsOf.l0 k l0 (([] : List Int)) 0) = some r := h
  clear h
  obtain ⟨y205, hy205⟩ : ∃ y_ : List Int, y_ = (([] : List Int)) := ⟨_, rfl⟩
  replace H : (spec_TwinsOf.l0 k l0 y205 0) = some r := hy_ H hy205
  have Ny205 := o_ hy205
  clear hy205
  have H' := o_ H
  clear H
  go_enter Try.func9, Try.ntmps9
  go_wp2_with (first | ((with_reducible refine gate_dst (N := 7) rfl ?_); refine Kd.R_lit (Kd.int .i64) _ 3 ?hg (N := 7) ?hd (xs := ([] : List Int)) (inner := []) (ok := fun _ => True) (okp := fun _ => True) ?hr ?hp (fun _ hk => hk) trivial (Below.refl _ _) (Nat.le_refl _) (by simp) ?_; (case hd => rfl); (case hg => rfl); (case hr => first | (go_simp; done) | (go_simp; rfl)); (case hp => exact (Reps.none _ _)); intro v206 w2 ho3 hb hg_ hnew_; clear hg_ hnew_; (first | rw [← Ny205.1] at ho3 | (simp only [Int.reduceToNat] at ho3; rw [← Ny205.1] at ho3)); have HO207 := o_ (Kd.R_lower ho3 (below_size (hd_ HB.1))); replace HB := o_ (below_step (hd_ HB.1) hb); clear hb ho3))
  go_loopg [3, 4] k (fun kq v3 v4 w' => ∃ (x3_1 : List Int) (x4_1 : Int), v4 = .int .i64 x4_1 ∧ Aside0 (spec_TwinsOf.l0 kq l0 x3_1 x4_1 = some r) ∧ Aside0 (kq ≤ k) ∧ Aside0 (Kd.R (Kd.int .i64) 3 w' w.heap.size (fun _ => True) v3 x3_1) ∧ Aside0 (Below w.heap.size w w'))
  case atStart => exact ⟨(y205), (0), y152_, H', ⟨Nat.le_refl _⟩, ⟨rd_ HO207.1⟩, ⟨hd_ HB.1⟩⟩
  case round =>
    clear H'
    try clear p2
    obtain ⟨x3_1, x4_1, rfl, HA, HK1, HO_3, HB⟩ := hrel
    cases gk with
    | zero => exact absurd HA.1 (by simp [spec_TwinsOf.l0])
    | succ k1 =>
      have H := HA.1
      clear HA
      simp only [spec_TwinsOf.l0] at H
      have HC4 := o_ H
      clear H
      go_upto_region 3 with (fail)
      go_cut [15] (fun v15 wc => ∃ (kq : Nat) (x15_3 : Bool), v15 = .bool x15_3 ∧ Aside0 (spec_TwinsOf.j1 kq l0 x3_1 x4_1 x15_3 = some r) ∧ Aside0 (kq ≤ k1) ∧ Aside0 (Kd.R (Kd.int .i64) 3 wc w.heap.size (fun _ => True) u3 x3_1) ∧ Aside0 (Below w.heap.size w wc))
      case first =>
        have H := HC4.1
        clear HC4
        by_cases c5 : x4_1 < (l0.length : Int)
        · rw [if_pos c5] at H
          have c5b0 := decide_eq_true c5
          clear c5
          (first | rw [c5b0] | (simp only [i64_w, i32_w]; rw [c5b0]) | skip)
          obtain ⟨t208, A6, H⟩ := ob_ H
          try dsimp only at H
          have H' := o_ H
          clear H
          go_wp2_with (first | (go_at_call 40; (with_reducible refine (spec_AreFinds.calls k1 _ _ l0 t208 _ (cd_ (Kd.C_below HR0.1 HB.1)) HC0.1 A6.1).mono ?_); rintro e w7 ⟨rfl, hb⟩; replace HO_3 := o_ (Kd.R_below (rd_ HO_3.1) hb); replace HB := o_ (below_step (hd_ HB.1) hb); (try clear hb)))
          go_meet
          case rel => exact ⟨_, (t208), y152_, H', ⟨by have := HK1.1; first | omega | exact Nat.le_refl _⟩, ⟨rd_ HO_3.1⟩, ⟨hd_ HB.1⟩⟩
        · rw [if_neg c5] at H
          have c5b0 := decide_eq_false c5
          clear c5
          (first | rw [c5b0] | (simp only [i64_w, i32_w]; rw [c5b0]) | skip)
          have H' := o_ H
          clear H
          go_wp2
          go_meet
          case rel => exact ⟨_, (false), y152_, H', ⟨by have := HK1.1; first | omega | exact Nat.le_refl _⟩, ⟨rd_ HO_3.1⟩, ⟨hd_ HB.1⟩⟩
      case rest =>
        clear HC4
        try clear p2
        try clear c5
        try clear c5b0
        try clear p2
        obtain ⟨kq, x15_3, rfl, HA, HJ3, HO_3, HB⟩ := hcut
        cases kq with
        | zero => exact absurd HA.1 (by simp [spec_TwinsOf.j1])
        | succ kj3 =>
          have H := HA.1
          clear HA
          simp only [spec_TwinsOf.j1] at H
          by_cases c8 : x15_3 = true
          · subst c8
            have H1 := H
            rw [if_pos rfl] at H1
            clear H
            have H := H1
            clear H1
            have H' := o_ H
            clear H
            go_wp2
            go_loopg [5, 6] kj3 (fun kq v5 v6 w' => ∃ (x5_3 : Bool) (x6_3 : Int), v5 = .bool x5_3 ∧ v6 = .int .i64 x6_3 ∧ Aside0 (spec_TwinsOf.l1 kq l0 x3_1 x4_1 x5_3 x6_3 = some r) ∧ Aside0 (kq ≤ kj3) ∧ Aside0 (Kd.R (Kd.int .i64) 3 w' w.heap.size (fun _ => True) u3 x3_1) ∧ Aside0 (Below w.heap.size w w'))
            case atStart => exact ⟨(false), (0), y152_, y152_, H', ⟨Nat.le_refl _⟩, ⟨rd_ HO_3.1⟩, ⟨hd_ HB.1⟩⟩
            case round =>
              clear H'
              try clear p2
              try clear c5
              try clear c5b0
              try clear c8
              try clear p2
              obtain ⟨x5_3, x6_3, rfl, rfl, HA, HK3, HO_3, HB⟩ := hrel
              cases gk with
              | zero => exact absurd HA.1 (by simp [spec_TwinsOf.l1])
              | succ k3 =>
                have H := HA.1
                clear HA
                simp only [spec_TwinsOf.l1] at H
                by_cases c9 : x6_3 < x4_1
                · rw [if_pos c9] at H
                  have c9b0 := decide_eq_true c9
                  clear c9
                  by_cases c10 : x5_3 = true
                  · subst c10
                    have H1 := H
                    rw [if_pos rfl] at H1
                    clear H
                    have H := H1
                    clear H1
                    have H' := o_ H
                    clear H
                    try go_wp2
                    replace HO_3 := o_ (Kd.R_drew HO_3.1)
                    replace HB := o_ (below_drew1 HB.1)
                    refine start_ (n := 13) (S := fun w' => True) (ds := []) M3_0 (by kernel_rfl) rfl rfl trivial (fun hHeld => ?_); refine with_tabW spec_TwinsOf.tab9 spec_TwinsOf.bits9 (fun HT_ HW_ => ?_)
                    generalize wr.drew = w11 at HO_3 HB hHeld ⊢
                    refine pu_ 0 (some 23) M3_1 HT_ ?_
                    refine pu_ 1 (some 24) M3_2 HT_ ?_
                    refine pn_ 2 (some 25) M3_3 HT_ ?_
                    refine pn_ 3 (some 26) M3_4 HT_ ?_
                    refine pn_ 4 (some 27) M3_5 HT_ ?_
                    refine pn_ 5 (some 28) M3_6 HT_ ?_
                    refine pn_ 6 (some 29) M3_7 HT_ ?_
                    refine pn_ 7 (some 30) M3_8 HT_ ?_
                    refine pn_ 8 (some 31) M3_9 HT_ ?_
                    refine pn_ 9 (some 32) M3_10 HT_ ?_
                    refine pn_ 10 (some 33) M3_11 HT_ ?_
                    refine pu_ 11 (some 34) M3_12 HT_ ?_
                    refine pu_ 12 (some 5) M3_13 HT_ ?_
                    refine done_ (done_of HT_.1 (by kernel_rfl)) ?_
                    try go_wp2
                    go_roundg k3
                    case measure => have := HK1.1; have := HJ3.1; have := HK3.1; omega
                    case rel => exact ⟨(true), (wrap64 (x6_3 + 1)), y152_, y152_, H', ⟨by have := HK1.1; have := HJ3.1; have := HK3.1; omega⟩, ⟨rd_ HO_3.1⟩, ⟨hd_ HB.1⟩⟩
                  · replace c10 := Bool.eq_false_iff.mpr c10
                    subst c10
                    have H1 := H
                    rw [if_neg nt_] at H1
                    clear H
                    have H := H1
                    clear H1
                    by_cases c12 : 0 ≤ x6_3
                    · rw [if_pos c12] at H
                      have c12b0 := decide_eq_true c12
                      clear c12
                      by_cases c13 : x6_3 < (l0.length : Int)
                      · rw [if_pos c13] at H
                        have c13b0 := decide_eq_true c13
                        clear c13
                        by_cases c14 : 0 ≤ x4_1
                        · rw [if_pos c14] at H
                          have c14b0 := decide_eq_true c14
                          clear c14
                          by_cases c15 : x4_1 < (l0.length : Int)
                          · rw [if_pos c15] at H
                            have c15b0 := decide_eq_true c15
                            clear c15
                            obtain ⟨t211, A16, H⟩ := ob_ H
                            try dsimp only at H
                            have H' := o_ H
                            clear H
                            try go_wp2
                            replace HO_3 := o_ (Kd.R_drew HO_3.1)
                            replace HB := o_ (below_drew1 HB.1)
                            have p209 : 0 ≤ (x6_3 : Int) := of_decide_eq_true as_
                            have q209 : x6_3 < (l0.length : Int) := of_decide_eq_true as_
                            obtain ⟨ad209, e209, hx209_0, hx209_1, hx209_2, hx209_3, hx209_4, hx209_5, hx209_6, hx209_7⟩ := at_T58 HR0.1 x6_3 p209 q209
                            have hw209_7 := hx209_7
                            have hw209_6 := hx209_6
                            have hw209_5 := hx209_5
                            have hw209_4 := hx209_4
                            have hw209_3 := hx209_3
                            have hw209_2 := hx209_2
                            have hw209_1 := hx209_1
                            have hw209_0 := hx209_0
                            cases e209
                            replace hx209_0 := cb_ HB.1 hx209_0
                            replace hx209_1 := cb_ HB.1 hx209_1
                            replace hx209_2 := cb_ HB.1 hx209_2
                            replace hx209_3 := cb_ HB.1 hx209_3
                            replace hx209_4 := cb_ HB.1 hx209_4
                            replace hx209_5 := cb_ HB.1 hx209_5
                            replace hx209_6 := cb_ HB.1 hx209_6
                            replace hx209_7 := cb_ HB.1 hx209_7
                            replace p209 := eq_true p209
                            replace q209 := eq_true q209
                            have p210 : 0 ≤ (x4_1 : Int) := of_decide_eq_true as_
                            have q210 : x4_1 < (l0.length : Int) := of_decide_eq_true as_
                            obtain ⟨ad210, e210, hx210_0, hx210_1, hx210_2, hx210_3, hx210_4, hx210_5, hx210_6, hx210_7⟩ := at_T58 HR0.1 x4_1 p210 q210
                            have hw210_7 := hx210_7
                            have hw210_6 := hx210_6
                            have hw210_5 := hx210_5
                            have hw210_4 := hx210_4
                            have hw210_3 := hx210_3
                            have hw210_2 := hx210_2
                            have hw210_1 := hx210_1
                            have hw210_0 := hx210_0
                            obtain rfl : ad209 = ad210 := (by injection e210)
                            replace hx210_0 := cb_ HB.1 hx210_0
                            replace hx210_1 := cb_ HB.1 hx210_1
                            replace hx210_2 := cb_ HB.1 hx210_2
                            replace hx210_3 := cb_ HB.1 hx210_3
                            replace hx210_4 := cb_ HB.1 hx210_4
                            replace hx210_5 := cb_ HB.1 hx210_5
                            replace hx210_6 := cb_ HB.1 hx210_6
                            replace hx210_7 := cb_ HB.1 hx210_7
                            replace p210 := eq_true p210
                            replace q210 := eq_true q210
                            refine start_ (n := 13) (S := fun w' => q4_ w' (ad209.add ((x6_3).toNat * 8)) ((rd_T58 l0 x6_3).f0.f0) ((rd_T58 l0 x6_3).f0.f1) ((rd_T58 l0 x6_3).f0.f2) ((rd_T58 l0 x6_3).f0.f3) ((rd_T58 l0 x6_3).f0.f4) ((rd_T58 l0 x6_3).f1) ((rd_T58 l0 x6_3).f2) ((rd_T58 l0 x6_3).f3) (q4e_ w' (ad209.add ((x4_1).toNat * 8)) ((rd_T58 l0 x4_1).f0.f0) ((rd_T58 l0 x4_1).f0.f1) ((rd_T58 l0 x4_1).f0.f2) ((rd_T58 l0 x4_1).f0.f3) ((rd_T58 l0 x4_1).f0.f4) ((rd_T58 l0 x4_1).f1) ((rd_T58 l0 x4_1).f2) ((rd_T58 l0 x4_1).f3))) (ds := []) M3_0 (by kernel_rfl) rfl rfl ⟨(cb_ HB.1 hw209_0), (cb_ HB.1 hw209_1), (cb_ HB.1 hw209_2), (cb_ HB.1 hw209_3), (cb_ HB.1 hw209_4), (cb_ HB.1 hw209_5), (cb_ HB.1 hw209_6), (cb_ HB.1 hw209_7), (cb_ HB.1 hw210_0), (cb_ HB.1 hw210_1), (cb_ HB.1 hw210_2), (cb_ HB.1 hw210_3), (cb_ HB.1 hw210_4), (cb_ HB.1 hw210_5), (cb_ HB.1 hw210_6), (cb_ HB.1 hw210_7)⟩ (fun hHeld => ?_); refine with_tabW spec_TwinsOf.tab9 spec_TwinsOf.bits9 (fun HT_ HW_ => ?_)
                            generalize wr.drew = w17 at HO_3 HB hx209_0 hx209_1 hx209_2 hx209_3 hx209_4 hx209_5 hx209_6 hx209_7 hx210_0 hx210_1 hx210_2 hx210_3 hx210_4 hx210_5 hx210_6 hx210_7 hHeld ⊢
                            refine pu_ 0 (some 23) M3_1 HT_ ?_
                            refine pu_ 1 (some 24) M3_2 HT_ ?_
                            refine pu_ 2 (some 25) M3_3 HT_ ?_
                            refine pu_ 3 (some 26) M3_4 HT_ ?_
                            refine pu_ 4 (some 27) M3_5 HT_ ?_
                            refine pu_ 6 (some 29) M3_14 HT_ ?_
                            refine pu_ 7 (some 30) M3_15 HT_ ?_
                            refine pu_ 8 (some 31) M3_16 HT_ ?_
                            refine tk_ 5 (some 28) M3_9 HT_ HW_ hHeld ?_
                            refine tk_ 9 (some 32) M3_10 HT_ HW_ hHeld ?_
                            refine one_ (i := 10) (N := some 33) M3_11 rfl rfl (one_of HT_.1 (by kernel_rfl)) (by decide) (fun K hK => ?_)
                            refine goes_ Try.func41 (by kernel_rfl) rfl #[.agg #[.int .i64 ((rd_T58 l0 x6_3).f0.f0), .int .i64 ((rd_T58 l0 x6_3).f0.f1), .int .i64 ((rd_T58 l0 x6_3).f0.f2), .int .i64 ((rd_T58 l0 x6_3).f0.f3), .int .i64 ((rd_T58 l0 x6_3).f0.f4), .int .i64 ((rd_T58 l0 x6_3).f1), .int .i64 ((rd_T58 l0 x6_3).f2), .int .i64 ((rd_T58 l0 x6_3).f3)], .agg #[.int .i64 ((rd_T58 l0 x4_1).f0.f0), .int .i64 ((rd_T58 l0 x4_1).f0.f1), .int .i64 ((rd_T58 l0 x4_1).f0.f2), .int .i64 ((rd_T58 l0 x4_1).f0.f3), .int .i64 ((rd_T58 l0 x4_1).f0.f4), .int .i64 ((rd_T58 l0 x4_1).f1), .int .i64 ((rd_T58 l0 x4_1).f2), .int .i64 ((rd_T58 l0 x4_1).f3)]] (by rfl) rfl rfl ma_ ?_
                            with_reducible refine (spec_AreTwins.calls ((rd_T58 l0 x6_3).f0.f0) ((rd_T58 l0 x6_3).f0.f1) ((rd_T58 l0 x6_3).f0.f2) ((rd_T58 l0 x6_3).f0.f3) ((rd_T58 l0 x6_3).f0.f4) ((rd_T58 l0 x6_3).f1) ((rd_T58 l0 x6_3).f2) ((rd_T58 l0 x6_3).f3) ((rd_T58 l0 x4_1).f0.f0) ((rd_T58 l0 x4_1).f0.f1) ((rd_T58 l0 x4_1).f0.f2) ((rd_T58 l0 x4_1).f0.f3) ((rd_T58 l0 x4_1).f0.f4) ((rd_T58 l0 x4_1).f1) ((rd_T58 l0 x4_1).f2) ((rd_T58 l0 x4_1).f3) t211 _ A16.1).mono ?_
                            rintro e w18 ⟨rfl, hb⟩
                            refine ⟨_, rfl, ?_⟩
                            replace HO_3 := o_ (Kd.R_below (rd_ HO_3.1) hb)
                            replace HB := o_ (below_step (hd_ HB.1) hb)
                            (try clear hb)
                            (try clear hb2)
                            (try clear hk)
                            (try clear hi)
                            refine hK.out _ _ ⟨(cb_ HB.1 hw209_0), (cb_ HB.1 hw209_1), (cb_ HB.1 hw209_2), (cb_ HB.1 hw209_3), (cb_ HB.1 hw209_4), (cb_ HB.1 hw209_5), (cb_ HB.1 hw209_6), (cb_ HB.1 hw209_7), (cb_ HB.1 hw210_0), (cb_ HB.1 hw210_1), (cb_ HB.1 hw210_2), (cb_ HB.1 hw210_3), (cb_ HB.1 hw210_4), (cb_ HB.1 hw210_5), (cb_ HB.1 hw210_6), (cb_ HB.1 hw210_7)⟩ (fun hHeld => ?_)
                            clear hK K
                            refine norm_ (a' := ?_) ?_ ?_
                            rotate_left
                            · show Act.put _ (some 33) _ = _
                              simp only [Act.put, List.setIfInBounds_toArray, List.set_cons_zero, List.set_cons_succ, i64_w, i32_w]
                              rfl
                            refine pu_ 11 (some 34) M3_12 HT_ ?_
                            refine pu_ 12 (some 5) M3_13 HT_ ?_
                            refine done_ (done_of HT_.1 (by kernel_rfl)) ?_
                            try go_wp2
                            go_roundg k3
                            case measure => have := HK1.1; have := HJ3.1; have := HK3.1; omega
                            case rel => exact ⟨(t211), (wrap64 (x6_3 + 1)), y152_, y152_, H', ⟨by have := HK1.1; have := HJ3.1; have := HK3.1; omega⟩, ⟨rd_ HO_3.1⟩, ⟨hd_ HB.1⟩⟩
                          · rw [if_neg c15] at H
                            exact absurd H (by simp)
                        · rw [if_neg c14] at H
                          exact absurd H (by simp)
                      · rw [if_neg c13] at H
                        exact absurd H (by simp)
                    · rw [if_neg c12] at H
                      exact absurd H (by simp)
                · rw [if_neg c9] at H
                  have c9b0 := decide_eq_false c9
                  clear c9
                  by_cases c19 : x5_3 = true
                  · subst c19
                    have H1 := H
                    rw [if_pos rfl] at H1
                    clear H
                    have H := H1
                    clear H1
                    by_cases c20 : 0 ≤ x4_1
                    · rw [if_pos c20] at H
                      have c20b0 := decide_eq_true c20
                      clear c20
                      by_cases c21 : x4_1 < (l0.length : Int)
                      · rw [if_pos c21] at H
                        have c21b0 := decide_eq_true c21
                        clear c21
                        by_cases c22 : x3_1.length < 17592186044416
                        · rw [if_pos c22] at H
                          have LMc22 := o_ c22
                          clear c22
                          obtain ⟨y213, hy213⟩ : ∃ y_ : List Int, y_ = (x3_1 ++ [(rd_T58 l0 x4_1).f0.f0]) := ⟨_, rfl⟩
                          replace H : (spec_TwinsOf.l0 k3 l0 y213 (wrap64 (x4_1 + 1))) = some r := hy_ H hy213
                          have Ny213 := o_ hy213
                          clear hy213
                          have H' := o_ H
                          clear H
                          have p212 : 0 ≤ (x4_1 : Int) := of_decide_eq_true as_
                          have q212 : x4_1 < (l0.length : Int) := of_decide_eq_true as_
                          obtain ⟨ad212, e212, hx212_0, hx212_1, hx212_2, hx212_3, hx212_4, hx212_5, hx212_6, hx212_7⟩ := at_T58 HR0.1 x4_1 p212 q212
                          cases e212
                          replace hx212_0 := cb_ HB.1 hx212_0
                          replace hx212_1 := cb_ HB.1 hx212_1
                          replace hx212_2 := cb_ HB.1 hx212_2
                          replace hx212_3 := cb_ HB.1 hx212_3
                          replace hx212_4 := cb_ HB.1 hx212_4
                          replace hx212_5 := cb_ HB.1 hx212_5
                          replace hx212_6 := cb_ HB.1 hx212_6
                          replace hx212_7 := cb_ HB.1 hx212_7
                          replace p212 := eq_true p212
                          replace q212 := eq_true q212
                          go_wp2_with (first | ((with_reducible refine gate_builtin (b := .append) (xs := #[.tmp 36, .tmp 43]) rfl ?_); at_builtin; refine Kd.R_append (Kd.int .i64) (w0 := w) w.heap.size rfl (.tmp 36) (.tmp 43) 24 3 (.int .i64 0) 8 rfl Try.underlying24 info3 rfl (by decide) (by omega) u3 x3_1 ((rd_T58 l0 x4_1).f0.f0) [.int .i64 ((rd_T58 l0 x4_1).f0.f0)] (fun _ => True) (fun _ => False) rfl rfl ?aP (fun _ hk => hk.elim) ?aF ?aO ?aB ?aS ?aL ?_; (case aP => exact rfl); (case aB => exact (hd_ HB.1)); (case aF => exact (fun _ _ => trivial)); (case aO => exact rd_ HO_3.1); (case aS => exact (below_size (hd_ HB.1))); (case aL => have := LMc22.1; omega); intro v214 w23 ho hb hg hat; rw [← Ny213.1] at ho; replace HB := o_ (hb); have HO215 := o_ (ho); clear HO_3 ho hb hg hat))
                          go_roundg k3
                          case measure => have := HK1.1; have := HJ3.1; have := HK3.1; omega
                          case rel => exact ⟨(y213), (wrap64 (x4_1 + 1)), y152_, H', ⟨by have := HK1.1; have := HJ3.1; have := HK3.1; omega⟩, ⟨rd_ HO215.1⟩, ⟨hd_ HB.1⟩⟩
                        · rw [if_neg c22] at H
                          exact absurd H (by simp)
                      · rw [if_neg c21] at H
                        exact absurd H (by simp)
                    · rw [if_neg c20] at H
                      exact absurd H (by simp)
                  · replace c19 := Bool.eq_false_iff.mpr c19
                    subst c19
                    have H1 := H
                    rw [if_neg nt_] at H1
                    clear H
                    have H := H1
                    clear H1
                    have H' := o_ H
                    clear H
                    go_wp2
                    go_roundg k3
                    case measure => have := HK1.1; have := HJ3.1; have := HK3.1; omega
                    case rel => exact ⟨(x3_1), (wrap64 (x4_1 + 1)), y152_, H', ⟨by have := HK1.1; have := HJ3.1; have := HK3.1; omega⟩, ⟨rd_ HO_3.1⟩, ⟨hd_ HB.1⟩⟩
          · replace c8 := Bool.eq_false_iff.mpr c8
            subst c8
            have H1 := H
            rw [if_neg nt_] at H1
            clear H
            have H := H1
            clear H1
            obtain rfl := Option.some.inj H
            go_wp2
            go_ret
            exact ⟨_, rt_, rd_ HO_3.1, hd_ HB.1⟩

/-! ### spec_l8Has: function 54 -/
def spec_l8Has.l0 : Nat → List Int → Int → Int → Option (Bool)
  | 0, _, _, _ => none
  | k + 1, x0, x1, x5 => if x5 < (x0.length : Int) then (if 0 ≤ x5 then (if (rd x0 x5) = x1 then (some true) else (spec_l8Has.l0 k x0 x1 (wrap64 (x5 + 1)))) else (none)) else (some false)
def spec_l8Has.f (k : Nat) (l0 : List Int) (a1 : Int) : Option (Bool) := spec_l8Has.l0 k l0 a1 0
theorem spec_l8Has.mono_l : ∀ k, (∀ y0 y1 y2, LeO (spec_l8Has.l0 k y0 y1 y2) (spec_l8Has.l0 (k + 1) y0 y1 y2))
  | 0 => fun _ _ _ r h => by simp [spec_l8Has.l0] at h
  | k + 1 => by
    have ih0 := spec_l8Has.mono_l k
    · intro y0 y1 y2
      unfold spec_l8Has.l0
      exact mo_
theorem spec_l8Has.mono : ∀ a0 a1 k, LeO (spec_l8Has.f k a0 a1) (spec_l8Has.f (k + 1) a0 a1) := by
  intro a0 a1 k
  have ih0 := spec_l8Has.mono_l k
  unfold spec_l8Has.f
  exact mo_
set_option maxHeartbeats 8000000 in
set_option maxRecDepth 100000 in
theorem spec_l8Has.calls (k : Nat) (A0 : Option Addr) (c0 : Nat) (l0 : List Int) (a1 : Int) (r : Bool) (w : World) (hr0 : Kd.C (Kd.int .i64) w A0 l0.length l0) (hc0 : l0.length ≤ c0) (h : spec_l8Has.f k l0 a1 = some r) :
    Calls Try.prog 54 #[.slice A0 l0.length c0, .int .i64 a1] w fun e w' => e = .returned (.bool r) ∧ Drawn0 w w' := by
  have HR0 := o_ hr0
  have HC0 := o_ hc0
  clear hr0 hc0
  have H : (spec_l8Has.l0 k l0 a1 0) = some r := h
  clear h
  have H' := o_ H
  clear H
  go_enter Try.func54, Try.ntmps54
  go_wp2
  go_loopg [5] k (fun kq v5 w' => ∃ (x5_1 : Int), v5 = .int .i64 x5_1 ∧ Aside0 (spec_l8Has.l0 kq l0 a1 x5_1 = some r) ∧ Aside0 (kq ≤ k) ∧ Drawn0 w w')
  case atStart => exact ⟨(0), rs_, H', ⟨Nat.le_refl _⟩, by repeat (first | exact Drawn0.refl _ | apply Drawn0.step)⟩
  case round =>
    clear H'
    try clear p2
    obtain ⟨x5_1, rfl, HA, HK1, ⟨m1, rfl⟩⟩ := hrel
    cases gk with
    | zero => exact absurd HA.1 (by simp [spec_l8Has.l0])
    | succ k1 =>
      have H := HA.1
      clear HA
      simp only [spec_l8Has.l0] at H
      by_cases c3 : x5_1 < (l0.length : Int)
      · rw [if_pos c3] at H
        have c3b0 := decide_eq_true c3
        clear c3
        by_cases c4 : 0 ≤ x5_1
        · rw [if_pos c4] at H
          have c4b0 := decide_eq_true c4
          clear c4
          by_cases c5 : (rd l0 x5_1) = a1
          · rw [if_pos c5] at H
            have c5b0 := beq_iff_eq.mpr c5
            have c5b1 := bne_eq_false_iff_eq.mpr c5
            clear c5
            obtain rfl := Option.some.inj H
            have p216 : 0 ≤ (x5_1 : Int) := of_decide_eq_true as_
            have q216 : x5_1 < (l0.length : Int) := of_decide_eq_true as_
            obtain ⟨ad216, e216, hx216_0⟩ := Kd.at_int HR0.1 x5_1 p216 q216
            cases e216
            replace p216 := eq_true p216
            replace q216 := eq_true q216
            go_wp2
            go_ret
            exact ⟨rs_, by repeat (first | exact Drawn0.refl _ | apply Drawn0.step)⟩
          · rw [if_neg c5] at H
            have c5b0 := beq_eq_false_iff_ne.mpr c5
            have c5b1 := bne_iff_ne.mpr c5
            have H' := o_ H
            clear H
            have p216 : 0 ≤ (x5_1 : Int) := of_decide_eq_true as_
            have q216 : x5_1 < (l0.length : Int) := of_decide_eq_true as_
            obtain ⟨ad216, e216, hx216_0⟩ := Kd.at_int HR0.1 x5_1 p216 q216
            cases e216
            replace p216 := eq_true p216
            replace q216 := eq_true q216
            go_wp2
            go_roundg k1
            case measure => have := HK1.1; omega
            case rel => exact ⟨(wrap64 (x5_1 + 1)), rs_, H', ⟨by have := HK1.1; omega⟩, by repeat (first | exact Drawn0.refl _ | apply Drawn0.step)⟩
        · rw [if_neg c4] at H
          exact absurd H (by simp)
      · rw [if_neg c3] at H
        have c3b0 := decide_eq_false c3
        clear c3
        obtain rfl := Option.some.inj H
        go_wp2
        go_ret
        exact ⟨rs_, by repeat (first | exact Drawn0.refl _ | apply Drawn0.step)⟩

end Go.Proofs.Ytglpmjcknhcjcaa.PFnTwins
