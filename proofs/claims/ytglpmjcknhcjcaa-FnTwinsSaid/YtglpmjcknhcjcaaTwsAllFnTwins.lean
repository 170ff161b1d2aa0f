/- The plain laws that this claim needs, in one text. -/
import Derived.Test.YtglpmjcknhcjcaaStmFnTwins
import Derived.Test.YtglpmjcknhcjcaaEvLib
set_option linter.unusedSimpArgs false
set_option linter.unusedVariables false
set_option linter.unusedSectionVars false
namespace Go.Proofs.Ytglpmjcknhcjcaa.PFnTwins
open Go.RowKit Go.Proofs.YtglpmjcknhcjcaaW.PrintWords Go.Proofs.YtglpmjcknhcjcaaW.PrintLast Go.Proofs.Ytglpmjcknhcjcaa.EvLib
abbrev IFind := S58
end Go.Proofs.Ytglpmjcknhcjcaa.PFnTwins
namespace Go.Proofs.Ytglpmjcknhcjcaa.PFnTwins
open Go.RowKit
theorem inRange_eq (a b c : Int) : impl_InRange.f a b c = some (decide (b ≤ a ∧ a ≤ c)) := by unfold impl_InRange.f; split <;> simp [*]
end Go.Proofs.Ytglpmjcknhcjcaa.PFnTwins
namespace Go.Proofs.Ytglpmjcknhcjcaa.PFnTwins
open Go.RowKit
theorem l1In_eq (a b c : Int) : spec_l1In.f a b c = some (decide (b ≤ a ∧ a ≤ c)) := by unfold spec_l1In.f; split <;> simp [*]
end Go.Proofs.Ytglpmjcknhcjcaa.PFnTwins
namespace Go.Proofs.Ytglpmjcknhcjcaa.PFnTwins
open Go.RowKit Go.Proofs.YtglpmjcknhcjcaaW.PrintWords Go.Proofs.YtglpmjcknhcjcaaW.PrintLast Go.Proofs.Ytglpmjcknhcjcaa.EvLib
def fd (l : List IFind) (i : Nat) : IFind := l.getD i z58
theorem rd_fd (l : List IFind) (i : Nat) : rd_T58 l (i : Int) = fd l i := by unfold rd_T58 fd; rw [Int.toNat_natCast]
theorem fd_get (l : List IFind) (i : Nat) (h : i < l.length) : fd l i = l[i] := by simp [fd, List.getD, h]
def isTh (a b c d e : Int) : Bool := decide (1 ≤ a ∧ a ≤ 999) && (decide (1 ≤ b ∧ b ≤ 8) && (decide (0 ≤ c ∧ c ≤ 7) && (decide (1 ≤ d ∧ d ≤ 50) && decide (0 ≤ e ∧ e ≤ 10000000))))
def isF8 (a b c d e f g h : Int) : Bool := isTh a b c d e && (decide (1 ≤ f ∧ f ≤ 30) && (decide (0 ≤ g ∧ g ≤ 100000) && decide (0 ≤ h ∧ h ≤ 999)))
def isFd (x : IFind) : Bool := isF8 x.f0.f0 x.f0.f1 x.f0.f2 x.f0.f3 x.f0.f4 x.f1 x.f2 x.f3
theorem ite_and (a b : Bool) : (if a = true then some b else some false) = some (a && b) := by cases a <;> rfl
theorem implIsThing_eq (a b c d e : Int) : impl_IsThing.f a b c d e = some (isTh a b c d e) := by
  unfold impl_IsThing.f isTh
  simp only [inRange_eq, Option.bind_some, ite_and]
theorem implIsFind_eq (a b c d e f g h : Int) : impl_IsFind.f a b c d e f g h = some (isF8 a b c d e f g h) := by
  unfold impl_IsFind.f isF8
  simp only [implIsThing_eq, inRange_eq, Option.bind_some, ite_and]
theorem specIsThing_eq (a b c d e : Int) : spec_IsThing.f a b c d e = some (isTh a b c d e) := by
  unfold spec_IsThing.f isTh
  simp only [l1In_eq, Option.bind_some, ite_and]
theorem specIsFind_eq (a b c d e f g h : Int) : spec_IsFind.f a b c d e f g h = some (isF8 a b c d e f g h) := by
  unfold spec_IsFind.f isF8
  simp only [specIsThing_eq, l1In_eq, Option.bind_some, ite_and]
def fdOk (l : List IFind) (i : Nat) : Bool := isFd (fd l i) && (decide (i = 0) || decide ((fd l (i - 1)).f0.f0 < (fd l i).f0.f0))
def areFd (l : List IFind) : Bool := (List.range l.length).all (fdOk l) && decide (l.length ≤ 20)
theorem areFd_ok {l : List IFind} (h : areFd l = true) (i : Nat) (hi : i < l.length) : fdOk l i = true := by
  unfold areFd at h
  rw [Bool.and_eq_true, List.all_eq_true] at h
  exact h.1 i (List.mem_range.mpr hi)
theorem areFd_len {l : List IFind} (h : areFd l = true) : l.length ≤ 20 := by
  unfold areFd at h
  rw [Bool.and_eq_true] at h
  exact of_decide_eq_true h.2
theorem implAreFinds_ev (l : List IFind) (hl : l.length ≤ 1048577) : Ev (fun k => impl_AreFinds.f k l) (areFd l) := by
  unfold impl_AreFinds.f
  refine ev_ite (fun h => ev_some ?_) (fun h => ev_eq (ev_all (fun k i => impl_AreFinds.l0 k l l (l.length : Int) i) l.length (fdOk l) true (by omega) (fun k => ?_) (fun k i hi => ?_)) ?_)
  · unfold areFd
    rw [decide_eq_false (by omega), Bool.and_false]
  · simp only [impl_AreFinds.l0]
    rw [if_neg (by omega)]
  · simp only [impl_AreFinds.l0, rd_fd, implIsFind_eq, Option.bind_some]
    rw [if_pos (by omega), if_pos (by omega), if_pos (by omega)]
    unfold fdOk isFd
    generalize isF8 _ _ _ _ _ _ _ _ = b
    cases b with
    | false => simp
    | true =>
      by_cases h4 : i = 0
      · subst h4; simp
      · have e : wrap64 ((i : Int) - 1) = ((i - 1 : Nat) : Int) := by rw [wrap_id (by omega) (by omega)]; omega
        rw [e, rd_fd]
        have g1 : 0 < i := by omega
        have g2 : i - 1 < l.length := by omega
        by_cases h5 : (fd l (i - 1)).f0.f0 < (fd l i).f0.f0
        · have g5 : ¬ (fd l i).f0.f0 ≤ (fd l (i - 1)).f0.f0 := by omega
          simp [h4, h5, g1, g2, g5]
        · have g5 : (fd l i).f0.f0 ≤ (fd l (i - 1)).f0.f0 := by omega
          simp [h4, h5, g1, g2, g5]
  · unfold areFd
    rw [decide_eq_true (by omega)]
theorem specAreFinds_ev (l : List IFind) (hl : l.length ≤ 1048577) : Ev (fun k => spec_AreFinds.f k l) (areFd l) := by
  unfold spec_AreFinds.f
  refine ev_eq (ev_all (fun k i => spec_AreFinds.l0 k l i) l.length (fdOk l) (decide ((l.length : Int) ≤ 20)) (by omega) (fun k => ?_) (fun k i hi => ?_)) ?_
  · simp only [spec_AreFinds.l0]
    rw [if_neg (by omega)]
  · simp only [spec_AreFinds.l0, rd_fd, specIsFind_eq, Option.bind_some]
    rw [if_pos (by omega), if_pos (by omega)]
    unfold fdOk isFd
    generalize isF8 _ _ _ _ _ _ _ _ = b
    cases b with
    | false => simp
    | true =>
      by_cases h4 : i = 0
      · subst h4; simp
      · have e : wrap64 ((i : Int) - 1) = ((i - 1 : Nat) : Int) := by rw [wrap_id (by omega) (by omega)]; omega
        rw [e, rd_fd]
        have g1 : 0 < i := by omega
        have g2 : i - 1 < l.length := by omega
        by_cases h5 : (fd l (i - 1)).f0.f0 < (fd l i).f0.f0
        · have g5 : ¬ (fd l i).f0.f0 ≤ (fd l (i - 1)).f0.f0 := by omega
          simp [h4, h5, g1, g2, g5]
        · have g5 : (fd l i).f0.f0 ≤ (fd l (i - 1)).f0.f0 := by omega
          simp [h4, h5, g1, g2, g5]
  · unfold areFd
    congr 1
    rw [decide_eq_decide]; omega
end Go.Proofs.Ytglpmjcknhcjcaa.PFnTwins
namespace Go.Proofs.Ytglpmjcknhcjcaa.PFnTwins
open Go.RowKit Go.Proofs.YtglpmjcknhcjcaaW.PrintWords Go.Proofs.YtglpmjcknhcjcaaW.PrintLast Go.Proofs.Ytglpmjcknhcjcaa.EvLib
def isTw (a b : IFind) : Bool := isFd a && (isFd b && (decide (a.f0.f0 ≠ b.f0.f0) && (decide (a.f0.f1 = b.f0.f1) && (decide (a.f0.f2 = b.f0.f2) && (decide (a.f0.f3 = b.f0.f3) && (decide (a.f1 = b.f1) && decide (-24 ≤ wrap64 (a.f2 - b.f2) ∧ wrap64 (a.f2 - b.f2) ≤ 24)))))))
theorem ite_eqs {p : Prop} [Decidable p] (b : Bool) : (if p then some b else some false) = some (decide p && b) := by by_cases h : p <;> simp [h]
theorem ite_nes {p : Prop} [Decidable p] (b : Bool) : (if p then some false else some b) = some (decide (¬ p) && b) := by by_cases h : p <;> simp [h]
theorem implAreTwins_eq (a b : IFind) : impl_AreTwins.f a.f0.f0 a.f0.f1 a.f0.f2 a.f0.f3 a.f0.f4 a.f1 a.f2 a.f3 b.f0.f0 b.f0.f1 b.f0.f2 b.f0.f3 b.f0.f4 b.f1 b.f2 b.f3 = some (isTw a b) := by
  unfold impl_AreTwins.f isTw isFd
  simp only [implIsFind_eq, inRange_eq, Option.bind_some, ite_eqs, ite_nes, ne_eq, Bool.decide_eq_true]
theorem specAreTwins_eq (a b : IFind) : spec_AreTwins.f a.f0.f0 a.f0.f1 a.f0.f2 a.f0.f3 a.f0.f4 a.f1 a.f2 a.f3 b.f0.f0 b.f0.f1 b.f0.f2 b.f0.f3 b.f0.f4 b.f1 b.f2 b.f3 = some (isTw a b) := by
  unfold spec_AreTwins.f isTw isFd
  simp only [specIsFind_eq, l1In_eq, Option.bind_some, ite_eqs, ite_nes, ne_eq, Bool.decide_eq_true]
theorem isFd_at {a : IFind} (h : isFd a = true) : 0 ≤ a.f2 ∧ a.f2 ≤ 100000 := by
  unfold isFd isF8 at h
  simp only [Bool.and_eq_true, decide_eq_true_eq] at h
  exact h.2.2.1
theorem isTw_sym (a b : IFind) : isTw a b = isTw b a := by
  unfold isTw
  cases ha : isFd a with
  | false => cases hb : isFd b <;> simp
  | true =>
    cases hb : isFd b with
    | false => simp
    | true =>
      have h1 := isFd_at ha
      have h2 := isFd_at hb
      rw [wrap_id (x := a.f2 - b.f2) (by omega) (by omega), wrap_id (x := b.f2 - a.f2) (by omega) (by omega)]
      simp only [Bool.true_and]
      rw [Bool.eq_iff_iff]
      simp only [Bool.and_eq_true, decide_eq_true_eq]
      omega
/-- The ids of those among the first n that have a twin ahead of them. -/
def twOut (l : List IFind) : Nat → List Int
  | 0 => []
  | n + 1 => twOut l n ++ (if (l.take n).any (isTw (fd l n)) = true then [(fd l n).f0.f0] else [])
theorem twOut_len (l : List IFind) : ∀ n, (twOut l n).length ≤ n
  | 0 => Nat.le_refl _
  | n + 1 => by
    have := twOut_len l n
    unfold twOut
    split <;> simp <;> omega
def twins (l : List IFind) : List Int := if areFd l = true then twOut l l.length else []
theorem twins_len (l : List IFind) : (twins l).length ≤ 20 := by
  unfold twins
  split
  · rename_i h
    have := twOut_len l l.length
    have := areFd_len h
    omega
  · simp
theorem p_eq (f x : IFind) : impl_TwinsOf.p f x = isTw f x := by
  unfold impl_TwinsOf.p
  rw [implAreTwins_eq]
  rfl
theorem idx_any (p : IFind → Bool) (l : List IFind) : (0 ≤ idxB p l 0) ↔ l.any p = true := by
  rcases idxB_in p z58 l 0 with ⟨h1, h2⟩ | ⟨j, h1, h2, h3, _⟩
  · rw [h1]
    constructor
    · intro h; omega
    · intro h
      obtain ⟨x, hx, hp⟩ := List.any_eq_true.1 h
      rw [h2 x hx] at hp
      cases hp
  · rw [h2]
    refine ⟨fun _ => List.any_eq_true.2 ⟨l[j], List.getElem_mem _, ?_⟩, fun _ => by omega⟩
    rw [← h3]
    simp [List.getD, h1]
theorem out_eq (l : List IFind) : ∀ n, impl_TwinsOf.out l n = twOut l n
  | 0 => rfl
  | n + 1 => by
    have e : impl_TwinsOf.p (fd l n) = isTw (fd l n) := funext (p_eq _)
    rw [impl_TwinsOf.out, twOut, out_eq l n, rd_fd, e]
    congr 1
    by_cases h : (l.take n).any (isTw (fd l n)) = true
    · rw [if_pos h, if_pos ((idx_any _ _).2 h)]
    · rw [if_neg h, if_neg (fun c => h ((idx_any _ _).1 c))]
theorem implTwinsOf_ev (l : List IFind) (hl : l.length ≤ 1048576) : Ev (fun k => impl_TwinsOf.f k l) (twins l) := by
  unfold impl_TwinsOf.f
  refine ev_bind (implAreFinds_ev l (by omega)) ?_
  unfold twins
  cases h : areFd l with
  | true =>
    rw [if_pos rfl]
    refine ev_const ?_
    rw [if_pos rfl, if_pos (by omega), out_eq]
  | false =>
    rw [if_neg (by simp)]
    refine ev_const ?_
    rw [if_neg (by simp)]
theorem specTwins_l1 (l : List IFind) (hl : l.length ≤ 1048576) (o : List Int) (ho : o.length ≤ 1048576) (i : Nat) (hi : i < l.length) (B : Bool) (r : List Int)
    (hR : Ev (fun k => spec_TwinsOf.l0 k l (if B = true then o ++ [(fd l i).f0.f0] else o) ((i + 1 : Nat) : Int)) r) :
    ∀ (d j : Nat) (b : Bool), j + d = i → (b || ((l.take i).drop j).any (isTw (fd l i))) = B → Ev (fun k => spec_TwinsOf.l1 k l o (i : Int) b (j : Int)) r := by
  intro d
  induction d with
  | zero =>
    intro j b hj hB
    refine ev_step (fun k => by simp only [spec_TwinsOf.l1]; rfl) (ev_iten (by omega) ?_)
    rw [List.drop_of_length_le (by rw [List.length_take]; omega), List.any_nil, Bool.or_false] at hB
    subst hB
    cases b with
    | false =>
      refine ev_iten (by simp) ?_
      rw [wrap_id (by omega) (by omega)]
      exact hR
    | true =>
      refine ev_itep rfl (ev_itep (by omega) (ev_itep (by omega) (ev_itep (by omega) ?_)))
      rw [wrap_id (by omega) (by omega), rd_fd]
      exact hR
  | succ d ih =>
    intro j b hj hB
    have hjl : j < (l.take i).length := by rw [List.length_take]; omega
    have e : ((l.take i).drop j).any (isTw (fd l i)) = (isTw (fd l i) (fd l j) || ((l.take i).drop (j + 1)).any (isTw (fd l i))) := by
      rw [List.drop_eq_getElem_cons hjl, List.any_cons, List.getElem_take, fd_get l j (by omega)]
    refine ev_step (fun k => by simp only [spec_TwinsOf.l1]; rfl) (ev_itep (by omega) ?_)
    rw [wrap_id (x := (j : Int) + 1) (by omega) (by omega)]
    cases b with
    | true => exact ev_itep rfl (ih (j + 1) true (by omega) (by rw [Bool.true_or] at hB ⊢; exact hB))
    | false =>
      refine ev_iten (by simp) (ev_itep (by omega) (ev_itep (by omega) (ev_itep (by omega) (ev_itep (by omega) ?_))))
      simp only [rd_fd, specAreTwins_eq, Option.bind_some]
      refine ih (j + 1) (isTw (fd l j) (fd l i)) (by omega) ?_
      rw [Bool.false_or, e, isTw_sym (fd l i) (fd l j)] at hB
      exact hB
theorem specTwins_l0 (l : List IFind) (hl : l.length ≤ 1048576) (h : areFd l = true) : ∀ (d i : Nat), i + d = l.length → Ev (fun k => spec_TwinsOf.l0 k l (twOut l i) (i : Int)) (twOut l l.length) := by
  intro d
  induction d with
  | zero =>
    intro i hi
    refine ev_step (fun k => by simp only [spec_TwinsOf.l0]; rfl) (ev_iten (by omega) (ev_step (fun k => by simp only [spec_TwinsOf.j1]; rfl) (ev_iten (by simp) (ev_some ?_))))
    rw [show i = l.length by omega]
  | succ d ih =>
    intro i hi
    have ho := twOut_len l i
    refine ev_step (fun k => by simp only [spec_TwinsOf.l0]; rfl) (ev_itep (by omega) (ev_bind (specAreFinds_ev l (by omega)) ?_))
    rw [h]
    refine ev_step (fun k => by simp only [spec_TwinsOf.j1]; rfl) (ev_itep (by first | rfl | trivial) ?_)
    refine specTwins_l1 l hl (twOut l i) (by omega) i (by omega) ((l.take i).any (isTw (fd l i))) _ ?_ i 0 false (by omega) (by rw [List.drop_zero, Bool.false_or])
    have hn := ih (i + 1) (by omega)
    have e : (if (l.take i).any (isTw (fd l i)) = true then twOut l i ++ [(fd l i).f0.f0] else twOut l i) = twOut l (i + 1) := by
      rw [twOut]
      split <;> simp
    rw [e]
    exact hn
theorem specTwinsOf_ev (l : List IFind) (hl : l.length ≤ 1048576) : Ev (fun k => spec_TwinsOf.f k l) (twins l) := by
  unfold spec_TwinsOf.f twins
  cases h : areFd l with
  | true =>
    rw [if_pos rfl]
    exact specTwins_l0 l hl h l.length 0 (by omega)
  | false =>
    rw [if_neg (by simp)]
    refine ev_step (fun k => by simp only [spec_TwinsOf.l0]; rfl) (ev_ite (fun _ => ev_bind (specAreFinds_ev l (by omega)) ?_) (fun _ => ev_step (fun k => by simp only [spec_TwinsOf.j1]; rfl) (ev_iten (by simp) (ev_some rfl))))
    rw [h]
    exact ev_step (fun k => by simp only [spec_TwinsOf.j1]; rfl) (ev_iten (by simp) (ev_some rfl))
end Go.Proofs.Ytglpmjcknhcjcaa.PFnTwins
namespace Go.Proofs.Ytglpmjcknhcjcaa.PFnTwins
open Go.RowKit Go.Proofs.YtglpmjcknhcjcaaW.PrintWords Go.Proofs.YtglpmjcknhcjcaaW.PrintLast Go.Proofs.Ytglpmjcknhcjcaa.EvLib
theorem specHas_l0 (l : List Int) (hl : l.length ≤ 1048576) (n : Int) : ∀ (d i : Nat), i + d = l.length → Ev (fun k => spec_l8Has.l0 k l n (i : Int)) (decide (n ∈ l.drop i)) := by
  intro d
  induction d with
  | zero =>
    intro i hi
    exact ev_step (fun k => by simp only [spec_l8Has.l0]; rfl) (ev_iten (by omega) (ev_some (by rw [List.drop_of_length_le (by omega)]; simp)))
  | succ d ih =>
    intro i hi
    have hil : i < l.length := by omega
    have r1 : rd l (i : Int) = l[i] := by unfold rd; simp [List.getD, hil]
    refine ev_step (fun k => by simp only [spec_l8Has.l0]; rfl) (ev_itep (by omega) (ev_itep (by omega) (ev_ite (fun c => ev_some ?_) (fun c => ?_))))
    · rw [List.drop_eq_getElem_cons hil, ← r1, c]; simp
    · rw [wrap_id (by omega) (by omega), List.drop_eq_getElem_cons hil, ← r1]
      refine ev_eq (ih (i + 1) (by omega)) ?_
      rw [decide_eq_decide, List.mem_cons]
      exact ⟨fun h => .inr h, fun h => h.resolve_left (fun e => c e.symm)⟩
theorem specHas_ev (l : List Int) (hl : l.length ≤ 1048576) (n : Int) : Ev (fun k => spec_l8Has.f k l n) (decide (n ∈ l)) := by
  unfold spec_l8Has.f
  exact specHas_l0 l hl n l.length 0 (by omega)
theorem implIndex_l0 (l : List Int) (hl : l.length ≤ 1048576) (n : Int) : ∀ (d i : Nat), i + d = l.length → ∃ r : Int, Ev (fun k => slices_Index_int_int.l0 k l n (l.length : Int) (i : Int)) r ∧ (decide (r ≥ 0) = decide (n ∈ l.drop i)) := by
  intro d
  induction d with
  | zero =>
    intro i hi
    exact ⟨-1, ev_step (fun k => by simp only [slices_Index_int_int.l0]; rfl) (ev_iten (by omega) (ev_some rfl)), by rw [List.drop_of_length_le (by omega)]; simp⟩
  | succ d ih =>
    intro i hi
    have hil : i < l.length := by omega
    have r1 : rd l (i : Int) = l[i] := by unfold rd; simp [List.getD, hil]
    by_cases c : n = rd l (i : Int)
    · refine ⟨(i : Int), ev_step (fun k => by simp only [slices_Index_int_int.l0]; rfl) (ev_itep (by omega) (ev_itep (by omega) (ev_itep (by omega) (ev_itep c (ev_some rfl))))), ?_⟩
      rw [List.drop_eq_getElem_cons hil, ← r1, ← c]; simp
    · obtain ⟨r, hr, he⟩ := ih (i + 1) (by omega)
      refine ⟨r, ev_step (fun k => by simp only [slices_Index_int_int.l0]; rfl) (ev_itep (by omega) (ev_itep (by omega) (ev_itep (by omega) (ev_iten c ?_)))), ?_⟩
      · rw [wrap_id (by omega) (by omega)]; exact hr
      · rw [he, List.drop_eq_getElem_cons hil, ← r1, decide_eq_decide, List.mem_cons]
        exact ⟨fun h => .inr h, fun h => h.resolve_left (fun e => c e)⟩
theorem implContains_ev (l : List Int) (hl : l.length ≤ 1048576) (n : Int) : Ev (fun k => slices_Contains_int_int.f k l n) (decide (n ∈ l)) := by
  unfold slices_Contains_int_int.f slices_Index_int_int.f
  obtain ⟨r, hr, he⟩ := implIndex_l0 l hl n l.length 0 (by omega)
  exact ev_bind hr (ev_some (by rw [he, List.drop_zero]))
/-- Those of l that t does not name. -/
def dropOut (t : List Int) (l : List IFind) : List IFind := l.filter (fun x => !decide (x.f0.f0 ∈ t))
def dropTw (l : List IFind) : List IFind := dropOut (twins l) l
theorem dropTw_len (l : List IFind) : (dropTw l).length ≤ l.length := List.length_filter_le _ _
theorem drop_succ (t : List Int) (l : List IFind) (i : Nat) (h : i < l.length) : dropOut t (l.take (i + 1)) = if decide ((fd l i).f0.f0 ∈ t) = true then dropOut t (l.take i) else dropOut t (l.take i) ++ [fd l i] := by
  unfold dropOut
  rw [List.take_succ_eq_append_getElem h, List.filter_append, ← fd_get l i h]
  by_cases c : (fd l i).f0.f0 ∈ t <;> simp [c]
theorem drop_le (t : List Int) (l : List IFind) (i : Nat) : (dropOut t (l.take i)).length ≤ i := by
  have h1 := List.length_filter_le (fun x : IFind => !decide (x.f0.f0 ∈ t)) (l.take i)
  have h2 := List.length_take_le i l
  unfold dropOut; omega
theorem specDrop_l0 (l : List IFind) (hl : l.length ≤ 1048576) (t : List Int) (ht : t.length ≤ 1048576) : ∀ (d i : Nat), i + d = l.length → Ev (fun k => spec_DropTwins.l0 k l (dropOut t (l.take i)) t (i : Int)) (dropOut t l) := by
  intro d
  induction d with
  | zero =>
    intro i hi
    exact ev_step (fun k => by simp only [spec_DropTwins.l0]; rfl) (ev_iten (by omega) (ev_some (by rw [List.take_of_length_le (by omega)])))
  | succ d ih =>
    intro i hi
    have hn := ih (i + 1) (by omega)
    have hle := drop_le t l i
    rw [drop_succ t l i (by omega)] at hn
    refine ev_step (fun k => by simp only [spec_DropTwins.l0]; rfl) (ev_itep (by omega) (ev_itep (by omega) (ev_bind (specHas_ev t ht _) ?_)))
    rw [rd_fd, wrap_id (by omega) (by omega)]
    refine ev_ite (fun c => ?_) (fun c => ev_itep (by omega) ?_)
    · rw [if_pos c] at hn; exact hn
    · rw [if_neg c] at hn; exact hn
theorem specDropTwins_ev (l : List IFind) (hl : l.length ≤ 1048576) : Ev (fun k => spec_DropTwins.f k l) (dropTw l) := by
  unfold spec_DropTwins.f
  refine ev_bind (specTwinsOf_ev l hl) ?_
  exact specDrop_l0 l hl (twins l) (by have := twins_len l; omega) l.length 0 (by omega)
theorem implDrop_l0 (l : List IFind) (hl : l.length ≤ 1048576) (t : List Int) (ht : t.length ≤ 1048576) : ∀ (d i : Nat), i + d = l.length → Ev (fun k => impl_DropTwins.l0 k t (dropOut t (l.take i)) l (l.length : Int) (i : Int)) (dropOut t l) := by
  intro d
  induction d with
  | zero =>
    intro i hi
    exact ev_step (fun k => by simp only [impl_DropTwins.l0]; rfl) (ev_iten (by omega) (ev_some (by rw [List.take_of_length_le (by omega)])))
  | succ d ih =>
    intro i hi
    have hn := ih (i + 1) (by omega)
    have hle := drop_le t l i
    rw [drop_succ t l i (by omega)] at hn
    refine ev_step (fun k => by simp only [impl_DropTwins.l0]; rfl) (ev_itep (by omega) (ev_itep (by omega) (ev_itep (by omega) (ev_bind (implContains_ev t ht _) ?_))))
    rw [rd_fd, wrap_id (by omega) (by omega)]
    refine ev_ite (fun c => ?_) (fun c => ev_itep (by omega) ?_)
    · rw [if_pos c] at hn; exact hn
    · rw [if_neg c] at hn; exact hn
theorem implDropTwins_ev (l : List IFind) (hl : l.length ≤ 1048576) : Ev (fun k => impl_DropTwins.f k l) (dropTw l) := by
  unfold impl_DropTwins.f
  refine ev_bind (implTwinsOf_ev l hl) ?_
  exact implDrop_l0 l hl (twins l) (by have := twins_len l; omega) l.length 0 (by omega)
end Go.Proofs.Ytglpmjcknhcjcaa.PFnTwins
namespace Go.Proofs.Ytglpmjcknhcjcaa.PFnTwins
open Go.RowKit Go.Proofs.YtglpmjcknhcjcaaW.PrintWords Go.Proofs.YtglpmjcknhcjcaaW.PrintLast Go.Proofs.Ytglpmjcknhcjcaa.EvLib
abbrev IReport := S41
end Go.Proofs.Ytglpmjcknhcjcaa.PFnTwins
namespace Go.Proofs.Ytglpmjcknhcjcaa.PFnTwins
open Go.RowKit Go.Proofs.YtglpmjcknhcjcaaW.PrintWords Go.Proofs.YtglpmjcknhcjcaaW.PrintLast Go.Proofs.YtglpmjcknhcjcaaW.PrintMore Go.Proofs.Ytglpmjcknhcjcaa.EvLib
def aP (l : List Int) (lo hi : Int) (i : Nat) : Bool := decide (lo ≤ rd l (i : Int) ∧ rd l (i : Int) ≤ hi) && (decide (i = 0) || decide (rd l ((i : Int) - 1) < rd l (i : Int)))
def asc (l : List Int) (lo hi : Int) : Bool := (List.range l.length).all (aP l lo hi) && true
theorem implAsc_ev (l : List Int) (lo hi : Int) (hl : l.length ≤ 2097152) : Ev (fun k => impl_isAscending.f k l lo hi) (asc l lo hi) := by
  unfold impl_isAscending.f
  refine ev_all (fun k i => impl_isAscending.l0 k l lo hi l (l.length : Int) i) l.length (aP l lo hi) true (by omega) (fun k => ?_) (fun k i hi' => ?_)
  · simp only [impl_isAscending.l0]
    rw [if_neg (by omega)]
  · simp only [impl_isAscending.l0, inRange_eq, Option.bind_some]
    rw [if_pos (by omega), if_pos (by omega), if_pos (by omega)]
    unfold aP
    by_cases c : lo ≤ rd l (i : Int) ∧ rd l (i : Int) ≤ hi
    · rw [decide_eq_true c, if_pos rfl, Bool.true_and]
      by_cases z : i = 0
      · subst z
        rw [if_neg (by omega), if_pos (by simp)]
      · have e : wrap64 ((i : Int) - 1) = (i : Int) - 1 := wrap_id (by omega) (by omega)
        rw [if_pos (by omega), e, if_pos (by omega), if_pos (by omega), decide_eq_false z, Bool.false_or]
        by_cases g : rd l (i : Int) ≤ rd l ((i : Int) - 1)
        · rw [if_pos g, if_neg (by simp; omega)]
        · rw [if_neg g, if_pos (by simp; omega)]
    · rw [decide_eq_false c, if_neg (by simp), if_neg (by simp)]
theorem rd_get (l : List Int) (i : Nat) (h : i < l.length) : rd l (i : Int) = l[i] := by
  unfold rd
  rw [Int.toNat_natCast, List.getD_eq_getElem?_getD, List.getElem?_eq_getElem h, Option.getD_some]
def com (a b : List Int) : List Int := a.filter (fun x => decide (x ∈ b))
def bth (a b : List Int) : List Int × Bool := if a.length = 0 then (b, true) else if b.length = 0 then (a, true) else (com a b, decide ((com a b).length > 0))
theorem idx_l0 (l : List Int) (hl : l.length ≤ 2097152) (a : Int) : ∀ (d i : Nat), i + d = l.length → ∃ r : Int, Ev (fun k => slices_Index_int_int.l0 k l a (l.length : Int) (i : Int)) r ∧ decide (r ≥ 0) = decide (a ∈ l.drop i) := by
  intro d
  induction d with
  | zero =>
    intro i hi
    exact ⟨-1, ev_step (fun k => by simp only [slices_Index_int_int.l0]; rfl) (ev_iten (by omega) (ev_some rfl)), by rw [List.drop_of_length_le (by omega)]; simp⟩
  | succ d ih =>
    intro i hi
    have hd : l.drop i = l[i]'(by omega) :: l.drop (i + 1) := List.drop_eq_getElem_cons (by omega)
    by_cases c : a = l[i]'(by omega)
    · refine ⟨(i : Int), ev_step (fun k => by simp only [slices_Index_int_int.l0]; rfl) (ev_itep (by omega) (ev_itep (by omega) (ev_itep (by omega) (ev_itep (by rw [rd_get l i (by omega)]; exact c) (ev_some rfl))))), ?_⟩
      rw [hd, decide_eq_decide, List.mem_cons]
      exact ⟨fun _ => .inl c, fun _ => by omega⟩
    · obtain ⟨r, h1, h2⟩ := ih (i + 1) (by omega)
      refine ⟨r, ev_step (fun k => by simp only [slices_Index_int_int.l0]; rfl) (ev_itep (by omega) (ev_itep (by omega) (ev_itep (by omega) (ev_iten (by rw [rd_get l i (by omega)]; exact c) ?_)))), ?_⟩
      · rw [wrap_id (by omega) (by omega)]; exact h1
      · rw [h2, hd, decide_eq_decide, List.mem_cons]
        exact ⟨fun h => .inr h, fun h => h.elim (fun e => absurd e c) id⟩
theorem contains_ev (l : List Int) (hl : l.length ≤ 2097152) (a : Int) : Ev (fun k => slices_Contains_int_int.f k l a) (decide (a ∈ l)) := by
  unfold slices_Contains_int_int.f slices_Index_int_int.f
  obtain ⟨r, h1, h2⟩ := idx_l0 l hl a l.length 0 (by omega)
  rw [List.drop_zero] at h2
  exact ev_bind h1 (ev_some h2)
theorem com_take (a b : List Int) (i : Nat) (h : i < a.length) : com (a.take (i + 1)) b = com (a.take i) b ++ (if a[i] ∈ b then [a[i]] else []) := by
  unfold com
  rw [List.take_succ_eq_append_getElem h, List.filter_append]
  by_cases c : a[i] ∈ b
  · rw [if_pos c]; simp [c]
  · rw [if_neg c]; simp [c]
theorem com_len (a b : List Int) : (com a b).length ≤ a.length := List.length_filter_le _ _
theorem implBoth_l0 (a b : List Int) (ha : a.length ≤ 2097152) (hb : b.length ≤ 2097152) : ∀ (d i : Nat), i + d = a.length → Ev (fun k => impl_both.l0 k b (com (a.take i) b) a (a.length : Int) (i : Int)) (com a b, decide ((com a b).length > 0)) := by
  intro d
  induction d with
  | zero =>
    intro i hi
    refine ev_step (fun k => by simp only [impl_both.l0]; rfl) (ev_iten (by omega) (ev_some ?_))
    rw [List.take_of_length_le (by omega)]
    congr 1
    apply decide_eq_decide.2
    omega
  | succ d ih =>
    intro i hi
    have hr := ih (i + 1) (by omega)
    have hlen := com_len (a.take i) b
    rw [List.length_take] at hlen
    have e2 : wrap64 ((i : Int) + 1) = ((i + 1 : Nat) : Int) := by rw [wrap_id (by omega) (by omega)]; omega
    rw [com_take a b i (by omega)] at hr
    refine ev_step (fun k => by simp only [impl_both.l0]; rfl) (ev_itep (by omega) ?_)
    rw [rd_get a i (by omega), e2]
    refine ev_itep (by omega) (ev_itep (by omega) (ev_bind (contains_ev b hb _) (ev_ite (fun c => ?_) (fun c => ?_))))
    · rw [if_pos (of_decide_eq_true c)] at hr
      exact ev_itep (by omega) hr
    · rw [if_neg (fun h => c (decide_eq_true h)), List.append_nil] at hr
      exact hr
theorem implBoth_ev (a b : List Int) (ha : a.length ≤ 2097152) (hb : b.length ≤ 2097152) : Ev (fun k => impl_both.f k a b) (bth a b) := by
  unfold impl_both.f bth slices_Clone_int_int.f
  refine ev_ite (fun c => ?_) (fun c => ev_ite (fun c2 => ?_) (fun c2 => ?_))
  · rw [if_pos (show a.length = 0 by omega), if_pos (show b.length < 17592186044416 by omega)]
    exact ev_bindc rfl (ev_some rfl)
  · rw [if_neg (show ¬ a.length = 0 by omega), if_pos (show b.length = 0 by omega), if_pos (show a.length < 17592186044416 by omega)]
    exact ev_bindc rfl (ev_some rfl)
  · rw [if_neg (show ¬ a.length = 0 by omega), if_neg (show ¬ b.length = 0 by omega)]
    exact implBoth_l0 a b ha hb a.length 0 (by omega)
def spn (e f : Int) : Bool := decide (0 ≤ e ∧ e ≤ 100000) && (decide (0 ≤ f ∧ f ≤ 100000) && decide (e ≤ f))
theorem implSpan_eq (e f : Int) : impl_IsSpan.f e f = some (spn e f) := by
  unfold impl_IsSpan.f spn
  simp only [inRange_eq, Option.bind_some]
  by_cases h1 : 0 ≤ e ∧ e ≤ 100000
  · rw [decide_eq_true h1, if_pos rfl, Bool.true_and]
    by_cases h2 : 0 ≤ f ∧ f ≤ 100000
    · rw [decide_eq_true h2, if_pos rfl, Bool.true_and]
    · rw [decide_eq_false h2, if_neg (by simp), Bool.false_and]
  · rw [decide_eq_false h1, if_neg (by simp), Bool.false_and]
def isRep (a b : Int) (l : List Int) (c d : Int) (m : List Int) (e f : Int) : Bool :=
  decide (1 ≤ a ∧ a ≤ 999) && (decide (1 ≤ b ∧ b ≤ 8) && (asc l 0 7 && (decide (1 ≤ c) && (decide (c ≤ d) && (decide (d ≤ 50) && (asc m 1 30 && (decide ((m.length : Int) ≤ 10) && spn e f)))))))
theorem implRep_ev (a b : Int) (l : List Int) (c d : Int) (m : List Int) (e f : Int) (hl : l.length ≤ 2097152) (hm : m.length ≤ 2097152) : Ev (fun k => impl_IsReport.f k a b l c d m e f) (isRep a b l c d m e f) := by
  unfold impl_IsReport.f isRep
  refine ev_bindc (inRange_eq _ _ _) (ev_ite (fun g => ?_) (fun g => ev_some (by rw [Bool.eq_false_iff.2 g, Bool.false_and])))
  rw [g, Bool.true_and]
  refine ev_bindc (inRange_eq _ _ _) (ev_ite (fun g => ?_) (fun g => ev_some (by rw [Bool.eq_false_iff.2 g, Bool.false_and])))
  rw [g, Bool.true_and]
  refine ev_bind (implAsc_ev l 0 7 hl) (ev_ite (fun g => ?_) (fun g => ev_some (by rw [Bool.eq_false_iff.2 g, Bool.false_and])))
  rw [g, Bool.true_and]
  refine ev_ite (fun g => ?_) (fun g => ev_some (by rw [decide_eq_false g, Bool.false_and]))
  rw [decide_eq_true g, Bool.true_and]
  refine ev_ite (fun g => ?_) (fun g => ev_some (by rw [decide_eq_false g, Bool.false_and]))
  rw [decide_eq_true g, Bool.true_and]
  refine ev_ite (fun g => ?_) (fun g => ev_some (by rw [decide_eq_false g, Bool.false_and]))
  rw [decide_eq_true g, Bool.true_and]
  refine ev_bind (implAsc_ev m 1 30 hm) (ev_ite (fun g => ?_) (fun g => ev_some (by rw [Bool.eq_false_iff.2 g, Bool.false_and])))
  rw [g, Bool.true_and]
  refine ev_ite (fun g => ?_) (fun g => ev_some (by rw [decide_eq_false g, Bool.false_and]))
  rw [decide_eq_true g, Bool.true_and]
  exact ev_bindc (implSpan_eq _ _) (ev_some rfl)
theorem getD_mem {α : Type} (l : List α) (i : Nat) (z : α) (h : i < l.length) : l.getD i z ∈ l := by
  have : l.getD i z = l[i] := by simp [List.getD, h]
  rw [this]
  exact List.getElem_mem _
def Small (l : List IReport) : Prop := l.length ≤ 1048576 ∧ ∀ x ∈ l, x.f2.length ≤ 1048576 ∧ x.f5.length ≤ 1048576
def rep (l : List IReport) (i : Nat) : IReport := rd_T41 l (i : Int)
theorem rd_rep (l : List IReport) (i : Nat) : rd_T41 l (i : Int) = rep l i := rfl
theorem rep_small {l : List IReport} (h : Small l) (i : Nat) (hi : i < l.length) : (rep l i).f2.length ≤ 1048576 ∧ (rep l i).f5.length ≤ 1048576 := by
  unfold rep rd_T41
  exact h.2 _ (getD_mem _ _ _ (by omega))
def good1 (x : IReport) : Bool := isRep x.f0 x.f1 x.f2 x.f3 x.f4 x.f5 x.f6.f0 x.f6.f1
def goods (l : List IReport) : Nat → Nat → Bool
  | 0, _ => true
  | d + 1, i => if good1 (rep l i) = true then (if 0 < i then (if (rep l i).f0 ≤ (rep l (i - 1)).f0 then false else goods l d (i + 1)) else goods l d (i + 1)) else false
theorem implAre_l0 (l : List IReport) (h : Small l) : ∀ (d i : Nat), i + d = l.length → Ev (fun k => impl_AreReports.l0 k l l (l.length : Int) (i : Int)) (goods l d i) := by
  intro d
  induction d with
  | zero =>
    intro i hi
    exact ev_step (fun k => by simp only [impl_AreReports.l0]; rfl) (ev_iten (by omega) (ev_some rfl))
  | succ d ih =>
    intro i hi
    have := h.1
    have hx := rep_small h i (by omega)
    refine ev_step (fun k => by simp only [impl_AreReports.l0]; rfl) (ev_itep (by omega) (ev_itep (by omega) (ev_itep (by omega) ?_)))
    simp only [rd_rep, wrap_id (x := (i : Int) + 1) (by omega) (by omega)]
    refine ev_bind (implRep_ev _ _ _ _ _ _ _ _ (by omega) (by omega)) ?_
    have hn := ih (i + 1) (by omega)
    rw [goods]
    refine ev_ite (fun c => ?_) (fun c => ?_)
    · rw [if_pos (show good1 (rep l i) = true from c)]
      by_cases z : 0 < i
      · have e : wrap64 ((i : Int) - 1) = ((i - 1 : Nat) : Int) := by rw [wrap_id (by omega) (by omega)]; omega
        rw [if_pos z]
        simp only [e, rd_rep]
        refine ev_itep (by omega) (ev_itep (by omega) (ev_itep (by omega) (ev_ite (fun g => ?_) (fun g => ?_))))
        · rw [if_pos g]; exact ev_some rfl
        · rw [if_neg g]; exact hn
      · rw [if_neg z]
        exact ev_iten (by omega) hn
    · rw [if_neg (show ¬ good1 (rep l i) = true from c)]
      exact ev_some rfl
def are (l : List IReport) : Bool := goods l l.length 0 && decide (l.length ≤ 20)
theorem implAre_ev (l : List IReport) (h : Small l) : Ev (fun k => impl_AreReports.f k l) (are l) := by
  unfold impl_AreReports.f are
  by_cases c : l.length ≤ 20
  · rw [decide_eq_true c, Bool.and_true]
    exact ev_iten (by omega) (implAre_l0 l h l.length 0 (by omega))
  · rw [decide_eq_false c, Bool.and_false]
    exact ev_itep (by omega) (ev_some rfl)
theorem goods_step (l : List IReport) : ∀ (d i : Nat), goods l d i = true → ∀ j, i ≤ j → j < i + d → 0 < j → (rep l (j - 1)).f0 < (rep l j).f0 := by
  intro d
  induction d with
  | zero => intro i _ j h1 h2 _; omega
  | succ d ih =>
    intro i hg j h1 h2 h3
    rw [goods] at hg
    split at hg
    · by_cases z : 0 < i
      · rw [if_pos z] at hg
        split at hg
        · cases hg
        · rename_i g
          by_cases e : j = i
          · rw [e]; omega
          · exact ih (i + 1) hg j (by omega) (by omega) h3
      · rw [if_neg z] at hg
        exact ih (i + 1) hg j (by omega) (by omega) h3
    · cases hg
theorem are_lt {l : List IReport} (h : are l = true) : ∀ (d a : Nat), a + d + 1 < l.length → (rep l a).f0 < (rep l (a + d + 1)).f0 := by
  unfold are at h
  rw [Bool.and_eq_true] at h
  have hs := goods_step l l.length 0 h.1
  intro d
  induction d with
  | zero => intro a ha; exact hs (a + 0 + 1) (by omega) (by omega) (by omega)
  | succ d ih =>
    intro a ha
    have h1 := ih a (by omega)
    have h2 := hs (a + (d + 1) + 1) (by omega) (by omega) (by omega)
    rw [show a + (d + 1) + 1 - 1 = a + d + 1 by omega] at h2
    omega
theorem rd_nat (l : List Int) (i : Nat) : rd l (i : Int) = l.getD i 0 := by unfold rd; rw [Int.toNat_natCast]
theorem len20 {l : List IReport} (ha : are l = true) : l.length ≤ 20 := by
  unfold are at ha
  rw [Bool.and_eq_true, decide_eq_true_eq] at ha
  exact ha.2
end Go.Proofs.Ytglpmjcknhcjcaa.PFnTwins
namespace Go.Proofs.Ytglpmjcknhcjcaa.PFnTwins
open Go.RowKit Go.Proofs.YtglpmjcknhcjcaaW.PrintWords Go.Proofs.YtglpmjcknhcjcaaW.PrintLast Go.Proofs.YtglpmjcknhcjcaaW.PrintMore Go.Proofs.Ytglpmjcknhcjcaa.EvLib
theorem mx_sym (a b : Int) : mx a b = mx b a := by unfold mx; split <;> split <;> omega
theorem mn_sym (a b : Int) : mn a b = mn b a := by unfold mn; split <;> split <;> omega
theorem com_sym (a b : List Int) : decide ((com a b).length > 0) = decide ((com b a).length > 0) := by
  have key : ∀ a b : List Int, (com a b).length > 0 → (com b a).length > 0 := by
    intro a b h
    obtain ⟨x, hx⟩ := List.exists_mem_of_length_pos h
    unfold com at hx
    rw [List.mem_filter, decide_eq_true_eq] at hx
    refine List.length_pos_of_mem (a := x) ?_
    unfold com
    rw [List.mem_filter, decide_eq_true_eq]
    exact ⟨hx.2, hx.1⟩
  exact decide_eq_decide.2 ⟨key a b, key b a⟩
theorem bth_sym (a b : List Int) : (bth a b).2 = (bth b a).2 := by
  unfold bth
  by_cases h1 : a.length = 0
  · by_cases h2 : b.length = 0
    · rw [if_pos h1, if_pos h2]
    · rw [if_pos h1, if_neg h2, if_pos h1]
  · by_cases h2 : b.length = 0
    · rw [if_neg h1, if_pos h2, if_pos h2]
    · rw [if_neg h1, if_neg h2, if_neg h2, if_neg h1]
      exact com_sym a b
def own (a0 a1 : Int) (l2 : List Int) (a3 a4 : Int) (l5 : List Int) (a6 a7 b0 b1 : Int) (m2 : List Int) (b3 b4 : Int) (m5 : List Int) (b6 b7 : Int) : Bool :=
  (isRep a0 a1 l2 a3 a4 l5 a6 a7 && isRep b0 b1 m2 b3 b4 m5 b6 b7 && decide (a1 = b1) && (bth l2 m2).2 && (bth l5 m5).2 && decide (mx a3 b3 ≤ mn a4 b4)) && (spn a6 a7 && spn b6 b7 && spn (mx a6 b6) (mn a7 b7))
theorem own_sym (a0 a1 : Int) (l2 : List Int) (a3 a4 : Int) (l5 : List Int) (a6 a7 b0 b1 : Int) (m2 : List Int) (b3 b4 : Int) (m5 : List Int) (b6 b7 : Int) :
    own a0 a1 l2 a3 a4 l5 a6 a7 b0 b1 m2 b3 b4 m5 b6 b7 = own b0 b1 m2 b3 b4 m5 b6 b7 a0 a1 l2 a3 a4 l5 a6 a7 := by
  unfold own
  rw [mx_sym a3 b3, mn_sym a4 b4, mx_sym a6 b6, mn_sym a7 b7, bth_sym l2 m2, bth_sym l5 m5, Bool.and_comm (isRep a0 a1 l2 a3 a4 l5 a6 a7), Bool.and_comm (spn a6 a7)]
  rw [show decide (a1 = b1) = decide (b1 = a1) from decide_eq_decide.2 ⟨Eq.symm, Eq.symm⟩]
theorem sharp_ev (a0 a1 : Int) (l2 : List Int) (a3 a4 : Int) (l5 : List Int) (a6 a7 b0 b1 : Int) (m2 : List Int) (b3 b4 : Int) (m5 : List Int) (b6 b7 : Int)
    (z1 : l2.length ≤ 1048576) (z2 : l5.length ≤ 1048576) (z3 : m2.length ≤ 1048576) (z4 : m5.length ≤ 1048576) :
    ∃ x : Int × Int × List Int × Int × Int × List Int × Int × Int × Bool, Ev (fun k => impl_Sharpen.f k a0 a1 l2 a3 a4 l5 a6 a7 b0 b1 m2 b3 b4 m5 b6 b7) x ∧
      x.2.2.2.2.2.2.2.2 = (isRep a0 a1 l2 a3 a4 l5 a6 a7 && isRep b0 b1 m2 b3 b4 m5 b6 b7 && decide (a1 = b1) && (bth l2 m2).2 && (bth l5 m5).2 && decide (mx a3 b3 ≤ mn a4 b4)) := by
  have i1 := implRep_ev a0 a1 l2 a3 a4 l5 a6 a7 (by omega) (by omega)
  have i2 := implRep_ev b0 b1 m2 b3 b4 m5 b6 b7 (by omega) (by omega)
  have c1 := implBoth_ev l2 m2 (by omega) (by omega)
  have c2 := implBoth_ev l5 m5 (by omega) (by omega)
  have gT : Ev (fun k => impl_Sharpen.j0 k true a0 a1 l2 a3 a4 l5 a6 a7 b0 b1 m2 b3 b4 m5 b6 b7) (0, 0, [], 0, 0, [], 0, 0, false) :=
    ev_step (fun k => by simp only [impl_Sharpen.j0]; rfl) (ev_itep (show true = true from rfl) (ev_some rfl))
  unfold impl_Sharpen.f
  by_cases ha : isRep a0 a1 l2 a3 a4 l5 a6 a7 = true
  · by_cases hb : isRep b0 b1 m2 b3 b4 m5 b6 b7 = true
    · by_cases hk : a1 = b1
      · have hk2 : (a1 != b1) = false := by simp [hk]
        rw [ha, hb, decide_eq_true hk]
        have run : ∀ x, Ev (fun k => (impl_both.f k l2 m2).bind fun bt150 => ((impl_both.f k l5 m5).bind fun bt154 => (if bt150.2 = true then (if bt154.2 = true then (if (mx a3 b3) > (mn a4 b4) then (some (0, 0, ([] : List Int), 0, 0, ([] : List Int), 0, 0, false)) else (some (a0, a1, bt150.1, mx a3 b3, mn a4 b4, bt154.1, mx a6 b6, mx (mx a6 b6) (mn a7 b7), true))) else (some (0, 0, ([] : List Int), 0, 0, ([] : List Int), 0, 0, false))) else (some (0, 0, ([] : List Int), 0, 0, ([] : List Int), 0, 0, false))))) x →
            Ev (fun k => (impl_IsReport.f k a0 a1 l2 a3 a4 l5 a6 a7).bind fun t147 => (if t147 = true then ((impl_IsReport.f k b0 b1 m2 b3 b4 m5 b6 b7).bind fun t148 => (if t148 = true then (impl_Sharpen.j0 k (a1 != b1) a0 a1 l2 a3 a4 l5 a6 a7 b0 b1 m2 b3 b4 m5 b6 b7) else (impl_Sharpen.j0 k true a0 a1 l2 a3 a4 l5 a6 a7 b0 b1 m2 b3 b4 m5 b6 b7))) else (impl_Sharpen.j0 k true a0 a1 l2 a3 a4 l5 a6 a7 b0 b1 m2 b3 b4 m5 b6 b7))) x := by
          intro x hx
          refine ev_bind i1 (ev_itep ha (ev_bind i2 (ev_itep hb ?_)))
          rw [hk2]
          exact ev_step (fun k => by simp only [impl_Sharpen.j0]; rfl) (ev_iten (by simp) hx)
        by_cases hc : (bth l2 m2).2 = true
        · rw [hc]
          by_cases hd : (bth l5 m5).2 = true
          · rw [hd]
            by_cases hx : mx a3 b3 ≤ mn a4 b4
            · exact ⟨_, run _ (ev_bind c1 (ev_bind c2 (ev_itep hc (ev_itep hd (ev_iten (Int.not_lt.2 hx) (ev_some rfl)))))), by rw [decide_eq_true hx]; rfl⟩
            · exact ⟨_, run _ (ev_bind c1 (ev_bind c2 (ev_itep hc (ev_itep hd (ev_itep (Int.not_le.1 hx) (ev_some rfl)))))), by rw [decide_eq_false hx]; rfl⟩
          · exact ⟨_, run _ (ev_bind c1 (ev_bind c2 (ev_itep hc (ev_iten hd (ev_some rfl))))), by rw [Bool.eq_false_iff.2 hd]; rfl⟩
        · exact ⟨_, run _ (ev_bind c1 (ev_bind c2 (ev_iten hc (ev_some rfl)))), by rw [Bool.eq_false_iff.2 hc]; rfl⟩
      · refine ⟨(0, 0, [], 0, 0, [], 0, 0, false), ?_, by rw [ha, hb, decide_eq_false hk]; rfl⟩
        refine ev_bind i1 (ev_itep ha (ev_bind i2 (ev_itep hb ?_)))
        rw [show (a1 != b1) = true by simpa using hk]
        exact gT
    · exact ⟨_, ev_bind i1 (ev_itep ha (ev_bind i2 (ev_iten hb gT))), by rw [ha, Bool.eq_false_iff.2 hb]; rfl⟩
  · exact ⟨_, ev_bind i1 (ev_iten ha gT), by rw [Bool.eq_false_iff.2 ha]; rfl⟩
theorem meet_ev (a b c d : Int) : ∃ x : Int × Int × Bool, impl_Meet.f a b c d = some x ∧ x.2.2 = (spn a b && spn c d && spn (mx a c) (mn b d)) := by
  unfold impl_Meet.f
  simp only [implSpan_eq, Option.bind_some]
  cases h1 : spn a b
  · exact ⟨_, if_neg (by simp), rfl⟩
  · cases h2 : spn c d
    · exact ⟨_, (if_pos rfl).trans (if_neg (by simp)), rfl⟩
    · cases h3 : spn (mx a c) (mn b d)
      · exact ⟨_, (if_pos rfl).trans ((if_pos rfl).trans (if_neg (by simp))), rfl⟩
      · exact ⟨_, (if_pos rfl).trans ((if_pos rfl).trans (if_pos rfl)), rfl⟩
theorem own_ev (a0 a1 : Int) (l2 : List Int) (a3 a4 : Int) (l5 : List Int) (a6 a7 b0 b1 : Int) (m2 : List Int) (b3 b4 : Int) (m5 : List Int) (b6 b7 : Int)
    (z1 : l2.length ≤ 1048576) (z2 : l5.length ≤ 1048576) (z3 : m2.length ≤ 1048576) (z4 : m5.length ≤ 1048576) :
    Ev (fun k => impl_SameOwner.f k a0 a1 l2 a3 a4 l5 a6 a7 b0 b1 m2 b3 b4 m5 b6 b7) (own a0 a1 l2 a3 a4 l5 a6 a7 b0 b1 m2 b3 b4 m5 b6 b7) := by
  obtain ⟨x, hx, ex⟩ := sharp_ev a0 a1 l2 a3 a4 l5 a6 a7 b0 b1 m2 b3 b4 m5 b6 b7 z1 z2 z3 z4
  obtain ⟨m, hm, em⟩ := meet_ev a6 a7 b6 b7
  unfold impl_SameOwner.f own
  rw [← ex, ← em]
  by_cases c : x.2.2.2.2.2.2.2.2 = true
  · exact ev_bind hx (ev_bindc hm (ev_itep c (ev_some (by rw [c]; rfl))))
  · exact ev_bind hx (ev_bindc hm (ev_iten c (ev_some (by rw [Bool.eq_false_iff.2 c]; rfl))))
end Go.Proofs.Ytglpmjcknhcjcaa.PFnTwins
namespace Go.Proofs.Ytglpmjcknhcjcaa.PFnTwins
open Go.RowKit Go.Proofs.YtglpmjcknhcjcaaW.PrintWords Go.Proofs.YtglpmjcknhcjcaaW.PrintLast Go.Proofs.YtglpmjcknhcjcaaW.PrintMore Go.Proofs.Ytglpmjcknhcjcaa.EvLib
def ownR (a b : IReport) : Bool := own a.f0 a.f1 a.f2 a.f3 a.f4 a.f5 a.f6.f0 a.f6.f1 b.f0 b.f1 b.f2 b.f3 b.f4 b.f5 b.f6.f0 b.f6.f1
/-- Each number is that of a report at or ahead of its place, which is its own group and of one owner with it. -/
def GI (l : List IReport) (out : List Int) : Prop := ∀ a, a < out.length → ∃ j, j ≤ a ∧ out.getD a 0 = (rep l j).f0 ∧ out.getD j 0 = (rep l j).f0 ∧ (j = a ∨ ownR (rep l j) (rep l a) = true)
theorem getD_snoc_lt (out : List Int) (v : Int) (a : Nat) (h : a < out.length) : (out ++ [v]).getD a 0 = out.getD a 0 := by
  simp only [List.getD_eq_getElem?_getD]; rw [List.getElem?_append_left h]
theorem getD_snoc_eq (out : List Int) (v : Int) : (out ++ [v]).getD out.length 0 = v := by
  simp only [List.getD_eq_getElem?_getD]; rw [List.getElem?_append_right (Nat.le_refl _)]; simp
theorem GI_own {l : List IReport} {out : List Int} (h : GI l out) : GI l (out ++ [(rep l out.length).f0]) := by
  intro a ha
  rw [List.length_append, List.length_singleton] at ha
  by_cases c : a < out.length
  · obtain ⟨j, h1, h2, h3, h4⟩ := h a c
    exact ⟨j, h1, by rw [getD_snoc_lt _ _ _ c]; exact h2, by rw [getD_snoc_lt _ _ _ (by omega)]; exact h3, h4⟩
  · have e : a = out.length := by omega
    subst e
    exact ⟨out.length, Nat.le_refl _, getD_snoc_eq _ _, getD_snoc_eq _ _, Or.inl rfl⟩
theorem GI_join {l : List IReport} {out : List Int} (h : GI l out) (j : Nat) (hj : j < out.length) (e1 : out.getD j 0 = (rep l j).f0) (e2 : ownR (rep l j) (rep l out.length) = true) : GI l (out ++ [(rep l j).f0]) := by
  intro a ha
  rw [List.length_append, List.length_singleton] at ha
  by_cases c : a < out.length
  · obtain ⟨j, h1, h2, h3, h4⟩ := h a c
    exact ⟨j, h1, by rw [getD_snoc_lt _ _ _ c]; exact h2, by rw [getD_snoc_lt _ _ _ (by omega)]; exact h3, h4⟩
  · have e : a = out.length := by omega
    subst e
    exact ⟨j, by omega, getD_snoc_eq _ _, by rw [getD_snoc_lt _ _ _ hj]; exact e1, Or.inr e2⟩
section
variable {l : List IReport} (h : Small l) (ha : are l = true)
include h ha
theorem grp_l1 (out : List Int) (i : Nat) (hi : i < l.length) (ho : out.length = i) (hg : GI l out)
    (hr : ∀ v, GI l (out ++ [v]) → ∃ r, Ev (fun k => impl_GroupReports.l0 k l (out ++ [v]) l (l.length : Int) ((i + 1 : Nat) : Int)) r ∧ r.length = l.length ∧ GI l r) :
    ∀ (d j : Nat), j + d = i → ∃ r, Ev (fun k => impl_GroupReports.l1 k l out (rep l i).f0 l (l.length : Int) (i : Int) (i : Int) (j : Int) (rep l i).f0 (rep l i).f1 (rep l i).f2 (rep l i).f3 (rep l i).f4 (rep l i).f5 (rep l i).f6.f0 (rep l i).f6.f1) r ∧ r.length = l.length ∧ GI l r := by
  have h20 := len20 ha
  have w1 : wrap64 ((i : Int) + 1) = ((i + 1 : Nat) : Int) := by rw [wrap_id (by omega) (by omega)]; omega
  intro d
  induction d with
  | zero =>
    intro j hj
    obtain ⟨r, r2, r3⟩ := hr (rep l i).f0 (by rw [← ho]; exact GI_own hg)
    refine ⟨r, ?_, r3⟩
    refine ev_step (fun k => by simp only [impl_GroupReports.l1]; rfl) (ev_iten (by omega) (ev_itep (by omega) ?_))
    rw [w1]
    exact r2
  | succ d ih =>
    intro j hj
    have w2 : wrap64 ((j : Int) + 1) = ((j + 1 : Nat) : Int) := by rw [wrap_id (by omega) (by omega)]; omega
    obtain ⟨n, n2, n3⟩ := ih (j + 1) (by omega)
    by_cases c : rd out (j : Int) = (rep l j).f0
    · have xj := rep_small h j (by omega)
      have xi := rep_small h i hi
      have b1 := own_ev (rep l j).f0 (rep l j).f1 (rep l j).f2 (rep l j).f3 (rep l j).f4 (rep l j).f5 (rep l j).f6.f0 (rep l j).f6.f1 (rep l i).f0 (rep l i).f1 (rep l i).f2 (rep l i).f3 (rep l i).f4 (rep l i).f5 (rep l i).f6.f0 (rep l i).f6.f1 xj.1 xj.2 xi.1 xi.2
      by_cases hb : ownR (rep l j) (rep l i) = true
      · obtain ⟨r, r2, r3⟩ := hr (rep l j).f0 (GI_join hg j (by omega) (by rw [← rd_nat]; exact c) (by rw [ho]; exact hb))
        refine ⟨r, ?_, r3⟩
        refine ev_step (fun k => by simp only [impl_GroupReports.l1]; rfl) (ev_itep (by omega) (ev_itep (by omega) (ev_itep (by omega) (ev_itep (by omega) ?_))))
        simp only [rd_rep, w1]
        exact ev_itep c (ev_bind b1 (ev_itep hb (ev_itep (by omega) r2)))
      · refine ⟨n, ?_, n3⟩
        refine ev_step (fun k => by simp only [impl_GroupReports.l1]; rfl) (ev_itep (by omega) (ev_itep (by omega) (ev_itep (by omega) (ev_itep (by omega) ?_))))
        simp only [rd_rep, w2]
        exact ev_itep c (ev_bind b1 (ev_iten hb n2))
    · refine ⟨n, ?_, n3⟩
      refine ev_step (fun k => by simp only [impl_GroupReports.l1]; rfl) (ev_itep (by omega) (ev_itep (by omega) (ev_itep (by omega) (ev_itep (by omega) ?_))))
      simp only [rd_rep, w2]
      exact ev_iten c n2
theorem grp_l0 : ∀ (d i : Nat) (out : List Int), i + d = l.length → out.length = i → GI l out → ∃ r, Ev (fun k => impl_GroupReports.l0 k l out l (l.length : Int) (i : Int)) r ∧ r.length = l.length ∧ GI l r := by
  have h20 := len20 ha
  intro d
  induction d with
  | zero =>
    intro i out hi ho hg
    exact ⟨out, ev_step (fun k => by simp only [impl_GroupReports.l0]; rfl) (ev_iten (by omega) (ev_some rfl)), by omega, hg⟩
  | succ d ih =>
    intro i out hi ho hg
    obtain ⟨r, r2, r3⟩ := grp_l1 h ha out i (by omega) ho hg (fun v hv => ih (i + 1) (out ++ [v]) (by omega) (by rw [List.length_append, List.length_singleton]; omega) hv) i 0 (by omega)
    exact ⟨r, ev_step (fun k => by simp only [impl_GroupReports.l0]; rfl) (ev_itep (by omega) (ev_itep (by omega) (ev_itep (by omega) r2))), r3⟩
omit h in
theorem find_at (j : Nat) (hj : j < l.length) : impl_FindReport.f l (rep l j).f0 = some (j : Int) := by
  unfold impl_FindReport.f
  congr 1
  rcases idxB_in (fun x : IReport => x.f0 == (rep l j).f0) z41 l 0 with ⟨_, h2⟩ | ⟨q, h1, h2, h3, _⟩
  · have hm : rep l j ∈ l := by unfold rep rd_T41; exact getD_mem _ _ _ (by omega)
    have := h2 _ hm
    simp at this
  · rw [h2]
    have e : (rep l q).f0 = (rep l j).f0 := by
      have e0 : rep l q = l.getD q z41 := by unfold rep rd_T41; rw [Int.toNat_natCast]
      rw [e0]; exact beq_iff_eq.mp h3
    have hq : q = j := by
      rcases Nat.lt_trichotomy q j with c | c | c
      · have := are_lt ha (j - q - 1) q (by omega)
        rw [show q + (j - q - 1) + 1 = j by omega] at this
        omega
      · exact c
      · have := are_lt ha (q - j - 1) j (by omega)
        rw [show j + (q - j - 1) + 1 = q by omega] at this
        omega
    omega
theorem l2_ev (g : List Int) (hl : g.length = l.length) (hg : GI l g) : ∀ (d i : Nat), i + d = g.length → Ev (fun k => laws_FnTwins.l2 k l g (i : Int)) true := by
  have h20 := len20 ha
  intro d
  induction d with
  | zero =>
    intro i hi
    exact ev_step (fun k => by simp only [laws_FnTwins.l2]; rfl) (ev_iten (by omega) (ev_itep (by omega) (ev_some rfl)))
  | succ d ih =>
    intro i hi
    have w1 : wrap64 ((i : Int) + 1) = ((i + 1 : Nat) : Int) := by rw [wrap_id (by omega) (by omega)]; omega
    obtain ⟨j, h1, h2, h3, h4⟩ := hg i (by omega)
    have hf : impl_FindReport.f l (rd g (i : Int)) = some (j : Int) := by rw [rd_nat, h2]; exact find_at ha j (by omega)
    have hn := ih (i + 1) (by omega)
    refine ev_step (fun k => by simp only [laws_FnTwins.l2]; rfl) (ev_itep (by omega) (ev_itep (by omega) (ev_bindc hf ?_)))
    refine ev_iten (by omega) (ev_iten (by omega) (ev_itep (by omega) (ev_itep (by omega) (ev_itep (by rw [rd_nat, rd_nat, h2, h3]) ?_))))
    rw [w1]
    rcases h4 with e | e
    · exact ev_itep (by omega) hn
    · by_cases q : j = i
      · exact ev_itep (by omega) hn
      · have xj := rep_small h j (by omega)
        have xi := rep_small h i (by omega)
        have b1 := own_ev (rep l j).f0 (rep l j).f1 (rep l j).f2 (rep l j).f3 (rep l j).f4 (rep l j).f5 (rep l j).f6.f0 (rep l j).f6.f1 (rep l i).f0 (rep l i).f1 (rep l i).f2 (rep l i).f3 (rep l i).f4 (rep l i).f5 (rep l i).f6.f0 (rep l i).f6.f1 xj.1 xj.2 xi.1 xi.2
        exact ev_iten (by omega) (ev_itep (by omega) (ev_itep (by omega) (ev_bind b1 (ev_itep e hn))))
end
theorem groups_ok (l : List IReport) (h : Small l) : ∃ g, Ev (fun k => impl_GroupReports.f k l) g ∧ Ev (fun k => laws_FnTwins.l2 k l g 0) true := by
  unfold impl_GroupReports.f
  by_cases ha : are l = true
  · obtain ⟨r, r2, r3, r4⟩ := grp_l0 h ha l.length 0 [] (by omega) rfl (fun a ha => by simp at ha)
    exact ⟨r, ev_bindc rfl (ev_bind (implAre_ev l h) (ev_itep ha r2)), l2_ev h ha r r3 r4 r.length 0 (by omega)⟩
  · refine ⟨[], ev_bindc rfl (ev_bind (implAre_ev l h) (ev_iten ha (ev_some rfl))), ?_⟩
    exact ev_step (fun k => by simp only [laws_FnTwins.l2]; rfl) (ev_iten (by simp) (ev_ite (fun _ => ev_some rfl) (fun _ => ev_some (by simp))))
end Go.Proofs.Ytglpmjcknhcjcaa.PFnTwins
namespace Go.Proofs.Ytglpmjcknhcjcaa.PFnTwins
open Go.RowKit Go.Proofs.YtglpmjcknhcjcaaW.PrintWords Go.Proofs.YtglpmjcknhcjcaaW.PrintLast Go.Proofs.Ytglpmjcknhcjcaa.EvLib
theorem ascends_l0 (l : List Int) (hl : l.length ≤ 1048576) (hp : l.Pairwise (· < ·)) : ∀ (d i : Nat), i + d = l.length → Ev (fun k => laws_ascends.l0 k l ((i : Int) + 1)) true := by
  intro d
  induction d with
  | zero =>
    intro i hi
    exact ev_step (fun k => by simp only [laws_ascends.l0]; rfl) (ev_iten (by omega) (ev_some rfl))
  | succ d ih =>
    intro i hi
    refine ev_step (fun k => by simp only [laws_ascends.l0]; rfl) (ev_ite (fun c => ?_) (fun c => ev_some rfl))
    have e : wrap64 ((i : Int) + 1 - 1) = (i : Int) := by rw [wrap_id (by omega) (by omega)]; omega
    rw [e, wrap_id (x := (i : Int) + 1 + 1) (by omega) (by omega)]
    have r1 : rd l (i : Int) = l[i] := by unfold rd; simp [List.getD, show i < l.length by omega]
    have r2 : rd l ((i : Int) + 1) = l[i + 1] := by unfold rd; rw [show ((i : Int) + 1).toNat = i + 1 by omega]; simp [List.getD, show i + 1 < l.length by omega]
    have := (List.pairwise_iff_getElem.1 hp) i (i + 1) (by omega) (by omega) (by omega)
    refine ev_itep (by omega) (ev_itep (by omega) (ev_itep (by omega) (ev_iten (by rw [r1, r2]; omega) ?_)))
    exact ih (i + 1) (by omega)
theorem ascends_ev (l : List Int) (hl : l.length ≤ 1048576) (hp : l.Pairwise (· < ·)) : Ev (fun k => laws_ascends.f k l) true := by
  unfold laws_ascends.f
  exact ascends_l0 l hl hp l.length 0 (by omega)
end Go.Proofs.Ytglpmjcknhcjcaa.PFnTwins
namespace Go.Proofs.Ytglpmjcknhcjcaa.PFnTwins
open Go.RowKit Go.Proofs.YtglpmjcknhcjcaaW.PrintWords Go.Proofs.YtglpmjcknhcjcaaW.PrintLast Go.Proofs.Ytglpmjcknhcjcaa.EvLib
theorem areFd_rise {l : List IFind} (h : areFd l = true) : ∀ (d i : Nat), i + d + 1 < l.length → (fd l i).f0.f0 < (fd l (i + d + 1)).f0.f0 := by
  intro d
  induction d with
  | zero =>
    intro i hi
    have e := areFd_ok h (i + 1) (by omega)
    unfold fdOk at e
    rw [Bool.and_eq_true, Bool.or_eq_true] at e
    rcases e.2 with e | e
    · exact absurd (of_decide_eq_true e) (by omega)
    · exact of_decide_eq_true e
  | succ d ih =>
    intro i hi
    have h1 := ih i (by omega)
    have e := areFd_ok h (i + d + 2) (by omega)
    unfold fdOk at e
    rw [Bool.and_eq_true, Bool.or_eq_true] at e
    rcases e.2 with e | e
    · exact absurd (of_decide_eq_true e) (by omega)
    · have e2 := of_decide_eq_true e
      rw [show i + d + 2 - 1 = i + d + 1 from by omega] at e2
      rw [show i + (d + 1) + 1 = i + d + 2 from by omega]
      omega
theorem areFd_one {l : List IFind} (h : areFd l = true) (i j : Nat) (hi : i < l.length) (hj : j < l.length) (e : (fd l i).f0.f0 = (fd l j).f0.f0) : i = j := by
  rcases Nat.lt_trichotomy i j with g | g | g
  · have := areFd_rise h (j - i - 1) i (by omega)
    rw [show i + (j - i - 1) + 1 = j from by omega] at this; omega
  · exact g
  · have := areFd_rise h (i - j - 1) j (by omega)
    rw [show j + (i - j - 1) + 1 = i from by omega] at this; omega
theorem mem_twOut (l : List IFind) (x : Int) : ∀ n, x ∈ twOut l n ↔ ∃ m, m < n ∧ (l.take m).any (isTw (fd l m)) = true ∧ x = (fd l m).f0.f0 := by
  intro n
  induction n with
  | zero => simp [twOut]
  | succ n ih =>
    rw [twOut, List.mem_append, ih]
    constructor
    · rintro (⟨m, h1, h2, h3⟩ | h)
      · exact ⟨m, by omega, h2, h3⟩
      · split at h
        · rename_i c
          exact ⟨n, by omega, c, List.mem_singleton.1 h⟩
        · cases h
    · rintro ⟨m, h1, h2, h3⟩
      by_cases e : m = n
      · subst e
        rw [if_pos h2]
        exact Or.inr (List.mem_singleton.2 h3)
      · exact Or.inl ⟨m, by omega, h2, h3⟩
theorem twOut_asc {l : List IFind} (h : areFd l = true) : ∀ n, n ≤ l.length → (twOut l n).Pairwise (· < ·) := by
  intro n
  induction n with
  | zero => intro _; exact List.Pairwise.nil
  | succ n ih =>
    intro hn
    rw [twOut]
    split
    · refine List.pairwise_append.2 ⟨ih (by omega), List.pairwise_singleton _ _, ?_⟩
      intro a ha b hb
      obtain ⟨m, h1, _, h3⟩ := (mem_twOut l a n).1 ha
      rw [List.mem_singleton.1 hb, h3]
      have := areFd_rise h (n - m - 1) m (by omega)
      rw [show m + (n - m - 1) + 1 = n by omega] at this
      exact this
    · rw [List.append_nil]; exact ih (by omega)
theorem twins_asc (l : List IFind) : (twins l).Pairwise (· < ·) := by
  unfold twins
  split
  · rename_i h; exact twOut_asc h _ (Nat.le_refl _)
  · exact List.Pairwise.nil
theorem flt_len {α : Type} (p : α → Bool) (l : List α) : (l.filter p).length + (l.filter (fun x => !p x)).length = l.length := by
  induction l with
  | nil => rfl
  | cons x l ih =>
    cases h : p x
    · simp [h]; omega
    · simp [h]; omega
theorem in_len {l : List IFind} (h : areFd l = true) : ∀ n, n ≤ l.length → ((l.take n).filter (fun x => decide (x.f0.f0 ∈ twOut l l.length))).length = (twOut l n).length := by
  intro n
  induction n with
  | zero => intro _; rfl
  | succ n ih =>
    intro hn
    have e : l.take (n + 1) = l.take n ++ [fd l n] := by rw [List.take_succ_eq_append_getElem (by omega), fd_get l n (by omega)]
    rw [e, List.filter_append, List.length_append, ih (by omega), twOut, List.length_append]
    congr 1
    by_cases c : (l.take n).any (isTw (fd l n)) = true
    · have hm : (fd l n).f0.f0 ∈ twOut l l.length := (mem_twOut l _ _).2 ⟨n, by omega, c, rfl⟩
      rw [if_pos c]
      simp [hm]
    · have hm : ¬ (fd l n).f0.f0 ∈ twOut l l.length := by
        intro hm
        obtain ⟨m, h1, h2, h3⟩ := (mem_twOut l _ _).1 hm
        have := areFd_one h n m (by omega) h1 h3
        subst this
        exact c h2
      rw [if_neg c]
      simp [hm]
theorem drop_len (l : List IFind) : (dropTw l).length + (twins l).length = l.length := by
  unfold dropTw dropOut
  by_cases h : areFd l = true
  · unfold twins
    rw [if_pos h]
    have e := in_len h l.length (Nat.le_refl _)
    rw [List.take_length] at e
    have := flt_len (fun x : IFind => decide (x.f0.f0 ∈ twOut l l.length)) l
    omega
  · unfold twins
    rw [if_neg h]
    simp
theorem drop_no {l : List IFind} (h : areFd l = true) (i j : Nat) (hi : i < (dropTw l).length) (hj : j < i) : isTw (fd (dropTw l) i) (fd (dropTw l) j) = false := by
  have hp : l.Pairwise (fun x y => isTw y x = true → y.f0.f0 ∈ twins l) := by
    refine List.pairwise_iff_getElem.2 (fun a b ha hb hab ht => ?_)
    unfold twins
    rw [if_pos h]
    refine (mem_twOut l _ _).2 ⟨b, hb, ?_, by rw [fd_get l b hb]⟩
    rw [List.any_eq_true, fd_get l b hb]
    refine ⟨l[a], ?_, ht⟩
    rw [List.mem_iff_getElem]
    exact ⟨a, by rw [List.length_take]; omega, by rw [List.getElem_take]⟩
  have hq : (dropTw l).Pairwise (fun x y => isTw y x = true → y.f0.f0 ∈ twins l) := by
    unfold dropTw dropOut
    exact hp.filter _
  have hr := List.pairwise_iff_getElem.1 hq j i (by omega) hi hj
  rw [fd_get _ i hi, fd_get _ j (by omega), Bool.eq_false_iff]
  intro ht
  have hm : (dropTw l)[i] ∈ dropTw l := List.getElem_mem _
  have hn : ¬ ((dropTw l)[i]).f0.f0 ∈ twins l := by
    have h2 := (List.mem_filter.1 (show (dropTw l)[i] ∈ l.filter (fun x => !decide (x.f0.f0 ∈ twins l)) from hm)).2
    simpa using h2
  exact hn (hr ht)
section
variable (x : List Int) (l : List IFind) (hl : l.length ≤ 1048576)
include hl
theorem tw_l1 (i : Nat) (hi : i < (dropTw l).length) (hn : Ev (fun k => laws_FnTwins.l0 k x l (dropTw l) ((i + 1 : Nat) : Int)) true) :
    ∀ (d j : Nat), j + d = i → Ev (fun k => laws_FnTwins.l1 k x l (dropTw l) (i : Int) (j : Int)) true := by
  have hd := dropTw_len l
  have w1 : wrap64 ((i : Int) + 1) = ((i + 1 : Nat) : Int) := by rw [wrap_id (by omega) (by omega)]; omega
  have hj4 : ∀ j : Int, Ev (fun k => laws_FnTwins.j4 k x l (dropTw l) (i : Int) j false) true := by
    intro j
    refine ev_step (fun k => by simp only [laws_FnTwins.j4]; rfl) (ev_iten (by simp) ?_)
    rw [w1]
    exact hn
  intro d
  induction d with
  | zero =>
    intro j hj
    exact ev_step (fun k => by simp only [laws_FnTwins.l1]; rfl) (ev_iten (by omega) (hj4 _))
  | succ d ih =>
    intro j hj
    have w2 : wrap64 ((j : Int) + 1) = ((j + 1 : Nat) : Int) := by rw [wrap_id (by omega) (by omega)]; omega
    have hs := ih (j + 1) (by omega)
    refine ev_step (fun k => by simp only [laws_FnTwins.l1]; rfl) (ev_itep (by omega) (ev_bind (implAreFinds_ev l (by omega)) ?_))
    by_cases c : areFd l = true
    · rw [c]
      refine ev_step (fun k => by simp only [laws_FnTwins.j4]; rfl) (ev_itep (show true = true from rfl) (ev_itep (by omega) (ev_itep (by omega) (ev_itep (by omega) (ev_itep (by omega) ?_)))))
      simp only [rd_fd, w2]
      exact ev_bindc (implAreTwins_eq _ _) (ev_iten (by rw [drop_no c i j hi (by omega)]; simp) hs)
    · rw [Bool.eq_false_iff.2 c]
      exact hj4 _
theorem tw_l0 (he : Ev (fun k => laws_FnTwins.l0 k x l (dropTw l) ((dropTw l).length : Int)) true) : ∀ (d i : Nat), i + d = (dropTw l).length → Ev (fun k => laws_FnTwins.l0 k x l (dropTw l) (i : Int)) true := by
  intro d
  induction d with
  | zero =>
    intro i hi
    rw [show i = (dropTw l).length by omega]
    exact he
  | succ d ih =>
    intro i hi
    exact ev_step (fun k => by simp only [laws_FnTwins.l0]; rfl) (ev_itep (by omega) (tw_l1 x l hl i (by omega) (ih (i + 1) (by omega)) i 0 (by omega)))
theorem tw_j0 (hd : Ev (fun k => spec_DrawTwinsOf.f k x) l) (he : Ev (fun k => laws_FnTwins.l0 k x l (dropTw l) ((dropTw l).length : Int)) true) : Ev (fun k => laws_FnTwins.j0 k x false) true := by
  have h1 := drop_len l
  have j1 : Ev (fun k => laws_FnTwins.j1 k x l (dropTw l) false) true := ev_step (fun k => by simp only [laws_FnTwins.j1]; rfl) (ev_iten (by simp) (tw_l0 x l hl he (dropTw l).length 0 (by omega)))
  have ht := twins_len l
  refine ev_step (fun k => by simp only [laws_FnTwins.j0]; rfl) (ev_iten (by simp) (ev_bind hd (ev_bind (implTwinsOf_ev l hl) (ev_bind (implDropTwins_ev l hl) (ev_bind (specDropTwins_ev l hl) ?_)))))
  refine ev_itep (show ((dropTw l).length : Int) = ((dropTw l).length : Int) from rfl) (ev_bind (ascends_ev _ (by omega) (twins_asc l)) ?_)
  refine ev_itep (show true = true from rfl) (ev_itep (by rw [wrap_id (by omega) (by omega)]; omega) (ev_ite (fun c => ?_) (fun c => j1)))
  refine ev_bind (implAreFinds_ev l (by omega)) ?_
  have c2 : areFd l = true := by
    by_cases g : areFd l = true
    · exact g
    · exfalso
      unfold twins at c
      rw [if_neg g] at c
      simp at c
  rw [c2]
  exact j1
end
end Go.Proofs.Ytglpmjcknhcjcaa.PFnTwins
namespace Go.Proofs.Ytglpmjcknhcjcaa.PFnTwins
open Go.RowKit Go.Proofs.YtglpmjcknhcjcaaW.PrintWords Go.Proofs.YtglpmjcknhcjcaaW.PrintLast Go.Proofs.Ytglpmjcknhcjcaa.EvLib
theorem and255 (x : Int) : 0 ≤ Go.bits .and .i64 x 255 ∧ Go.bits .and .i64 x 255 ≤ 255 := by
  unfold Go.bits
  simp only [BitVec.toNat_and]
  have h : (BitVec.ofInt IntKind.i64.bits x).toNat &&& (BitVec.ofInt IntKind.i64.bits 255).toNat ≤ 255 := Nat.le_trans Nat.and_le_right (by decide)
  rw [IntKind.wrap_i64]
  omega
theorem byte_ok (s : List Int) (hs : s.length ≤ 1048576) (p h : Int) (hp : 0 ≤ p) : ∃ x p' h', spec_l1Byte.f s p h = some (x, p', h') ∧ 0 ≤ x ∧ x ≤ 255 ∧ 0 ≤ p' := by
  unfold spec_l1Byte.f
  by_cases c : p < (s.length : Int)
  · rw [if_pos c, if_pos hp]
    exact ⟨_, _, _, rfl, (and255 _).1, (and255 _).2, by rw [wrap_id (by omega) (by omega)]; omega⟩
  · rw [if_neg c]
    exact ⟨_, _, _, rfl, (and255 _).1, (and255 _).2, hp⟩
theorem tmod_in {x n : Int} (hx : 0 ≤ x) (hn : 0 < n) : 0 ≤ Int.tmod x n ∧ Int.tmod x n < n := by
  rw [Int.tmod_eq_emod_of_nonneg hx]
  exact ⟨Int.emod_nonneg _ (by omega), Int.emod_lt_of_pos _ hn⟩
theorem below_ok (s : List Int) (hs : s.length ≤ 1048576) (p h : Int) (hp : 0 ≤ p) (n : Int) : ∃ x p' h', spec_l1Below.f s p h n = some (x, p', h') ∧ 0 ≤ p' ∧ 0 ≤ x ∧ (0 < n → x < n) := by
  unfold spec_l1Below.f
  by_cases h1 : n ≤ 0
  · rw [if_pos h1]
    exact ⟨0, p, h, rfl, hp, by omega, fun c => by omega⟩
  · rw [if_neg h1]
    obtain ⟨x, p1, h1', e1, x0, x1, hp1⟩ := byte_ok s hs p h hp
    by_cases h2 : n ≤ 256
    · rw [if_pos h2, e1, Option.bind_some]
      simp only
      rw [if_neg (by omega)]
      exact ⟨_, _, _, rfl, hp1, (tmod_in x0 (by omega)).1, fun _ => (tmod_in x0 (by omega)).2⟩
    · obtain ⟨y, p2, h2', e2, y0, y1, hp2⟩ := byte_ok s hs p1 h1' hp1
      obtain ⟨z, p3, h3', e3, z0, z1, hp3⟩ := byte_ok s hs p2 h2' hp2
      rw [if_neg h2, e1, Option.bind_some]
      simp only
      rw [e2, Option.bind_some]
      simp only
      rw [e3, Option.bind_some]
      simp only
      rw [if_neg (by omega), wrap_id (x := x * 65536) (by omega) (by omega), wrap_id (x := y * 256) (by omega) (by omega), wrap_id (x := x * 65536 + y * 256) (by omega) (by omega), wrap_id (by omega) (by omega)]
      exact ⟨_, _, _, rfl, hp3, (tmod_in (by omega) (by omega)).1, fun _ => (tmod_in (by omega) (by omega)).2⟩
theorem once_ok (s : List Int) (hs : s.length ≤ 1048576) (p h : Int) (hp : 0 ≤ p) (n : Int) : ∃ b p' h', spec_l1Once.f s p h n = some (b, p', h') ∧ 0 ≤ p' := by
  unfold spec_l1Once.f
  obtain ⟨x, p', h', e, h1, _⟩ := below_ok s hs p h hp n
  rw [e, Option.bind_some]
  exact ⟨_, _, _, rfl, h1⟩
theorem int_ok (s : List Int) (hs : s.length ≤ 1048576) (p h : Int) (hp : 0 ≤ p) (l : List Int) (hl : 0 < l.length) : ∃ x p' h', spec_l1Int.f s p h l = some (x, p', h') ∧ 0 ≤ p' ∧ x ∈ l := by
  unfold spec_l1Int.f
  obtain ⟨x, p', h', e, h1, h2, h3⟩ := below_ok s hs p h hp l.length
  rw [e, Option.bind_some]
  simp only
  have h4 := h3 (by omega)
  rw [if_pos h2, if_pos h4]
  refine ⟨_, _, _, rfl, h1, ?_⟩
  have h5 : x.toNat < l.length := by omega
  simp only [rd, List.getD, List.getElem?_eq_getElem h5, Option.getD_some]
  exact List.getElem_mem h5
theorem new_ok (s : List Int) (_hs : s.length ≤ 1048576) : ∃ h, Ev (fun k => spec_l1New.f k s) (s, 0, h) := by
  unfold spec_l1New.f
  have key : ∀ (d i : Nat) (h : Int), i + d = s.length → ∃ r, Ev (fun k => spec_l1New.l0 k s h (i : Int)) (s, 0, r) := by
    intro d
    induction d with
    | zero => exact fun i h hi => ⟨h, ev_step (fun k => by simp only [spec_l1New.l0]; rfl) (ev_iten (by omega) (ev_some rfl))⟩
    | succ d ih =>
      intro i h hi
      by_cases c : (i : Int) < 4000
      · obtain ⟨r, hr⟩ := ih (i + 1) (Go.bits .and .i64 (wrap64 ((wrap64 ((wrap64 (h * 137)) + (wrap64 (rd s (i : Int))))) + 11)) 1073741823) (by omega)
        refine ⟨r, ev_step (fun k => by simp only [spec_l1New.l0]; rfl) (ev_itep (by omega) (ev_itep c (ev_itep (by omega) ?_)))⟩
        rw [wrap_id (x := (i : Int) + 1) (by omega) (by omega)]
        exact hr
      · exact ⟨h, ev_step (fun k => by simp only [spec_l1New.l0]; rfl) (ev_itep (by omega) (ev_iten c (ev_some rfl)))⟩
  exact key s.length 0 _ (by omega)
end Go.Proofs.Ytglpmjcknhcjcaa.PFnTwins
namespace Go.Proofs.Ytglpmjcknhcjcaa.PFnTwins
open Go.RowKit Go.Proofs.YtglpmjcknhcjcaaW.PrintWords Go.Proofs.YtglpmjcknhcjcaaW.PrintLast Go.Proofs.Ytglpmjcknhcjcaa.EvLib
theorem draw4_ok (s : List Int) (hs : s.length ≤ 1048576) (p h : Int) (hp : 0 ≤ p) (id : Int) : ∃ a b c d e p' h', spec_l4Draw.f s p h id = some (a, b, c, d, e, p', h') ∧ 0 ≤ p' := by
  unfold spec_l4Draw.f
  obtain ⟨x1, p1, h1, e1, g1, _⟩ := below_ok s hs p h hp 8
  obtain ⟨x2, p2, h2, e2, g2, _⟩ := below_ok s hs p1 h1 g1 8
  obtain ⟨x3, p3, h3, e3, g3, _⟩ := below_ok s hs p2 h2 g2 20
  obtain ⟨x4, p4, h4, e4, g4, _⟩ := below_ok s hs p3 h3 g3 500
  simp only [e1, e2, e3, e4, Option.bind_some]
  exact ⟨_, _, _, _, _, _, _, rfl, g4⟩
theorem draw6_ok (s : List Int) (hs : s.length ≤ 1048576) (p h : Int) (hp : 0 ≤ p) (id : Int) : ∃ a b c d e f g i p' h', spec_l6Draw.f s p h id = some (a, b, c, d, e, f, g, i, p', h') ∧ 0 ≤ p' := by
  unfold spec_l6Draw.f
  obtain ⟨a, b, c, d, e, p1, h1, e1, g1⟩ := draw4_ok s hs p h hp id
  obtain ⟨x2, p2, h2, e2, g2, _⟩ := below_ok s hs p1 h1 g1 6
  obtain ⟨x3, p3, h3, e3, g3, _⟩ := below_ok s hs p2 h2 g2 80
  obtain ⟨x4, p4, h4, e4, g4, _⟩ := below_ok s hs p3 h3 g3 5
  simp only [e1, e2, e3, e4, Option.bind_some]
  exact ⟨_, _, _, _, _, _, _, _, _, _, rfl, g4⟩
theorem list6_ok (s : List Int) (hs : s.length ≤ 1048576) (p h : Int) (hp : 0 ≤ p) : ∃ l p' h', Ev (fun k => spec_l6List.f k s p h) (l, p', h') ∧ 0 ≤ p' ∧ l.length ≤ 8 := by
  unfold spec_l6List.f
  have key : ∀ (d i : Nat) (l : List S58) (p h : Int), i + d = 8 → l.length + 1 = i → 0 ≤ p → ∃ r p' h', Ev (fun k => spec_l6List.l0 k l (i : Int) s p h) (r, p', h') ∧ 0 ≤ p' ∧ r.length ≤ 8 := by
    intro d
    induction d with
    | zero =>
      intro i l p h hi hl hp
      obtain ⟨x, p', h', e, h1, _, h3⟩ := below_ok s hs p h hp 8
      have := h3 (by omega)
      exact ⟨l, p', h', ev_step (fun k => by simp only [spec_l6List.l0]; rfl) (ev_bindc e (ev_iten (show ¬ (i : Int) ≤ x by omega) (ev_some rfl))), h1, by omega⟩
    | succ d ih =>
      intro i l p h hi hl hp
      obtain ⟨x, p', h', e, h1, _, h3⟩ := below_ok s hs p h hp 8
      by_cases c : (i : Int) ≤ x
      · obtain ⟨a1, a2, a3, a4, a5, a6, a7, a8, p2, h2, e2, g2⟩ := draw6_ok s hs p' h' h1 (wrap64 (2 * (i : Int)))
        obtain ⟨r, p3, h3', e3, g3, g4⟩ := ih (i + 1) (l ++ [(⟨(⟨a1, a2, a3, a4, a5⟩ : S56), a6, a7, a8⟩ : S58)]) p2 h2 (by omega) (by simp; omega) g2
        refine ⟨r, p3, h3', ev_step (fun k => by simp only [spec_l6List.l0]; rfl) (ev_bindc e (ev_itep c (ev_bindc e2 (ev_itep (show l.length < 2199023255552 by omega) ?_)))), g3, g4⟩
        simp only
        rw [wrap_id (x := (i : Int) + 1) (by omega) (by omega)]
        exact e3
      · exact ⟨l, p', h', ev_step (fun k => by simp only [spec_l6List.l0]; rfl) (ev_bindc e (ev_iten c (ev_some rfl))), h1, by omega⟩
  exact key 7 1 [] p h rfl rfl hp
theorem raw4_ok (s : List Int) (hs : s.length ≤ 1048576) (p h : Int) (hp : 0 ≤ p) : ∃ x p' h', spec_l4Raw.f s p h = some (x, p', h') ∧ 0 ≤ p' := by
  unfold spec_l4Raw.f
  obtain ⟨x, p', h', e, g, _⟩ := int_ok s hs p h hp ([(-1), 0, 8, 50, 51, 1000, 9223372036854775807, (-9223372036854775808)] : List Int) (by decide)
  rw [e, Option.bind_some]
  exact ⟨_, _, _, rfl, g⟩
theorem any4_ok (s : List Int) (hs : s.length ≤ 1048576) (p h : Int) (hp : 0 ≤ p) : ∃ a b c d e p' h', spec_l4Any.f s p h = some (a, b, c, d, e, p', h') ∧ 0 ≤ p' := by
  unfold spec_l4Any.f
  obtain ⟨x1, p1, h1, e1, g1, _⟩ := below_ok s hs p h hp 40
  obtain ⟨a, b, c, d, e, p2, h2, e2, g2⟩ := draw4_ok s hs p1 h1 g1 (wrap64 (1 + x1))
  obtain ⟨x3, p3, h3, e3, g3, _⟩ := below_ok s hs p2 h2 g2 14
  simp only [e1, e2, e3, Option.bind_some]
  split
  · obtain ⟨x, p', h', e, g, _⟩ := int_ok s hs p3 h3 g3 ([0, 999, 1000] : List Int) (by decide)
    rw [e, Option.bind_some]
    exact ⟨_, _, _, _, _, _, _, rfl, g⟩
  · split
    · obtain ⟨x, p', h', e, g, _⟩ := int_ok s hs p3 h3 g3 ([0, 8, 9] : List Int) (by decide)
      rw [e, Option.bind_some]
      exact ⟨_, _, _, _, _, _, _, rfl, g⟩
    · split
      · obtain ⟨x, p', h', e, g, _⟩ := int_ok s hs p3 h3 g3 ([(-1), 7, 8] : List Int) (by decide)
        rw [e, Option.bind_some]
        exact ⟨_, _, _, _, _, _, _, rfl, g⟩
      · split
        · obtain ⟨x, p', h', e, g⟩ := raw4_ok s hs p3 h3 g3
          rw [e, Option.bind_some]
          exact ⟨_, _, _, _, _, _, _, rfl, g⟩
        · split
          · obtain ⟨x, p', h', e, g, _⟩ := int_ok s hs p3 h3 g3 ([(-1), 10000000, 10000001] : List Int) (by decide)
            rw [e, Option.bind_some]
            exact ⟨_, _, _, _, _, _, _, rfl, g⟩
          · exact ⟨_, _, _, _, _, _, _, rfl, g3⟩
theorem any6_ok (s : List Int) (hs : s.length ≤ 1048576) (p h : Int) (hp : 0 ≤ p) : ∃ l p' h', Ev (fun k => spec_l6Any.f k s p h) (l, p', h') ∧ 0 ≤ p' ∧ l.length ≤ 8 := by
  unfold spec_l6Any.f
  obtain ⟨l, p1, h1, e1, g1, hl⟩ := list6_ok s hs p h hp
  by_cases c : (l.length : Int) = 0
  · exact ⟨l, p1, h1, ev_bind e1 (ev_itep c (ev_some rfl)), g1, hl⟩
  · obtain ⟨i, p2, h2, e2, g2, i0, i1⟩ := below_ok s hs p1 h1 g1 l.length
    have i2 := i1 (by omega)
    obtain ⟨y, p3, h3, e3, g3, _⟩ := below_ok s hs p2 h2 g2 12
    by_cases y0 : y = 0
    · obtain ⟨a, b, c', d, e, p4, h4, e4, g4⟩ := any4_ok s hs p3 h3 g3
      exact ⟨_, _, _, ev_bind e1 (ev_iten c (ev_bindc e2 (ev_bindc e3 (ev_itep y0 (ev_bindc e4 (ev_itep i0 (ev_itep i2 (ev_some rfl)))))))), g4, by rw [List.length_set]; exact hl⟩
    · by_cases y1 : y = 1
      · obtain ⟨x, p4, h4, e4, g4, _⟩ := int_ok s hs p3 h3 g3 ([0, 30, 31] : List Int) (by decide)
        exact ⟨_, _, _, ev_bind e1 (ev_iten c (ev_bindc e2 (ev_bindc e3 (ev_iten y0 (ev_itep y1 (ev_bindc e4 (ev_itep i0 (ev_itep i2 (ev_some rfl))))))))), g4, by rw [List.length_set]; exact hl⟩
      · by_cases y2 : y = 2
        · obtain ⟨x, p4, h4, e4, g4⟩ := raw4_ok s hs p3 h3 g3
          exact ⟨_, _, _, ev_bind e1 (ev_iten c (ev_bindc e2 (ev_bindc e3 (ev_iten y0 (ev_iten y1 (ev_itep y2 (ev_bindc e4 (ev_itep i0 (ev_itep i2 (ev_some rfl)))))))))), g4, by rw [List.length_set]; exact hl⟩
        · by_cases y3 : y = 3
          · obtain ⟨x, p4, h4, e4, g4, _⟩ := int_ok s hs p3 h3 g3 ([(-1), 999, 1000] : List Int) (by decide)
            exact ⟨_, _, _, ev_bind e1 (ev_iten c (ev_bindc e2 (ev_bindc e3 (ev_iten y0 (ev_iten y1 (ev_iten y2 (ev_itep y3 (ev_bindc e4 (ev_itep i0 (ev_itep i2 (ev_some rfl))))))))))), g4, by rw [List.length_set]; exact hl⟩
          · exact ⟨_, _, _, ev_bind e1 (ev_iten c (ev_bindc e2 (ev_bindc e3 (ev_iten y0 (ev_iten y1 (ev_iten y2 (ev_iten y3 (ev_some rfl)))))))), g3, hl⟩
theorem one6_ok (s : List Int) (hs : s.length ≤ 1048576) (p h : Int) (hp : 0 ≤ p) : ∃ a b c d e f g i p' h', Ev (fun k => spec_l6One.f k s p h) (a, b, c, d, e, f, g, i, p', h') ∧ 0 ≤ p' := by
  unfold spec_l6One.f
  obtain ⟨l, p1, h1, e1, g1, hl⟩ := any6_ok s hs p h hp
  by_cases c : (l.length : Int) = 0
  · exact ⟨_, _, _, _, _, _, _, _, _, _, ev_bind e1 (ev_itep c (ev_some rfl)), g1⟩
  · exact ⟨_, _, _, _, _, _, _, _, _, _, ev_bind e1 (ev_iten c (ev_itep (show 0 < (l.length : Int) by omega) (ev_some rfl))), g1⟩
end Go.Proofs.Ytglpmjcknhcjcaa.PFnTwins
namespace Go.Proofs.Ytglpmjcknhcjcaa.PFnTwins
open Go.RowKit Go.Proofs.YtglpmjcknhcjcaaW.PrintWords Go.Proofs.YtglpmjcknhcjcaaW.PrintLast Go.Proofs.YtglpmjcknhcjcaaW.PrintMore Go.Proofs.Ytglpmjcknhcjcaa.EvLib
abbrev I64 (x : Int) : Prop := -9223372036854775808 ≤ x ∧ x ≤ 9223372036854775807
abbrev I64s (l : List Int) : Prop := ∀ v ∈ l, I64 v
theorem some7_ok (s : List Int) (hs : s.length ≤ 1048576) (lo hi rare : Int) (h0 : 0 ≤ lo) (h1 : lo ≤ 10) (h2 : hi ≤ 9) (p h : Int) (hp : 0 ≤ p) : ∃ l p' h', Ev (fun k => spec_l7Some.f k s p h lo hi rare) (l, p', h') ∧ 0 ≤ p' ∧ l.length ≤ 10 ∧ ∀ v ∈ l, 0 ≤ v ∧ v ≤ 9 := by
  unfold spec_l7Some.f
  have key : ∀ (d i : Nat) (o : List Int) (p h : Int), i + d = 10 → o.length ≤ i → (∀ v ∈ o, 0 ≤ v ∧ v ≤ 9) → 0 ≤ p → ∃ l p' h', Ev (fun k => spec_l7Some.l0 k hi rare o (i : Int) s p h) (l, p', h') ∧ 0 ≤ p' ∧ l.length ≤ 10 ∧ ∀ v ∈ l, 0 ≤ v ∧ v ≤ 9 := by
    intro d
    induction d with
    | zero =>
      intro i o p h hi' ho hv hp
      exact ⟨o, p, h, ev_step (fun k => by simp only [spec_l7Some.l0]; rfl) (ev_iten (by omega) (ev_some rfl)), hp, by omega, hv⟩
    | succ d ih =>
      intro i o p h hi' ho hv hp
      by_cases c : (i : Int) ≤ hi
      · obtain ⟨b, p', h', e, g⟩ := once_ok s hs p h hp rare
        have w : wrap64 ((i : Int) + 1) = ((i + 1 : Nat) : Int) := by rw [wrap_id (by omega) (by omega)]; omega
        cases b with
        | true =>
          obtain ⟨l, p2, h2', e2, g2, g3, g4⟩ := ih (i + 1) (o ++ [(i : Int)]) p' h' (by omega) (by rw [List.length_append, List.length_singleton]; omega) (fun v hv' => by
            rcases List.mem_append.mp hv' with q | q
            · exact hv v q
            · rw [List.mem_singleton] at q; omega) g
          refine ⟨l, p2, h2', ev_step (fun k => by simp only [spec_l7Some.l0]; rfl) (ev_itep c (ev_bindc e (ev_itep rfl (ev_itep (show o.length < 17592186044416 by omega) ?_)))), g2, g3, g4⟩
          simp only [w]
          exact e2
        | false =>
          obtain ⟨l, p2, h2', e2, g2, g3, g4⟩ := ih (i + 1) o p' h' (by omega) (by omega) hv g
          refine ⟨l, p2, h2', ev_step (fun k => by simp only [spec_l7Some.l0]; rfl) (ev_itep c (ev_bindc e (ev_iten (show ¬ (false = true) by decide) ?_))), g2, g3, g4⟩
          simp only [w]
          exact e2
      · exact ⟨o, p, h, ev_step (fun k => by simp only [spec_l7Some.l0]; rfl) (ev_iten c (ev_some rfl)), hp, by omega, hv⟩
  obtain ⟨n, rfl⟩ := Int.eq_ofNat_of_zero_le h0
  exact key (10 - n) n [] p h (by omega) (by simp) (by simp) hp
theorem span5_ok (s : List Int) (hs : s.length ≤ 1048576) (p h : Int) (hp : 0 ≤ p) : ∃ a b p' h', spec_l5Draw.f s p h = some (a, b, p', h') ∧ 0 ≤ p' ∧ (0 ≤ a ∧ a ≤ 100) ∧ (0 ≤ b ∧ b ≤ 100) := by
  unfold spec_l5Draw.f
  obtain ⟨x1, p1, h1, e1, g1, a0, a1⟩ := below_ok s hs p h hp 60
  obtain ⟨x2, p2, h2, e2, g2, b0, b1⟩ := below_ok s hs p1 h1 g1 30
  have := a1 (by omega)
  have := b1 (by omega)
  simp only [e1, e2, Option.bind_some]
  exact ⟨_, _, _, _, rfl, g2, by omega, by rw [wrap_id (by omega) (by omega)]; omega⟩
theorem draw7_ok (s : List Int) (hs : s.length ≤ 1048576) (p h : Int) (hp : 0 ≤ p) (id : Int) : ∃ b l c d m e f p' h', Ev (fun k => spec_l7Draw.f k s p h id) (id, b, l, c, d, m, e, f, p', h') ∧ 0 ≤ p' ∧ I64 b ∧ (l.length ≤ 10 ∧ I64s l) ∧ I64 c ∧ I64 d ∧ (m.length ≤ 10 ∧ I64s m) ∧ I64 e ∧ I64 f := by
  unfold spec_l7Draw.f
  obtain ⟨x1, p1, h1, e1, g1, a0, a1⟩ := below_ok s hs p h hp 12
  obtain ⟨x2, p2, h2, e2, g2, b0, b1⟩ := below_ok s hs p1 h1 g1 8
  obtain ⟨l, p3, h3, e3, g3, l1, l2⟩ := some7_ok s hs 0 7 3 (by omega) (by omega) (by omega) p2 h2 g2
  obtain ⟨x4, p4, h4, e4, g4, c0, c1⟩ := below_ok s hs p3 h3 g3 15
  obtain ⟨m, p5, h5, e5, g5, m1, m2⟩ := some7_ok s hs 1 6 2 (by omega) (by omega) (by omega) p4 h4 g4
  obtain ⟨e, f, p6, h6, e6, g6, s0, s1⟩ := span5_ok s hs p5 h5 g5
  have := a1 (by omega)
  have := b1 (by omega)
  have := c1 (by omega)
  have w1 : wrap64 (1 + x1) = 1 + x1 := wrap_id (by omega) (by omega)
  have w2 : wrap64 (1 + x2) = 1 + x2 := wrap_id (by omega) (by omega)
  have w3 : wrap64 (1 + x1 + x4) = 1 + x1 + x4 := wrap_id (by omega) (by omega)
  refine ⟨1 + x2, l, 1 + x1, 1 + x1 + x4, m, e, f, p6, h6, ev_bindc e1 (ev_bindc e2 (ev_bind e3 (ev_bindc e4 (ev_bind e5 (ev_bindc e6 (ev_some ?_)))))), g6, ⟨by omega, by omega⟩, ⟨l1, fun v hv => by have := l2 v hv; omega⟩, ⟨by omega, by omega⟩, ⟨by omega, by omega⟩, ⟨m1, fun v hv => by have := m2 v hv; omega⟩, ⟨by omega, by omega⟩, ⟨by omega, by omega⟩⟩
  simp only [w1, w2, w3]
theorem raw4_in (s : List Int) (hs : s.length ≤ 1048576) (p h : Int) (hp : 0 ≤ p) : ∃ x p' h', spec_l4Raw.f s p h = some (x, p', h') ∧ 0 ≤ p' ∧ I64 x := by
  unfold spec_l4Raw.f
  obtain ⟨x, p', h', e, g, hx⟩ := int_ok s hs p h hp ([(-1), 0, 8, 50, 51, 1000, 9223372036854775807, (-9223372036854775808)] : List Int) (by decide)
  rw [e, Option.bind_some]
  refine ⟨_, _, _, rfl, g, ?_⟩
  simp only [List.mem_cons, List.mem_nil_iff, or_false] at hx
  exact ⟨by show -9223372036854775808 ≤ x; omega, by show x ≤ 9223372036854775807; omega⟩
theorem span5a_ok (s : List Int) (hs : s.length ≤ 1048576) (p h : Int) (hp : 0 ≤ p) : ∃ a b p' h', spec_l5Any.f s p h = some (a, b, p', h') ∧ 0 ≤ p' ∧ I64 a ∧ I64 b := by
  unfold spec_l5Any.f
  obtain ⟨a, b, p1, h1, e1, g1, a0, b0⟩ := span5_ok s hs p h hp
  obtain ⟨y, p2, h2, e2, g2, _⟩ := below_ok s hs p1 h1 g1 10
  simp only [e1, e2, Option.bind_some]
  by_cases y0 : y = 0
  · obtain ⟨x, p3, h3, e3, g3, hx⟩ := raw4_in s hs p2 h2 g2
    rw [if_pos y0, e3, Option.bind_some]
    exact ⟨_, _, _, _, rfl, g3, hx, ⟨by show -9223372036854775808 ≤ b; omega, by show b ≤ 9223372036854775807; omega⟩⟩
  · rw [if_neg y0]
    by_cases y1 : y = 1
    · obtain ⟨x, p3, h3, e3, g3, hx⟩ := int_ok s hs p2 h2 g2 ([(-1), 0, 100000, 100001] : List Int) (by decide)
      rw [if_pos y1, e3, Option.bind_some]
      simp only [List.mem_cons, List.mem_nil_iff, or_false] at hx
      exact ⟨_, _, _, _, rfl, g3, ⟨by show -9223372036854775808 ≤ a; omega, by show a ≤ 9223372036854775807; omega⟩, ⟨by show -9223372036854775808 ≤ x; omega, by show x ≤ 9223372036854775807; omega⟩⟩
    · rw [if_neg y1]
      exact ⟨_, _, _, _, rfl, g2, ⟨by show -9223372036854775808 ≤ a; omega, by show a ≤ 9223372036854775807; omega⟩, ⟨by show -9223372036854775808 ≤ b; omega, by show b ≤ 9223372036854775807; omega⟩⟩
theorem any7_ok (s : List Int) (hs : s.length ≤ 1048576) (p h : Int) (hp : 0 ≤ p) : ∃ a b l c d m e f p' h', Ev (fun k => spec_l7Any.f k s p h) (a, b, l, c, d, m, e, f, p', h') ∧ 0 ≤ p' ∧ I64 a ∧ I64 b ∧ (l.length ≤ 10 ∧ I64s l) ∧ I64 c ∧ I64 d ∧ (m.length ≤ 10 ∧ I64s m) ∧ I64 e ∧ I64 f := by
  unfold spec_l7Any.f
  obtain ⟨i, p1, h1, e0, g1, i0, i1⟩ := below_ok s hs p h hp 9
  have := i1 (by omega)
  have ha : I64 (wrap64 (1 + i)) := by rw [wrap_id (by omega) (by omega)]; exact ⟨by omega, by omega⟩
  obtain ⟨b, l, c, d, m, e, f, p2, h2, e1, g2, hb, hl, hc, hd, hm, he, hf⟩ := draw7_ok s hs p1 h1 g1 (wrap64 (1 + i))
  obtain ⟨y, p3, h3, e2, g3, _⟩ := below_ok s hs p2 h2 g2 14
  by_cases y0 : y = 0
  · obtain ⟨x, p4, h4, e4, g4, hx⟩ := int_ok s hs p3 h3 g3 ([0, 999, 1000] : List Int) (by decide)
    have hxb : I64 x := by simp only [List.mem_cons, List.mem_nil_iff, or_false] at hx; exact ⟨by omega, by omega⟩
    exact ⟨_, _, _, _, _, _, _, _, _, _, ev_bindc e0 (ev_bind e1 (ev_bindc e2 (ev_itep y0 (ev_bindc e4 (ev_some rfl))))), g4, hxb, hb, hl, hc, hd, hm, he, hf⟩
  · skip
    by_cases y1 : y = 1
    · obtain ⟨x, p4, h4, e4, g4, hx⟩ := int_ok s hs p3 h3 g3 ([0, 8, 9] : List Int) (by decide)
      have hxb : I64 x := by simp only [List.mem_cons, List.mem_nil_iff, or_false] at hx; exact ⟨by omega, by omega⟩
      exact ⟨_, _, _, _, _, _, _, _, _, _, ev_bindc e0 (ev_bind e1 (ev_bindc e2 (ev_iten y0 (ev_itep y1 (ev_bindc e4 (ev_some rfl)))))), g4, ha, hxb, hl, hc, hd, hm, he, hf⟩
    · skip
      by_cases y2 : y = 2
      · obtain ⟨x, p4, h4, e4, g4, hx⟩ := int_ok s hs p3 h3 g3 ([(-1), 3, 8] : List Int) (by decide)
        have hxb : I64 x := by simp only [List.mem_cons, List.mem_nil_iff, or_false] at hx; exact ⟨by omega, by omega⟩
        exact ⟨_, _, _, _, _, _, _, _, _, _, ev_bindc e0 (ev_bind e1 (ev_bindc e2 (ev_iten y0 (ev_iten y1 (ev_itep y2 (ev_bindc e4 (ev_some rfl))))))), g4, ha, hb, ⟨by simp, fun v hv => by simp only [List.mem_cons, List.mem_nil_iff, or_false] at hv; rcases hv with rfl | rfl; exact hxb; exact ⟨by omega, by omega⟩⟩, hc, hd, hm, he, hf⟩
      · skip
        by_cases y3 : y = 3
        · obtain ⟨x, p4, h4, e4, g4, hxb⟩ := raw4_in s hs p3 h3 g3
          exact ⟨_, _, _, _, _, _, _, _, _, _, ev_bindc e0 (ev_bind e1 (ev_bindc e2 (ev_iten y0 (ev_iten y1 (ev_iten y2 (ev_itep y3 (ev_bindc e4 (ev_some rfl)))))))), g4, ha, hb, hl, hxb, hd, hm, he, hf⟩
        · skip
          by_cases y4 : y = 4
          · obtain ⟨x, p4, h4, e4, g4, hxb⟩ := raw4_in s hs p3 h3 g3
            exact ⟨_, _, _, _, _, _, _, _, _, _, ev_bindc e0 (ev_bind e1 (ev_bindc e2 (ev_iten y0 (ev_iten y1 (ev_iten y2 (ev_iten y3 (ev_itep y4 (ev_bindc e4 (ev_some rfl))))))))), g4, ha, hb, hl, hc, hxb, hm, he, hf⟩
          · skip
            by_cases y5 : y = 5
            · obtain ⟨x, p4, h4, e4, g4, hx⟩ := int_ok s hs p3 h3 g3 ([0, 30, 31] : List Int) (by decide)
              have hxb : I64 x := by simp only [List.mem_cons, List.mem_nil_iff, or_false] at hx; exact ⟨by omega, by omega⟩
              exact ⟨_, _, _, _, _, _, _, _, _, _, ev_bindc e0 (ev_bind e1 (ev_bindc e2 (ev_iten y0 (ev_iten y1 (ev_iten y2 (ev_iten y3 (ev_iten y4 (ev_itep y5 (ev_bindc e4 (ev_some rfl)))))))))), g4, ha, hb, hl, hc, hd, ⟨by simp, fun v hv => by simp only [List.mem_cons, List.mem_nil_iff, or_false] at hv; rcases hv with rfl; exact hxb⟩, he, hf⟩
            · skip
              by_cases y6 : y = 6
              · obtain ⟨x, z, p4, h4, e4, g4, hxb, hzb⟩ := span5a_ok s hs p3 h3 g3
                exact ⟨_, _, _, _, _, _, _, _, _, _, ev_bindc e0 (ev_bind e1 (ev_bindc e2 (ev_iten y0 (ev_iten y1 (ev_iten y2 (ev_iten y3 (ev_iten y4 (ev_iten y5 (ev_itep y6 (ev_bindc e4 (ev_some rfl))))))))))), g4, ha, hb, hl, hc, hd, hm, hxb, hzb⟩
              · skip
                by_cases y7 : y = 7
                · exact ⟨_, _, _, _, _, _, _, _, _, _, ev_bindc e0 (ev_bind e1 (ev_bindc e2 (ev_iten y0 (ev_iten y1 (ev_iten y2 (ev_iten y3 (ev_iten y4 (ev_iten y5 (ev_iten y6 (ev_itep y7 (ev_some rfl))))))))))), g3, ha, hb, ⟨by simp, fun v hv => by simp at hv⟩, ⟨by omega, by omega⟩, ⟨by omega, by omega⟩, ⟨by simp, fun v hv => by simp at hv⟩, he, hf⟩
                · exact ⟨_, _, _, _, _, _, _, _, _, _, ev_bindc e0 (ev_bind e1 (ev_bindc e2 (ev_iten y0 (ev_iten y1 (ev_iten y2 (ev_iten y3 (ev_iten y4 (ev_iten y5 (ev_iten y6 (ev_iten y7 (ev_some rfl))))))))))), g3, ha, hb, hl, hc, hd, hm, he, hf⟩
theorem max_tot (a b : Int) : ∃ x, spec_Max.f a b = some x := by unfold spec_Max.f; split <;> exact ⟨_, rfl⟩
theorem min_tot (a b : Int) : ∃ x, spec_Min.f a b = some x := by unfold spec_Min.f; split <;> exact ⟨_, rfl⟩
theorem pair24_ok (s : List Int) (hs : s.length ≤ 1048576) (p h : Int) (hp : 0 ≤ p) : ∃ r, Ev (fun k => spec_l24Pair.f k s p h) r := by
  unfold spec_l24Pair.f
  obtain ⟨a, b, c, d, e, f, g, i, p1, h1, e1, g1⟩ := one6_ok s hs p h hp
  obtain ⟨x2, p2, h2, e2, g2, _⟩ := below_ok s hs p1 h1 g1 9
  obtain ⟨x3, e3⟩ := min_tot 100000 g
  obtain ⟨x4, p4, h4, e4, g4, _⟩ := int_ok s hs p2 h2 g2 ([0, 5, 24, 25, (-24), (-25)] : List Int) (by decide)
  obtain ⟨x5, e5⟩ := max_tot 0 (wrap64 (x3 + x4))
  obtain ⟨y, p6, h6, e6, g6, _⟩ := below_ok s hs p4 h4 g4 6
  by_cases y0 : y = 0
  · obtain ⟨x7, p7, h7, e7, g7, _⟩ := below_ok s hs p6 h6 g6 6
    exact ⟨_, ev_bind e1 (ev_bindc e2 (ev_bindc e3 (ev_bindc e4 (ev_bindc e5 (ev_bindc e6 (ev_itep y0 (ev_bindc e7 (ev_some rfl))))))))⟩
  · by_cases y1 : y = 1
    · obtain ⟨x7, p7, h7, e7, g7, _⟩ := below_ok s hs p6 h6 g6 20
      exact ⟨_, ev_bind e1 (ev_bindc e2 (ev_bindc e3 (ev_bindc e4 (ev_bindc e5 (ev_bindc e6 (ev_iten y0 (ev_itep y1 (ev_bindc e7 (ev_some rfl)))))))))⟩
    · by_cases y2 : y = 2
      · obtain ⟨a', b', c', d', e', f', g', i', p7, h7, e7, g7⟩ := one6_ok s hs p6 h6 g6
        exact ⟨_, ev_bind e1 (ev_bindc e2 (ev_bindc e3 (ev_bindc e4 (ev_bindc e5 (ev_bindc e6 (ev_iten y0 (ev_iten y1 (ev_itep y2 (ev_bind e7 (ev_some rfl))))))))))⟩
      · exact ⟨_, ev_bind e1 (ev_bindc e2 (ev_bindc e3 (ev_bindc e4 (ev_bindc e5 (ev_bindc e6 (ev_iten y0 (ev_iten y1 (ev_iten y2 (ev_some rfl)))))))))⟩
theorem drawTwins_ok (s : List Int) (hs : s.length ≤ 1048576) : ∃ r, Ev (fun k => spec_DrawAreTwins.f k s) r := by
  unfold spec_DrawAreTwins.f
  obtain ⟨h0, e0⟩ := new_ok s hs
  obtain ⟨r, e1⟩ := pair24_ok s hs 0 h0 (by omega)
  exact ⟨_, ev_bind e0 (ev_bind e1 (ev_some rfl))⟩
theorem list24_ok (s : List Int) (hs : s.length ≤ 1048576) : ∀ (d i : Nat) (l : List IFind) (p h : Int), i + d = l.length → 1 ≤ i → l.length ≤ 8 → 0 ≤ p → ∃ r p' h', Ev (fun k => spec_l24List.l0 k l (i : Int) s p h) (r, p', h') ∧ r.length ≤ 8 := by
  intro d
  induction d with
  | zero =>
    intro i l p h hi h1 h8 hp
    exact ⟨l, p, h, ev_step (fun k => by simp only [spec_l24List.l0]; rfl) (ev_iten (by omega) (ev_some rfl)), h8⟩
  | succ d ih =>
    intro i l p h hi h1 h8 hp
    have w : wrap64 ((i : Int) + 1) = ((i + 1 : Nat) : Int) := by rw [wrap_id (by omega) (by omega)]; omega
    have w1 : wrap64 ((i : Int) - 1) = (i : Int) - 1 := wrap_id (by omega) (by omega)
    obtain ⟨b, p1, h1', e1, g1⟩ := once_ok s hs p h hp 3
    cases b with
    | true =>
      obtain ⟨x2, e2⟩ := min_tot 99000 (rd_T58 l ((i : Int) - 1)).f2
      obtain ⟨x3, p3, h3, e3, g3, _⟩ := int_ok s hs p1 h1' g1 ([0, 20, 30] : List Int) (by decide)
      obtain ⟨x4, e4⟩ := max_tot 0 (wrap64 (x2 + x3))
      let z : IFind := ⟨⟨(rd_T58 l (i : Int)).f0.f0, (rd_T58 l ((i : Int) - 1)).f0.f1, (rd_T58 l ((i : Int) - 1)).f0.f2, (rd_T58 l ((i : Int) - 1)).f0.f3, (rd_T58 l ((i : Int) - 1)).f0.f4⟩, (rd_T58 l ((i : Int) - 1)).f1, x4, (rd_T58 l ((i : Int) - 1)).f3⟩
      obtain ⟨r, p', h', e5, g5⟩ := ih (i + 1) (l.set (i : Int).toNat z) p3 h3 (by rw [List.length_set]; omega) (by omega) (by rw [List.length_set]; exact h8) g3
      refine ⟨r, p', h', ev_step (fun k => by simp only [spec_l24List.l0]; rfl) (ev_itep (by omega) (ev_bindc e1 (ev_itep (show true = true from rfl) ?_))), g5⟩
      simp only [w1, w]
      exact ev_itep (by omega) (ev_itep (by omega) (ev_itep (by omega) (ev_bindc e2 (ev_bindc e3 (ev_bindc e4 e5)))))
    | false =>
      obtain ⟨r, p', h', e2, g2⟩ := ih (i + 1) l p1 h1' (by omega) (by omega) h8 g1
      refine ⟨r, p', h', ev_step (fun k => by simp only [spec_l24List.l0]; rfl) (ev_itep (by omega) (ev_bindc e1 (ev_iten (show ¬ (false = true) by decide) ?_))), g2⟩
      simp only [w]
      exact e2
theorem drawTwinsOf_ok (s : List Int) (hs : s.length ≤ 1048576) : ∃ l, Ev (fun k => spec_DrawTwinsOf.f k s) l ∧ l.length ≤ 1048576 := by
  unfold spec_DrawTwinsOf.f spec_l24List.f
  obtain ⟨h0, e0⟩ := new_ok s hs
  obtain ⟨l, p1, h1, e1, g1, h8⟩ := any6_ok s hs 0 h0 (by omega)
  have key : ∃ r p' h', Ev (fun k => spec_l24List.l0 k l 1 s p1 h1) (r, p', h') ∧ r.length ≤ 8 := by
    by_cases c : 1 ≤ l.length
    · exact list24_ok s hs (l.length - 1) 1 l p1 h1 (by omega) (by omega) h8 g1
    · exact ⟨l, p1, h1, ev_step (fun k => by simp only [spec_l24List.l0]; rfl) (ev_iten (by omega) (ev_some rfl)), h8⟩
  obtain ⟨r, p', h', e2, g2⟩ := key
  exact ⟨r, ev_bind e0 (ev_bind (ev_bind e1 e2) (ev_some rfl)), by omega⟩
/-- Two reports, of short rows. -/
def TwoR (r : Int × Int × List Int × Int × Int × List Int × Int × Int × Int × Int × List Int × Int × Int × List Int × Int × Int) : Prop :=
  r.2.2.1.length ≤ 1048576 ∧ r.2.2.2.2.2.1.length ≤ 1048576 ∧ r.2.2.2.2.2.2.2.2.2.2.1.length ≤ 1048576 ∧ r.2.2.2.2.2.2.2.2.2.2.2.2.2.1.length ≤ 1048576
theorem wider_ok (s : List Int) (hs : s.length ≤ 1048576) : ∃ r, Ev (fun k => spec_DrawIsWider.f k s) r ∧ TwoR r := by
  unfold spec_DrawIsWider.f
  obtain ⟨h0, e0⟩ := new_ok s hs
  obtain ⟨a, b, l, c, d, m, e, f, p1, h1, e1, g1, _, _, hl, _, _, hm, _⟩ := any7_ok s hs 0 h0 (by omega)
  have e2 : spec_l7Report.f a b l c d m e f = some (a, b, l, c, d, m, e, f) := by
    unfold spec_l7Report.f
    have := hl.1
    have := hm.1
    simp only [Option.bind_some, List.length_nil, Nat.zero_add, List.nil_append]
    rw [if_pos (by omega), if_pos (by omega)]
  obtain ⟨y, p3, h3, e3, g3, _⟩ := below_ok s hs p1 h1 g1 5
  have l1 := hl.1
  have m1 := hm.1
  by_cases y0 : y = 0
  · exact ⟨_, ev_bind e0 (ev_bind e1 (ev_bindc e2 (ev_bindc e3 (ev_itep y0 (ev_some rfl))))), ⟨by simp, by show m.length ≤ _; omega, by show l.length ≤ _; omega, by show m.length ≤ _; omega⟩⟩
  · by_cases y1 : y = 1
    · exact ⟨_, ev_bind e0 (ev_bind e1 (ev_bindc e2 (ev_bindc e3 (ev_iten y0 (ev_itep y1 (ev_some rfl)))))), ⟨by show l.length ≤ _; omega, by simp, by show l.length ≤ _; omega, by show m.length ≤ _; omega⟩⟩
    · by_cases y2 : y = 2
      · exact ⟨_, ev_bind e0 (ev_bind e1 (ev_bindc e2 (ev_bindc e3 (ev_iten y0 (ev_iten y1 (ev_itep y2 (ev_some rfl))))))), ⟨by show l.length ≤ _; omega, by show m.length ≤ _; omega, by show l.length ≤ _; omega, by show m.length ≤ _; omega⟩⟩
      · by_cases y3 : y = 3
        · obtain ⟨a', b', l', c', d', m', e', f', p4, h4, e4, g4, _, _, hl', _, _, hm', _⟩ := any7_ok s hs p3 h3 g3
          have := hl'.1
          have := hm'.1
          exact ⟨_, ev_bind e0 (ev_bind e1 (ev_bindc e2 (ev_bindc e3 (ev_iten y0 (ev_iten y1 (ev_iten y2 (ev_itep y3 (ev_bind e4 (ev_some rfl))))))))), ⟨by show l'.length ≤ _; omega, by show m'.length ≤ _; omega, by show l.length ≤ _; omega, by show m.length ≤ _; omega⟩⟩
        · exact ⟨_, ev_bind e0 (ev_bind e1 (ev_bindc e2 (ev_bindc e3 (ev_iten y0 (ev_iten y1 (ev_iten y2 (ev_iten y3 (ev_some rfl)))))))), ⟨by show l.length ≤ _; omega, by show m.length ≤ _; omega, by show l.length ≤ _; omega, by show m.length ≤ _; omega⟩⟩
theorem owner_ok (s : List Int) (hs : s.length ≤ 1048576) : ∃ r, Ev (fun k => spec_DrawSameOwner.f k s) r ∧ TwoR r := by
  unfold spec_DrawSameOwner.f spec_DrawSharpen.f
  obtain ⟨r, e0, t1, t2, t3, t4⟩ := wider_ok s hs
  obtain ⟨h0, e1⟩ := new_ok s hs
  obtain ⟨b, p2, h2, e2, g2⟩ := once_ok s hs 0 h0 (by omega) 2
  cases b with
  | true =>
    obtain ⟨a', b', l', c', d', m', e', f', p4, h4, e4, g4, _, _, hl', _, _, hm', _⟩ := any7_ok s hs p2 h2 g2
    have := hl'.1
    have := hm'.1
    exact ⟨_, ev_bind (ev_bind e0 (ev_bind e1 (ev_bindc e2 (ev_itep (show true = true from rfl) (ev_bind e4 (ev_some rfl)))))) (ev_some rfl), ⟨t1, t2, by show l'.length ≤ _; omega, by show m'.length ≤ _; omega⟩⟩
  | false => exact ⟨_, ev_bind (ev_bind e0 (ev_bind e1 (ev_bindc e2 (ev_iten (show ¬ (false = true) by decide) (ev_some rfl))))) (ev_some rfl), ⟨t1, t2, t3, t4⟩⟩
/-- Reports of short rows. -/
def Shorts (l : List IReport) : Prop := ∀ x ∈ l, x.f2.length ≤ 10 ∧ x.f5.length ≤ 10
theorem Shorts_set {l : List IReport} (h : Shorts l) (i : Nat) (x : IReport) (hx : x.f2.length ≤ 10 ∧ x.f5.length ≤ 10) : Shorts (l.set i x) := by
  intro y hy
  rcases List.mem_or_eq_of_mem_set hy with h1 | h1
  · exact h y h1
  · rw [h1]; exact hx
theorem Shorts_snoc {l : List IReport} (h : Shorts l) (x : IReport) (hx : x.f2.length ≤ 10 ∧ x.f5.length ≤ 10) : Shorts (l ++ [x]) := by
  intro y hy
  rcases List.mem_append.1 hy with h1 | h1
  · exact h y h1
  · rw [List.mem_singleton.1 h1]; exact hx
theorem list7_ok (s : List Int) (hs : s.length ≤ 1048576) (p h : Int) (hp : 0 ≤ p) : ∃ l p' h', Ev (fun k => spec_l7List.f k s p h) (l, p', h') ∧ 0 ≤ p' ∧ l.length ≤ 6 ∧ Shorts l := by
  unfold spec_l7List.f
  have fin : ∀ (l : List IReport) (p h : Int), l.length ≤ 6 → Shorts l → 0 ≤ p → ∃ r p' h', Ev (fun k => if (l.length : Int) > 0 then ((spec_l1Once.f s p h 8).bind fun bt814 => (spec_l7List.j1 k l bt814.1 s bt814.2.1 bt814.2.2)) else (spec_l7List.j1 k l false s p h)) (r, p', h') ∧ 0 ≤ p' ∧ r.length ≤ 6 ∧ Shorts r := by
    intro l p h hl hS hp
    have no : ∀ p h : Int, 0 ≤ p → Ev (fun k => spec_l7List.j1 k l false s p h) (l, p, h) := fun p h _ => ev_step (fun k => by simp only [spec_l7List.j1]; rfl) (ev_iten (show ¬ (false = true) by decide) (ev_some rfl))
    by_cases c : (l.length : Int) > 0
    · obtain ⟨b, p1, h1, e1, g1⟩ := once_ok s hs p h hp 8
      cases b with
      | false => exact ⟨l, p1, h1, ev_itep c (ev_bindc e1 (no p1 h1 g1)), g1, hl, hS⟩
      | true =>
        obtain ⟨x, p2, h2, e2, g2, x0, x1⟩ := below_ok s hs p1 h1 g1 (l.length : Int)
        have := x1 c
        obtain ⟨a', b', l', c', d', m', e', f', p3, h3, e3, g3, _, _, hl', _, _, hm', _⟩ := any7_ok s hs p2 h2 g2
        let z : IReport := ⟨a', b', l', c', d', m', ⟨e', f'⟩⟩
        exact ⟨l.set x.toNat z, p3, h3, ev_itep c (ev_bindc e1 (ev_step (fun k => by simp only [spec_l7List.j1]; rfl) (ev_itep (show true = true from rfl) (ev_bindc e2 (ev_bind e3 (ev_itep x0 (ev_itep this (ev_some rfl)))))))), g3, by rw [List.length_set]; exact hl, Shorts_set hS _ z ⟨hl'.1, hm'.1⟩⟩
    · exact ⟨l, p, h, ev_iten c (no p h hp), hp, hl, hS⟩
  have key : ∀ (d i : Nat) (l : List IReport) (p h : Int), i + d = 6 → l.length + 1 = i → Shorts l → 0 ≤ p → ∃ r p' h', Ev (fun k => spec_l7List.l0 k l (i : Int) s p h) (r, p', h') ∧ 0 ≤ p' ∧ r.length ≤ 6 ∧ Shorts r := by
    intro d
    induction d with
    | zero =>
      intro i l p h hi hl hS hp
      obtain ⟨x, p', h', e, h1, _, h3⟩ := below_ok s hs p h hp 6
      have := h3 (by omega)
      obtain ⟨r, p2, h2, e2, g⟩ := fin l p' h' (by omega) hS h1
      exact ⟨r, p2, h2, ev_step (fun k => by simp only [spec_l7List.l0]; rfl) (ev_bindc e (ev_iten (show ¬ (i : Int) ≤ x by omega) e2)), g⟩
    | succ d ih =>
      intro i l p h hi hl hS hp
      obtain ⟨x, p', h', e, h1, _, h3⟩ := below_ok s hs p h hp 6
      by_cases c : (i : Int) ≤ x
      · obtain ⟨b', l', c', d', m', e', f', p2, h2, e2, g2, _, hl', _, _, hm', _⟩ := draw7_ok s hs p' h' h1 (wrap64 (3 * (i : Int)))
        let z : IReport := ⟨wrap64 (3 * (i : Int)), b', l', c', d', m', ⟨e', f'⟩⟩
        obtain ⟨r, p3, h3', e3, g3⟩ := ih (i + 1) (l ++ [z]) p2 h2 (by omega) (by simp; omega) (Shorts_snoc hS z ⟨hl'.1, hm'.1⟩) g2
        refine ⟨r, p3, h3', ev_step (fun k => by simp only [spec_l7List.l0]; rfl) (ev_bindc e (ev_itep c (ev_bind e2 (ev_itep (show l.length < 1466015503701 by omega) ?_)))), g3⟩
        simp only
        rw [wrap_id (x := (i : Int) + 1) (by omega) (by omega)]
        exact e3
      · obtain ⟨r, p2, h2, e2, g⟩ := fin l p' h' (by omega) hS h1
        exact ⟨r, p2, h2, ev_step (fun k => by simp only [spec_l7List.l0]; rfl) (ev_bindc e (ev_iten c e2)), g⟩
  exact key 5 1 [] p h rfl rfl (fun x hx => by cases hx) hp
theorem for8_ok (s : List Int) (hs : s.length ≤ 1048576) (a0 a1 a2 a3 a4 a5 a6 a7 id : Int) (p h : Int) (hp : 0 ≤ p) : ∃ a b l c d m e f p' h', Ev (fun k => spec_l8For.f k s p h a0 a1 a2 a3 a4 a5 a6 a7 id) (a, b, l, c, d, m, e, f, p', h') ∧ 0 ≤ p' ∧ l.length ≤ 10 ∧ m.length ≤ 10 := by
  have j2 : ∀ (p h : Int), 0 ≤ p → ∀ (x0 x1 : Int) (x2 : List Int) (x3 x4 : Int) (x5 : List Int) (x6 x7 : Int), ∃ e f p' h', Ev (fun k => spec_l8For.j2 k s p h a0 a1 a2 a3 a4 a5 a6 a7 x0 x1 x2 x3 x4 x5 x6 x7) (x0, x1, x2, x3, x4, x5, e, f, p', h') ∧ 0 ≤ p' := by
    intro p h hp x0 x1 x2 x3 x4 x5 x6 x7
    obtain ⟨b, p1, h1, e1, g1⟩ := once_ok s hs p h hp 6
    cases b with
    | true => exact ⟨_, _, _, _, ev_step (fun k => by simp only [spec_l8For.j2]; rfl) (ev_bindc e1 (ev_itep (show true = true from rfl) (ev_some rfl))), g1⟩
    | false =>
      obtain ⟨x, p2, h2, e2, g2, _⟩ := below_ok s hs p1 h1 g1 40
      obtain ⟨y, e3⟩ := max_tot 0 (wrap64 (a6 - x))
      obtain ⟨z, e4⟩ := max_tot 0 a6
      refine ⟨y, z, p2, h2, ev_step (fun k => by simp only [spec_l8For.j2]; rfl) (ev_bindc e1 (ev_iten (show ¬ (false = true) by decide) (ev_bindc e2 (ev_bindc e3 ?_)))), g2⟩
      exact ev_bindc e4 (ev_some rfl)
  have j1 : ∀ (p h : Int), 0 ≤ p → ∀ (x0 x1 : Int) (x2 : List Int) (x3 x4 : Int) (x5 : List Int) (x6 x7 : Int), x5.length ≤ 10 → ∃ m e f p' h', Ev (fun k => spec_l8For.j1 k s p h a0 a1 a2 a3 a4 a5 a6 a7 x0 x1 x2 x3 x4 x5 x6 x7) (x0, x1, x2, x3, x4, m, e, f, p', h') ∧ 0 ≤ p' ∧ m.length ≤ 10 := by
    intro p h hp x0 x1 x2 x3 x4 x5 x6 x7 h5
    obtain ⟨b, p1, h1, e1, g1⟩ := once_ok s hs p h hp 6
    cases b with
    | true =>
      obtain ⟨e, f, p', h', e2, g2⟩ := j2 p1 h1 g1 x0 x1 x2 x3 x4 x5 x6 x7
      exact ⟨_, _, _, _, _, ev_step (fun k => by simp only [spec_l8For.j1]; rfl) (ev_bindc e1 (ev_itep (show true = true from rfl) e2)), g2, h5⟩
    | false =>
      obtain ⟨e, f, p', h', e2, g2⟩ := j2 p1 h1 g1 x0 x1 x2 x3 x4 [a5] x6 x7
      exact ⟨_, _, _, _, _, ev_step (fun k => by simp only [spec_l8For.j1]; rfl) (ev_bindc e1 (ev_iten (show ¬ (false = true) by decide) e2)), g2, by simp⟩
  have j0 : ∀ (p h : Int), 0 ≤ p → ∀ (x0 x1 : Int) (x2 : List Int) (x3 x4 : Int) (x5 : List Int) (x6 x7 : Int), x5.length ≤ 10 → ∃ c d m e f p' h', Ev (fun k => spec_l8For.j0 k s p h a0 a1 a2 a3 a4 a5 a6 a7 x0 x1 x2 x3 x4 x5 x6 x7) (x0, x1, x2, c, d, m, e, f, p', h') ∧ 0 ≤ p' ∧ m.length ≤ 10 := by
    intro p h hp x0 x1 x2 x3 x4 x5 x6 x7 h5
    obtain ⟨b, p1, h1, e1, g1⟩ := once_ok s hs p h hp 6
    cases b with
    | true =>
      obtain ⟨m, e, f, p', h', e2, g2⟩ := j1 p1 h1 g1 x0 x1 x2 x3 x4 x5 x6 x7 h5
      exact ⟨_, _, _, _, _, _, _, ev_step (fun k => by simp only [spec_l8For.j0]; rfl) (ev_bindc e1 (ev_itep (show true = true from rfl) e2)), g2⟩
    | false =>
      obtain ⟨x, p2, h2, e2, g2, _⟩ := below_ok s hs p1 h1 g1 4
      obtain ⟨y, e3⟩ := max_tot 1 (wrap64 (a3 - x))
      obtain ⟨x', p4, h4, e4, g4, _⟩ := below_ok s hs p2 h2 g2 4
      obtain ⟨z, e5⟩ := min_tot 50 (wrap64 (a3 + x'))
      obtain ⟨m, e, f, p', h', e6, g6⟩ := j1 p4 h4 g4 x0 x1 x2 y z x5 x6 x7 h5
      exact ⟨_, _, _, _, _, _, _, ev_step (fun k => by simp only [spec_l8For.j0]; rfl) (ev_bindc e1 (ev_iten (show ¬ (false = true) by decide) (ev_bindc e2 (ev_bindc e3 (ev_bindc e4 (ev_bindc e5 e6)))))), g6⟩
  unfold spec_l8For.f
  obtain ⟨b', l', c', d', m', e', f', p2, h2, e2, g2, _, hl', _, _, hm', _⟩ := draw7_ok s hs p h hp id
  obtain ⟨b, p3, h3, e3, g3⟩ := once_ok s hs p2 h2 g2 6
  cases b with
  | true =>
    obtain ⟨c, d, m, e, f, p', h', e4, g4, hm⟩ := j0 p3 h3 g3 id a1 l' c' d' m' e' f' hm'.1
    exact ⟨_, _, _, _, _, _, _, _, _, _, ev_bind e2 (ev_bindc e3 (ev_itep (show true = true from rfl) e4)), g4, hl'.1, hm⟩
  | false =>
    obtain ⟨c, d, m, e, f, p', h', e4, g4, hm⟩ := j0 p3 h3 g3 id a1 [a2] c' d' m' e' f' hm'.1
    exact ⟨_, _, _, _, _, _, _, _, _, _, ev_bind e2 (ev_bindc e3 (ev_iten (show ¬ (false = true) by decide) e4)), g4, by simp, hm⟩
theorem drawGroups_ok (s : List Int) (hs : s.length ≤ 1048576) : ∃ l, Ev (fun k => spec_DrawGroupReports.f k s) l ∧ Small l := by
  unfold spec_DrawGroupReports.f
  obtain ⟨h0, e0⟩ := new_ok s hs
  obtain ⟨a, b, c, d, e, f, g, i, p1, h1, e1, g1⟩ := one6_ok s hs 0 h0 (by omega)
  obtain ⟨l, p2, h2, e2, g2, h6, hS⟩ := list7_ok s hs p1 h1 g1
  have key : ∀ (n i' : Nat) (l : List IReport) (p h : Int), i' + n = l.length → l.length ≤ 6 → Shorts l → 0 ≤ p → ∃ r, Ev (fun k => spec_DrawGroupReports.l0 k l (i' : Int) s p h a b c d e f g i) r ∧ r.length ≤ 6 ∧ Shorts r := by
    intro n
    induction n with
    | zero =>
      intro i' l p h hi h6 hS hp
      exact ⟨l, ev_step (fun k => by simp only [spec_DrawGroupReports.l0]; rfl) (ev_iten (by omega) (ev_some rfl)), h6, hS⟩
    | succ n ih =>
      intro i' l p h hi h6 hS hp
      have w : wrap64 ((i' : Int) + 1) = ((i' + 1 : Nat) : Int) := by rw [wrap_id (by omega) (by omega)]; omega
      obtain ⟨q, p3, h3, e3, g3⟩ := once_ok s hs p h hp 2
      cases q with
      | true =>
        obtain ⟨A, B, L, C, D, M, E, F, p4, h4, e4, g4, hL, hM⟩ := for8_ok s hs a b c d e f g i (rd_T41 l (i' : Int)).f0 p3 h3 g3
        let z : IReport := ⟨A, B, L, C, D, M, ⟨E, F⟩⟩
        obtain ⟨r, e5, g5⟩ := ih (i' + 1) (l.set (i' : Int).toNat z) p4 h4 (by rw [List.length_set]; omega) (by rw [List.length_set]; exact h6) (Shorts_set hS _ z ⟨hL, hM⟩) g4
        refine ⟨r, ev_step (fun k => by simp only [spec_DrawGroupReports.l0]; rfl) (ev_itep (by omega) (ev_bindc e3 ?_)), g5⟩
        refine ev_itep (show true = true from rfl) (ev_itep (show 0 ≤ (i' : Int) by omega) (ev_bind e4 ?_))
        simp only [w]
        exact e5
      | false =>
        obtain ⟨r, e5, g5⟩ := ih (i' + 1) l p3 h3 (by omega) h6 hS g3
        refine ⟨r, ev_step (fun k => by simp only [spec_DrawGroupReports.l0]; rfl) (ev_itep (by omega) (ev_bindc e3 (ev_iten (show ¬ (false = true) by decide) ?_))), g5⟩
        simp only [w]
        exact e5
  obtain ⟨r, e3, g3, g4⟩ := key l.length 0 l p2 h2 (by omega) h6 hS g2
  exact ⟨r, ev_bind e0 (ev_bind e1 (ev_bind e2 e3)), by omega, fun x hx => by have := g4 x hx; omega⟩
end Go.Proofs.Ytglpmjcknhcjcaa.PFnTwins
