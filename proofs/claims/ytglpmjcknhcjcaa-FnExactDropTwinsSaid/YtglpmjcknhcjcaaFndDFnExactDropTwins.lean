/- Lists of Find: what is said of them. -/
import Derived.Test.YtglpmjcknhcjcaaCvFindFnExactDropTwins
import Derived.Test.YtglpmjcknhcjcaaInRFnExactDropTwins
import Derived.Test.YtglpmjcknhcjcaaL1InFnExactDropTwins
namespace Go.Proofs.Ytglpmjcknhcjcaa.PFnExactDropTwins
open Go.RowKit Go.Proofs.YtglpmjcknhcjcaaW.PrintWords Go.Proofs.YtglpmjcknhcjcaaW.PrintLast Go.Proofs.Ytglpmjcknhcjcaa.EvLib
def fd (l : List IFind) (i : Nat) : IFind := l.getD i z58
theorem rd_fd (l : List IFind) (i : Nat) : rd_T58 l (i : Int) = fd l i := by unfold rd_T58 fd; rw [Int.toNat_natCast]
theorem fd_get (l : List IFind) (i : Nat) (h : i < l.length) : fd l i = l[i] := by simp [fd, List.getD, h]
def isTh (a b c d e : Int) : Bool := decide (1 ≤ a ∧ a ≤ 999) && (decide (1 ≤ b ∧ b ≤ 8) && (decide (0 ≤ c ∧ c ≤ 7) && (decide (1 ≤ d ∧ d ≤ 50) && decide (0 ≤ e ∧ e ≤ 10000000))))
def isF8 (a b c d e f g h : Int) : Bool := isTh a b c d e && (decide (1 ≤ f ∧ f ≤ 30) && (decide (0 ≤ g ∧ g ≤ 100000) && decide (0 ≤ h ∧ h ≤ 999)))
def isFd (x : IFind) : Bool := isF8 x.f0.f0 x.f0.f1 x.f0.f2 x.f0.f3 x.f0.f4 x.f1 x.f2 x.f3
theorem ite_and (a b : Bool) : (if a = true then some b else some false) = some (a && b) := by cases a <;> rfl
theorem implIsThing_eq (a b c d e : Int) : impl_IsThing.f a b c d e = some (isTh a b c d e) := by
  unfold impl_IsThing.f isTh
  simp only [inRange_eq, Option.bind_some, ite_and]
theorem implIsFind_eq (a b c d e f g h : Int) : impl_IsFind.f a b c d e f g h = some (isF8 a b c d e f g h) := by
  unfold impl_IsFind.f isF8
  simp only [implIsThing_eq, inRange_eq, Option.bind_some, ite_and]
theorem specIsThing_eq (a b c d e : Int) : spec_IsThing.f a b c d e = some (isTh a b c d e) := by
  unfold spec_IsThing.f isTh
  simp only [l1In_eq, Option.bind_some, ite_and]
theorem specIsFind_eq (a b c d e f g h : Int) : spec_IsFind.f a b c d e f g h = some (isF8 a b c d e f g h) := by
  unfold spec_IsFind.f isF8
  simp only [specIsThing_eq, l1In_eq, Option.bind_some, ite_and]
def fdOk (l : List IFind) (i : Nat) : Bool := isFd (fd l i) && (decide (i = 0) || decide ((fd l (i - 1)).f0.f0 < (fd l i).f0.f0))
def areFd (l : List IFind) : Bool := (List.range l.length).all (fdOk l) && decide (l.length ≤ 20)
theorem areFd_ok {l : List IFind} (h : areFd l = true) (i : Nat) (hi : i < l.length) : fdOk l i = true := by
  unfold areFd at h
  rw [Bool.and_eq_true, List.all_eq_true] at h
  exact h.1 i (List.mem_range.mpr hi)
theorem areFd_len {l : List IFind} (h : areFd l = true) : l.length ≤ 20 := by
  unfold areFd at h
  rw [Bool.and_eq_true] at h
  exact of_decide_eq_true h.2
theorem implAreFinds_ev (l : List IFind) (hl : l.length ≤ 1048577) : Ev (fun k => impl_AreFinds.f k l) (areFd l) := by
  unfold impl_AreFinds.f
  refine ev_ite (fun h => ev_some ?_) (fun h => ev_eq (ev_all (fun k i => impl_AreFinds.l0 k l l (l.length : Int) i) l.length (fdOk l) true (by omega) (fun k => ?_) (fun k i hi => ?_)) ?_)
  · unfold areFd
    rw [decide_eq_false (by omega), Bool.and_false]
  · simp only [impl_AreFinds.l0]
    rw [if_neg (by omega)]
  · simp only [impl_AreFinds.l0, rd_fd, implIsFind_eq, Option.bind_some]
    rw [if_pos (by omega), if_pos (by omega), if_pos (by omega)]
    unfold fdOk isFd
    generalize isF8 _ _ _ _ _ _ _ _ = b
    cases b with
    | false => simp
    | true =>
      by_cases h4 : i = 0
      · subst h4; simp
      · have e : wrap64 ((i : Int) - 1) = ((i - 1 : Nat) : Int) := by rw [wrap_id (by omega) (by omega)]; omega
        rw [e, rd_fd]
        have g1 : 0 < i := by omega
        have g2 : i - 1 < l.length := by omega
        by_cases h5 : (fd l (i - 1)).f0.f0 < (fd l i).f0.f0
        · have g5 : ¬ (fd l i).f0.f0 ≤ (fd l (i - 1)).f0.f0 := by omega
          simp [h4, h5, g1, g2, g5]
        · have g5 : (fd l i).f0.f0 ≤ (fd l (i - 1)).f0.f0 := by omega
          simp [h4, h5, g1, g2, g5]
  · unfold areFd
    rw [decide_eq_true (by omega)]
theorem specAreFinds_ev (l : List IFind) (hl : l.length ≤ 1048577) : Ev (fun k => spec_AreFinds.f k l) (areFd l) := by
  unfold spec_AreFinds.f
  refine ev_eq (ev_all (fun k i => spec_AreFinds.l0 k l i) l.length (fdOk l) (decide ((l.length : Int) ≤ 20)) (by omega) (fun k => ?_) (fun k i hi => ?_)) ?_
  · simp only [spec_AreFinds.l0]
    rw [if_neg (by omega)]
  · simp only [spec_AreFinds.l0, rd_fd, specIsFind_eq, Option.bind_some]
    rw [if_pos (by omega), if_pos (by omega)]
    unfold fdOk isFd
    generalize isF8 _ _ _ _ _ _ _ _ = b
    cases b with
    | false => simp
    | true =>
      by_cases h4 : i = 0
      · subst h4; simp
      · have e : wrap64 ((i : Int) - 1) = ((i - 1 : Nat) : Int) := by rw [wrap_id (by omega) (by omega)]; omega
        rw [e, rd_fd]
        have g1 : 0 < i := by omega
        have g2 : i - 1 < l.length := by omega
        by_cases h5 : (fd l (i - 1)).f0.f0 < (fd l i).f0.f0
        · have g5 : ¬ (fd l i).f0.f0 ≤ (fd l (i - 1)).f0.f0 := by omega
          simp [h4, h5, g1, g2, g5]
        · have g5 : (fd l i).f0.f0 ≤ (fd l (i - 1)).f0.f0 := by omega
          simp [h4, h5, g1, g2, g5]
  · unfold areFd
    congr 1
    rw [decide_eq_decide]; omega
end Go.Proofs.Ytglpmjcknhcjcaa.PFnExactDropTwins
