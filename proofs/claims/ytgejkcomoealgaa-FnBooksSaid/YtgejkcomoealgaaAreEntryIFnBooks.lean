/- AreEntries of the program. -/
import Derived.Test.YtgejkcomoealgaaAreEntryDFnBooks
import Derived.Test.YtgejkcomoealgaaInRFnBooks
namespace Go.Proofs.Ytgejkcomoealgaa.PFnBooks
open Go.RowKit Go.Proofs.YtgejkcomoealgaaW.PrintWords Go.Proofs.YtgejkcomoealgaaW.PrintLast Go.Proofs.Ytgejkcomoealgaa.EvLib
theorem implAreEntries_ev (l : List IEntry) (hl : l.length ≤ 1048577) : Ev (fun k => impl_AreEntries.f k l) (areEntry l) := by
  unfold impl_AreEntries.f
  refine ev_ite (fun h => ev_some ?_) (fun h => ev_eq (ev_all (fun k i => impl_AreEntries.l0 k l l (l.length : Int) i) l.length (enOk l) true (by omega) (fun k => ?_) (fun k i hi => ?_)) ?_)
  · unfold areEntry
    rw [decide_eq_false (by omega), Bool.and_false]
  · simp only [impl_AreEntries.l0]
    rw [if_neg (by omega)]
  · simp only [impl_AreEntries.l0, rd_en, inRange_eq, Option.bind_some]
    rw [if_pos (by omega), if_pos (by omega), if_pos (by omega)]
    unfold enOk
    by_cases ha : 0 ≤ (en l i).f0 ∧ (en l i).f0 ≤ 999
    · by_cases hb : 0 ≤ (en l i).f1 ∧ (en l i).f1 ≤ 999
      · by_cases hn : (en l i).f0 ≠ (en l i).f1
        · by_cases hc : 1 ≤ (en l i).f2 ∧ (en l i).f2 ≤ 10000000
          · by_cases hd : 0 ≤ (en l i).f3 ∧ (en l i).f3 ≤ 100000
            · by_cases h4 : i = 0
              · subst h4
                simp [ha, hb, hn, hc, hd]
              · have e : wrap64 ((i : Int) - 1) = ((i - 1 : Nat) : Int) := by rw [wrap_id (by omega) (by omega)]; omega
                rw [e, rd_en]
                have g1 : 0 < i := by omega
                have g2 : i - 1 < l.length := by omega
                by_cases h5 : (en l (i - 1)).f3 ≤ (en l i).f3
                · have g5 : ¬ ((en l i).f3 < (en l (i - 1)).f3) := by omega
                  simp [ha, hb, hn, hc, hd, h4, h5, g1, g2, g5]
                · have g5 : (en l i).f3 < (en l (i - 1)).f3 := by omega
                  simp [ha, hb, hn, hc, hd, h4, h5, g1, g2, g5]
            · simp [ha, hb, hn, hc, hd]
          · simp [ha, hb, hn, hc]
        · simp [ha, hb, hn]
      · simp [ha, hb]
    · simp [ha]
  · unfold areEntry
    rw [decide_eq_true (by omega)]
end Go.Proofs.Ytgejkcomoealgaa.PFnBooks
