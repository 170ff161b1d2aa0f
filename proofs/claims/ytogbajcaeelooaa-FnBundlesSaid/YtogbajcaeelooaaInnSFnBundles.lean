/- AreInners of the reference. -/
import Derived.Test.YtogbajcaeelooaaInnDFnBundles
import Derived.Test.YtogbajcaeelooaaOutSFnBundles
import Derived.Test.YtogbajcaeelooaaL1InFnBundles
namespace Go.Proofs.Ytogbajcaeelooaa.PFnBundles
open Go.RowKit Go.Proofs.YtogbajcaeelooaaW.PrintWords Go.Proofs.YtogbajcaeelooaaW.PrintLast Go.Proofs.Ytogbajcaeelooaa.EvLib
theorem specInn_l2 (l : List IInner) (hl : l.length ≤ 20) (hn : numd l) (i : Nat) (r : Bool) (hr : Ev (fun k => spec_AreInners.l1 k l (wrap64 ((i : Int) + 1))) r) : ∀ (d j : Nat) (x : Int), j + d = l.length + 1 →
    Ev (fun k => spec_AreInners.l2 k l (i : Int) x (j : Int)) ((itN l d x == 0) && r) := by
  intro d
  induction d with
  | zero =>
    intro j x hj
    refine ev_step (fun k => by simp only [spec_AreInners.l2]; rfl) (ev_iten (by omega) ?_)
    rw [itN]
    refine ev_ite (fun c => ?_) (fun c => ev_some (by simp [c]))
    rw [c]
    exact hr
  | succ d ih =>
    intro j x hj
    refine ev_step (fun k => by simp only [spec_AreInners.l2]; rfl) (ev_itep (by omega) ?_)
    refine ev_ite (fun c => ?_) (fun c => ev_bind (specOuterOf_ev l (by omega) x) ?_)
    · rw [c, it_zero hn]
      exact hr
    · rw [wrap_id (x := (j : Int) + 1) (by omega) (by omega), itN]
      exact ih (j + 1) _ (by omega)
theorem specInn_l1 (l : List IInner) (hl : l.length ≤ 20) (hn : numd l) : ∀ (d i : Nat), i + d = l.length → Ev (fun k => spec_AreInners.l1 k l (i : Int)) ((List.range' i d).all (ends l)) := by
  intro d
  induction d with
  | zero =>
    intro i hi
    exact ev_step (fun k => by simp only [spec_AreInners.l1]; rfl) (ev_iten (by omega) (ev_some rfl))
  | succ d ih =>
    intro i hi
    refine ev_step (fun k => by simp only [spec_AreInners.l1]; rfl) (ev_itep (by omega) (ev_itep (by omega) ?_))
    have h := specInn_l2 l hl hn i _ (by rw [wrap_id (by omega) (by omega)]; exact ih (i + 1) (by omega)) (l.length + 1) 0 (inn l i).f1 (by omega)
    rw [List.range'_succ, List.all_cons]
    exact h
theorem specAreInners_ev (l : List IInner) (hl : l.length ≤ 1048576) : Ev (fun k => spec_AreInners.f k l) (areInn l) := by
  unfold spec_AreInners.f
  refine ev_ite (fun h => ev_some ?_) (fun h => ?_)
  · unfold areInn
    rw [decide_eq_false (by omega), Bool.false_and]
  · have hl2 : l.length ≤ 20 := by omega
    unfold areInn
    rw [decide_eq_true hl2, Bool.true_and]
    have key : ∀ (d i : Nat), i + d = l.length → (∀ j, j < i → inOk l j = true) → Ev (fun k => spec_AreInners.l0 k l (i : Int)) ((List.range' i d).all (inOk l) && (List.range l.length).all (ends l)) := by
      intro d
      induction d with
      | zero =>
        intro i hi hb
        refine ev_step (fun k => by simp only [spec_AreInners.l0]; rfl) (ev_iten (by omega) ?_)
        have hn : numd l := numd_of (List.all_eq_true.mpr (fun j hj => hb j (by have := List.mem_range.1 hj; omega)))
        exact ev_eq (specInn_l1 l hl2 hn l.length 0 (by omega)) (by rw [List.range_eq_range']; rfl)
      | succ d ih =>
        intro i hi hb
        refine ev_step (fun k => by simp only [spec_AreInners.l0]; rfl) (ev_itep (by omega) (ev_itep (by omega) ?_))
        simp only [rd_inn, l1In_eq, Option.bind_some, Int.toNat_natCast, wrap_id (x := (i : Int) + 1) (by omega) (by omega)]
        rw [List.range'_succ, List.all_cons]
        refine ev_ite (fun c1 => ev_ite (fun c2 => ev_itep (by omega) ?_) (fun c2 => ev_some ?_)) (fun c1 => ev_some ?_)
        · refine ev_bind (specOuterOf_ev (l.take i) (by rw [List.length_take]; omega) (inn l i).f1) ?_
          have hnt : numd (l.take i) := by
            intro x hx
            obtain ⟨q, hq, rfl⟩ := List.mem_iff_getElem.1 hx
            rw [List.length_take] at hq
            have h1 := hb q (by omega)
            unfold inOk at h1
            simp only [Bool.and_eq_true, decide_eq_true_eq] at h1
            have e : inn l q = (l.take i)[q] := by simp [inn, List.getD, show q < l.length by omega]
            rw [← e]
            exact ⟨h1.1, h1.2.1⟩
          have hz := out_iff hnt (inn l i).f1
          refine ev_ite (fun c => ?_) (fun c => ev_some ?_)
          · have ok : inOk l i = true := by unfold inOk; rw [c1, c2, hz.1 c]; rfl
            rw [ok, Bool.true_and]
            exact ih (i + 1) (by omega) (fun j hj => by
              by_cases e : j = i
              · rw [e]; exact ok
              · exact hb j (by omega))
          · have h3 : hasF (inn l i).f1 (l.take i) = true := by
              cases q : hasF (inn l i).f1 (l.take i) with
              | true => rfl
              | false => exact absurd (hz.2 q) c
            have ok : inOk l i = false := by unfold inOk; rw [h3]; simp
            rw [ok]
            rfl
        · unfold inOk; rw [Bool.eq_false_iff.mpr c2]; simp
        · unfold inOk; rw [Bool.eq_false_iff.mpr c1]; simp
    exact ev_eq (key l.length 0 (by omega) (fun j hj => by omega)) (by rw [List.range_eq_range'])
end Go.Proofs.Ytogbajcaeelooaa.PFnBundles
