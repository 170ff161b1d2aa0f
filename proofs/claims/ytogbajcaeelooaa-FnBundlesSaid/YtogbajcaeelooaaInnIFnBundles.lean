/- AreInners of the program. -/
import Derived.Test.YtogbajcaeelooaaInnDFnBundles
import Derived.Test.YtogbajcaeelooaaInRFnBundles
namespace Go.Proofs.Ytogbajcaeelooaa.PFnBundles
open Go.RowKit Go.Proofs.YtogbajcaeelooaaW.PrintWords Go.Proofs.YtogbajcaeelooaaW.PrintLast Go.Proofs.Ytogbajcaeelooaa.EvLib
theorem implInn_l2 (l : List IInner) (hl : l.length ≤ 20) (i : Nat) (r : Bool) (hr : Ev (fun k => impl_AreInners.l1 k l l (l.length : Int) (wrap64 ((i : Int) + 1))) r) : ∀ (d j : Nat) (x : Int), j + d = l.length + 1 →
    Ev (fun k => impl_AreInners.l2 k l x l (l.length : Int) (i : Int) ((l.length : Int) + 1) (j : Int)) (!hasF (stN l d x) l && r) := by
  intro d
  induction d with
  | zero =>
    intro j x hj
    obtain ⟨t, h1, h2⟩ := implInner_eq l x
    refine ev_step (fun k => by simp only [impl_AreInners.l2]; rfl) (ev_iten (by omega) (ev_bindc h1 ?_))
    rw [stN]
    rcases h2 with ⟨h3, h4, _⟩ | ⟨h3, h4, _, _⟩
    · rw [h3]
      exact ev_iten (by omega) hr
    · rw [h3]
      exact ev_itep (by omega) (ev_some rfl)
  | succ d ih =>
    intro j x hj
    obtain ⟨t, h1, h2⟩ := implInner_eq l x
    refine ev_step (fun k => by simp only [impl_AreInners.l2]; rfl) (ev_itep (by omega) (ev_bindc h1 ?_))
    rw [stN, wrap_id (x := (j : Int) + 1) (by omega) (by omega)]
    rcases h2 with ⟨h3, h4, _⟩ | ⟨h3, h4, h5, h6⟩
    · rw [h3]
      exact ev_iten (by omega) (ih (j + 1) x (by omega))
    · rw [h3, if_pos rfl, ← h6]
      exact ev_itep (by omega) (ev_itep (by omega) (ev_itep (by omega) (ih (j + 1) _ (by omega))))
theorem implInn_l1 (l : List IInner) (hl : l.length ≤ 20) (hn : numd l) : ∀ (d i : Nat), i + d = l.length → Ev (fun k => impl_AreInners.l1 k l l (l.length : Int) (i : Int)) ((List.range' i d).all (ends l)) := by
  intro d
  induction d with
  | zero =>
    intro i hi
    exact ev_step (fun k => by simp only [impl_AreInners.l1]; rfl) (ev_iten (by omega) (ev_some rfl))
  | succ d ih =>
    intro i hi
    refine ev_step (fun k => by simp only [impl_AreInners.l1]; rfl) (ev_itep (by omega) (ev_itep (by omega) (ev_itep (by omega) ?_)))
    have hx := numd_inn hn i (by omega)
    have h := implInn_l2 l hl i _ (by rw [wrap_id (by omega) (by omega)]; exact ih (i + 1) (by omega)) (l.length + 1) 0 (inn l i).f1 (by omega)
    rw [ends_iff hn _ (by omega), Bool.not_not] at h
    rw [List.range'_succ, List.all_cons, wrap_id (x := (l.length : Int) + 1) (by omega) (by omega)]
    exact h
theorem implAreInners_ev (l : List IInner) (hl : l.length ≤ 1048576) : Ev (fun k => impl_AreInners.f k l) (areInn l) := by
  unfold impl_AreInners.f
  refine ev_ite (fun h => ev_some ?_) (fun h => ?_)
  · unfold areInn
    rw [decide_eq_false (by omega), Bool.false_and]
  · have hl2 : l.length ≤ 20 := by omega
    unfold areInn
    rw [decide_eq_true hl2, Bool.true_and]
    have key : ∀ (d i : Nat), i + d = l.length → (∀ j, j < i → inOk l j = true) → Ev (fun k => impl_AreInners.l0 k l l (l.length : Int) (i : Int)) ((List.range' i d).all (inOk l) && (List.range l.length).all (ends l)) := by
      intro d
      induction d with
      | zero =>
        intro i hi hb
        refine ev_step (fun k => by simp only [impl_AreInners.l0]; rfl) (ev_iten (by omega) ?_)
        have hn : numd l := numd_of (List.all_eq_true.mpr (fun j hj => hb j (by have := List.mem_range.1 hj; omega)))
        exact ev_eq (implInn_l1 l hl2 hn l.length 0 (by omega)) (by rw [List.range_eq_range']; rfl)
      | succ d ih =>
        intro i hi hb
        refine ev_step (fun k => by simp only [impl_AreInners.l0]; rfl) (ev_itep (by omega) (ev_itep (by omega) (ev_itep (by omega) ?_)))
        simp only [rd_inn, inRange_eq, Option.bind_some, Int.toNat_natCast, wrap_id (x := (i : Int) + 1) (by omega) (by omega)]
        rw [List.range'_succ, List.all_cons]
        refine ev_ite (fun c1 => ev_ite (fun c2 => ev_itep (by omega) ?_) (fun c2 => ev_some ?_)) (fun c1 => ev_some ?_)
        · obtain ⟨t, h1, h2⟩ := implInner_eq (l.take i) (inn l i).f1
          refine ev_bindc h1 ?_
          rcases h2 with ⟨h3, h4, _⟩ | ⟨h3, h4, _, _⟩
          · have ok : inOk l i = true := by unfold inOk; rw [c1, c2, h3]; rfl
            rw [ok, Bool.true_and]
            exact ev_iten (by omega) (ih (i + 1) (by omega) (fun j hj => by
              by_cases e : j = i
              · rw [e]; exact ok
              · exact hb j (by omega)))
          · have ok : inOk l i = false := by unfold inOk; rw [h3]; simp
            rw [ok, Bool.false_and, Bool.false_and]
            exact ev_itep h4 (ev_some rfl)
        · unfold inOk; rw [Bool.eq_false_iff.mpr c2]; simp
        · unfold inOk; rw [Bool.eq_false_iff.mpr c1]; simp
    exact ev_eq (key l.length 0 (by omega) (fun j hj => by omega)) (by rw [List.range_eq_range'])
end Go.Proofs.Ytogbajcaeelooaa.PFnBundles
