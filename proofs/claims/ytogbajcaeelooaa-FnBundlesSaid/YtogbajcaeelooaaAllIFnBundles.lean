/- AllIn of the program. -/
import Derived.Test.YtogbajcaeelooaaReachFnBundles
import Derived.Test.YtogbajcaeelooaaInnIFnBundles
import Derived.Test.YtogbajcaeelooaaOutIFnBundles
namespace Go.Proofs.Ytogbajcaeelooaa.PFnBundles
open Go.RowKit Go.Proofs.YtogbajcaeelooaaW.PrintWords Go.Proofs.YtogbajcaeelooaaW.PrintLast Go.Proofs.Ytogbajcaeelooaa.EvLib
theorem implAll_l1 (l : List IInner) (t : Int) (out : List Int) (ho : out.length ≤ 1048576) (i : Nat) (f0 f1 : Int) (R : Bool → List Int)
    (hR : ∀ b, Ev (fun k => impl_AllIn.l0 k l t (if (b && decide (f1 ≠ t)) = true then out ++ [f1] else out) l (l.length : Int) (wrap64 ((i : Int) + 1))) (R (b && decide (f1 ≠ t)))) :
    ∀ (n : Nat) (x : Int), hasF (stN l n x) l = false → Ev (fun k => impl_AllIn.l1 k l t out x l (l.length : Int) (i : Int) f0 f1) (R (reachN l t n x && decide (f1 ≠ t))) := by
  have fin : ∀ (b : Bool) (x : Int), b = (x == t) → Ev (fun k => if x = t then (if f1 = t then impl_AllIn.l0 k l t out l (l.length : Int) (wrap64 ((i : Int) + 1)) else if out.length < 17592186044416 then impl_AllIn.l0 k l t (out ++ [f1]) l (l.length : Int) (wrap64 ((i : Int) + 1)) else none) else impl_AllIn.l0 k l t out l (l.length : Int) (wrap64 ((i : Int) + 1))) (R (b && decide (f1 ≠ t))) := by
    intro b x hb
    have hr := hR b
    refine ev_ite (fun c => ev_ite (fun c2 => ?_) (fun c2 => ev_itep (by omega) ?_)) (fun c => ?_)
    · rw [if_neg (by simp [c2])] at hr; exact hr
    · rw [if_pos (by simp [hb, c, c2])] at hr; exact hr
    · rw [if_neg (by simp [hb, c])] at hr; exact hr
  have stop : ∀ x, hasF x l = false → Ev (fun k => impl_AllIn.l1 k l t out x l (l.length : Int) (i : Int) f0 f1) (R ((x == t) && decide (f1 ≠ t))) := by
    intro x h
    obtain ⟨q, h1, h2⟩ := implInner_eq l x
    refine ev_step (fun k => by simp only [impl_AllIn.l1]; rfl) (ev_bindc h1 ?_)
    rcases h2 with ⟨h3, h4, _⟩ | ⟨h3, h4, _, _⟩
    · exact ev_iten (by omega) (fin _ x rfl)
    · rw [h] at h3; cases h3
  intro n
  induction n with
  | zero => intro x h; exact stop x h
  | succ n ih =>
    intro x h
    cases c : hasF x l with
    | false =>
      have e : reachN l t (n + 1) x = (x == t) := by
        rw [reachN, c]
        by_cases e : x = t <;> simp [e]
      rw [e]
      exact stop x c
    | true =>
      rw [stN, if_pos c] at h
      obtain ⟨q, h1, h2⟩ := implInner_eq l x
      refine ev_step (fun k => by simp only [impl_AllIn.l1]; rfl) (ev_bindc h1 ?_)
      rcases h2 with ⟨h3, h4, _⟩ | ⟨h3, h4, _, _⟩
      · rw [c] at h3; cases h3
      · refine ev_itep (by omega) ?_
        by_cases e : x = t
        · have e2 : reachN l t (n + 1) x = (x == t) := by rw [reachN, if_pos e]; simp [e]
          rw [e2]
          have := fin _ x rfl
          refine ev_itep e ?_
          exact Ev.congr (fun _ => (if_pos e).symm) this
        · rw [reachN, if_neg e, if_pos c]
          exact ev_iten e (ev_bindc (implOuterOf_eq l x) (ih _ h))
theorem all_stop {l : List IInner} (h : areInn l = true) (x : Int) : hasF (stN l (l.length + 1) x) l = false := by
  have hn := ain_numd h
  cases c : hasF x l with
  | false => rw [st_stay c]; exact c
  | true =>
    have h0 : x ≠ 0 := by
      intro e
      rw [e] at c
      have := out_has hn c
      rw [out_zero hn] at this
      omega
    exact st_end _ _ h0 (all_ends h x) hn
theorem implAll_l0 (l : List IInner) (h : areInn l = true) (t : Int) : ∀ (d i : Nat) (out : List Int), i + d = l.length → out.length ≤ i →
    Ev (fun k => impl_AllIn.l0 k l t out l (l.length : Int) (i : Int)) (msort (out ++ ((l.drop i).filter (inIt l t)).map (fun y => y.f1))) := by
  have hl := ain_len h
  intro d
  induction d with
  | zero =>
    intro i out hi ho
    refine ev_step (fun k => by simp only [impl_AllIn.l0]; rfl) (ev_iten (by omega) (ev_bindc (show slices_Sort_int_int.f out = some (msort out) by unfold slices_Sort_int_int.f msort; rw [if_pos (by omega)]) (ev_some ?_)))
    rw [List.drop_of_length_le (by omega)]
    simp
  | succ d ih =>
    intro i out hi ho
    refine ev_step (fun k => by simp only [impl_AllIn.l0]; rfl) (ev_itep (by omega) (ev_itep (by omega) (ev_itep (by omega) ?_)))
    simp only [rd_inn]
    have hw : wrap64 ((i : Int) + 1) = ((i + 1 : Nat) : Int) := by rw [wrap_id (by omega) (by omega)]; omega
    refine ev_eq (implAll_l1 l t out (by omega) i (inn l i).f0 (inn l i).f1 (fun b => msort ((if b = true then out ++ [(inn l i).f1] else out) ++ ((l.drop (i + 1)).filter (inIt l t)).map (fun y => y.f1))) (fun b0 => ?_) (l.length + 1) (inn l i).f1 (all_stop h _)) ?_
    · rw [hw]
      refine ih (i + 1) _ (by omega) ?_
      by_cases cb : (b0 && decide ((inn l i).f1 ≠ t)) = true
      · rw [if_pos cb, List.length_append, List.length_singleton]; omega
      · rw [if_neg cb]; omega
    · rw [drop_inn l i (by omega)]
      have e : inIt l t (inn l i) = (reachN l t (l.length + 1) (inn l i).f1 && decide ((inn l i).f1 ≠ t)) := rfl
      show msort _ = msort _
      rw [← e]
      cases c : inIt l t (inn l i) with
      | true => rw [if_pos rfl, List.filter_cons_of_pos c, List.map_cons]; simp
      | false => rw [if_neg (by simp), List.filter_cons_of_neg (by rw [c]; simp)]
theorem implAllIn_ev (l : List IInner) (hl : l.length ≤ 1048576) (t : Int) : Ev (fun k => impl_AllIn.f k l t) (allIn l t) := by
  unfold impl_AllIn.f allIn
  refine ev_bindc rfl (ev_bind (implAreInners_ev l hl) (ev_ite (fun h => ?_) (fun h => ev_some ?_)))
  · rw [if_pos h]
    exact ev_eq (implAll_l0 l h t l.length 0 [] (by omega) (by simp)) (by rw [List.drop_zero, List.nil_append])
  · rw [if_neg h]
end Go.Proofs.Ytogbajcaeelooaa.PFnBundles
