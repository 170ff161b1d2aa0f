/- AllIn of the reference. -/
import Derived.Test.YtogbajcaeelooaaReachFnExactAllIn
import Derived.Test.YtogbajcaeelooaaInnSFnExactAllIn
namespace Go.Proofs.Ytogbajcaeelooaa.PFnExactAllIn
open Go.RowKit Go.Proofs.YtogbajcaeelooaaW.PrintWords Go.Proofs.YtogbajcaeelooaaW.PrintLast Go.Proofs.Ytogbajcaeelooaa.EvLib
theorem specPut_l0 (l : List Int) (hl : l.length ≤ 1048576) (n : Int) : ∀ (d i : Nat), i + d = l.length → Ev (fun k => spec_l9Put.l0 k l n (i : Int)) (l.take i ++ insF n (l.drop i)) := by
  intro d
  induction d with
  | zero =>
    intro i hi
    refine ev_step (fun k => by simp only [spec_l9Put.l0]; rfl) (ev_iten (by omega) (ev_bindc rfl (ev_itep (by omega) (ev_itep (by omega) (ev_itep (by simp; omega) (ev_bindc rfl (ev_bindc rfl (ev_itep (by simp; omega) (ev_bindc rfl (ev_itep (by simp; omega) (ev_some ?_)))))))))))
    rw [List.drop_of_length_le (by omega), Int.toNat_natCast]
    simp [insF, List.drop_of_length_le (show l.length ≤ i by omega)]
  | succ d ih =>
    intro i hi
    have r : rd l (i : Int) = l[i] := by unfold rd; simp [List.getD, show i < l.length by omega]
    refine ev_step (fun k => by simp only [spec_l9Put.l0]; rfl) (ev_itep (by omega) (ev_itep (by omega) ?_))
    rw [r, wrap_id (x := (i : Int) + 1) (by omega) (by omega)]
    rw [show l.drop i = l[i] :: l.drop (i + 1) from List.drop_eq_getElem_cons (by omega), insF]
    refine ev_ite (fun c => ?_) (fun c => ev_ite (fun c2 => ev_bindc rfl (ev_itep (by simp; omega) (ev_some ?_))) (fun c2 => ev_bindc rfl (ev_itep (by omega) (ev_itep (by simp; omega) (ev_bindc rfl (ev_bindc rfl (ev_itep (by simp; omega) (ev_bindc rfl (ev_itep (by simp; omega) (ev_some ?_))))))))))
    · rw [if_pos c]
      refine ev_eq (ih (i + 1) (by omega)) ?_
      rw [List.take_succ_eq_append_getElem (by omega), List.append_assoc, List.singleton_append]
    · rw [if_neg c, if_pos c2, List.nil_append, ← List.drop_eq_getElem_cons (by omega), List.take_append_drop]
    · rw [if_neg c, if_neg c2, Int.toNat_natCast, ← List.drop_eq_getElem_cons (by omega)]
      simp
theorem specPut_ev (l : List Int) (hl : l.length ≤ 1048576) (n : Int) : Ev (fun k => spec_l9Put.f k l n) (insF n l) := by
  unfold spec_l9Put.f
  exact ev_eq (specPut_l0 l hl n l.length 0 (by omega)) (by simp)
theorem specAll_l1 (l : List IInner) (hl : l.length ≤ 20) (t : Int) (out : List Int) (ho : out.length ≤ 1048576) (i : Nat) (hi : i < l.length) (R : Bool → List Int)
    (hR : ∀ b, Ev (fun k => spec_AllIn.l0 k l t (if b = true then insF (inn l i).f1 out else out) (wrap64 ((i : Int) + 1))) (R b)) :
    ∀ (n : Nat) (s : Int), itN l n s = 0 → Ev (fun k => spec_AllIn.l1 k l t out (i : Int) s) (R (rsN l t n s)) := by
  intro n
  induction n with
  | zero =>
    intro s h
    have h0 : s = 0 := h
    have hr := hR false
    rw [if_neg (by simp)] at hr
    exact ev_step (fun k => by simp only [spec_AllIn.l1]; rfl) (ev_itep h0 hr)
  | succ n ih =>
    intro s h
    rw [itN] at h
    refine ev_step (fun k => by simp only [spec_AllIn.l1]; rfl) (ev_ite (fun c => ?_) (fun c => ev_ite (fun c2 => ev_itep (by omega) (ev_itep (by omega) ?_)) (fun c2 => ?_)))
    · have hr := hR false
      rw [if_neg (by simp)] at hr
      rw [rsN, if_pos c]
      exact hr
    · have hr := hR true
      rw [if_pos rfl] at hr
      rw [rsN, if_neg c, if_pos c2]
      simp only [rd_inn]
      exact ev_bind (specPut_ev out ho _) hr
    · rw [rsN, if_neg c, if_neg c2]
      exact ev_bind (specOuterOf_ev l (by omega) s) (ih _ h)
theorem specAll_l0 (l : List IInner) (h : areInn l = true) (t : Int) : ∀ (d i : Nat) (out : List Int), i + d = l.length → out.length ≤ i →
    Ev (fun k => spec_AllIn.l0 k l t out (i : Int)) (putAll_ (inItS l t) (l.drop i) out) := by
  have hl := ain_len h
  intro d
  induction d with
  | zero =>
    intro i out hi ho
    refine ev_step (fun k => by simp only [spec_AllIn.l0]; rfl) (ev_iten (by omega) (ev_step (fun k => by simp only [spec_AllIn.j1]; rfl) (ev_iten (by simp) (ev_some ?_))))
    rw [List.drop_of_length_le (by omega), putAll_]
  | succ d ih =>
    intro i out hi ho
    have hw : wrap64 ((i : Int) + 1) = ((i + 1 : Nat) : Int) := by rw [wrap_id (by omega) (by omega)]; omega
    have ea : Ev (fun k => spec_AreInners.f k l) true := ev_eq (specAreInners_ev l (by omega)) h
    refine ev_step (fun k => by simp only [spec_AllIn.l0]; rfl) (ev_itep (by omega) (ev_bind ea (ev_step (fun k => by simp only [spec_AllIn.j1]; rfl) (ev_itep (c := true = true) rfl (ev_itep (by omega) (ev_itep (by omega) ?_))))))
    simp only [rd_inn]
    refine ev_bind (specOuterOf_ev l (by omega) _) ?_
    refine ev_eq (specAll_l1 l hl t out (by omega) i (by omega) (fun b => putAll_ (inItS l t) (l.drop (i + 1)) (if b = true then insF (inn l i).f1 out else out)) (fun b => ?_) (l.length + 1) _ (all_ends h _)) ?_
    · rw [hw]
      refine ih (i + 1) _ (by omega) ?_
      have := insF_len (inn l i).f1 out
      split <;> omega
    · rw [drop_inn l i (by omega), putAll_]
      rfl
theorem putAll_congr (q q' : IInner → Bool) : ∀ (l : List IInner) (out : List Int), (∀ x ∈ l, q x = q' x) → putAll_ q l out = putAll_ q' l out := by
  intro l
  induction l with
  | nil => intro out _; rfl
  | cons x l ih =>
    intro out h
    rw [putAll_, putAll_, h x (by simp)]
    exact ih _ (fun y hy => h y (by simp [hy]))
theorem specAllIn_ev (l : List IInner) (hl : l.length ≤ 1048576) (t : Int) : Ev (fun k => spec_AllIn.f k l t) (allIn l t) := by
  unfold spec_AllIn.f allIn
  by_cases h : areInn l = true
  · rw [if_pos h, putAll_sort _ h]
    refine ev_eq (specAll_l0 l h t l.length 0 [] (by omega) (by simp)) ?_
    rw [List.drop_zero]
    exact putAll_congr _ _ _ _ (fun x hx => inIt_eq h t x hx)
  · rw [if_neg h]
    have ea : Ev (fun k => spec_AreInners.f k l) false := ev_eq (specAreInners_ev l hl) (Bool.eq_false_iff.mpr h)
    have stop : Ev (fun k => spec_AllIn.j1 k l t [] 0 false) [] := ev_step (fun k => by simp only [spec_AllIn.j1]; rfl) (ev_iten (by simp) (ev_some rfl))
    exact ev_step (fun k => by simp only [spec_AllIn.l0]; rfl) (ev_ite (fun c => ev_bind ea stop) (fun c => stop))
end Go.Proofs.Ytogbajcaeelooaa.PFnExactAllIn
