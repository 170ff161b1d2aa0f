/- The pure statement of FnBundles. -/
import Derived.Test.YtogbajcaeelooaaBunDFnBundles
import Derived.Test.YtogbajcaeelooaaDrawIFnBundles
import Derived.Test.YtogbajcaeelooaaContainsFnBundles
import Derived.Test.YtogbajcaeelooaaAscendsFnBundles
namespace Go.Proofs.Ytogbajcaeelooaa.PFnBundles
open Go.RowKit Go.Proofs.YtogbajcaeelooaaW.PrintWords Go.Proofs.YtogbajcaeelooaaW.PrintLast Go.Proofs.Ytogbajcaeelooaa.EvLib
theorem bun_j2 (s : List Int) (hs : s.length ≤ 1048576) : Ev (fun k => laws_FnBundles.j2 k s) true := by
  obtain ⟨l, x, hd, hl⟩ := drawTopOf_ok s hs
  refine ev_step (fun k => by simp only [laws_FnBundles.j2]; rfl) (ev_bind hd (ev_bind (implTopOf_ev l hl x) (ev_bind (implAreInners_ev l hl) (ev_ite (fun h => ?_) (fun h => ?_)))))
  · have hz := top_zero h x
    have e : ((topF l x == 0) == (x == 0)) = true := by
      rw [beq_iff_eq, Bool.eq_iff_iff, beq_iff_eq, beq_iff_eq]
      exact hz
    refine ev_itep e (ev_ite (fun _ => ev_some rfl) (fun _ => ev_bindc (implOuterOf_eq l _) (ev_some ?_)))
    rw [top_out h]
    rfl
  · have hz := top_not h x
    refine ev_itep (by show ((topF l x == 0) == true) = true; rw [hz]; rfl) (ev_itep hz (ev_some rfl))
theorem bun_l0 (s : List Int) (hs : s.length ≤ 1048576) (l : List IInner) (hl : l.length ≤ 1048576) (t : Int) (c : List Int) (hc : c.length ≤ 1048576) (ht : ∀ a ∈ c, topF l a = topF l t) : ∀ (d i : Nat), i + d = c.length → Ev (fun k => laws_FnBundles.l0 k s l t c (i : Int)) true := by
  intro d
  induction d with
  | zero =>
    intro i hi
    obtain ⟨a, o, x, hd, hla⟩ := drawPutIn_ok s hs
    have h2 := bun_j2 s hs
    have hb := putI_len a ⟨o, x⟩ hla
    refine ev_step (fun k => by simp only [laws_FnBundles.l0]; rfl) (ev_iten (by omega) (ev_bind hd (ev_bind (implPutIn_ev a hla o x) ?_)))
    by_cases h : areInn (a ++ [(⟨o, x⟩ : IInner)]) = true
    · have e : putI a ⟨o, x⟩ = (a ++ [⟨o, x⟩], true) := by unfold putI; rw [if_pos h]
      have htk := last_take h
      have hin := last_in h
      have hout := last_out h
      rw [e] at hb ⊢
      have hb' : (a ++ [(⟨o, x⟩ : IInner)]).length ≤ 1048576 := hb
      have hal : (allIn (a ++ [(⟨o, x⟩ : IInner)]) o).length ≤ 1048576 := Nat.le_trans (allIn_len _ _) hb'
      refine ev_itep (c := true = true) rfl (ev_bind (implTakeFrom_ev _ hb' x) (ev_bind (implAreInners_ev _ hb') (ev_itep h (ev_bindc (implOuterOf_eq _ x) (ev_itep hout (ev_bind (implAllIn_ev _ hb' o) (ev_bind (contains_ev _ hal x) (ev_itep (decide_eq_true hin) ?_))))))))
      have htk' : takeF (a ++ [(⟨o, x⟩ : IInner)]) x = (a, true) := htk
      rw [htk']
      exact ev_itep (c := true = true) rfl (ev_itep rfl h2)
    · have e : putI a ⟨o, x⟩ = (a, false) := by unfold putI; rw [if_neg h]
      rw [e]
      exact ev_iten (c := false = true) (by simp) (ev_itep rfl h2)
  | succ d ih =>
    intro i hi
    have r : rd c (i : Int) = c[i] := by unfold rd; simp [List.getD, show i < c.length by omega]
    have hti : topF l (rd c (i : Int)) = topF l t := by rw [r]; exact ht _ (List.getElem_mem _)
    refine ev_step (fun k => by simp only [laws_FnBundles.l0]; rfl) (ev_itep (by omega) (ev_itep (by omega) (ev_bind (implTopOf_ev l hl _) (ev_bind (implTopOf_ev l hl _) (ev_itep hti ?_)))))
    rw [wrap_id (x := (i : Int) + 1) (by omega) (by omega)]
    exact ih (i + 1) (by omega)
end Go.Proofs.Ytogbajcaeelooaa.PFnBundles
namespace Go.Proofs.Ytogbajcaeelooaa.Pure
open Go.RowKit Go.Proofs.Ytogbajcaeelooaa.PFnBundles Go.Proofs.YtogbajcaeelooaaW.PrintWords Go.Proofs.YtogbajcaeelooaaW.PrintLast Go.Proofs.Ytogbajcaeelooaa.EvLib
theorem FnBundles : laws_FnBundles.Pure := by
  intro s hw
  refine Ev.rounds ?_
  unfold laws_FnBundles.f
  refine ev_bindc (show laws_big.f s = some (decide ((s.length : Int) > 1048576)) from rfl) (ev_ite (fun _ => ev_some rfl) (fun h => ?_))
  have hs : s.length ≤ 1048576 := by simp at h; omega
  obtain ⟨l, t, hd, hl⟩ := drawAllIn_ok s hs
  have hc : (allIn l t).length ≤ 1048576 := Nat.le_trans (allIn_len _ _) hl
  refine ev_bind hd (ev_bind (implAllIn_ev l hl t) (ev_bind (ascends_ev _ hc (allIn_asc l t)) (ev_itep (c := true = true) rfl (ev_bind (contains_ev _ hc t) ?_))))
  rw [decide_eq_false (allIn_not l t)]
  exact ev_step (fun k => by simp only [laws_FnBundles.j0]; rfl) (ev_iten (by simp) (bun_l0 s hs l hl t _ hc (fun a ha => allIn_top ha) (allIn l t).length 0 (by omega)))
end Go.Proofs.Ytogbajcaeelooaa.Pure
