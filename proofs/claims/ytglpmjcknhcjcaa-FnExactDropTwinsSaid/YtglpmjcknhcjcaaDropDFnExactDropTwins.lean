/- DropTwins of the program and of the reference. -/
import Derived.Test.YtglpmjcknhcjcaaTwnDFnExactDropTwins
namespace Go.Proofs.Ytglpmjcknhcjcaa.PFnExactDropTwins
open Go.RowKit Go.Proofs.YtglpmjcknhcjcaaW.PrintWords Go.Proofs.YtglpmjcknhcjcaaW.PrintLast Go.Proofs.Ytglpmjcknhcjcaa.EvLib
theorem specHas_l0 (l : List Int) (hl : l.length ≤ 1048576) (n : Int) : ∀ (d i : Nat), i + d = l.length → Ev (fun k => spec_l8Has.l0 k l n (i : Int)) (decide (n ∈ l.drop i)) := by
  intro d
  induction d with
  | zero =>
    intro i hi
    exact ev_step (fun k => by simp only [spec_l8Has.l0]; rfl) (ev_iten (by omega) (ev_some (by rw [List.drop_of_length_le (by omega)]; simp)))
  | succ d ih =>
    intro i hi
    have hil : i < l.length := by omega
    have r1 : rd l (i : Int) = l[i] := by unfold rd; simp [List.getD, hil]
    refine ev_step (fun k => by simp only [spec_l8Has.l0]; rfl) (ev_itep (by omega) (ev_itep (by omega) (ev_ite (fun c => ev_some ?_) (fun c => ?_))))
    · rw [List.drop_eq_getElem_cons hil, ← r1, c]; simp
    · rw [wrap_id (by omega) (by omega), List.drop_eq_getElem_cons hil, ← r1]
      refine ev_eq (ih (i + 1) (by omega)) ?_
      rw [decide_eq_decide, List.mem_cons]
      exact ⟨fun h => .inr h, fun h => h.resolve_left (fun e => c e.symm)⟩
theorem specHas_ev (l : List Int) (hl : l.length ≤ 1048576) (n : Int) : Ev (fun k => spec_l8Has.f k l n) (decide (n ∈ l)) := by
  unfold spec_l8Has.f
  exact specHas_l0 l hl n l.length 0 (by omega)
theorem implIndex_l0 (l : List Int) (hl : l.length ≤ 1048576) (n : Int) : ∀ (d i : Nat), i + d = l.length → ∃ r : Int, Ev (fun k => slices_Index_int_int.l0 k l n (l.length : Int) (i : Int)) r ∧ (decide (r ≥ 0) = decide (n ∈ l.drop i)) := by
  intro d
  induction d with
  | zero =>
    intro i hi
    exact ⟨-1, ev_step (fun k => by simp only [slices_Index_int_int.l0]; rfl) (ev_iten (by omega) (ev_some rfl)), by rw [List.drop_of_length_le (by omega)]; simp⟩
  | succ d ih =>
    intro i hi
    have hil : i < l.length := by omega
    have r1 : rd l (i : Int) = l[i] := by unfold rd; simp [List.getD, hil]
    by_cases c : n = rd l (i : Int)
    · refine ⟨(i : Int), ev_step (fun k => by simp only [slices_Index_int_int.l0]; rfl) (ev_itep (by omega) (ev_itep (by omega) (ev_itep (by omega) (ev_itep c (ev_some rfl))))), ?_⟩
      rw [List.drop_eq_getElem_cons hil, ← r1, ← c]; simp
    · obtain ⟨r, hr, he⟩ := ih (i + 1) (by omega)
      refine ⟨r, ev_step (fun k => by simp only [slices_Index_int_int.l0]; rfl) (ev_itep (by omega) (ev_itep (by omega) (ev_itep (by omega) (ev_iten c ?_)))), ?_⟩
      · rw [wrap_id (by omega) (by omega)]; exact hr
      · rw [he, List.drop_eq_getElem_cons hil, ← r1, decide_eq_decide, List.mem_cons]
        exact ⟨fun h => .inr h, fun h => h.resolve_left (fun e => c e)⟩
theorem implContains_ev (l : List Int) (hl : l.length ≤ 1048576) (n : Int) : Ev (fun k => slices_Contains_int_int.f k l n) (decide (n ∈ l)) := by
  unfold slices_Contains_int_int.f slices_Index_int_int.f
  obtain ⟨r, hr, he⟩ := implIndex_l0 l hl n l.length 0 (by omega)
  exact ev_bind hr (ev_some (by rw [he, List.drop_zero]))
/-- Those of l that t does not name. -/
def dropOut (t : List Int) (l : List IFind) : List IFind := l.filter (fun x => !decide (x.f0.f0 ∈ t))
def dropTw (l : List IFind) : List IFind := dropOut (twins l) l
theorem dropTw_len (l : List IFind) : (dropTw l).length ≤ l.length := List.length_filter_le _ _
theorem drop_succ (t : List Int) (l : List IFind) (i : Nat) (h : i < l.length) : dropOut t (l.take (i + 1)) = if decide ((fd l i).f0.f0 ∈ t) = true then dropOut t (l.take i) else dropOut t (l.take i) ++ [fd l i] := by
  unfold dropOut
  rw [List.take_succ_eq_append_getElem h, List.filter_append, ← fd_get l i h]
  by_cases c : (fd l i).f0.f0 ∈ t <;> simp [c]
theorem drop_le (t : List Int) (l : List IFind) (i : Nat) : (dropOut t (l.take i)).length ≤ i := by
  have h1 := List.length_filter_le (fun x : IFind => !decide (x.f0.f0 ∈ t)) (l.take i)
  have h2 := List.length_take_le i l
  unfold dropOut; omega
theorem specDrop_l0 (l : List IFind) (hl : l.length ≤ 1048576) (t : List Int) (ht : t.length ≤ 1048576) : ∀ (d i : Nat), i + d = l.length → Ev (fun k => spec_DropTwins.l0 k l (dropOut t (l.take i)) t (i : Int)) (dropOut t l) := by
  intro d
  induction d with
  | zero =>
    intro i hi
    exact ev_step (fun k => by simp only [spec_DropTwins.l0]; rfl) (ev_iten (by omega) (ev_some (by rw [List.take_of_length_le (by omega)])))
  | succ d ih =>
    intro i hi
    have hn := ih (i + 1) (by omega)
    have hle := drop_le t l i
    rw [drop_succ t l i (by omega)] at hn
    refine ev_step (fun k => by simp only [spec_DropTwins.l0]; rfl) (ev_itep (by omega) (ev_itep (by omega) (ev_bind (specHas_ev t ht _) ?_)))
    rw [rd_fd, wrap_id (by omega) (by omega)]
    refine ev_ite (fun c => ?_) (fun c => ev_itep (by omega) ?_)
    · rw [if_pos c] at hn; exact hn
    · rw [if_neg c] at hn; exact hn
theorem specDropTwins_ev (l : List IFind) (hl : l.length ≤ 1048576) : Ev (fun k => spec_DropTwins.f k l) (dropTw l) := by
  unfold spec_DropTwins.f
  refine ev_bind (specTwinsOf_ev l hl) ?_
  exact specDrop_l0 l hl (twins l) (by have := twins_len l; omega) l.length 0 (by omega)
theorem implDrop_l0 (l : List IFind) (hl : l.length ≤ 1048576) (t : List Int) (ht : t.length ≤ 1048576) : ∀ (d i : Nat), i + d = l.length → Ev (fun k => impl_DropTwins.l0 k t (dropOut t (l.take i)) l (l.length : Int) (i : Int)) (dropOut t l) := by
  intro d
  induction d with
  | zero =>
    intro i hi
    exact ev_step (fun k => by simp only [impl_DropTwins.l0]; rfl) (ev_iten (by omega) (ev_some (by rw [List.take_of_length_le (by omega)])))
  | succ d ih =>
    intro i hi
    have hn := ih (i + 1) (by omega)
    have hle := drop_le t l i
    rw [drop_succ t l i (by omega)] at hn
    refine ev_step (fun k => by simp only [impl_DropTwins.l0]; rfl) (ev_itep (by omega) (ev_itep (by omega) (ev_itep (by omega) (ev_bind (implContains_ev t ht _) ?_))))
    rw [rd_fd, wrap_id (by omega) (by omega)]
    refine ev_ite (fun c => ?_) (fun c => ev_itep (by omega) ?_)
    · rw [if_pos c] at hn; exact hn
    · rw [if_neg c] at hn; exact hn
theorem implDropTwins_ev (l : List IFind) (hl : l.length ≤ 1048576) : Ev (fun k => impl_DropTwins.f k l) (dropTw l) := by
  unfold impl_DropTwins.f
  refine ev_bind (implTwinsOf_ev l hl) ?_
  exact implDrop_l0 l hl (twins l) (by have := twins_len l; omega) l.length 0 (by omega)
end Go.Proofs.Ytglpmjcknhcjcaa.PFnExactDropTwins
