/- CallAll, by the program and by the reference. -/
import Derived.Test.YthbmegdbdnmnoaaCallTIFnCounters
namespace Go.Proofs.Ythbmegdbdnmnoaa.PFnCounters
open Go.RowKit Go.Proofs.YthbmegdbdnmnoaaW.PrintWords Go.Proofs.YthbmegdbdnmnoaaW.PrintLast Go.Proofs.Ythbmegdbdnmnoaa.EvLib
theorem callT_cons {l : List ITicket} {now : Int} (h : (callT l now).2 ≠ 0) : (callT l now).1.length + 1 = l.length := by
  have hx := nx_in l now
  unfold callT at h ⊢
  split
  · rename_i c
    show (l.eraseIdx (nx l now).toNat).length + 1 = l.length
    rw [List.length_eraseIdx_of_lt (by omega)]
    omega
  · rename_i c
    rw [if_neg c] at h
    exact absurd rfl h
/-- Who is called from a minute on, at most d minutes on. -/
def allT (each : Int) : Nat → List Int → List ITicket → Int → List Int
  | 0, out, rest, _ => if rest.length = 0 then out else []
  | d + 1, out, rest, now => if rest.length = 0 then out else if now > 100000 then [] else if (callT rest now).2 = 0 then allT each d out (callT rest now).1 (now + each) else allT each d (out ++ [(callT rest now).2]) (callT rest now).1 (now + each)
def callAll (l : List ITicket) (fr each : Int) : List Int := if areTk l = true ∧ (0 ≤ fr ∧ fr ≤ 100000) ∧ (1 ≤ each ∧ each ≤ 60) then allT each 100001 [] l fr else []
theorem allT_len (each : Int) : ∀ (d : Nat) (out : List Int) (rest : List ITicket) (now : Int), (allT each d out rest now).length = 0 ∨ (allT each d out rest now).length = out.length + rest.length := by
  intro d
  induction d with
  | zero =>
    intro out rest now
    rw [allT]
    split
    · omega
    · exact Or.inl rfl
  | succ d ih =>
    intro out rest now
    rw [allT]
    split
    · omega
    · split
      · exact Or.inl rfl
      · split
        · rename_i c
          have h1 := callT_len rest now
          have h2 := ih out (callT rest now).1 (now + each)
          have h3 : (callT rest now).1.length = rest.length := by
            unfold callT at c ⊢
            split
            · rename_i z
              rw [if_pos z] at c
              have hx := nx_in rest now
              have := are_id z.1 (nx rest now).toNat (by omega)
              have c' : (tk rest (nx rest now).toNat).f0 = 0 := c
              omega
            · rfl
          omega
        · rename_i c
          have h1 := callT_cons c
          have h2 := ih (out ++ [(callT rest now).2]) (callT rest now).1 (now + each)
          simp only [List.length_append, List.length_singleton] at h2
          omega
theorem implAll_l0 (each : Int) (he : 1 ≤ each ∧ each ≤ 60) : ∀ (d : Nat) (out : List Int) (rest : List ITicket) (now : Int), 0 ≤ now → now ≤ 100060 → 100001 ≤ now + d → out.length + rest.length ≤ 1048576 →
    Ev (fun k => impl_CallAll.l0 k each out rest now) (allT each d out rest now) := by
  intro d
  induction d with
  | zero =>
    intro out rest now h0 h1 h2 h3
    rw [allT]
    refine ev_step (fun k => by simp only [impl_CallAll.l0]; rfl) (ev_ite (fun c => ev_itep (by omega) (ev_some ?_)) (fun c => ev_some ?_))
    · rw [if_neg (by omega)]
    · rw [if_pos (by omega)]
  | succ d ih =>
    intro out rest now h0 h1 h2 h3
    rw [allT]
    refine ev_step (fun k => by simp only [impl_CallAll.l0]; rfl) (ev_ite (fun c => ?_) (fun c => ev_some ?_))
    · rw [if_neg (by omega)]
      refine ev_ite (fun c2 => ev_some ?_) (fun c2 => ev_bind (implCallTicket_ev rest (by omega) now) ?_)
      · rw [if_pos c2]
      · rw [if_neg c2, wrap_id (x := now + each) (by omega) (by omega)]
        have hl := callT_len rest now
        refine ev_ite (fun c3 => ?_) (fun c3 => ev_itep (by omega) ?_)
        · rw [if_pos c3]
          exact ih _ _ _ (by omega) (by omega) (by omega) (by omega)
        · rw [if_neg c3]
          have := callT_cons c3
          exact ih _ _ _ (by omega) (by omega) (by omega) (by simp; omega)
    · rw [if_pos (by omega)]
theorem implCallAll_ev (l : List ITicket) (hl : l.length ≤ 1048576) (fr each : Int) : Ev (fun k => impl_CallAll.f k l fr each) (callAll l fr each) := by
  unfold impl_CallAll.f callAll
  have no : ¬ (areTk l = true ∧ (0 ≤ fr ∧ fr ≤ 100000) ∧ (1 ≤ each ∧ each ≤ 60)) → Ev (fun k => impl_CallAll.j0 k l fr each [] true) [] := fun _ => ev_step (fun k => by simp only [impl_CallAll.j0]; rfl) (ev_itep (c := true = true) rfl (ev_some rfl))
  refine ev_bindc rfl (ev_bind (implAreTickets_ev l hl) (ev_ite (fun h1 => ?_) (fun h1 => ?_)))
  · simp only [inRange_eq, Option.bind_some]
    by_cases h2 : 0 ≤ fr ∧ fr ≤ 100000
    · refine ev_itep (by simpa using h2) ?_
      by_cases h3 : 1 ≤ each ∧ each ≤ 60
      · rw [if_pos ⟨h1, h2, h3⟩, decide_eq_true h3]
        have cl : impl_Ticket_40.f l = some l := by unfold impl_Ticket_40.f; rw [if_pos (by omega)]
        exact ev_step (fun k => by simp only [impl_CallAll.j0]; rfl) (ev_iten (by simp) (ev_bindc cl (implAll_l0 each h3 100001 [] l fr (by omega) (by omega) (by omega) (by simp; omega))))
      · have hn : ¬ (areTk l = true ∧ (0 ≤ fr ∧ fr ≤ 100000) ∧ (1 ≤ each ∧ each ≤ 60)) := fun z => h3 z.2.2
        rw [if_neg hn, decide_eq_false h3]
        exact no hn
    · have hn : ¬ (areTk l = true ∧ (0 ≤ fr ∧ fr ≤ 100000) ∧ (1 ≤ each ∧ each ≤ 60)) := fun z => h2 z.2.1
      rw [if_neg hn]
      exact ev_iten (by simpa using h2) (no hn)
  · have hn : ¬ (areTk l = true ∧ (0 ≤ fr ∧ fr ≤ 100000) ∧ (1 ≤ each ∧ each ≤ 60)) := fun z => h1 z.1
    rw [if_neg hn]
    exact no hn
theorem callAll_len (l : List ITicket) (fr each : Int) : (callAll l fr each).length = 0 ∨ (callAll l fr each).length = l.length := by
  unfold callAll
  split
  · have := allT_len each 100001 [] l fr
    simpa using this
  · exact Or.inl rfl
end Go.Proofs.Ythbmegdbdnmnoaa.PFnCounters
