/- The ticket that is called, by the reference. -/
import Derived.Test.YthbmegdbdnmnoaaCalledFnExactCallAll
namespace Go.Proofs.Ythbmegdbdnmnoaa.PFnExactCallAll
open Go.RowKit Go.Proofs.YthbmegdbdnmnoaaW.PrintWords Go.Proofs.YthbmegdbdnmnoaaW.PrintLast Go.Proofs.Ythbmegdbdnmnoaa.EvLib
theorem specNext_l1 (l : List ITicket) (hl : l.length ≤ 1048576) (now : Int) : ∀ (d i : Nat) (s : Int), i + d = l.length → -1 ≤ s → s < i → Ev (fun k => spec_l28Next.l1 k l now s (i : Int)) (am (isDr l now) (tm l) d i s) := by
  intro d
  induction d with
  | zero =>
    intro i s hi h1 h2
    exact ev_step (fun k => by simp only [spec_l28Next.l1]; rfl) (ev_iten (by omega) (ev_some rfl))
  | succ d ih =>
    intro i s hi h1 h2
    refine ev_step (fun k => by simp only [spec_l28Next.l1]; rfl) (ev_itep (by omega) (ev_itep (by omega) ?_))
    simp only [rd_tki, Int.toNat_natCast, wrap_id (x := (i : Int) + 1) (by omega) (by omega)]
    refine ev_ite (fun c => ev_ite (fun c2 => ev_ite (fun c3 => ?_) (fun c3 => ev_itep (by omega) (ev_itep (by omega) (ev_ite (fun c4 => ?_) (fun c4 => ?_))))) (fun c2 => ?_)) (fun c => ?_)
    · rw [am_yes ⟨decide_eq_true ⟨c, c2⟩, Or.inl c3⟩]
      exact ih (i + 1) i (by omega) (by omega) (by omega)
    · rw [am_yes ⟨decide_eq_true ⟨c, c2⟩, Or.inr c4⟩]
      exact ih (i + 1) i (by omega) (by omega) (by omega)
    · rw [am_no (fun z => z.2.elim c3 c4)]
      exact ih (i + 1) s (by omega) h1 (by omega)
    · rw [am_no (fun z => c2 (of_decide_eq_true z.1).2)]
      exact ih (i + 1) s (by omega) h1 (by omega)
    · rw [am_no (fun z => c (of_decide_eq_true z.1).1)]
      exact ih (i + 1) s (by omega) h1 (by omega)
theorem specNext_l0 (l : List ITicket) (hl : l.length ≤ 1048576) (now : Int) : ∀ (d i : Nat) (s : Int), i + d = l.length → -1 ≤ s → s < i →
    Ev (fun k => spec_l28Next.l0 k l now s (i : Int)) (if am (isAp l now) (hr l) d i s ≥ 0 then am (isAp l now) (hr l) d i s else am (isDr l now) (tm l) l.length 0 (-1)) := by
  intro d
  induction d with
  | zero =>
    intro i s hi h1 h2
    refine ev_step (fun k => by simp only [spec_l28Next.l0]; rfl) (ev_iten (by omega) ?_)
    refine ev_ite (fun c => ev_some (by rw [am, if_pos c])) (fun c => ?_)
    rw [am, if_neg c]
    obtain rfl : s = -1 := by omega
    exact specNext_l1 l hl now l.length 0 (-1) (by omega) (by omega) (by omega)
  | succ d ih =>
    intro i s hi h1 h2
    refine ev_step (fun k => by simp only [spec_l28Next.l0]; rfl) (ev_itep (by omega) (ev_itep (by omega) ?_))
    simp only [rd_tki, Int.toNat_natCast, wrap_id (x := (i : Int) + 1) (by omega) (by omega)]
    refine ev_ite (fun c => ev_ite (fun c2 => ev_ite (fun c3 => ?_) (fun c3 => ev_itep (by omega) (ev_itep (by omega) (ev_ite (fun c4 => ?_) (fun c4 => ?_))))) (fun c2 => ?_)) (fun c => ?_)
    · rw [am_yes ⟨decide_eq_true ⟨c, c2⟩, Or.inl c3⟩]
      exact ih (i + 1) i (by omega) (by omega) (by omega)
    · rw [am_yes ⟨decide_eq_true ⟨c, c2⟩, Or.inr c4⟩]
      exact ih (i + 1) i (by omega) (by omega) (by omega)
    · rw [am_no (fun z => z.2.elim c3 c4)]
      exact ih (i + 1) s (by omega) h1 (by omega)
    · rw [am_no (fun z => c2 (of_decide_eq_true z.1).2)]
      exact ih (i + 1) s (by omega) h1 (by omega)
    · rw [am_no (fun z => c (of_decide_eq_true z.1).1)]
      exact ih (i + 1) s (by omega) h1 (by omega)
theorem specNextTicket_ev (l : List ITicket) (hl : l.length ≤ 1048576) (now : Int) : Ev (fun k => spec_NextTicket.f k l now) (nextId l now) := by
  unfold spec_NextTicket.f spec_l28Next.f
  have hx := nx_in l now
  have h0 : Ev (fun k => spec_l28Next.l0 k l now (-1) 0) (nx l now) := specNext_l0 l hl now l.length 0 (-1) (by omega) (by omega) (by omega)
  refine ev_bind h0 (ev_ite (fun h => ev_some ?_) (fun h => ev_bind (specAreTickets_ev l hl) (ev_ite (fun ha => ev_itep (by omega) (ev_itep (by omega) (ev_some ?_))) (fun ha => ev_some ?_))))
  · unfold nextId
    rw [if_neg (fun z => by omega)]
  · unfold nextId
    rw [if_pos ⟨ha, by omega⟩, rd_tki]
  · unfold nextId
    rw [if_neg (fun z => ha z.1)]
end Go.Proofs.Ythbmegdbdnmnoaa.PFnExactCallAll
