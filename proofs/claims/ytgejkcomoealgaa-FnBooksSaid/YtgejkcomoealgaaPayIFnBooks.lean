/- PayShares. -/
import Derived.Test.YtgejkcomoealgaaAddEFnBooks
import Derived.Test.YtgejkcomoealgaaCvShareFnBooks
namespace Go.Proofs.Ytgejkcomoealgaa.PFnBooks
open Go.RowKit Go.Proofs.YtgejkcomoealgaaW.PrintWords Go.Proofs.YtgejkcomoealgaaW.PrintLast Go.Proofs.Ytgejkcomoealgaa.EvLib
def shr (l : List IShare) (i : Nat) : IShare := l.getD i z62
theorem rd_shr (l : List IShare) (i : Nat) : rd_T62 l (i : Int) = shr l i := by unfold rd_T62 shr; rw [Int.toNat_natCast]
theorem drop_shr (l : List IShare) (i : Nat) (h : i < l.length) : l.drop i = shr l i :: l.drop (i + 1) := by
  rw [List.drop_eq_getElem_cons h]
  simp [shr, List.getD, h]
def payE (l0 : List IEntry) (a t : Int) : List IShare → List IEntry → List IEntry × Bool
  | [], c => (c, true)
  | s :: ss, c => if s.f1 = 0 then payE l0 a t ss c else if (addE c ⟨a, s.f0, s.f1, t⟩).2 = true then payE l0 a t ss (addE c ⟨a, s.f0, s.f1, t⟩).1 else (l0, false)
theorem payE_len (l0 : List IEntry) (h0 : l0.length ≤ 1048576) (a t : Int) : ∀ (ss : List IShare) (c : List IEntry), c.length ≤ 1048576 → (payE l0 a t ss c).1.length ≤ 1048576 := by
  intro ss
  induction ss with
  | nil => intro c h; exact h
  | cons s ss ih =>
    intro c h
    rw [payE]
    split
    · exact ih c h
    · split
      · exact ih _ (addE_len _ _ h)
      · exact h0
theorem implPay_l0 (l0 : List IEntry) (h0 : l0.length ≤ 1048576) (a t : Int) (ss : List IShare) (hs : ss.length ≤ 1048576) : ∀ (d i : Nat) (c : List IEntry), i + d = ss.length → c.length ≤ 1048576 →
    Ev (fun k => impl_PayShares.l0 k l0 a t c ss (ss.length : Int) (i : Int)) (payE l0 a t (ss.drop i) c) := by
  intro d
  induction d with
  | zero =>
    intro i c hi hc
    exact ev_step (fun k => by simp only [impl_PayShares.l0]; rfl) (ev_iten (by omega) (ev_some (by rw [List.drop_of_length_le (by omega), payE])))
  | succ d ih =>
    intro i c hi hc
    refine ev_step (fun k => by simp only [impl_PayShares.l0]; rfl) (ev_itep (by omega) (ev_itep (by omega) (ev_itep (by omega) ?_)))
    simp only [rd_shr, wrap_id (x := (i : Int) + 1) (by omega) (by omega)]
    rw [drop_shr ss i (by omega), payE]
    refine ev_ite (fun h => ?_) (fun h => ev_bind (implAddEntry_ev c hc _ _ _ _) (ev_ite (fun h2 => ?_) (fun h2 => ?_)))
    · rw [if_pos h]
      exact ih (i + 1) c (by omega) hc
    · rw [if_neg h, if_pos h2]
      exact ih (i + 1) _ (by omega) (addE_len _ _ hc)
    · rw [if_neg h, if_neg h2]
      exact ev_bindc (show impl_Entry.f l0 = some l0 by unfold impl_Entry.f; rw [if_pos (by omega)]) (ev_some rfl)
theorem implPayShares_ev (l : List IEntry) (hl : l.length ≤ 1048576) (a : Int) (ss : List IShare) (hs : ss.length ≤ 1048576) (t : Int) : Ev (fun k => impl_PayShares.f k l a ss t) (payE l a t ss l) := by
  unfold impl_PayShares.f
  exact ev_bindc (show impl_Entry.f l = some l by unfold impl_Entry.f; rw [if_pos (by omega)]) (implPay_l0 l hl a t ss hs ss.length 0 l (by omega) hl)
end Go.Proofs.Ytgejkcomoealgaa.PFnBooks
