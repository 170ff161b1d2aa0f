/- The pure statement of FnBooks. -/
import Derived.Test.YtgejkcomoealgaaBooksDFnBooks
import Derived.Test.YtgejkcomoealgaaAscendsFnBooks
namespace Go.Proofs.Ytgejkcomoealgaa.PFnBooks
open Go.RowKit Go.Proofs.YtgejkcomoealgaaW.PrintWords Go.Proofs.YtgejkcomoealgaaW.PrintLast Go.Proofs.Ytgejkcomoealgaa.EvLib
theorem books_j2 (s : List Int) (hs : s.length ≤ 1048576) : Ev (fun k => laws_FnBooks.j2 k s false) true := by
  obtain ⟨l, a, b, c, t, hd, hl⟩ := drawAdd_ok s hs
  refine ev_step (fun k => by simp only [laws_FnBooks.j2]; rfl) (ev_iten (by simp) (ev_bind hd (ev_bind (implAddEntry_ev l (by omega) a b c t) ?_)))
  refine ev_ite (fun h => ?_) (fun h => ?_)
  · obtain ⟨h1, h2⟩ := addE_yes h
    have hb := balance_add h1
    have hx := balance_in l b
    have hy := balance_in l a
    have hz := areEntry_last h1
    simp only at hb hz
    have hlen : (l ++ [(⟨a, b, c, t⟩ : IEntry)]).length ≤ 1048576 := by simp; omega
    simp only [h2]
    refine ev_bind (implBalance_ev _ hlen b) (ev_bind (implBalance_ev l (by omega) b) (ev_itep ?_ (ev_bind (implBalance_ev _ hlen a) (ev_bind (implBalance_ev l (by omega) a) (ev_itep ?_ (ev_some rfl))))))
    · rw [hb.1, wrap_id (by omega) (by omega)]
    · rw [hb.2, wrap_id (by omega) (by omega)]
  · rw [addE_no h]
    exact ev_some (by simp)
theorem books_j1 (s : List Int) (hs : s.length ≤ 1048576) (l : List IEntry) (hl : l.length ≤ 7) (a : Int) (ss : List IShare) (hss : ss.length ≤ 2) (t : Int) :
    Ev (fun k => laws_FnBooks.j1 k s l a ss (payE l a t ss l).1 (payE l a t ss l).2 false) true := by
  have hx := pay_len l a t ss l
  refine ev_step (fun k => by simp only [laws_FnBooks.j1]; rfl) (ev_iten (by simp) (ev_ite (fun h => ev_bind (implAreEntries_ev l (by omega)) (ev_ite (fun h2 => ?_) (fun h2 => books_j2 s hs))) (fun h => ?_)))
  · obtain ⟨g1, g2⟩ := pay_yes l a t ss l h h2
    have e1 : totalPaid (payE l a t ss l).1 a = sumIf (paidBy a) (payE l a t ss l).1 := by unfold totalPaid; rw [if_pos g1]
    have e2 : totalPaid l a = sumIf (paidBy a) l := by unfold totalPaid; rw [if_pos h2]
    have b1 := sumIf_in (paidBy a) _ (small_of g1)
    have b2 := sumIf_in (paidBy a) _ (small_of h2)
    have b3 := areEntry_len g1
    have b4 := areEntry_len h2
    refine ev_bind (implTotalPaid_ev _ (by omega) a) (ev_bind (implTotalPaid_ev l (by omega) a) (ev_bind (totShares_ev ss hss) (ev_itep ?_ (ev_bind (implAreEntries_ev _ (by omega)) (ev_itep g1 (books_j2 s hs))))))
    rw [e1, e2, wrap_id (by omega) (by omega)]
    omega
  · rw [pay_no l a t ss l h]
    have : ((l.length : Int) != (l.length : Int)) = false := by simp
    rw [this]
    exact books_j2 s hs
theorem sumL_in (x : List IEntry) : ∀ A : List Int, -1000000000 * (A.length : Int) ≤ sumL (balance x) A ∧ sumL (balance x) A ≤ 1000000000 * (A.length : Int)
  | [] => by simp [sumL]
  | a :: A => by
    have := sumL_in x A
    have := balance_in x a
    rw [sumL, List.length_cons]
    omega
theorem books_l0 (s : List Int) (hs : s.length ≤ 1048576) (l : List IEntry) (hl : l.length ≤ 7) (a : Int) (ss : List IShare) (hss : ss.length ≤ 2) (t : Int) (A : List Int) (hA : A = accOf (payE l a t ss l).1) :
    ∀ (d i : Nat) (n : Int), i + d = A.length → n + sumL (balance (payE l a t ss l).1) (A.drop i) = 0 → Ev (fun k => laws_FnBooks.l0 k s l a ss (payE l a t ss l).1 (payE l a t ss l).2 A n (i : Int)) true := by
  have hx := pay_len l a t ss l
  have hal : A.length ≤ 32 := by rw [hA]; have := acc_len (payE l a t ss l).1; omega
  intro d
  induction d with
  | zero =>
    intro i n hi hn
    rw [List.drop_of_length_le (by omega), sumL] at hn
    have hst : Strict A := by rw [hA]; exact (united_spec _).1
    refine ev_step (fun k => by simp only [laws_FnBooks.l0]; rfl) (ev_iten (by omega) (ev_itep (by omega) (ev_bind (ascends_ev A (by omega) hst) ?_)))
    exact books_j1 s hs l hl a ss hss t
  | succ d ih =>
    intro i n hi hn
    have hil : i < A.length := by omega
    have r1 : rd A (i : Int) = A[i] := by unfold rd; simp [List.getD, hil]
    rw [List.drop_eq_getElem_cons hil, sumL] at hn
    have hb := balance_in (payE l a t ss l).1 A[i]
    have hs2 := sumL_in (payE l a t ss l).1 (A.drop (i + 1))
    rw [List.length_drop] at hs2
    refine ev_step (fun k => by simp only [laws_FnBooks.l0]; rfl) (ev_itep (by omega) (ev_itep (by omega) (ev_bind (implBalance_ev _ (by omega) _) ?_)))
    rw [r1, wrap_id (x := (i : Int) + 1) (by omega) (by omega), wrap_id (x := n + _) (by omega) (by omega)]
    exact ih (i + 1) _ (by omega) (by omega)
end Go.Proofs.Ytgejkcomoealgaa.PFnBooks
namespace Go.Proofs.Ytgejkcomoealgaa.Pure
open Go.RowKit Go.Proofs.Ytgejkcomoealgaa.PFnBooks Go.Proofs.YtgejkcomoealgaaW.PrintWords Go.Proofs.YtgejkcomoealgaaW.PrintLast Go.Proofs.Ytgejkcomoealgaa.EvLib
theorem FnBooks : laws_FnBooks.Pure := by
  intro s hw
  refine Ev.rounds ?_
  unfold laws_FnBooks.f
  refine ev_bindc (show laws_big.f s = some (decide ((s.length : Int) > 1048576)) from rfl) (ev_ite (fun _ => ev_some rfl) (fun h => ?_))
  have hs : s.length ≤ 1048576 := by simp at h; omega
  obtain ⟨l, a, ss, t, hd, hl, hss⟩ := drawPay_ok s hs
  have hx := pay_len l a t ss l
  refine ev_bind hd (ev_bind (implPayShares_ev l (by omega) a ss (by omega) t) (ev_bind (implAcc_ev _ (by show (payE l a t ss l).1.length ≤ 1048576; omega)) ?_))
  exact books_l0 s hs l hl a ss hss t _ rfl (accOf (payE l a t ss l).1).length 0 0 (by omega) (by rw [List.drop_zero, books_zero]; rfl)
end Go.Proofs.Ytgejkcomoealgaa.Pure
