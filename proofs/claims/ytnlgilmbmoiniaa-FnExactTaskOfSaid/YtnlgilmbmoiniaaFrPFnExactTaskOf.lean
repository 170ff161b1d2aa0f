/- FirstProved of the program and of the reference. -/
import Derived.Test.YtnlgilmbmoiniaaCvClaimFnExactTaskOf
namespace Go.Proofs.Ytnlgilmbmoiniaa.PFnExactTaskOf
open Go.RowKit Go.Proofs.YtnlgilmbmoiniaaW.PrintWords Go.Proofs.YtnlgilmbmoiniaaW.PrintLast Go.Proofs.Ytnlgilmbmoiniaa.EvLib
def cl (l : List IClaim) (i : Nat) : IClaim := rd_T69 l (i : Int)
theorem firstProved_l0 (l : List IClaim) (hl : l.length ≤ 1048576) (id : Int) : ∀ (d i : Nat), i + d = l.length → ∀ (fl : Bool) (b : IClaim) (j : Int), (fl = false ∧ b.f0 = 0 ∧ j = -1 ∨ fl = true ∧ ∃ n : Nat, n < l.length ∧ j = (n : Int) ∧ b = cl l n) →
    ∃ r, Ev (fun k => impl_FirstProved.l0 k id fl l (l.length : Int) (i : Int) b.f0 b.f1 b.f2 b.f3 b.f4) r ∧ Ev (fun k => spec_FirstProved.l0 k l id j (i : Int)) r := by
  intro d
  induction d with
  | zero =>
    intro i hi fl b j hs
    rcases hs with ⟨h1, h2, h3⟩ | ⟨h1, n, hn, h3, h4⟩
    · exact ⟨b.f0, ev_step (fun k => by simp only [impl_FirstProved.l0]; rfl) (ev_iten (by omega) (ev_some rfl)), ev_step (fun k => by simp only [spec_FirstProved.l0]; rfl) (ev_iten (by omega) (ev_itep (by omega) (ev_some h2.symm)))⟩
    · subst h3
      exact ⟨b.f0, ev_step (fun k => by simp only [impl_FirstProved.l0]; rfl) (ev_iten (by omega) (ev_some rfl)), ev_step (fun k => by simp only [spec_FirstProved.l0]; rfl) (ev_iten (by omega) (ev_iten (by omega) (ev_itep (by omega) (ev_itep (by omega) (ev_some (by rw [h4]; rfl))))))⟩
  | succ d ih =>
    intro i hi fl b j hs
    have hw : wrap64 ((i : Int) + 1) = ((i + 1 : Nat) : Int) := by rw [wrap_id (by omega) (by omega)]; omega
    have key : ∀ (fl' : Bool) (b' : IClaim) (j' : Int), (fl' = false ∧ b'.f0 = 0 ∧ j' = -1 ∨ fl' = true ∧ ∃ n : Nat, n < l.length ∧ j' = (n : Int) ∧ b' = cl l n) →
        ∃ r, Ev (fun k => impl_FirstProved.l0 k id fl' l (l.length : Int) (wrap64 ((i : Int) + 1)) b'.f0 b'.f1 b'.f2 b'.f3 b'.f4) r ∧ Ev (fun k => spec_FirstProved.l0 k l id j' (wrap64 ((i : Int) + 1))) r := by
      intro fl' b' j' h
      rw [hw]
      exact ih (i + 1) (by omega) fl' b' j' h
    have take : ∃ r, Ev (fun k => impl_FirstProved.l0 k id true l (l.length : Int) (wrap64 ((i : Int) + 1)) (cl l i).f0 (cl l i).f1 (cl l i).f2 (cl l i).f3 (cl l i).f4) r ∧ Ev (fun k => spec_FirstProved.l0 k l id (i : Int) (wrap64 ((i : Int) + 1))) r :=
      key true (cl l i) (i : Int) (Or.inr ⟨rfl, i, by omega, rfl, rfl⟩)
    obtain ⟨rk, k1, k2⟩ := key fl b j hs
    obtain ⟨rt, t1, t2⟩ := take
    by_cases c1 : (cl l i).f2 = id
    · by_cases c2 : (cl l i).f4 = 1
      · rcases hs with ⟨h1, h2, h3⟩ | ⟨h1, n, hn, h3, h4⟩
        · subst h1
          exact ⟨rt, ev_step (fun k => by simp only [impl_FirstProved.l0]; rfl) (ev_itep (by omega) (ev_itep (by omega) (ev_itep (by omega) (ev_itep c1 (ev_itep c2 (ev_iten (by simp) t1)))))),
            ev_step (fun k => by simp only [spec_FirstProved.l0]; rfl) (ev_itep (by omega) (ev_itep (by omega) (ev_itep c1 (ev_itep c2 (ev_itep (by omega) t2)))))⟩
        · subst h1
          subst h3
          subst h4
          by_cases c3 : (cl l i).f3 < (cl l n).f3
          · exact ⟨rt, ev_step (fun k => by simp only [impl_FirstProved.l0]; rfl) (ev_itep (by omega) (ev_itep (by omega) (ev_itep (by omega) (ev_itep c1 (ev_itep c2 (ev_itep (show true = true from rfl) (ev_itep c3 t1))))))),
              ev_step (fun k => by simp only [spec_FirstProved.l0]; rfl) (ev_itep (by omega) (ev_itep (by omega) (ev_itep c1 (ev_itep c2 (ev_iten (by omega) (ev_itep (by omega) (ev_itep (by omega) (ev_itep c3 t2))))))))⟩
          · exact ⟨rk, ev_step (fun k => by simp only [impl_FirstProved.l0]; rfl) (ev_itep (by omega) (ev_itep (by omega) (ev_itep (by omega) (ev_itep c1 (ev_itep c2 (ev_itep (show true = true from rfl) (ev_iten c3 k1))))))),
              ev_step (fun k => by simp only [spec_FirstProved.l0]; rfl) (ev_itep (by omega) (ev_itep (by omega) (ev_itep c1 (ev_itep c2 (ev_iten (by omega) (ev_itep (by omega) (ev_itep (by omega) (ev_iten c3 k2))))))))⟩
      · exact ⟨rk, ev_step (fun k => by simp only [impl_FirstProved.l0]; rfl) (ev_itep (by omega) (ev_itep (by omega) (ev_itep (by omega) (ev_itep c1 (ev_iten c2 k1))))),
          ev_step (fun k => by simp only [spec_FirstProved.l0]; rfl) (ev_itep (by omega) (ev_itep (by omega) (ev_itep c1 (ev_iten c2 k2))))⟩
    · exact ⟨rk, ev_step (fun k => by simp only [impl_FirstProved.l0]; rfl) (ev_itep (by omega) (ev_itep (by omega) (ev_itep (by omega) (ev_iten c1 k1)))),
        ev_step (fun k => by simp only [spec_FirstProved.l0]; rfl) (ev_itep (by omega) (ev_itep (by omega) (ev_iten c1 k2)))⟩
theorem firstProved_ok (l : List IClaim) (hl : l.length ≤ 1048576) (id : Int) : ∃ r, Ev (fun k => impl_FirstProved.f k l id) r ∧ Ev (fun k => spec_FirstProved.f k l id) r := by
  unfold impl_FirstProved.f spec_FirstProved.f
  exact firstProved_l0 l hl id l.length 0 (by omega) false z69 (-1) (Or.inl ⟨rfl, rfl, rfl⟩)
end Go.Proofs.Ytnlgilmbmoiniaa.PFnExactTaskOf
