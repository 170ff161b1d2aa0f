/- The pure statement of FnTwins. -/
import Derived.Test.YtglpmjcknhcjcaaTwsAllFnTwins
namespace Go.Proofs.Ytglpmjcknhcjcaa.PFnTwins
open Go.RowKit Go.Proofs.YtglpmjcknhcjcaaW.PrintWords Go.Proofs.YtglpmjcknhcjcaaW.PrintLast Go.Proofs.Ytglpmjcknhcjcaa.EvLib
theorem end_ev (x : List Int) (hx : x.length ≤ 1048576) (l D : List IFind) : Ev (fun k => laws_FnTwins.l0 k x l D (D.length : Int)) true := by
  obtain ⟨⟨a0, a1, l2, a3, a4, l5, a6, a7, b0, b1, m2, b3, b4, m5, b6, b7⟩, e1, t1, t2, t3, t4⟩ := owner_ok x hx
  have o1 := own_ev a0 a1 l2 a3 a4 l5 a6 a7 b0 b1 m2 b3 b4 m5 b6 b7 t1 t2 t3 t4
  have o2 := own_ev b0 b1 m2 b3 b4 m5 b6 b7 a0 a1 l2 a3 a4 l5 a6 a7 t3 t4 t1 t2
  have os := own_sym a0 a1 l2 a3 a4 l5 a6 a7 b0 b1 m2 b3 b4 m5 b6 b7
  obtain ⟨r, e2, hr⟩ := drawGroups_ok x hx
  obtain ⟨g, e3, e4⟩ := groups_ok r hr
  refine ev_step (fun k => by simp only [laws_FnTwins.l0]; rfl) (ev_iten (by omega) (ev_bind e1 (ev_bind o1 (ev_bind o2 ?_))))
  exact ev_iten (by rw [os]; simp) (ev_bind e2 (ev_bind e3 e4))
theorem twinsS_ok (x : List Int) (hx : x.length ≤ 1048576) : Ev (fun k => laws_FnTwins.f k x) true := by
  unfold laws_FnTwins.f
  have hb : laws_big.f x = some false := by
    unfold laws_big.f
    rw [decide_eq_false (by omega)]
  obtain ⟨l, e2, hl⟩ := drawTwinsOf_ok x hx
  have hj : Ev (fun k => laws_FnTwins.j0 k x false) true := tw_j0 x l hl e2 (end_ev x hx l (dropTw l))
  obtain ⟨⟨a0, a1, a2, a3, a4, a5, a6, a7, b0, b1, b2, b3, b4, b5, b6, b7⟩, e1⟩ := drawTwins_ok x hx
  have i1 := implAreTwins_eq (⟨⟨a0, a1, a2, a3, a4⟩, a5, a6, a7⟩ : IFind) (⟨⟨b0, b1, b2, b3, b4⟩, b5, b6, b7⟩ : IFind)
  have i2 := implAreTwins_eq (⟨⟨b0, b1, b2, b3, b4⟩, b5, b6, b7⟩ : IFind) (⟨⟨a0, a1, a2, a3, a4⟩, a5, a6, a7⟩ : IFind)
  have i3 := implAreTwins_eq (⟨⟨a0, a1, a2, a3, a4⟩, a5, a6, a7⟩ : IFind) (⟨⟨a0, a1, a2, a3, a4⟩, a5, a6, a7⟩ : IFind)
  rw [isTw_sym] at i2
  have hs : isTw (⟨⟨a0, a1, a2, a3, a4⟩, a5, a6, a7⟩ : IFind) (⟨⟨a0, a1, a2, a3, a4⟩, a5, a6, a7⟩ : IFind) = false := by
    unfold isTw; simp
  rw [hs] at i3
  refine ev_bindc hb (ev_iten (by simp) (ev_bind e1 (ev_bindc i1 (ev_bindc i2 ?_))))
  refine ev_iten (by simp) (ev_bindc i3 hj)
end Go.Proofs.Ytglpmjcknhcjcaa.PFnTwins
namespace Go.Proofs.Ytglpmjcknhcjcaa.Pure
open Go.RowKit Go.Proofs.Ytglpmjcknhcjcaa.PFnTwins Go.Proofs.YtglpmjcknhcjcaaW.PrintWords Go.Proofs.YtglpmjcknhcjcaaW.PrintLast Go.Proofs.Ytglpmjcknhcjcaa.EvLib
theorem FnTwins : laws_FnTwins.Pure := by
  intro s _
  refine Ev.rounds ?_
  by_cases c : s.length ≤ 1048576
  · exact twinsS_ok s c
  · unfold laws_FnTwins.f laws_big.f
    rw [decide_eq_true (show (s.length : Int) > 1048576 by omega)]
    exact ev_bindc rfl (ev_itep (show true = true from rfl) (ev_some rfl))
end Go.Proofs.Ytglpmjcknhcjcaa.Pure
