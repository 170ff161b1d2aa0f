/- The draws: a number below another; they always answer. -/
import Derived.Test.YtgejkcomoealgaaStmFnBooks
import Derived.Test.YtgejkcomoealgaaEvLib
namespace Go.Proofs.Ytgejkcomoealgaa.PFnBooks
open Go.RowKit Go.Proofs.YtgejkcomoealgaaW.PrintWords Go.Proofs.YtgejkcomoealgaaW.PrintLast Go.Proofs.Ytgejkcomoealgaa.EvLib
theorem and255 (x : Int) : 0 ≤ Go.bits .and .i64 x 255 ∧ Go.bits .and .i64 x 255 ≤ 255 := by
  unfold Go.bits
  simp only [BitVec.toNat_and]
  have h : (BitVec.ofInt IntKind.i64.bits x).toNat &&& (BitVec.ofInt IntKind.i64.bits 255).toNat ≤ 255 := Nat.le_trans Nat.and_le_right (by decide)
  rw [IntKind.wrap_i64]
  omega
theorem byte_ok (s : List Int) (hs : s.length ≤ 1048576) (p h : Int) (hp : 0 ≤ p) : ∃ x p' h', spec_l1Byte.f s p h = some (x, p', h') ∧ 0 ≤ x ∧ x ≤ 255 ∧ 0 ≤ p' := by
  unfold spec_l1Byte.f
  by_cases c : p < (s.length : Int)
  · rw [if_pos c, if_pos hp]
    exact ⟨_, _, _, rfl, (and255 _).1, (and255 _).2, by rw [wrap_id (by omega) (by omega)]; omega⟩
  · rw [if_neg c]
    exact ⟨_, _, _, rfl, (and255 _).1, (and255 _).2, hp⟩
theorem tmod_in {x n : Int} (hx : 0 ≤ x) (hn : 0 < n) : 0 ≤ Int.tmod x n ∧ Int.tmod x n < n := by
  rw [Int.tmod_eq_emod_of_nonneg hx]
  exact ⟨Int.emod_nonneg _ (by omega), Int.emod_lt_of_pos _ hn⟩
theorem below_ok (s : List Int) (hs : s.length ≤ 1048576) (p h : Int) (hp : 0 ≤ p) (n : Int) : ∃ x p' h', spec_l1Below.f s p h n = some (x, p', h') ∧ 0 ≤ p' ∧ 0 ≤ x ∧ (0 < n → x < n) := by
  unfold spec_l1Below.f
  by_cases h1 : n ≤ 0
  · rw [if_pos h1]
    exact ⟨0, p, h, rfl, hp, by omega, fun c => by omega⟩
  · rw [if_neg h1]
    obtain ⟨x, p1, h1', e1, x0, x1, hp1⟩ := byte_ok s hs p h hp
    by_cases h2 : n ≤ 256
    · rw [if_pos h2, e1, Option.bind_some]
      simp only
      rw [if_neg (by omega)]
      exact ⟨_, _, _, rfl, hp1, (tmod_in x0 (by omega)).1, fun _ => (tmod_in x0 (by omega)).2⟩
    · obtain ⟨y, p2, h2', e2, y0, y1, hp2⟩ := byte_ok s hs p1 h1' hp1
      obtain ⟨z, p3, h3', e3, z0, z1, hp3⟩ := byte_ok s hs p2 h2' hp2
      rw [if_neg h2, e1, Option.bind_some]
      simp only
      rw [e2, Option.bind_some]
      simp only
      rw [e3, Option.bind_some]
      simp only
      rw [if_neg (by omega), wrap_id (x := x * 65536) (by omega) (by omega), wrap_id (x := y * 256) (by omega) (by omega), wrap_id (x := x * 65536 + y * 256) (by omega) (by omega), wrap_id (by omega) (by omega)]
      exact ⟨_, _, _, rfl, hp3, (tmod_in (by omega) (by omega)).1, fun _ => (tmod_in (by omega) (by omega)).2⟩
theorem int_ok (s : List Int) (hs : s.length ≤ 1048576) (p h : Int) (hp : 0 ≤ p) (l : List Int) (hl : 0 < l.length) : ∃ x p' h', spec_l1Int.f s p h l = some (x, p', h') ∧ 0 ≤ p' ∧ x ∈ l := by
  unfold spec_l1Int.f
  obtain ⟨x, p', h', e, h1, h2, h3⟩ := below_ok s hs p h hp l.length
  rw [e, Option.bind_some]
  simp only
  have h4 := h3 (by omega)
  rw [if_pos h2, if_pos h4]
  refine ⟨_, _, _, rfl, h1, ?_⟩
  have h5 : x.toNat < l.length := by omega
  simp only [rd, List.getD, List.getElem?_eq_getElem h5, Option.getD_some]
  exact List.getElem_mem h5
theorem new_ok (s : List Int) (_hs : s.length ≤ 1048576) : ∃ h, Ev (fun k => spec_l1New.f k s) (s, 0, h) := by
  unfold spec_l1New.f
  have key : ∀ (d i : Nat) (h : Int), i + d = s.length → ∃ r, Ev (fun k => spec_l1New.l0 k s h (i : Int)) (s, 0, r) := by
    intro d
    induction d with
    | zero => exact fun i h hi => ⟨h, ev_step (fun k => by simp only [spec_l1New.l0]; rfl) (ev_iten (by omega) (ev_some rfl))⟩
    | succ d ih =>
      intro i h hi
      by_cases c : (i : Int) < 4000
      · obtain ⟨r, hr⟩ := ih (i + 1) (Go.bits .and .i64 (wrap64 ((wrap64 ((wrap64 (h * 137)) + (wrap64 (rd s (i : Int))))) + 11)) 1073741823) (by omega)
        refine ⟨r, ev_step (fun k => by simp only [spec_l1New.l0]; rfl) (ev_itep (by omega) (ev_itep c (ev_itep (by omega) ?_)))⟩
        rw [wrap_id (x := (i : Int) + 1) (by omega) (by omega)]
        exact hr
      · exact ⟨h, ev_step (fun k => by simp only [spec_l1New.l0]; rfl) (ev_itep (by omega) (ev_iten c (ev_some rfl)))⟩
  exact key s.length 0 _ (by omega)
end Go.Proofs.Ytgejkcomoealgaa.PFnBooks
