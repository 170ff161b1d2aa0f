/- Two lists of Secret: their size. -/
import Derived.Test.YtfghapankndioaaCvSecretFnExactEqualSecrets
namespace Go.Proofs.Ytfghapankndioaa.PFnExactEqualSecrets
open Go.RowKit Go.Proofs.YtfghapankndioaaW.PrintWords Go.Proofs.YtfghapankndioaaW.PrintLast Go.Proofs.Ytfghapankndioaa.EvLib
theorem szSecretA_l0 (l : List LSecret) (hl : l.length ≤ 1048576) (hw : ∀ x ∈ l, x.f1.length ≤ maxLen) : ∀ (d i : Nat) (s : Int), i + d = l.length → 0 ≤ s → s ≤ 1048576 →
    ∃ r, Ev (fun k => laws_szSecretS.l0 k l s (i : Int)) r ∧ (0 ≤ r → ∀ x ∈ l.drop i, x.f1.length ≤ 1048576) ∧ r ≤ s := by
  intro d
  induction d with
  | zero =>
    intro i s hi _ _
    refine ⟨s, ?_, fun _ x hx => ?_, Int.le_refl _⟩
    · refine ev_step (fun k => by simp only [laws_szSecretS.l0]; rfl) ?_
      exact ev_iten (by omega) (ev_some rfl)
    rw [List.drop_of_length_le (by omega)] at hx
    cases hx
  | succ d ih =>
    intro i s hi h0 h1
    have hr : rd_T31 l (i : Int) = l[i]'(by omega) := by
      unfold rd_T31
      rw [Int.toNat_natCast]
      simp [List.getD, show i < l.length by omega]
    have hb := szSecret_eq (l[i]'(by omega)).f0 (l[i]'(by omega)).f2 (l[i]'(by omega)).f1 (hw _ (List.getElem_mem _)) s h0 h1
    by_cases c : (((l[i]'(by omega)).f1.length : Nat) : Int) ≤ s
    · rw [if_pos c] at hb
      obtain ⟨r, h2, h3, h4⟩ := ih (i + 1) (s - ((l[i]'(by omega)).f1.length : Nat)) (by omega) (by omega) (by omega)
      refine ⟨r, ?_, fun hr0 x hx => ?_, by omega⟩
      · refine ev_step (fun k => by simp only [laws_szSecretS.l0]; rfl) ?_
        refine ev_itep (by omega) (ev_itep (by omega) ?_)
        rw [hr]
        refine ev_bindc hb ?_
        refine ev_iten (by omega) ?_
        rw [wrap_id (by omega) (by omega)]
        exact h2
      · rw [List.drop_eq_getElem_cons (by omega)] at hx
        rcases List.mem_cons.1 hx with e | e
        · rw [e]; omega
        · exact h3 hr0 x e
    · rw [if_neg c] at hb
      refine ⟨-1, ?_, fun h => by omega, by omega⟩
      refine ev_step (fun k => by simp only [laws_szSecretS.l0]; rfl) ?_
      refine ev_itep (by omega) (ev_itep (by omega) ?_)
      rw [hr]
      refine ev_bindc hb ?_
      exact ev_itep (by omega) (ev_some rfl)
theorem szSecretA_ev (l : List LSecret) (h : l.length ≤ maxLen) (hw : ∀ x ∈ l, x.f1.length ≤ maxLen) (s : Int) (s0 : 0 ≤ s) (s1 : s ≤ 1048576) : ∃ r, Ev (fun k => laws_szSecretS.f k l s) r ∧ (0 ≤ r → l.length ≤ 1048576 ∧ ∀ x ∈ l, x.f1.length ≤ 1048576) ∧ r ≤ 1048576 := by
  have := maxLen_le h
  unfold laws_szSecretS.f
  rw [wrap_id (by omega) (by omega)]
  by_cases c : (l.length : Int) ≤ s
  · obtain ⟨r, h1, h2, h3⟩ := szSecretA_l0 l (by omega) hw l.length 0 (s - (l.length : Int)) (by omega) (by omega) (by omega)
    refine ⟨r, ?_, fun hr => ⟨by omega, h2 hr⟩, by omega⟩
    exact ev_iten (by omega) h1
  · refine ⟨-1, ?_, fun h => by omega, by omega⟩
    exact ev_itep (by omega) (ev_some rfl)
end Go.Proofs.Ytfghapankndioaa.PFnExactEqualSecrets
