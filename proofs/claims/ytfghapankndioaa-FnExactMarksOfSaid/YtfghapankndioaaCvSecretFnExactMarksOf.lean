/- Lists of Secret: sizes, copies, comparison. -/
import Derived.Test.YtfghapankndioaaCvMarkFnExactMarksOf
import Derived.Test.YtfghapankndioaaEvMoreFnExactMarksOf
namespace Go.Proofs.Ytfghapankndioaa.PFnExactMarksOf
open Go.RowKit Go.Proofs.YtfghapankndioaaW.PrintWords Go.Proofs.YtfghapankndioaaW.PrintLast Go.Proofs.Ytfghapankndioaa.EvLib
abbrev LSecret := S31
abbrev ISecret := S36
def cvSecret (x : LSecret) : ISecret := ⟨x.f0, x.f1.map cvMark, x.f2⟩
theorem szSecret_eq (a b : Int) (l : List LMark) (h : l.length ≤ maxLen) (s : Int) (h0 : 0 ≤ s) (h1 : s ≤ 1048576) : laws_szSecret.f a l b s = some (if (l.length : Int) ≤ s then s - l.length else -1) := by
  unfold laws_szSecret.f
  rw [szMarkS_eq l h s h0 h1, Option.bind_some]
  by_cases c : (l.length : Int) ≤ s
  · rw [if_pos c, if_neg (by omega)]
  · rw [if_neg c, if_pos (by omega)]
theorem szSecretS_l0 (l : List LSecret) (hl : l.length ≤ 1048576) (hw : ∀ x ∈ l, x.f1.length ≤ maxLen) : ∀ (d i : Nat) (s : Int), i + d = l.length → 0 ≤ s → s ≤ 1048576 →
    ∃ r, Ev (fun k => laws_szSecretS.l0 k l s (i : Int)) r ∧ (0 ≤ r → ∀ x ∈ l.drop i, x.f1.length ≤ 1048576) := by
  intro d
  induction d with
  | zero =>
    intro i s hi _ _
    refine ⟨s, ?_, fun _ x hx => ?_⟩
    · refine ev_step (fun k => by simp only [laws_szSecretS.l0]; rfl) ?_
      exact ev_iten (by omega) (ev_some rfl)
    rw [List.drop_of_length_le (by omega)] at hx
    cases hx
  | succ d ih =>
    intro i s hi h0 h1
    have hr : rd_T31 l (i : Int) = l[i]'(by omega) := by
      unfold rd_T31
      rw [Int.toNat_natCast]
      simp [List.getD, show i < l.length by omega]
    have hb := szSecret_eq (l[i]'(by omega)).f0 (l[i]'(by omega)).f2 (l[i]'(by omega)).f1 (hw _ (List.getElem_mem _)) s h0 h1
    by_cases c : (((l[i]'(by omega)).f1.length : Nat) : Int) ≤ s
    · rw [if_pos c] at hb
      obtain ⟨r, h2, h3⟩ := ih (i + 1) (s - ((l[i]'(by omega)).f1.length : Nat)) (by omega) (by omega) (by omega)
      refine ⟨r, ?_, fun hr0 x hx => ?_⟩
      · refine ev_step (fun k => by simp only [laws_szSecretS.l0]; rfl) ?_
        refine ev_itep (by omega) (ev_itep (by omega) ?_)
        rw [hr]
        refine ev_bindc hb ?_
        refine ev_iten (by omega) ?_
        rw [wrap_id (by omega) (by omega)]
        exact h2
      · rw [List.drop_eq_getElem_cons (by omega)] at hx
        rcases List.mem_cons.1 hx with e | e
        · rw [e]; omega
        · exact h3 hr0 x e
    · rw [if_neg c] at hb
      refine ⟨-1, ?_, fun h => by omega⟩
      refine ev_step (fun k => by simp only [laws_szSecretS.l0]; rfl) ?_
      refine ev_itep (by omega) (ev_itep (by omega) ?_)
      rw [hr]
      refine ev_bindc hb ?_
      exact ev_itep (by omega) (ev_some rfl)
theorem szSecretS_ev (l : List LSecret) (h : l.length ≤ maxLen) (hw : ∀ x ∈ l, x.f1.length ≤ maxLen) : ∃ r, Ev (fun k => laws_szSecretS.f k l 1048576) r ∧ (0 ≤ r → l.length ≤ 1048576 ∧ ∀ x ∈ l, x.f1.length ≤ 1048576) := by
  have := maxLen_le h
  unfold laws_szSecretS.f
  rw [wrap_id (by omega) (by omega)]
  by_cases c : l.length ≤ 1048576
  · obtain ⟨r, h1, h2⟩ := szSecretS_l0 l c hw l.length 0 (1048576 - (l.length : Int)) (by omega) (by omega) (by omega)
    refine ⟨r, ?_, fun hr => ⟨c, h2 hr⟩⟩
    exact ev_iten (by omega) h1
  · refine ⟨-1, ?_, fun h => by omega⟩
    exact ev_itep (by omega) (ev_some rfl)
theorem toSecret_ev (a b : Int) (l : List LMark) (hl : l.length ≤ 1048576) : Ev (fun k => laws_toSecret.f k a l b) (a, l.map cvMark, b) := by
  unfold laws_toSecret.f
  exact ev_bind (toMarkS_ev l hl) (ev_some rfl)
theorem toSecretS_ev (l : List LSecret) (hl : l.length ≤ 1048576) (hm : ∀ x ∈ l, x.f1.length ≤ 1048576) : Ev (fun k => laws_toSecretS.f k l) (l.map cvSecret) := by
  unfold laws_toSecretS.f
  exact ev_itep (by omega) (ev_itep (by omega) (ev_copyE laws_toSecretS.l0 (fun k x => laws_toSecret.f k x.f0 x.f1 x.f2) (fun b => (⟨b.1, b.2.1, b.2.2⟩ : ISecret)) (fun x => (x.f0, x.f1.map cvMark, x.f2)) z31 z36 (fun _ _ _ _ => rfl) l hl (fun x hx => toSecret_ev _ _ _ (hm x hx))))
theorem eqSecret_self (a : Int) (l : List IMark) (b : Int) (hl : l.length ≤ 1048576) : Ev (fun k => laws_eqSecret.f k a l b a l b) true := by
  unfold laws_eqSecret.f
  exact ev_itep rfl (ev_bind (eqMarkS_ev l hl) (ev_itep rfl (ev_itep rfl (ev_some rfl))))
theorem eqSecretS_ev (l : List ISecret) (hl : l.length ≤ 1048576) (hm : ∀ x ∈ l, x.f1.length ≤ 1048576) : Ev (fun k => laws_eqSecretS.f k l l) true := by
  unfold laws_eqSecretS.f
  refine ev_itep rfl (ev_eqloopE laws_eqSecretS.l0 l (by omega) (fun i hi hr => ?_) (fun k => ?_))
  · refine ev_step (fun k => by simp only [laws_eqSecretS.l0]; rfl) (ev_itep (by omega) (ev_itep (by omega) (ev_itep (by omega) (ev_bind (eqSecret_self _ _ _ ?_) (ev_itep rfl hr)))))
    unfold rd_T36
    exact hm _ (getD_mem _ _ _ (by omega))
  · simp only [laws_eqSecretS.l0]
    rw [if_neg (by omega)]
theorem cvSecret_marks {l : List LSecret} (hm : ∀ x ∈ l, x.f1.length ≤ 1048576) : ∀ x ∈ l.map cvSecret, x.f1.length ≤ 1048576 := by
  intro x hx
  obtain ⟨y, hy, rfl⟩ := List.mem_map.1 hx
  simpa [cvSecret] using hm y hy
end Go.Proofs.Ytfghapankndioaa.PFnExactMarksOf
