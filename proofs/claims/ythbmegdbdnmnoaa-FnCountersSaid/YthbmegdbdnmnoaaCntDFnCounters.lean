/- Who is called: the law's facts. -/
import Derived.Test.YthbmegdbdnmnoaaCallAIFnCounters
import Derived.Test.YthbmegdbdnmnoaaBefIFnCounters
namespace Go.Proofs.Ythbmegdbdnmnoaa.PFnCounters
open Go.RowKit Go.Proofs.YthbmegdbdnmnoaaW.PrintWords Go.Proofs.YthbmegdbdnmnoaaW.PrintLast Go.Proofs.Ythbmegdbdnmnoaa.EvLib
theorem am_min {p : Nat → Bool} {v : Nat → Int} : ∀ (d i : Nat) (s : Int), -1 ≤ s → s < i → (0 ≤ s → p s.toNat = true) →
    (0 ≤ am p v d i s → p (am p v d i s).toNat = true) ∧ (0 ≤ s → 0 ≤ am p v d i s ∧ v (am p v d i s).toNat ≤ v s.toNat) ∧ (∀ q, i ≤ q → q < i + d → p q = true → 0 ≤ am p v d i s ∧ v (am p v d i s).toNat ≤ v q) := by
  intro d
  induction d with
  | zero => intro i s h0 h1 h2; exact ⟨h2, fun h => ⟨h, Int.le_refl _⟩, fun q h3 h4 => by omega⟩
  | succ d ih =>
    intro i s h0 h1 h2
    by_cases c : p i = true ∧ (s < 0 ∨ v i < v s.toNat)
    · rw [am_yes c]
      obtain ⟨g1, g2, g3⟩ := ih (i + 1) (i : Int) (by omega) (by omega) (fun _ => by rw [Int.toNat_natCast]; exact c.1)
      have g2 := g2 (by omega)
      rw [Int.toNat_natCast] at g2
      refine ⟨g1, fun hs => ⟨g2.1, ?_⟩, fun q h3 h4 h5 => ?_⟩
      · rcases c.2 with e | e <;> omega
      · by_cases e : q = i
        · rw [e]; exact g2
        · exact g3 q (by omega) (by omega) h5
    · rw [am_no c]
      obtain ⟨g1, g2, g3⟩ := ih (i + 1) s h0 (by omega) h2
      refine ⟨g1, g2, fun q h3 h4 h5 => ?_⟩
      by_cases e : q = i
      · subst e
        have hs : 0 ≤ s := by
          apply Classical.byContradiction
          intro z
          exact c ⟨h5, .inl (by omega)⟩
        have hv : ¬ v q < v s.toNat := fun z => c ⟨h5, .inr z⟩
        have := g2 hs
        exact ⟨this.1, by omega⟩
      · exact g3 q (by omega) (by omega) h5
theorem callT_id {l : List ITicket} {now : Int} (h : (callT l now).2 ≠ 0) : areTk l = true ∧ nx l now ≥ 0 ∧ (callT l now).2 = (tk l (nx l now).toNat).f0 ∧ (callT l now).1 = l.filter (fun x => decide (x.f0 ≠ (callT l now).2)) := by
  have hx := nx_in l now
  by_cases c : areTk l = true ∧ nx l now ≥ 0
  · have e : callT l now = (l.eraseIdx (nx l now).toNat, (tk l (nx l now).toNat).f0) := by unfold callT; rw [if_pos c]
    rw [e]
    refine ⟨c.1, c.2, rfl, ?_⟩
    have hj : (nx l now).toNat < l.length := by omega
    symm
    refine filter_erase _ l _ hj ?_ (fun q hq hne => ?_)
    · rw [← tk_get l _ hj]
      simp
    · rw [← tk_get l q hq]
      have := are_ne c.1 q _ hq hj hne
      simp [this]
  · unfold callT at h
    rw [if_neg c] at h
    exact absurd rfl h
theorem callT_no {l : List ITicket} {now : Int} (h : (callT l now).2 = 0) : (callT l now).1 = l := by
  have hx := nx_in l now
  unfold callT at h ⊢
  split
  · rename_i c
    rw [if_pos c] at h
    have := are_id c.1 (nx l now).toNat (by omega)
    have h' : (tk l (nx l now).toNat).f0 = 0 := h
    omega
  · rfl
theorem tk_mem {l : List ITicket} {i : Nat} (h : i < l.length) : tk l i ∈ l := by rw [tk_get l i h]; exact List.getElem_mem h
theorem allT_once (each : Int) : ∀ (d : Nat) (out : List Int) (rest : List ITicket) (now : Int), out.Nodup → (∀ x ∈ rest, x.f0 ∉ out) → (allT each d out rest now).Nodup := by
  intro d
  induction d with
  | zero =>
    intro out rest now h1 h2
    rw [allT]
    split
    · exact h1
    · exact List.nodup_nil
  | succ d ih =>
    intro out rest now h1 h2
    rw [allT]
    split
    · exact h1
    · split
      · exact List.nodup_nil
      · split
        · rename_i c
          rw [callT_no c]
          exact ih _ _ _ h1 h2
        · rename_i c
          obtain ⟨ha, hn, hid, hrest⟩ := callT_id c
          have hx := nx_in rest now
          have hm := h2 _ (tk_mem (l := rest) (i := (nx rest now).toNat) (by omega))
          rw [← hid] at hm
          refine ih _ _ _ ?_ (fun x hxm => ?_)
          · rw [List.nodup_append]
            exact ⟨h1, by simp, fun a ha b hb e => by rw [List.mem_singleton] at hb; rw [e, hb] at ha; exact hm ha⟩
          · rw [hrest, List.mem_filter] at hxm
            rw [List.mem_append, not_or]
            exact ⟨h2 x hxm.1, by have := hxm.2; simpa using this⟩
theorem callAll_once (l : List ITicket) (fr each : Int) : (callAll l fr each).Nodup := by
  unfold callAll
  split
  · exact allT_once each _ _ _ _ List.nodup_nil (fun x _ => by simp)
  · exact List.nodup_nil
theorem nx_best {l : List ITicket} {now : Int} (hn : nx l now ≥ 0) : (∀ i, i < l.length → isAp l now i = true → 0 ≤ (tk l (nx l now).toNat).f2 ∧ (tk l (nx l now).toNat).f2 ≤ (tk l i).f2) ∧ ((tk l (nx l now).toNat).f2 = -1 → (tk l (nx l now).toNat).f1 ≤ now) := by
  obtain ⟨a1, _, a3⟩ := am_min (p := isAp l now) (v := hr l) l.length 0 (-1) (by omega) (by omega) (fun h => by omega)
  obtain ⟨b1, _, _⟩ := am_min (p := isDr l now) (v := tm l) l.length 0 (-1) (by omega) (by omega) (fun h => by omega)
  unfold nx at hn ⊢
  by_cases c : am (isAp l now) (hr l) l.length 0 (-1) ≥ 0
  · rw [if_pos c] at hn ⊢
    have hp := of_decide_eq_true (a1 c)
    exact ⟨fun i hi h => ⟨hp.1, (a3 i (by omega) (by omega) h).2⟩, fun e => by omega⟩
  · rw [if_neg c] at hn ⊢
    have hp := of_decide_eq_true (b1 hn)
    exact ⟨fun i hi h => absurd (a3 i (by omega) (by omega) h).1 c, fun _ => hp.2⟩
theorem bef_in (l : List ITicket) (id : Int) : -1 ≤ befF l id ∧ befF l id ≤ l.length := by
  unfold befF befOf
  split
  · omega
  · split
    · have := List.countP_le_length (p := impl_BeforeIn.p (rd_T42 l (idxB (fun x : ITicket => x.f0 == id) l 0)) id) (l := l)
      omega
    · omega
end Go.Proofs.Ythbmegdbdnmnoaa.PFnCounters
