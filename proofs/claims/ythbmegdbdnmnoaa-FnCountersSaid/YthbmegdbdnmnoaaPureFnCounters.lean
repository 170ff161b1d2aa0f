/- The pure statement of FnCounters. -/
import Derived.Test.YthbmegdbdnmnoaaCntDFnCounters
import Derived.Test.YthbmegdbdnmnoaaDrawTkFnCounters
import Derived.Test.YthbmegdbdnmnoaaContainsFnCounters
import Derived.Test.YthbmegdbdnmnoaaNextTkFnCounters
namespace Go.Proofs.Ythbmegdbdnmnoaa.PFnCounters
open Go.RowKit Go.Proofs.YthbmegdbdnmnoaaW.PrintWords Go.Proofs.YthbmegdbdnmnoaaW.PrintLast Go.Proofs.Ythbmegdbdnmnoaa.EvLib
theorem cnt_end (s : List Int) (hs : s.length ≤ 1048576) (a : List ITicket) (now id i : Int) : Ev (fun k => laws_FnCounters.j4 k s a now id i false) true := by
  obtain ⟨l, t, hd, hl⟩ := drawBeforeIn_ok s hs
  have hb := bef_in l t
  refine ev_step (fun k => by simp only [laws_FnCounters.j4]; rfl) (ev_iten (by simp) (ev_bind hd (ev_bindc (implBeforeIn_eq l t) (ev_itep (by show befF l t ≥ -1; omega) (ev_some ?_)))))
  show decide (befF l t < wrap64 ((l.length : Int) + 1)) = true
  rw [wrap_id (by omega) (by omega)]
  exact decide_eq_true (by omega)
theorem cnt_l2 (s : List Int) (a : List ITicket) (hl : a.length ≤ 1048576) (now : Int) (ha : areTk a = true) (hn : nx a now ≥ 0) (i : Nat) (hi : i < a.length) (w : Bool) (hw : w = isAp a now i) (r : Bool)
    (hr : Ev (fun k => laws_FnCounters.l1 k s a now (tk a (nx a now).toNat).f0 (wrap64 ((i : Int) + 1))) r) : ∀ (d q : Nat), q + d = a.length → Ev (fun k => laws_FnCounters.l2 k s a now (tk a (nx a now).toNat).f0 (i : Int) w (q : Int)) r := by
  have hx := nx_in a now
  obtain ⟨b1, b2⟩ := nx_best hn
  intro d
  induction d with
  | zero =>
    intro q hq
    exact ev_step (fun k => by simp only [laws_FnCounters.l2]; rfl) (ev_iten (by omega) hr)
  | succ d ih =>
    intro q hq
    refine ev_step (fun k => by simp only [laws_FnCounters.l2]; rfl) (ev_itep (by omega) (ev_itep (by omega) ?_))
    simp only [rd_tk, wrap_id (x := (q : Int) + 1) (by omega) (by omega)]
    have hnext := ih (q + 1) (by omega)
    refine ev_ite (fun c => ?_) (fun c => hnext)
    have e : q = (nx a now).toNat := by
      apply Classical.byContradiction
      intro z
      exact are_ne ha q _ (by omega) (by omega) z c
    have tail : Ev (fun k => if (tk a q).f2 = -1 then (if (tk a q).f1 > now then some false else laws_FnCounters.l2 k s a now (tk a (nx a now).toNat).f0 (i : Int) w ((q + 1 : Nat) : Int)) else laws_FnCounters.l2 k s a now (tk a (nx a now).toNat).f0 (i : Int) w ((q + 1 : Nat) : Int)) r := by
      refine ev_ite (fun c2 => ?_) (fun _ => hnext)
      have hle : ¬ (tk a q).f1 > now := by rw [e] at c2 ⊢; have := b2 c2; omega
      exact ev_iten hle hnext
    refine ev_ite (fun c1 => ?_) (fun _ => tail)
    rw [hw] at c1
    have h1 := b1 i hi c1
    rw [← e] at h1
    refine ev_iten (by omega) (ev_itep (by omega) (ev_itep (by omega) (ev_iten (by omega) tail)))
theorem cnt_l1 (s : List Int) (hs : s.length ≤ 1048576) (a : List ITicket) (hl : a.length ≤ 1048576) (now : Int) (ha : areTk a = true) (hn : nx a now ≥ 0) : ∀ (d i : Nat), i + d = a.length →
    Ev (fun k => laws_FnCounters.l1 k s a now (tk a (nx a now).toNat).f0 (i : Int)) true := by
  have hx := nx_in a now
  have h0 := are_id ha (nx a now).toNat (by omega)
  intro d
  induction d with
  | zero =>
    intro i hi
    exact ev_step (fun k => by simp only [laws_FnCounters.l1]; rfl) (ev_iten (by omega) (cnt_end s hs a now _ _))
  | succ d ih =>
    intro i hi
    have hne : ((tk a (nx a now).toNat).f0 != 0) = true := by simp; omega
    have hr : Ev (fun k => laws_FnCounters.l1 k s a now (tk a (nx a now).toNat).f0 (wrap64 ((i : Int) + 1))) true := by rw [wrap_id (by omega) (by omega)]; exact ih (i + 1) (by omega)
    refine ev_step (fun k => by simp only [laws_FnCounters.l1]; rfl) (ev_itep (by omega) ?_)
    rw [hne]
    refine ev_step (fun k => by simp only [laws_FnCounters.j4]; rfl) (ev_itep (c := true = true) rfl (ev_itep (by omega) (ev_itep (by omega) ?_)))
    simp only [rd_tk]
    refine ev_ite (fun c => ?_) (fun c => ?_)
    · refine ev_step (fun k => by simp only [laws_FnCounters.j5]; rfl) (cnt_l2 s a hl now ha hn i (by omega) _ ?_ true hr a.length 0 (by omega))
      unfold isAp
      rw [decide_eq_decide]
      exact ⟨fun h => ⟨c, h⟩, fun h => h.2⟩
    · refine ev_step (fun k => by simp only [laws_FnCounters.j5]; rfl) (cnt_l2 s a hl now ha hn i (by omega) _ ?_ true hr a.length 0 (by omega))
      unfold isAp
      symm
      exact decide_eq_false (fun z => c z.1)
theorem cnt_j2 (s : List Int) (hs : s.length ≤ 1048576) (a : List ITicket) (hl : a.length ≤ 1048576) (now : Int) : Ev (fun k => laws_FnCounters.j2 k s a now (callT a now).2 false) true := by
  refine ev_step (fun k => by simp only [laws_FnCounters.j2]; rfl) (ev_iten (by simp) ?_)
  by_cases c : (callT a now).2 = 0
  · rw [c]
    refine ev_step (fun k => by simp only [laws_FnCounters.l1]; rfl) (ev_ite (fun _ => ?_) (fun _ => cnt_end s hs a now _ _))
    exact cnt_end s hs a now _ _
  · obtain ⟨ha, hn, hid, _⟩ := callT_id c
    rw [hid]
    exact cnt_l1 s hs a hl now ha hn a.length 0 (by omega)
theorem callT_next (a : List ITicket) (now : Int) : (callT a now).2 = nextId a now := by
  unfold callT nextId
  split <;> rfl
theorem cnt_l0 (s : List Int) (hs : s.length ≤ 1048576) (c : List Int) (hc : c.length ≤ 1048576) (ho : c.Nodup) : ∀ (d i : Nat), i + d = c.length → Ev (fun k => laws_FnCounters.l0 k s c (c.take i) (i : Int)) true := by
  intro d
  induction d with
  | zero =>
    intro i hi
    obtain ⟨a, now, hd, hl⟩ := drawCallTicket_ok s hs
    have hl' : a.length ≤ 1048576 := by omega
    have hj := cnt_j2 s hs a hl' now
    refine ev_step (fun k => by simp only [laws_FnCounters.l0]; rfl) (ev_iten (by omega) (ev_bind hd (ev_bind (implCallTicket_ev a hl' now) (ev_bind (implNextTicket_ev a hl' now) (ev_itep (callT_next a now) ?_)))))
    refine ev_ite (fun c0 => ev_itep ?_ hj) (fun c0 => ?_)
    · rw [callT_no c0]
    · have := callT_cons c0
      have e : (((callT a now).1.length : Int) != wrap64 ((a.length : Int) - 1)) = false := by rw [wrap_id (by omega) (by omega)]; simp; omega
      show Ev (fun k => laws_FnCounters.j2 k s a now (callT a now).2 (((callT a now).1.length : Int) != wrap64 ((a.length : Int) - 1))) true
      rw [e]
      exact hj
  | succ d ih =>
    intro i hi
    have r : rd c (i : Int) = c[i] := by unfold rd; simp [List.getD, show i < c.length by omega]
    have hn : c[i] ∉ c.take i := by
      intro hm
      obtain ⟨q, hq, e⟩ := List.mem_iff_getElem.1 hm
      rw [List.length_take] at hq
      rw [List.getElem_take] at e
      have := (List.pairwise_iff_getElem.1 ho) q i (by omega) (by omega) (by omega)
      exact this e
    refine ev_step (fun k => by simp only [laws_FnCounters.l0]; rfl) (ev_itep (by omega) (ev_itep (by omega) (ev_bind (contains_ev (c.take i) (by rw [List.length_take]; omega) _) ?_)))
    rw [r, wrap_id (x := (i : Int) + 1) (by omega) (by omega)]
    refine ev_iten (by simp [hn]) (ev_itep (by rw [List.length_take]; omega) ?_)
    rw [← List.take_succ_eq_append_getElem (by omega)]
    exact ih (i + 1) (by omega)
end Go.Proofs.Ythbmegdbdnmnoaa.PFnCounters
namespace Go.Proofs.Ythbmegdbdnmnoaa.Pure
open Go.RowKit Go.Proofs.Ythbmegdbdnmnoaa.PFnCounters Go.Proofs.YthbmegdbdnmnoaaW.PrintWords Go.Proofs.YthbmegdbdnmnoaaW.PrintLast Go.Proofs.Ythbmegdbdnmnoaa.EvLib
theorem FnCounters : laws_FnCounters.Pure := by
  intro s hw
  refine Ev.rounds ?_
  unfold laws_FnCounters.f
  refine ev_bindc (show laws_big.f s = some (decide ((s.length : Int) > 1048576)) from rfl) (ev_ite (fun _ => ev_some rfl) (fun h => ?_))
  have hs : s.length ≤ 1048576 := by simp at h; omega
  obtain ⟨l, a, b, hd, hl⟩ := drawCallAll_ok s hs
  have hlen := callAll_len l a b
  have hc : (callAll l a b).length ≤ 1048576 := by omega
  have main : Ev (fun k => laws_FnCounters.j0 k s (callAll l a b) false) true := ev_step (fun k => by simp only [laws_FnCounters.j0]; rfl) (ev_iten (by simp) (cnt_l0 s hs _ hc (callAll_once l a b) (callAll l a b).length 0 (by omega)))
  refine ev_bind hd (ev_bind (implCallAll_ev l (by omega) a b) (ev_ite (fun c => ?_) (fun c => main)))
  have e : (((callAll l a b).length : Int) != (l.length : Int)) = false := by simp; omega
  show Ev (fun k => laws_FnCounters.j0 k s (callAll l a b) (((callAll l a b).length : Int) != (l.length : Int))) true
  rw [e]
  exact main
end Go.Proofs.Ythbmegdbdnmnoaa.Pure
