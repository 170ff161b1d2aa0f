/- ParseReport of the program and of the reference. -/
import Derived.Test.YtihnanfekchlhaaDoorPrsLFnExactParseReport
import Derived.Test.YtihnanfekchlhaaDoorRepTFnExactParseReport
import Derived.Lib.CutLaws
namespace Go.Proofs.YtihnanfekchlhaaDoor.PFnExactParseReport
open Go.RowKit Go.Proofs.YtihnanfekchlhaaDoorW.PrintWords Go.Proofs.YtihnanfekchlhaaDoorW.PrintLast Go.Proofs.YtihnanfekchlhaaDoor.EvLib
theorem spA_part (c : UInt8) : ∀ l : List UInt8, ∀ p ∈ (spA c l).1 :: (spA c l).2, p.length ≤ l.length
  | [], p, hp => by simp [spA] at hp; simp [hp]
  | x :: r, p, hp => by
    have ih := spA_part c r
    unfold spA at hp
    split at hp
    · rcases List.mem_cons.1 hp with e | e
      · subst e; simp
      · have := ih p e; simp; omega
    · rcases List.mem_cons.1 hp with e | e
      · subst e
        have := ih _ (List.mem_cons_self ..)
        simp; omega
      · have := ih p (List.mem_cons_of_mem _ e); simp; omega
theorem cut_spA (c : UInt8) : ∀ l : List UInt8, Lib.cut l [c] = if (spA c l).2 = [] then (l, [], false) else ((spA c l).1, Lib.join (spA c l).2 [c], true)
  | [] => by simp [Lib.cut, Lib.index, spA]
  | x :: r => by
    have ih := cut_spA c r
    have hge := Lib.index_ge r [c]
    unfold spA
    by_cases h : x = c
    · subst h
      have hix : Lib.index (x :: r) [x] = 0 := by rw [Lib.index]; simp [List.isPrefixOf]
      rw [if_pos rfl, if_neg (by simp)]
      unfold Lib.cut
      rw [hix, if_pos (by decide)]
      simp only [spA_join]
      rfl
    · rw [if_neg h]
      unfold Lib.cut at ih ⊢
      rw [index_cons_ne x c r h]
      by_cases g : Lib.index r [c] = -1
      · rw [if_pos (beq_iff_eq.2 g), if_neg (by decide)]
        rw [g, if_neg (by decide)] at ih
        split at ih
        · rename_i e; rw [if_pos e]
        · have := congrArg (fun z => z.2.2) ih; simp at this
      · rw [if_neg (fun e => g (beq_iff_eq.1 e)), if_pos (by omega)]
        rw [if_pos (by omega)] at ih
        split at ih
        · have := congrArg (fun z => z.2.2) ih; simp at this
        · rename_i e
          rw [if_neg e]
          have i1 := congrArg (fun z => z.1) ih
          have i2 := congrArg (fun z => z.2.1) ih
          simp only at i1 i2
          have e1 : (Lib.index r [c] + 1).toNat = (Lib.index r [c]).toNat + 1 := by omega
          have e2 : (Lib.index r [c] + 1).toNat + [c].length = ((Lib.index r [c]).toNat + [c].length) + 1 := by omega
          rw [e2, e1, List.take_succ_cons, List.drop_succ_cons, i1, i2]
theorem pI_dash (l : List UInt8) (h : (45 : UInt8) ∈ l) : (pI l).2 = false := by
  unfold pI
  rw [if_neg]
  intro g
  have := List.all_eq_true.1 g.2.1 45 h
  exact absurd this (by decide)
theorem pI_nil : pI [] = (0, false) := rfl
/-- What a pair's text says: both numbers and whether they are there. -/
theorem pair2_ok (p : List UInt8) (hp : p.length ≤ 1048576) : ∃ x y : Int × Int × Bool, Ev (fun k => impl_parsePair.f k (bs p)) x ∧ Ev (fun k => spec_l27Two.f k (bs p)) y ∧ (x = y ∨ x.2.2 = false ∧ y.2.2 = false) ∧ (x.2.2 = true → I64 x.1 ∧ I64 x.2.1) := by
  have hs := bs_size p
  have hsplit := specSplit_ev (bs p) 45 45 rfl (by omega)
  rw [bs_data] at hsplit
  have hcut : strings_Cut.f (bs p) (⟨#[45]⟩ : ByteArray) = some (bs (Lib.cut p [45]).1, bs (Lib.cut p [45]).2.1, (Lib.cut p [45]).2.2) := by
    unfold strings_Cut.f
    rw [if_pos (by omega)]
    rfl
  have ha := implPI_ev (bs (Lib.cut p [45]).1) _ (bs_data _)
  have hb := implPI_ev (bs (Lib.cut p [45]).2.1) _ (bs_data _)
  have himpl : Ev (fun k => impl_parsePair.f k (bs p)) (if (pI (Lib.cut p [45]).1).2 = true then ((pI (Lib.cut p [45]).1).1, (pI (Lib.cut p [45]).2.1).1, (pI (Lib.cut p [45]).2.1).2) else ((pI (Lib.cut p [45]).1).1, (pI (Lib.cut p [45]).2.1).1, false)) := by
    unfold impl_parsePair.f
    refine ev_bindc hcut (ev_bind ha (ev_bind hb (ev_ite (fun c => ev_some ?_) (fun c => ev_some ?_))))
    · rw [if_pos c]
    · rw [if_neg c]
  by_cases h1 : (spA 45 p).2.length = 1
  · obtain ⟨q, hq⟩ : ∃ q, (spA 45 p).2 = [q] := by
      match h : (spA 45 p).2, h1 with
      | [q], _ => exact ⟨q, rfl⟩
    have hc : Lib.cut p [45] = ((spA 45 p).1, q, true) := by
      rw [cut_spA, hq, if_neg (by simp), Lib.join_one]
    rw [hc] at himpl
    simp only at himpl
    have sa := specPI_ev (bs (spA 45 p).1) _ (bs_data _)
    have sb := specPI_ev (bs q) _ (bs_data _)
    refine ⟨_, _, himpl, ?_, Or.inl rfl, ?_⟩
    · unfold spec_l27Two.f
      refine ev_bind hsplit ?_
      rw [hq]
      refine ev_itep (by simp) (ev_itep (by simp) (ev_bind sa (ev_itep (by simp) (ev_bind sb (ev_ite (fun c => ev_some ?_) (fun c => ev_some ?_))))))
      · rw [if_pos c]
      · rw [if_neg c]
    · intro h
      by_cases c : (pI (spA 45 p).1).2 = true
      · rw [if_pos c] at h ⊢
        have k1 := pI_itoa c
        have k2 := pI_itoa h
        exact ⟨⟨by omega, by omega⟩, ⟨by simp only; omega, by simp only; omega⟩⟩
      · rw [if_neg c] at h
        exact absurd h (by simp)
  · refine ⟨_, (0, 0, false), himpl, ?_, Or.inr ⟨?_, rfl⟩, ?_⟩
    · unfold spec_l27Two.f
      exact ev_bind hsplit (ev_iten (by simp; omega) (ev_some rfl))
    all_goals
      have hf : (pI (Lib.cut p [45]).2.1).2 = false := by
        rw [cut_spA]
        match h : (spA 45 p).2, h1 with
        | [], _ => rfl
        | q :: r :: t, _ =>
          rw [if_neg (by simp)]
          refine pI_dash _ ?_
          rw [Lib.join_cons]
          simp [Lib.joinTail]
        | [q], h1 => exact absurd rfl h1
    · split
      · exact hf
      · rfl
    · intro h
      split at h
      · rw [hf] at h; cases h
      · cases h
theorem kindOf_ok (s : ByteArray) : ∀ (d i : Nat), i + d = 9 → 1 ≤ i → ∃ q, Ev (fun k => impl_KindOf.l0 k s (i : Int)) q ∧ Ev (fun k => spec_KindOf.l0 k s (i : Int)) q := by
  intro d
  induction d with
  | zero =>
    intro i hi h1
    exact ⟨0, ev_step (fun k => by simp only [impl_KindOf.l0]; rfl) (ev_iten (by omega) (ev_some rfl)), ev_step (fun k => by simp only [spec_KindOf.l0]; rfl) (ev_iten (by omega) (ev_some rfl))⟩
  | succ d ih =>
    intro i hi h1
    obtain ⟨q, hq1, hq2⟩ := ih (i + 1) (by omega) (by omega)
    obtain ⟨t, ht1, ht2, _⟩ := kind_ok (i : Int)
    have e2 : wrap64 ((i : Int) + 1) = ((i + 1 : Nat) : Int) := by rw [wrap_id (by omega) (by omega)]; omega
    by_cases c : t.toList = s.toList
    · exact ⟨(i : Int), ev_step (fun k => by simp only [impl_KindOf.l0]; rfl) (ev_itep (by omega) (ev_bindc ht1 (ev_itep c (ev_some rfl)))), ev_step (fun k => by simp only [spec_KindOf.l0]; rfl) (ev_itep (by omega) (ev_bindc ht2 (ev_itep c (ev_some rfl))))⟩
    · refine ⟨q, ?_, ?_⟩
      · refine ev_step (fun k => by simp only [impl_KindOf.l0]; rfl) (ev_itep (by omega) (ev_bindc ht1 (ev_iten c ?_)))
        rw [e2]; exact hq1
      · refine ev_step (fun k => by simp only [spec_KindOf.l0]; rfl) (ev_itep (by omega) (ev_bindc ht2 (ev_iten c ?_)))
        rw [e2]; exact hq2
theorem six {α : Type} (l : List α) (h : l.length = 6) : ∃ a b c d e f, l = [a, b, c, d, e, f] := by
  match l, h with
  | [a, b, c, d, e, f], _ => exact ⟨a, b, c, d, e, f, rfl⟩
theorem prsL_ok (l : List UInt8) (h : (prsL l).2 = true) : I64s (prsL l).1 := by
  unfold prsL at h ⊢
  split
  · intro v hv; cases hv
  · rename_i c
    rw [if_neg c] at h
    obtain ⟨vs, h1, _, h3⟩ := pL_ok _ [] h
    rw [h1, List.nil_append]
    intro v hv
    have := h3 v hv
    omega
theorem parseReport_ok (s : ByteArray) (hz : s.size ≤ 1048576) : ∃ r : Int × Int × List Int × Int × Int × List Int × Int × Int × Bool,
    Ev (fun k => impl_ParseReport.f k s) r ∧ Ev (fun k => spec_ParseReport.f k s) r ∧ r.2.2.1.length ≤ 1048576 ∧ r.2.2.2.2.2.1.length ≤ 1048576 := by
  have hsz := Lib.size_eq s
  have hi := split_eq s 32 (by omega)
  have hs := specSplit_ev s 32 32 rfl (by omega)
  have hpart := spA_part 32 s.data.toList
  have hjoin := spA_join 32 s.data.toList
  generalize (spA 32 s.data.toList).1 :: (spA 32 s.data.toList).2 = ps at hi hs hpart hjoin
  have hi' : strings_Split.f s (⟨#[32]⟩ : ByteArray) = some (ps.map bs) := hi
  unfold impl_ParseReport.f spec_ParseReport.f
  by_cases hlen : ps.length = 6
  · obtain ⟨p0, p1, p2, p3, p4, p5, rfl⟩ := six ps hlen
    have l2 := hpart p2 (by simp)
    have l3 := hpart p3 (by simp)
    have l4 := hpart p4 (by simp)
    have l5 := hpart p5 (by simp)
    rw [← hsz] at l2 l3 l4 l5
    have i0 := implPI_ev (bs p0) p0 (bs_data _)
    have s0 := specPI_ev (bs p0) p0 (bs_data _)
    have i2 := implPL_ev (bs p2) (by rw [bs_size]; omega)
    have s2 := specPL_ev (bs p2) (by rw [bs_size]; omega)
    have i4 := implPL_ev (bs p4) (by rw [bs_size]; omega)
    have s4 := specPL_ev (bs p4) (by rw [bs_size]; omega)
    rw [bs_data] at i2 s2 i4 s4
    obtain ⟨x3, y3, i3, s3, e3, b3⟩ := pair2_ok p3 (by omega)
    obtain ⟨x5, y5, i5, s5, e5, b5⟩ := pair2_ok p5 (by omega)
    obtain ⟨q, i1, s1⟩ := kindOf_ok (bs p1) 8 1 (by omega) (by omega)
    have n2 := prsL_len2 p2
    have n4 := prsL_len2 p4
    have hne : ¬ s.toList = ([] : List UInt8) := by
      rw [Lib.toList_data, ← hjoin]
      intro e
      have := congrArg List.length e
      rw [Lib.join_length] at this
      simp at this
    have r0 : rdOf ByteArray.empty ([p0, p1, p2, p3, p4, p5].map bs) 0 = bs p0 := rfl
    have r1 : rdOf ByteArray.empty ([p0, p1, p2, p3, p4, p5].map bs) 1 = bs p1 := rfl
    have r2 : rdOf ByteArray.empty ([p0, p1, p2, p3, p4, p5].map bs) 2 = bs p2 := rfl
    have r3 : rdOf ByteArray.empty ([p0, p1, p2, p3, p4, p5].map bs) 3 = bs p3 := rfl
    have r4 : rdOf ByteArray.empty ([p0, p1, p2, p3, p4, p5].map bs) 4 = bs p4 := rfl
    have r5 : rdOf ByteArray.empty ([p0, p1, p2, p3, p4, p5].map bs) 5 = bs p5 := rfl
    by_cases hall : (pI p0).2 = true ∧ (prsL p2).2 = true ∧ x3.2.2 = true ∧ (prsL p4).2 = true ∧ x5.2.2 = true
    · obtain ⟨f0, f2, f3, f4, f5⟩ := hall
      obtain rfl : x3 = y3 := by rcases e3 with e | ⟨e, _⟩; exact e; rw [e] at f3; cases f3
      obtain rfl : x5 = y5 := by rcases e5 with e | ⟨e, _⟩; exact e; rw [e] at f5; cases f5
      have k0 := pI_itoa f0
      obtain ⟨t, ht1, ht2⟩ := reportText_ok (pI p0).1 q (prsL p2).1 x3.1 x3.2.1 (prsL p4).1 x5.1 x5.2.1 (by omega) (by omega) ⟨by omega, by omega⟩ (prsL_ok p2 f2) (b3 f3).1 (b3 f3).2 (prsL_ok p4 f4) (b5 f5).1 (b5 f5).2
      by_cases ht : t.toList = s.toList
      · refine ⟨((pI p0).1, q, (prsL p2).1, x3.1, x3.2.1, (prsL p4).1, x5.1, x5.2.1, true), ?_, ?_, by simp only; omega, by simp only; omega⟩
        · refine ev_bindc hi' ?_
          rw [r0, r1, r2, r3, r4, r5]
          exact ev_itep (by simp) (ev_itep (by simp) (ev_bind i0 (ev_itep (by simp) (ev_bind i2 (ev_itep (by simp) (ev_bind i3 (ev_itep (by simp) (ev_bind i4 (ev_itep (by simp) (ev_bind i5 (ev_itep (by simp) (ev_bind i1 (ev_itep f0 (ev_itep f2 (ev_itep f3 (ev_itep f4 (ev_itep f5 (ev_bind ht1 (ev_itep ht (ev_some rfl))))))))))))))))))))
        · refine ev_bind hs ?_
          rw [r0, r1, r2, r3, r4, r5]
          exact ev_itep (by simp) (ev_itep (by simp) (ev_bind s0 (ev_itep (by simp) (ev_bind s2 (ev_itep (by simp) (ev_bind s3 (ev_itep (by simp) (ev_bind s4 (ev_itep (by simp) (ev_bind s5 (ev_itep (by simp) (ev_bind s1 (ev_itep f0 (ev_itep f2 (ev_itep f3 (ev_itep f4 (ev_itep f5 (ev_bind ht2 (ev_itep ht (ev_iten hne (ev_some rfl)))))))))))))))))))))
      · refine ⟨(0, 0, [], 0, 0, [], 0, 0, false), ?_, ?_, by simp, by simp⟩
        · refine ev_bindc hi' ?_
          rw [r0, r1, r2, r3, r4, r5]
          exact ev_itep (by simp) (ev_itep (by simp) (ev_bind i0 (ev_itep (by simp) (ev_bind i2 (ev_itep (by simp) (ev_bind i3 (ev_itep (by simp) (ev_bind i4 (ev_itep (by simp) (ev_bind i5 (ev_itep (by simp) (ev_bind i1 (ev_itep f0 (ev_itep f2 (ev_itep f3 (ev_itep f4 (ev_itep f5 (ev_bind ht1 (ev_iten ht (ev_some rfl))))))))))))))))))))
        · refine ev_bind hs ?_
          rw [r0, r1, r2, r3, r4, r5]
          exact ev_itep (by simp) (ev_itep (by simp) (ev_bind s0 (ev_itep (by simp) (ev_bind s2 (ev_itep (by simp) (ev_bind s3 (ev_itep (by simp) (ev_bind s4 (ev_itep (by simp) (ev_bind s5 (ev_itep (by simp) (ev_bind s1 (ev_itep f0 (ev_itep f2 (ev_itep f3 (ev_itep f4 (ev_itep f5 (ev_bind ht2 (ev_iten ht (ev_some rfl))))))))))))))))))))
    · have hy : ¬ ((pI p0).2 = true ∧ (prsL p2).2 = true ∧ y3.2.2 = true ∧ (prsL p4).2 = true ∧ y5.2.2 = true) := by
        intro ⟨f0, f2, f3, f4, f5⟩
        refine hall ⟨f0, f2, ?_, f4, ?_⟩
        · rcases e3 with e | ⟨_, e⟩; rw [e]; exact f3; rw [e] at f3; cases f3
        · rcases e5 with e | ⟨_, e⟩; rw [e]; exact f5; rw [e] at f5; cases f5
      refine ⟨(0, 0, [], 0, 0, [], 0, 0, false), ?_, ?_, by simp, by simp⟩
      · refine ev_bindc hi' ?_
        rw [r0, r1, r2, r3, r4, r5]
        refine ev_itep (by simp) (ev_itep (by simp) (ev_bind i0 (ev_itep (by simp) (ev_bind i2 (ev_itep (by simp) (ev_bind i3 (ev_itep (by simp) (ev_bind i4 (ev_itep (by simp) (ev_bind i5 (ev_itep (by simp) (ev_bind i1 ?_))))))))))))
        exact ev_ite (fun f0 => ev_ite (fun f2 => ev_ite (fun f3 => ev_ite (fun f4 => ev_ite (fun f5 => absurd ⟨f0, f2, f3, f4, f5⟩ hall) (fun _ => ev_some rfl)) (fun _ => ev_some rfl)) (fun _ => ev_some rfl)) (fun _ => ev_some rfl)) (fun _ => ev_some rfl)
      · refine ev_bind hs ?_
        rw [r0, r1, r2, r3, r4, r5]
        refine ev_itep (by simp) (ev_itep (by simp) (ev_bind s0 (ev_itep (by simp) (ev_bind s2 (ev_itep (by simp) (ev_bind s3 (ev_itep (by simp) (ev_bind s4 (ev_itep (by simp) (ev_bind s5 (ev_itep (by simp) (ev_bind s1 ?_))))))))))))
        exact ev_ite (fun f0 => ev_ite (fun f2 => ev_ite (fun f3 => ev_ite (fun f4 => ev_ite (fun f5 => absurd ⟨f0, f2, f3, f4, f5⟩ hy) (fun _ => ev_some rfl)) (fun _ => ev_some rfl)) (fun _ => ev_some rfl)) (fun _ => ev_some rfl)) (fun _ => ev_some rfl)
  · refine ⟨(0, 0, [], 0, 0, [], 0, 0, false), ev_bindc hi' (ev_iten (by rw [List.length_map]; omega) (ev_some rfl)), ev_bind hs (ev_iten (by rw [List.length_map]; omega) (ev_some rfl)), by simp, by simp⟩
end Go.Proofs.YtihnanfekchlhaaDoor.PFnExactParseReport
