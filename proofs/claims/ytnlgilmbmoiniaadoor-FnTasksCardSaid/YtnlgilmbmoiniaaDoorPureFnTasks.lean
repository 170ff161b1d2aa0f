/- The pure statement of FnTasks. -/
import Derived.Test.YtnlgilmbmoiniaaDoorTskDAllFnTasks
namespace Go.Proofs.YtnlgilmbmoiniaaDoor.PFnTasks
open Go.RowKit Go.Proofs.YtnlgilmbmoiniaaDoorW.PrintWords Go.Proofs.YtnlgilmbmoiniaaDoorW.PrintLast Go.Proofs.YtnlgilmbmoiniaaDoor.EvLib
/-- What is true of a task of a list. -/
def TOk (F : List IFind) (C : List IClaim) (B : List Bool) (h : Int) (x : STask) : Prop :=
  ∃ j : Nat, j < F.length ∧ impl_FindThing.f F x.f0 = some (j : Int) ∧ Ev (fun k => impl_TaskOf.f k (fd F j).f0.f0 (fd F j).f0.f1 (fd F j).f0.f2 (fd F j).f0.f3 (fd F j).f0.f4 (fd F j).f1 (fd F j).f2 (fd F j).f3 C B h) (x.f0, x.f1, x.f2) ∧ (0 ≤ x.f0 ∧ x.f0 ≤ 1000000) ∧ (0 ≤ x.f1 ∧ x.f1 ≤ 5) ∧ (0 ≤ x.f2 ∧ x.f2 ≤ 1000000) ∧ (x.f1 = 1 ∨ x.f1 = 0 → isOpen B x.f2 = true)
theorem tasksI_ok (F : List IFind) (C : List IClaim) (B : List Bool) (h : Int) (hF : F.length ≤ 1048576) (hC : C.length ≤ 1048576) (hB : B.length ≤ 1048576) :
    ∃ R : List STask, (R.length = 0 ∨ R.length = F.length) ∧ Ev (fun k => impl_TasksFor.f k F C B h) R ∧ Srtd R ∧ ∀ x ∈ R, TOk F C B h x := by
  have a2 := implAreFinds_ev F (by omega)
  have b2 : impl_AreClaims.f C = some (impl_AreClaims.okL C) := rfl
  have hT := fun f : IFind => taskOf_ok f.f0.f0 f.f0.f1 f.f0.f2 f.f0.f3 f.f0.f4 f.f1 f.f2 f.f3 C hC B hB h
  obtain ⟨T, hT⟩ : ∃ T : IFind → Int × Int × Int, ∀ f : IFind, Ev (fun k => impl_TaskOf.f k f.f0.f0 f.f0.f1 f.f0.f2 f.f0.f3 f.f0.f4 f.f1 f.f2 f.f3 C B h) (T f) ∧ (¬ (isCal B = true ∧ decide (0 ≤ h ∧ h ≤ 100000) = true) → T f = (0, 0, 0)) ∧ (isFind f.f0.f0 f.f0.f1 f.f0.f2 f.f0.f3 f.f0.f4 f.f1 f.f2 f.f3 = true → isCal B = true → decide (0 ≤ h ∧ h ≤ 100000) = true → (T f).1 = f.f0.f0 ∧ 0 ≤ (T f).2.1 ∧ (T f).2.1 ≤ 5 ∧ 0 ≤ (T f).2.2 ∧ (T f).2.2 ≤ 100000 ∧ ((T f).2.1 = 1 ∨ (T f).2.1 = 0 → isOpen B (T f).2.2 = true)) :=
    ⟨fun f => Classical.choose (hT f), fun f => Classical.choose_spec (hT f)⟩
  have stop : Ev (fun k => impl_TasksFor.j0 k F C B h [] true) [] := ev_step (fun k => by simp only [impl_TasksFor.j0]; rfl) (ev_itep (show true = true from rfl) (ev_some rfl))
  by_cases q1 : areFd F = true
  · by_cases q2 : impl_AreClaims.okL C = true
    · have go : ∀ R, Ev (fun k => impl_TasksFor.l0 k C B h [] F (F.length : Int) 0) R → Ev (fun k => impl_TasksFor.f k F C B h) R := fun R hR => by
        unfold impl_TasksFor.f
        refine ev_bindc (a := ([] : List STask)) rfl (ev_bind a2 (ev_itep q1 (ev_bindc b2 ?_)))
        rw [q2]
        exact ev_step (fun k => by simp only [impl_TasksFor.j0]; rfl) (ev_iten (by simp) hR)
      by_cases q3 : isCal B = true ∧ decide (0 ≤ h ∧ h ≤ 100000) = true
      · refine ⟨(F.map fun f => (⟨(T f).1, (T f).2.1, (T f).2.2⟩ : STask)).mergeSort tle, Or.inr (by rw [List.length_mergeSort, List.length_map]), go _ ?_, List.pairwise_mergeSort tle_trans tle_total _, fun x hx => ?_⟩
        · exact impl_loop F C B h hF (fun f => (⟨(T f).1, (T f).2.1, (T f).2.2⟩ : STask)) (fun f => (hT f).1) (fun f hf => by
            obtain ⟨g1, g2, _⟩ := areFd_id q1 f hf
            have := ((hT f).2.2 g1 q3.1 q3.2).1
            show (T f).1 ≠ 0
            omega) F.length 0 (by omega)
        · rw [List.mem_mergeSort, List.mem_map] at hx
          obtain ⟨f, hf, rfl⟩ := hx
          obtain ⟨g1, g2, g3⟩ := areFd_id q1 f hf
          obtain ⟨t1, t2, t3, t4, t5, t6⟩ := (hT f).2.2 g1 q3.1 q3.2
          obtain ⟨j, j1, j2, j3⟩ := found F q1 f hf
          refine ⟨j, j1, ?_, ?_, ?_, ⟨t2, t3⟩, ⟨t4, by show (T f).2.2 ≤ 1000000; omega⟩, t6⟩
          · show impl_FindThing.f F (T f).1 = some (j : Int)
            rw [t1]; exact j2
          · rw [j3]; exact (hT f).1
          · show 0 ≤ (T f).1 ∧ (T f).1 ≤ 1000000
            omega
      · refine ⟨[], Or.inl rfl, go _ (impl_zero F C B h hF (fun f => ?_)), List.Pairwise.nil, fun x hx => absurd hx (by simp)⟩
        have := (hT f).1
        rw [(hT f).2.1 q3] at this
        exact this
    · refine ⟨[], Or.inl rfl, ?_, List.Pairwise.nil, fun x hx => absurd hx (by simp)⟩
      unfold impl_TasksFor.f
      refine ev_bindc (a := ([] : List STask)) rfl (ev_bind a2 (ev_itep q1 (ev_bindc b2 ?_)))
      rw [Bool.eq_false_iff.mpr q2]
      exact stop
  · refine ⟨[], Or.inl rfl, ?_, List.Pairwise.nil, fun x hx => absurd hx (by simp)⟩
    unfold impl_TasksFor.f
    exact ev_bindc (a := ([] : List STask)) rfl (ev_bind a2 (ev_iten q1 stop))
theorem today_end (R : List STask) (hR : R.length ≤ 1048576) (h : Int) : ∀ (d i : Nat), i + d = (today R h).length → Ev (fun k => laws_FnTasks.l1 k h R (today R h) (i : Int)) true := by
  have hl : (today R h).length ≤ R.length := by
    unfold today
    split
    · exact List.length_filter_le _ _
    · simp
  intro d
  induction d with
  | zero =>
    intro i hi
    refine ev_step (fun k => by simp only [laws_FnTasks.l1]; rfl) (ev_iten (by omega) ?_)
    unfold impl_Quiet.f
    exact ev_bind (ev_bind (implToday_ev R hR h) (ev_some rfl)) (ev_some (by simp))
  | succ d ih =>
    intro i hi
    have hk : ¬ (tkd (today R h) i).f1 = 0 := by
      have hm : tkd (today R h) i ∈ today R h := by
        unfold tkd
        rw [List.getD_eq_getElem?_getD, List.getElem?_eq_getElem (by omega), Option.getD_some]
        exact List.getElem_mem _
      generalize tkd (today R h) i = x at hm
      unfold today at hm
      split at hm
      · have := (List.mem_filter.mp hm).2
        unfold isToday at this
        exact (of_decide_eq_true this).2
      · exact absurd hm (by simp)
    refine ev_step (fun k => by simp only [laws_FnTasks.l1]; rfl) (ev_itep (by omega) (ev_itep (by omega) (ev_iten (by rw [rd_tkd]; exact hk) ?_)))
    rw [wrap_id (by omega) (by omega)]
    exact ih (i + 1) (by omega)
theorem law_loop (F : List IFind) (C : List IClaim) (B : List Bool) (hB : B.length ≤ 1048576) (_hF : F.length ≤ 1048576) (h : Int) (R : List STask) (hR : R.length ≤ 1048576) (hs : Srtd R) (hx : ∀ x ∈ R, TOk F C B h x) :
    ∀ (d i : Nat), i + d = R.length → Ev (fun k => laws_FnTasks.l0 k F C B h R (i : Int)) true := by
  intro d
  induction d with
  | zero =>
    intro i hi
    exact ev_step (fun k => by simp only [laws_FnTasks.l0]; rfl) (ev_iten (by omega) (ev_bind (implToday_ev R hR h) (today_end R hR h (today R h).length 0 (by omega))))
  | succ d ih =>
    intro i hi
    have hil : i < R.length := by omega
    have hm : tkd R i ∈ R := by
      unfold tkd
      rw [List.getD_eq_getElem?_getD, List.getElem?_eq_getElem hil, Option.getD_some]
      exact List.getElem_mem _
    obtain ⟨j, j1, j2, j3, x0, x1, x2, x3⟩ := hx _ hm
    obtain ⟨tx, e1, e2⟩ := taskText_ok (tkd R i).f0 (tkd R i).f1 (tkd R i).f2 x0.1 x0.2 x1.1 x1.2 x2.1 x2.2
    have hn := ih (i + 1) (by omega)
    have w1 : wrap64 ((i : Int) + 1) = ((i + 1 : Nat) : Int) := by rw [wrap_id (by omega) (by omega)]; omega
    have tail : Ev (fun k => (impl_TaskText.f (tkd R i).f0 (tkd R i).f1 (tkd R i).f2).bind fun t => (if t.toList = ([] : List UInt8) then (some false) else (if (tkd R i).f1 = 1 then ((impl_IsOpen.f k B (tkd R i).f2).bind fun u => (if u = true then (laws_FnTasks.l0 k F C B h R (wrap64 ((i : Int) + 1))) else (some false))) else (if (tkd R i).f1 = 0 then ((impl_IsOpen.f k B (tkd R i).f2).bind fun u => (if u = true then (laws_FnTasks.l0 k F C B h R (wrap64 ((i : Int) + 1))) else (some false))) else (laws_FnTasks.l0 k F C B h R (wrap64 ((i : Int) + 1))))))) true := by
      rw [w1]
      refine ev_bindc e1 (ev_iten e2 (ev_ite (fun c => ?_) (fun _ => ev_ite (fun c => ?_) (fun _ => hn))))
      · exact ev_bind (implIsOpen_ev B hB _) (ev_itep (x3 (Or.inl c)) hn)
      · exact ev_bind (implIsOpen_ev B hB _) (ev_itep (x3 (Or.inr c)) hn)
    refine ev_step (fun k => by simp only [laws_FnTasks.l0]; rfl) (ev_itep (by omega) (ev_itep (by omega) ?_))
    simp only [rd_tkd]
    refine ev_bindc j2 (ev_iten (by omega) (ev_itep (by omega) (ev_itep (by omega) ?_)))
    simp only [rd_fd]
    refine ev_bind j3 (ev_iten (by simp) ?_)
    by_cases c : i = 0
    · exact ev_iten (by omega) tail
    · have w2 : wrap64 ((i : Int) - 1) = ((i - 1 : Nat) : Int) := by rw [wrap_id (by omega) (by omega)]; omega
      refine ev_itep (by omega) ?_
      rw [w2]
      refine ev_itep (by omega) (ev_itep (by omega) (ev_iten ?_ tail))
      rw [rd_tkd]
      have hp : tle (tkd R (i - 1)) (tkd R i) = true := by
        unfold tkd
        rw [List.getD_eq_getElem?_getD, List.getD_eq_getElem?_getD, List.getElem?_eq_getElem (by omega), List.getElem?_eq_getElem hil, Option.getD_some, Option.getD_some]
        exact (List.pairwise_iff_getElem.mp hs) (i - 1) i (by omega) hil (by omega)
      rw [tle_iff] at hp
      omega
end Go.Proofs.YtnlgilmbmoiniaaDoor.PFnTasks
namespace Go.Proofs.YtnlgilmbmoiniaaDoor.Pure
open Go.RowKit Go.Proofs.YtnlgilmbmoiniaaDoor.PFnTasks Go.Proofs.YtnlgilmbmoiniaaDoorW.PrintWords Go.Proofs.YtnlgilmbmoiniaaDoorW.PrintLast Go.Proofs.YtnlgilmbmoiniaaDoor.EvLib
theorem FnTasks : laws_FnTasks.Pure := by
  intro s _
  refine Ev.rounds ?_
  unfold laws_FnTasks.f laws_big.f
  refine ev_bindc rfl (ev_ite (fun _ => ev_some rfl) (fun g => ?_))
  have hs : s.length ≤ 1048576 := by
    have := of_decide_eq_false (Bool.eq_false_iff.mpr g)
    omega
  obtain ⟨F, C, B, h, e1, f1, f2, f3⟩ := drawTasks_ok s hs
  obtain ⟨R, r1, r2, r3, r4⟩ := tasksI_ok F C B h (by omega) (by omega) (by omega)
  have hR : R.length ≤ 1048576 := by omega
  have l := law_loop F C B (by omega) (by omega) h R hR r3 r4 R.length 0 (by omega)
  have j : Ev (fun k => laws_FnTasks.j0 k F C B h R false) true := ev_step (fun k => by simp only [laws_FnTasks.j0]; rfl) (ev_iten (by simp) l)
  refine ev_bind e1 (ev_bind r2 (ev_ite (fun _ => j) (fun c => ?_)))
  have e : ((R.length : Int) != (F.length : Int)) = false := by
    rw [bne_eq_false_iff_eq]
    rcases r1 with r | r
    · exact absurd r (by omega)
    · omega
  show Ev (fun k => laws_FnTasks.j0 k F C B h R ((R.length : Int) != (F.length : Int))) true
  rw [e]
  exact j
end Go.Proofs.YtnlgilmbmoiniaaDoor.Pure
