/- slices.Insert of one struct of three cells into a slice of them, ahead of its end: the two roads, over the block's cells. -/
import Derived.Test.YtfghapankndioaaProg
import Derived.Laws.CopyRow
import Derived.Lib.JoinLaws
import Derived.Lib.AppendZerosOnto
import Derived.Lib.Overlaps
import Derived.Deep.AppendSrc
import Derived.Shelf.RegionOpenPlain
import Derived.Laws.Externs
import Derived.Laws.IdiomCopy
import Derived.Lib.Walk
import Derived.OwnWalk
import Derived.Below
import Derived.WalkKit
import Derived.KernelRfl
set_option linter.unusedVariables false
set_option linter.unusedSimpArgs false
namespace Go.Proofs.Ytfghapankndioaa.Ins
open Go Go.RowKit Go.Lib Go.Proofs
structure Plain_ (p : Prop) : Prop where
  out : p
theorem run_copy_rows {P : Program} (w : World) (dT sT ty elem : TypeId) (s g o dLen dCap : Nat) (a : Addr) (sLen sCap : Nat) (cur : Array Value) (t : TypeId) (cs : List Value)
    (hu : P.underlying dT = some (.slice elem)) (hs : (P.info? elem).map (·.size) = some s)
    (hg : w.heap[g]? = some (.cells cur t (0, 0))) (hn : cs.length = Nat.min sLen dLen * s)
    (hsrc : ∀ j v, cs[j]? = some v → w.cell? (a.add j) = some v) (hfit : o + cs.length ≤ cur.size) (h1 : ∀ v ∈ cs, v.oneCell' = true) :
    (Builtin.copy_ #[dT, sT] ty #[.slice (some ⟨g, o, none⟩) dLen dCap, .slice (some a) sLen sCap]).run P w =
      .ok (goInt (Nat.min sLen dLen)) (w.setRow g (cur.toList.take o ++ cs ++ cur.toList.drop (o + cs.length)).toArray) := by
  have hl := run_loadCells_list (P := P) w a cs hsrc
  have hst := run_storeCells_at P g o t cs 0 cur w hg (by simpa using hfit) h1
  cases hq : P.info? elem with
  | none => simp [hq] at hs
  | some i =>
    have hi : i.size = s := by simpa [hq] using hs
    simp [Builtin.copy_, run_underlying hu, Builtin.lenOf, Builtin.firstCells, sizeOf, typeInfo, hq, hi, ← hn, hl, hst]
theorem step_copy_ {P : Program} {ops : Array Oper} {o : Oper} {a : Act} {w : World} {K : Act → World → Prop} {Q : Exit → Act → World → Prop} {E : Prop}
    (hg : o.guard = none) (d x : Operand) (dT sT : TypeId) (hop : o.op = Op.call { callee := Callee.builtin Builtin.copy, args := #[d, x], argTypes := #[dT, sT] })
    (v u : Value) (hd : a.eval d = v) (hx : a.eval x = u) {v' : Value} {w' : World} (hr : (Builtin.copy_ #[dT, sT] o.type #[v, u]).run P w = .ok v' w') (hK : K (a.put o.dst v') w') :
    if Region.wanted o (yielded ops a.tmps) = true then Oper.wp P o a w K Q else E := by
  have hw : Region.wanted o (yielded ops a.tmps) = true := by simp [Region.wanted, hg]
  rw [if_pos hw]
  unfold Oper.wp
  simp [execOp, hop, resolve, invoke, builtin, hd, hx, hr, Result.andThen]
  exact hK
theorem list_copy_ {P : Program} (w : World) {ops : Array Oper} {rest : List Oper} {o : Oper} {a : Act} {Q : Exit → Act → World → Prop} (hgd : o.guard = none) (d s : Operand) (t t' : TypeId)
    (ho : o.op = .call { callee := .builtin .copy, args := #[d, s], argTypes := #[t, t'] }) (v u : Value) (hd : a.eval d = v) (hs : a.eval s = u) {v' : Value} {w' : World}
    (hr : (Builtin.copy_ #[t, t'] o.type #[v, u]).run P w = .ok v' w') (h : wpList P ops Q rest (a.put o.dst v') w') : wpList P ops Q (o :: rest) a w := by
  refine wpList_plain hgd fun K hK => ?_
  unfold Oper.wp execOp
  simp only [ho, resolve, invoke, builtin, Sem.run_bind, Sem.run_pure, Result.andThen_ok, List.map_toArray, List.map_cons, List.map_nil, hd, hs, hr]
  exact hK _ _ h
set_option maxHeartbeats 4000000 in
set_option maxRecDepth 100000 in
/-- There is room. -/
theorem shift (g n c i vb : Nat) (cur : Array Value) (x0 x1 x2 : Value) (w : World) (hi : i < n) (hroom : n + 1 ≤ c) (hc63 : c ≤ 9223372036854775807) (hvb : vb ≠ g)
    (hg : w.heap[g]? = some (.cells cur 36 (0, 0))) (hsz : cur.size = c * 3) (hv : w.heap[vb]? = some (.cells #[x0, x1, x2] 36 (0, 0)))
    (h1c : ∀ v ∈ cur.toList.take (n * 3), v.oneCell' = true) (h1v : ∀ v ∈ [x0, x1, x2], v.oneCell' = true) :
    Calls Try.prog 60 #[.slice (some ⟨g, 0, none⟩) n c, .int .i64 i, .slice (some ⟨vb, 0, none⟩) 1 1] w fun e w' =>
      e = .returned (.slice (some ⟨g, 0, none⟩) (n + 1) c) ∧ ∃ A, w' = w.drew.setRow g A ∧ A.size = c * 3 ∧ A.toList.take ((n + 1) * 3) = cur.toList.take (i * 3) ++ [x0, x1, x2] ++ (cur.toList.take (n * 3)).drop (i * 3) := by
  have u25 := run_underlying Try.underlying25
  have hs36 : (Try.prog.info? 36).map (·.size) = some 3 := by kernel_rfl
  have hz36 : ∀ w, (Go.sizeOf 36).run Try.prog w = .ok 3 w := by
    intro w
    cases hq : Try.prog.info? 36 with
    | none => simp [hq] at hs36
    | some q => simp [sizeOf, typeInfo, hq, show q.size = 3 by simpa [hq] using hs36]
  have hov : ∀ o lb cb, (callFunc 72 #[.slice (some ⟨vb, 0, none⟩) 1 1, .slice (some ⟨g, o, none⟩) lb cb]).run Try.prog w = .ok (.value (.bool false)) w := fun o lb cb => by
    rw [run_callFunc_extern Try.func72 (by kernel_rfl) (by kernel_rfl) (by kernel_rfl) (e := Extern.SlicesOverlaps.overlaps #[25, 25] #[4]) (by kernel_rfl),
      Lib.run_overlaps_apart w 25 4 36 Try.underlying25 3 hz36 ⟨vb, 0, none⟩ ⟨g, o, none⟩ 1 1 lb cb hvb 36 36 3 cur.size (by simp [World.shape?, hv]) (by simp [World.shape?, hg]) (by omega) (by simp [World.frozen?, hv]) (by simp [World.frozen?, hv])]
    rfl
  have hcl : cur.toList.length = c * 3 := by rw [Array.length_toList]; exact hsz
  obtain ⟨cs, hcs⟩ : ∃ cs, cs = (cur.toList.take (n * 3)).drop (i * 3) := ⟨_, rfl⟩
  have hdl : cs.length = (n - i) * 3 := by rw [hcs, List.length_drop, List.length_take, hcl]; omega
  have h1d : ∀ v ∈ cs, v.oneCell' = true := fun v hv => h1c v (by rw [hcs] at hv; exact List.mem_of_mem_drop hv)
  have hgd : w.drew.heap[g]? = some (.cells cur 36 (0, 0)) := hg
  obtain ⟨A1, hA1⟩ : ∃ A1 : Array Value, A1 = (cur.toList.take ((i + 1) * 3) ++ cs ++ cur.toList.drop ((i + 1) * 3 + cs.length)).toArray := ⟨_, rfl⟩
  have hA1s : A1.size = c * 3 := by rw [hA1]; simp [hdl, hsz]; omega
  obtain ⟨A2, hA2⟩ : ∃ A2 : Array Value, A2 = (A1.toList.take (i * 3) ++ [x0, x1, x2] ++ A1.toList.drop (i * 3 + 3)).toArray := ⟨_, rfl⟩
  have hcp1 : ∀ ty dc sc, (Builtin.copy_ #[25, 25] ty #[.slice (some ⟨g, (i + 1) * 3, none⟩) (n - i) dc, .slice (some ⟨g, i * 3, none⟩) (n + 1 - i) sc]).run Try.prog w.drew = .ok (goInt (Nat.min (n + 1 - i) (n - i))) (w.drew.setRow g A1) := fun ty dc sc => by
    rw [hA1]
    exact run_copy_rows w.drew _ _ ty 36 3 g ((i + 1) * 3) (n - i) dc ⟨g, i * 3, none⟩ (n + 1 - i) sc cur 36 cs Try.underlying25 hs36 hgd (by rw [hdl]; simp only [Nat.min_def]; split <;> omega)
      (fun j v hj => by
        rw [Addr.add_lit, hcs, List.getElem?_drop, List.getElem?_take] at *
        split at hj
        · simp [World.cell?, hgd, ← Array.getElem?_toList, hj]
        · cases hj) (by rw [hdl, hsz]; omega) h1d
  have hg1 : (w.drew.setRow g A1).heap[g]? = some (.cells A1 36 (0, 0)) := setRow_heap _ g cur A1 36 _ hgd
  have hv1 : (w.drew.setRow g A1).heap[vb]? = some (.cells #[x0, x1, x2] 36 (0, 0)) := by
    rw [← hv]
    show (w.heap.modify g _)[vb]? = _
    rw [Array.getElem?_modify, if_neg (by omega)]
  have hcp2 : ∀ ty dc, (Builtin.copy_ #[25, 25] ty #[.slice (some ⟨g, i * 3, none⟩) (n + 1 - i) dc, .slice (some ⟨vb, 0, none⟩) 1 1]).run Try.prog (w.drew.setRow g A1) = .ok (goInt (Nat.min 1 (n + 1 - i))) (w.drew.setRow g A2) := fun ty dc => by
    have h := run_copy_rows (P := Try.prog) (w.drew.setRow g A1) 25 25 ty 36 3 g (i * 3) (n + 1 - i) dc ⟨vb, 0, none⟩ 1 1 A1 36 [x0, x1, x2] Try.underlying25 hs36 hg1 (by simp only [Nat.min_def, List.length_cons, List.length_nil]; split <;> omega)
      (fun j v hj => by
        rw [Addr.add_lit, Nat.zero_add]
        simp [World.cell?, hv1, ← Array.getElem?_toList, hj]) (by simp [hA1s]; omega) h1v
    rw [h, setRow_setRow, hA2]
    rfl
  have hfin : A2.size = c * 3 ∧ A2.toList.take ((n + 1) * 3) = cur.toList.take (i * 3) ++ [x0, x1, x2] ++ cs := by
    have e1 : A1.toList = cur.toList.take ((i + 1) * 3) ++ cs ++ cur.toList.drop ((i + 1) * 3 + cs.length) := by rw [hA1]
    have e2 : A1.toList.take (i * 3) = cur.toList.take (i * 3) := by
      rw [e1, List.append_assoc, List.take_append_of_le_length (by rw [List.length_take, hcl]; omega), List.take_take]
      congr 1
      omega
    have e3 : A1.toList.drop (i * 3 + 3) = cs ++ cur.toList.drop ((i + 1) * 3 + cs.length) := by
      rw [e1, List.append_assoc]
      exact List.drop_left' (by rw [List.length_take, hcl]; omega)
    have e4 : A2.toList = cur.toList.take (i * 3) ++ [x0, x1, x2] ++ cs ++ cur.toList.drop ((i + 1) * 3 + cs.length) := by rw [hA2, e2, e3]; simp
    refine ⟨?_, ?_⟩
    · rw [← Array.length_toList, e4]
      simp [hdl, hsz]
      omega
    · rw [e4]
      exact List.take_left' (by simp [hdl, hcl]; omega)
  rw [← hcs]
  have hz2 : ¬ ((i : Int) = (n : Int)) := by omega
  have mixed : Try.prog.follows .mixedOrders = true := by kernel_rfl
  have hw1 : IntKind.i64.wrap ((i : Int) + 1) = (i : Int) + 1 := by rw [IntKind.wrap_i64]; omega
  have hw2 : IntKind.i64.wrap ((n : Int) + 1) = (n : Int) + 1 := by rw [IntKind.wrap_i64]; omega
  have hb1 : (0 : Int) ≤ (i : Int) + 1 := by omega
  have htn : ((i : Int) + 1).toNat = i + 1 := by omega
  have htn2 : ((n : Int) + 1).toNat = n + 1 := by omega
  have hin : i ≤ n := by omega
  have hb2 : ¬ (c = i + 1) := by omega
  have hb3 : (i : Int) ≤ (n : Int) + 1 := by omega
  have hb4 : ¬ (c = i) := by omega
  have hF : Plain_ _ := ⟨hfin⟩
  clear hfin hcs hA1 hA2 hA1s hdl hcl h1c h1v h1d
  go_enter Try.func60, Try.ntmps60
  go_wp2_with (simp only [hov])
  go_region_law_o (refine step_copy_ rfl _ _ 25 25 rfl _ _ (by simp [Act.eval, Act.put]) (by simp [Act.eval, Act.put]) (hcp1 _ _ _) ?_)
  go_wp2_with (at_builtin; refine list_copy_ _ rfl _ _ 25 25 rfl _ _ rfl rfl (hcp2 _ _) ?_)
  go_ret
  exact ⟨rfl, A2, rfl, hF.out⟩
theorem set_other (w : World) {g k : Nat} (A : Array Value) (h : k ≠ g) : (w.setRow g A).heap[k]? = w.heap[k]? := by
  show (w.heap.modify g _)[k]? = _
  rw [Array.getElem?_modify, if_neg (by omega)]
theorem set_below {b : Nat} {a w : World} (h : Below b a w) {g : Nat} (hg : b ≤ g) (A : Array Value) : Below b a (w.setRow g A) :=
  h.trans ⟨rfl, rfl, rfl, by simp [World.setRow], fun k hk => set_other w A (by omega)⟩
set_option maxHeartbeats 4000000 in
set_option maxRecDepth 100000 in
/-- There is no room: a new block. -/
theorem grow (g n c i vb : Nat) (cur : Array Value) (x0 x1 x2 : Value) (w : World) (hi : i < n) (hnc : n ≤ c) (hroom : c < n + 1) (hbig : (n + 1) * 40 ≤ 140737488355328) (hvb : vb ≠ g)
    (hg : w.heap[g]? = some (.cells cur 36 (0, 0))) (hsz : cur.size = c * 3) (hv : w.heap[vb]? = some (.cells #[x0, x1, x2] 36 (0, 0)))
    (h1c : ∀ v ∈ cur.toList.take (n * 3), v.oneCell' = true) (h1v : ∀ v ∈ [x0, x1, x2], v.oneCell' = true) :
    Calls Try.prog 60 #[.slice (some ⟨g, 0, none⟩) n c, .int .i64 i, .slice (some ⟨vb, 0, none⟩) 1 1] w fun e w' =>
      ∃ G A, e = .returned (.slice (some ⟨w.heap.size, 0, none⟩) (n + 1) G) ∧ n + 1 ≤ G ∧ G ≤ maxLen ∧ w'.heap[w.heap.size]? = some (.cells A 36 (0, 0)) ∧ A.size = G * 3 ∧
        A.toList.take ((n + 1) * 3) = cur.toList.take (i * 3) ++ [x0, x1, x2] ++ (cur.toList.take (n * 3)).drop (i * 3) ∧ Below w.heap.size w w' := by
  have u25 := run_underlying Try.underlying25
  have hs36 : (Try.prog.info? 36).map (·.size) = some 3 := by kernel_rfl
  obtain ⟨i0, hi0, hz0, hzs, hzb⟩ := info_parts (P := Try.prog) (e := 36) (z := .agg #[.int .i64 0, .slice none 0 0, .int .i64 0]) (size := 3) (bytes := 40) (by kernel_rfl)
  have hcl : cur.toList.length = c * 3 := by rw [Array.length_toList]; exact hsz
  obtain ⟨cs, hcs⟩ : ∃ cs, cs = (cur.toList.take (n * 3)).drop (i * 3) := ⟨_, rfl⟩
  have hdl : cs.length = (n - i) * 3 := by rw [hcs, List.length_drop, List.length_take, hcl]; omega
  have h1d : ∀ v ∈ cs, v.oneCell' = true := fun v hv => h1c v (by rw [hcs] at hv; exact List.mem_of_mem_drop hv)
  have hgl : g < w.heap.size := (Array.getElem?_eq_some_iff.1 hg).1
  have hvl : vb < w.heap.size := (Array.getElem?_eq_some_iff.1 hv).1
  obtain ⟨G, hG⟩ : ∃ G, G = grownCap w (n + 1) c 36 := ⟨_, rfl⟩
  have hGn : n + 1 ≤ G := by rw [hG]; exact grownCap_ge w _ _ _
  have hGm : G ≤ maxLen := by rw [hG]; exact grownCap_le_maxLen w (n + 1) c 36 (by unfold maxLen; omega)
  obtain ⟨R, hR⟩ : ∃ R : Array Value, R = (cur.toList.take (i * 3)).toArray ++ Builtin.zeroCells (Value.agg #[.int .i64 0, .slice none 0 0, .int .i64 0]).cells (n + 1 - i) ++ Builtin.zeroCells (Value.agg #[.int .i64 0, .slice none 0 0, .int .i64 0]).cells (G - (n + 1)) := ⟨_, rfl⟩
  have hRs : R.size = G * 3 := by
    rw [hR]
    simp [size_zeroCells, Value.cells, hsz]
    omega
  have hRl : R.toList.length = G * 3 := by rw [Array.length_toList]; exact hRs
  have hRt : R.toList.take (i * 3) = cur.toList.take (i * 3) := by
    rw [hR, Array.toList_append, Array.toList_append, List.append_assoc]
    exact List.take_left' (by rw [List.length_take, hcl]; omega)
  obtain ⟨A1, hA1⟩ : ∃ A1 : Array Value, A1 = (R.toList.take (i * 3) ++ [x0, x1, x2] ++ R.toList.drop (i * 3 + 3)).toArray := ⟨_, rfl⟩
  have hA1s : A1.size = G * 3 := by rw [hA1]; simp [hRs]; omega
  obtain ⟨A2, hA2⟩ : ∃ A2 : Array Value, A2 = (A1.toList.take ((i + 1) * 3) ++ cs ++ A1.toList.drop ((i + 1) * 3 + cs.length)).toArray := ⟨_, rfl⟩
  have hfin : A2.size = G * 3 ∧ A2.toList.take ((n + 1) * 3) = cur.toList.take (i * 3) ++ [x0, x1, x2] ++ cs := by
    have e1 : A1.toList.take ((i + 1) * 3) = cur.toList.take (i * 3) ++ [x0, x1, x2] := by
      rw [hA1, List.toList_toArray, hRt]
      exact List.take_left' (by simp [hsz]; omega)
    have e4 : A2.toList = cur.toList.take (i * 3) ++ [x0, x1, x2] ++ cs ++ A1.toList.drop ((i + 1) * 3 + cs.length) := by rw [hA2, List.toList_toArray, e1]
    refine ⟨?_, ?_⟩
    · rw [← Array.length_toList, e4]
      simp [hdl, hsz, hA1s]
      omega
    · rw [e4]
      exact List.take_left' (by simp [hdl, hsz]; omega)
  have hold : (Builtin.firstCells i0.size i (.slice (some ⟨g, 0, none⟩) i c)).run Try.prog w.drew = .ok (cur.toList.take (i * 3)).toArray w.drew := by
    rw [hzs]
    exact run_firstCells_some w.drew 3 i ⟨g, 0, none⟩ i c (cur.toList.take (i * 3)) (by rw [List.length_take, hcl]; omega) (fun j v hj => by
      rw [Addr.add_lit, Nat.zero_add]
      rw [List.getElem?_take] at hj
      split at hj
      · simp [World.cell?, show w.drew.heap[g]? = some (.cells cur 36 (0, 0)) from hg, ← Array.getElem?_toList, hj]
      · cases hj)
  have hkk : (n : Int) + 1 - (i : Int) = ((n + 1 - i : Nat) : Int) := by omega
  have hik : i + (n + 1 - i) = n + 1 := by omega
  have hrz : ∀ ty, (Builtin.append_ #[25, 3] ty #[.slice (some ⟨g, 0, none⟩) i c, .int .i64 ((n : Int) + 1 - (i : Int))]).run Try.prog w =
      .ok (.slice (some ⟨w.heap.size, 0, none⟩) (n + 1) G) (w.drew.alloc (.cells R 36)) := fun ty => by
    have h := Lib.run_append_grow_zeros w 25 3 ty 36 i0 _ .i64 .i64 Try.underlying25 Try.underlying3 hi0 hz0 (some ⟨g, 0, none⟩) i c (cur.toList.take (i * 3)) hold (n + 1 - i) (by omega) (by omega) (by omega) (by omega) (by rw [hzb]; omega) (by rw [hzb, hik]; exact growslice_fits hroom hbig)
    rw [hik] at h
    rw [hkk, hG, hR, hG]
    exact h
  have hcpA : ∀ (W : World), W.heap[w.heap.size]? = some (.cells R 36 (0, 0)) → W.heap[vb]? = some (.cells #[x0, x1, x2] 36 (0, 0)) → ∀ ty dc, (Builtin.copy_ #[25, 25] ty #[.slice (some ⟨w.heap.size, i * 3, none⟩) (n + 1 - i) dc, .slice (some ⟨vb, 0, none⟩) 1 1]).run Try.prog W = .ok (goInt (Nat.min 1 (n + 1 - i))) (W.setRow w.heap.size A1) := fun W h1 h2 ty dc => by
    have h := run_copy_rows (P := Try.prog) W 25 25 ty 36 3 w.heap.size (i * 3) (n + 1 - i) dc ⟨vb, 0, none⟩ 1 1 R 36 [x0, x1, x2] Try.underlying25 hs36 h1 (by simp only [Nat.min_def, List.length_cons, List.length_nil]; split <;> omega)
      (fun j v hj => by
        rw [Addr.add_lit, Nat.zero_add]
        simp [World.cell?, h2, ← Array.getElem?_toList, hj]) (by simp [hRs]; omega) h1v
    rw [h, hA1]
    rfl
  have hcpB : ∀ (W : World), W.heap[w.heap.size]? = some (.cells A1 36 (0, 0)) → W.heap[g]? = some (.cells cur 36 (0, 0)) → ∀ ty dc sc, (Builtin.copy_ #[25, 25] ty #[.slice (some ⟨w.heap.size, (i + 1) * 3, none⟩) (n - i) dc, .slice (some ⟨g, i * 3, none⟩) (n - i) sc]).run Try.prog W = .ok (goInt (Nat.min (n - i) (n - i))) (W.setRow w.heap.size A2) := fun W h1 h2 ty dc sc => by
    rw [hA2]
    exact run_copy_rows W _ _ ty 36 3 w.heap.size ((i + 1) * 3) (n - i) dc ⟨g, i * 3, none⟩ (n - i) sc A1 36 cs Try.underlying25 hs36 h1 (by rw [hdl]; simp only [Nat.min_def]; split <;> omega)
      (fun j v hj => by
        rw [Addr.add_lit, hcs, List.getElem?_drop, List.getElem?_take] at *
        split at hj
        · simp [World.cell?, h2, ← Array.getElem?_toList, hj]
        · cases hj) (by rw [hdl, hA1s]; omega) h1d
  rw [← hcs]
  have hF : Plain_ _ := ⟨hfin⟩
  have hGm' : Plain_ _ := ⟨hGm⟩
  have hz2 : ¬ ((i : Int) = (n : Int)) := by omega
  have hz3 : (c : Int) < (n : Int) + 1 := by omega
  have mixed : Try.prog.follows .mixedOrders = true := by kernel_rfl
  have hw1 : IntKind.i64.wrap ((i : Int) + 1) = (i : Int) + 1 := by rw [IntKind.wrap_i64]; omega
  have hw2 : IntKind.i64.wrap ((n : Int) + 1) = (n : Int) + 1 := by rw [IntKind.wrap_i64]; omega
  have hw3 : IntKind.i64.wrap ((n : Int) + 1 - (i : Int)) = (n : Int) + 1 - (i : Int) := by rw [IntKind.wrap_i64]; omega
  have hb1 : (0 : Int) ≤ (i : Int) + 1 := by omega
  have htn : ((i : Int) + 1).toNat = i + 1 := by omega
  have hin : i ≤ n := by omega
  have hin2 : i ≤ c := by omega
  have hb2 : ¬ (G = i + 1) := by omega
  have hb3 : (i : Int) ≤ (n : Int) + 1 := by omega
  have hb4 : ¬ (G = i) := by omega
  have hb5 : ¬ (c = i) := by omega
  have hB0 : Plain_ (Below w.heap.size w w) := ⟨Below.refl _ _⟩
  have hA_1 : ((w.alloc (.cells R 36)).drew).heap[w.heap.size]? = some (.cells R 36 (0, 0)) := by
    show (w.heap.push _)[w.heap.size]? = _
    simp
  have hA_2 : ((w.alloc (.cells R 36)).drew).heap[vb]? = some (.cells #[x0, x1, x2] 36 (0, 0)) := (Below.heap_alloc w _ vb hvl).trans hv
  have hA_3 : ((w.alloc (.cells R 36)).drew).heap[g]? = some (.cells cur 36 (0, 0)) := (Below.heap_alloc w _ g hgl).trans hg
  have hB_1 : (((w.alloc (.cells R 36)).drew.setRow w.heap.size A1).drew).heap[w.heap.size]? = some (.cells A1 36 (0, 0)) := setRow_heap _ _ R A1 36 _ hA_1
  have hB_2 : (((w.alloc (.cells R 36)).drew.setRow w.heap.size A1).drew).heap[g]? = some (.cells cur 36 (0, 0)) := (set_other _ A1 (by omega)).trans hA_3
  have hC_1 : Plain_ (((((w.alloc (.cells R 36)).drew.setRow w.heap.size A1).drew).setRow w.heap.size A2).heap[w.heap.size]? = some (.cells A2 36 (0, 0))) := ⟨setRow_heap _ _ A1 A2 36 _ hB_1⟩
  have hC_2 : Plain_ (Below w.heap.size w ((((w.alloc (.cells R 36)).drew.setRow w.heap.size A1).drew).setRow w.heap.size A2)) := ⟨set_below (Below.drew (set_below (Below.drew ((Below.refl _ _).alloc (Nat.le_refl _) _)) (Nat.le_refl _) _)) (Nat.le_refl _) _⟩
  have hcpA := hcpA _ hA_1 hA_2
  have hcpB := hcpB _ hB_1 hB_2
  clear hA_1 hA_2 hA_3 hB_1 hB_2 hgl hvl
  clear hfin hcs hA1 hA2 hA1s hdl hcl h1c h1v h1d hRt hRl hRs hR hGm hold hkk hik hG
  go_enter Try.func60, Try.ntmps60
  go_wp2_with (first
    | (at_builtin; refine Lib.wpList_append_run _ rfl _ _ _ _ rfl _ _ rfl rfl _ _ (hrz _) ?_)
    | (at_builtin; refine list_copy_ _ rfl _ _ 25 25 rfl _ _ rfl rfl (hcpA _ _) ?_))
  go_region_law_o (refine step_copy_ rfl _ _ 25 25 rfl _ _ (by simp [Act.eval, Act.put]) (by simp [Act.eval, Act.put]) (hcpB _ _ _) ?_)
  go_wp2
  go_ret
  exact ⟨G, A2, rfl, hGn, hGm'.out, hC_1.out, hF.out.1, hF.out.2, hC_2.out⟩
theorem run_append_room_row {P : Program} (w : World) (t tx ty e : TypeId) (i : TypeInfo) (ht : P.underlying t = some (.slice e)) (hi : P.info? e = some i) (g n c k : Nat) (x : Value) (news : List Value) (cur : Array Value) (hs : Src P i.size tx x k news w)
    (hg : w.heap[g]? = some (.cells cur e (0, 0))) (hroom : n + k ≤ c) (hfit : n * i.size + news.length ≤ cur.size) :
    (Builtin.append_ #[t, tx] ty #[.slice (some ⟨g, 0, none⟩) n c, x]).run P w = .ok (.slice (some ⟨g, 0, none⟩) (n + k) c) (w.setRow g (cur.toList.take (n * i.size) ++ news ++ cur.toList.drop (n * i.size + news.length)).toArray) := by
  have hst := run_storeCells_at P g (n * i.size) e news 0 cur w hg (by simpa using hfit) hs.one
  simp only [Nat.add_zero] at hst
  rcases hs.kind with ⟨e', hk⟩ | hk <;> simp [Builtin.append_, run_underlying ht, run_underlying hk, sizeOf, typeInfo, hi, hs.len, hroom, hs.cells, Addr.add_lit, hst]
set_option maxHeartbeats 4000000 in
set_option maxRecDepth 100000 in
/-- At the end, there is room. -/
theorem end_room (g n c vb : Nat) (cur : Array Value) (x0 x1 x2 : Value) (w : World) (hroom : n + 1 ≤ c) (hc63 : c ≤ 9223372036854775807)
    (hg : w.heap[g]? = some (.cells cur 36 (0, 0))) (hsz : cur.size = c * 3) (hv : w.heap[vb]? = some (.cells #[x0, x1, x2] 36 (0, 0))) (h1v : ∀ v ∈ [x0, x1, x2], v.oneCell' = true) :
    Calls Try.prog 60 #[.slice (some ⟨g, 0, none⟩) n c, .int .i64 n, .slice (some ⟨vb, 0, none⟩) 1 1] w fun e w' =>
      e = .returned (.slice (some ⟨g, 0, none⟩) (n + 1) c) ∧ ∃ A, w' = w.setRow g A ∧ A.size = c * 3 ∧ A.toList.take ((n + 1) * 3) = cur.toList.take (n * 3) ++ [x0, x1, x2] := by
  have u25 := run_underlying Try.underlying25
  obtain ⟨i0, hi0, hz0, hzs, hzb⟩ := info_parts (P := Try.prog) (e := 36) (z := .agg #[.int .i64 0, .slice none 0 0, .int .i64 0]) (size := 3) (bytes := 40) (by kernel_rfl)
  have hcl : cur.toList.length = c * 3 := by rw [Array.length_toList]; exact hsz
  obtain ⟨A, hA⟩ : ∃ A : Array Value, A = (cur.toList.take (n * 3) ++ [x0, x1, x2] ++ cur.toList.drop (n * 3 + 3)).toArray := ⟨_, rfl⟩
  have hF : Plain_ (A.size = c * 3 ∧ A.toList.take ((n + 1) * 3) = cur.toList.take (n * 3) ++ [x0, x1, x2]) := by
    refine ⟨?_, ?_⟩
    · rw [hA]; simp [hsz]; omega
    · rw [hA, List.toList_toArray]
      exact List.take_left' (by simp [hsz]; omega)
  have hsrc : Src Try.prog i0.size 25 (.slice (some ⟨vb, 0, none⟩) 1 1) 1 [x0, x1, x2] w := by
    rw [hzs]
    exact Src.ofSlice w Try.underlying25 ⟨vb, 0, none⟩ 1 1 [x0, x1, x2] (by simp) (fun j u hj => by rw [Addr.add_lit, Nat.zero_add]; simp [World.cell?, hv, ← Array.getElem?_toList, hj]) h1v
  have hrun : ∀ ty, (Builtin.append_ #[25, 25] ty #[.slice (some ⟨g, 0, none⟩) n c, .slice (some ⟨vb, 0, none⟩) 1 1]).run Try.prog w = .ok (.slice (some ⟨g, 0, none⟩) (n + 1) c) (w.setRow g A) := fun ty => by
    have h := run_append_room_row (P := Try.prog) w 25 25 ty 36 i0 Try.underlying25 hi0 g n c 1 _ [x0, x1, x2] cur hsrc hg hroom (by rw [hzs, hsz]; simp; omega)
    rw [h, hA, hzs]
    rfl
  clear hA hcl hsrc hi0 hz0 hzs hzb
  go_enter Try.func60, Try.ntmps60
  go_wp2_with (at_builtin; refine Lib.wpList_append_run _ rfl _ _ _ _ rfl _ _ rfl rfl _ _ (hrun _) ?_)
  go_ret
  exact ⟨rfl, A, rfl, hF.out⟩
set_option maxHeartbeats 4000000 in
set_option maxRecDepth 100000 in
/-- At the end, there is no room (a nil slice, too): a new block. -/
theorem end_grow (A0 : Option Addr) (n c vb : Nat) (cs : List Value) (x0 x1 x2 : Value) (w : World) (hnc : n ≤ c) (hroom : c < n + 1) (hbig : (n + 1) * 40 ≤ 140737488355328)
    (hcl : cs.length = n * 3) (hnil : A0 = none → n = 0) (hcs : ∀ a, A0 = some a → ∃ g, a = ⟨g, 0, none⟩ ∧ ∃ cur, w.heap[g]? = some (.cells cur 36 (0, 0)) ∧ cur.toList.take (n * 3) = cs)
    (hv : w.heap[vb]? = some (.cells #[x0, x1, x2] 36 (0, 0))) (h1v : ∀ v ∈ [x0, x1, x2], v.oneCell' = true) :
    Calls Try.prog 60 #[.slice A0 n c, .int .i64 n, .slice (some ⟨vb, 0, none⟩) 1 1] w fun e w' =>
      ∃ G A, e = .returned (.slice (some ⟨w.heap.size, 0, none⟩) (n + 1) G) ∧ n + 1 ≤ G ∧ G ≤ maxLen ∧ w'.heap[w.heap.size]? = some (.cells A 36 (0, 0)) ∧ A.size = G * 3 ∧
        A.toList.take ((n + 1) * 3) = cs ++ [x0, x1, x2] ∧ Below w.heap.size w w' := by
  have u25 := run_underlying Try.underlying25
  obtain ⟨i0, hi0, hz0, hzs, hzb⟩ := info_parts (P := Try.prog) (e := 36) (z := .agg #[.int .i64 0, .slice none 0 0, .int .i64 0]) (size := 3) (bytes := 40) (by kernel_rfl)
  obtain ⟨G, hG⟩ : ∃ G, G = grownCap w (n + 1) c 36 := ⟨_, rfl⟩
  have hGn : n + 1 ≤ G := by rw [hG]; exact grownCap_ge w _ _ _
  have hGm : Plain_ (G ≤ maxLen) := ⟨by rw [hG]; exact grownCap_le_maxLen w (n + 1) c 36 (by unfold maxLen; omega)⟩
  obtain ⟨R, hR⟩ : ∃ R : Array Value, R = (cs ++ [x0, x1, x2]).toArray ++ Builtin.zeroCells (Value.agg #[.int .i64 0, .slice none 0 0, .int .i64 0]).cells (G - (n + 1)) := ⟨_, rfl⟩
  have hF : Plain_ (R.size = G * 3 ∧ R.toList.take ((n + 1) * 3) = cs ++ [x0, x1, x2]) := by
    refine ⟨?_, ?_⟩
    · rw [hR]
      simp [size_zeroCells, Value.cells, hcl]
      omega
    · rw [hR, Array.toList_append, List.toList_toArray]
      exact List.take_left' (by simp [hcl]; omega)
  have hsrc : Src Try.prog i0.size 25 (.slice (some ⟨vb, 0, none⟩) 1 1) 1 [x0, x1, x2] w := by
    rw [hzs]
    exact Src.ofSlice w Try.underlying25 ⟨vb, 0, none⟩ 1 1 [x0, x1, x2] (by simp) (fun j u hj => by rw [Addr.add_lit, Nat.zero_add]; simp [World.cell?, hv, ← Array.getElem?_toList, hj]) h1v
  have hold : (Builtin.firstCells i0.size n (.slice A0 n c)).run Try.prog w.drew = .ok cs.toArray w.drew := by
    rw [hzs]
    cases A0 with
    | none =>
      have h0 := hnil rfl
      subst h0
      have hc0 : cs = [] := List.length_eq_zero_iff.1 (by simpa using hcl)
      rw [hc0]
      exact run_firstCells_none w.drew 3 0 0 c
    | some a =>
      obtain ⟨g, rfl, cur, hg, hcur⟩ := hcs a rfl
      exact run_firstCells_some w.drew 3 n ⟨g, 0, none⟩ n c cs hcl (fun j v hj => by
        rw [Addr.add_lit, Nat.zero_add]
        rw [← hcur, List.getElem?_take] at hj
        split at hj
        · simp [World.cell?, show w.drew.heap[g]? = some (.cells cur 36 (0, 0)) from hg, ← Array.getElem?_toList, hj]
        · cases hj)
  have hrun : ∀ ty, (Builtin.append_ #[25, 25] ty #[.slice A0 n c, .slice (some ⟨vb, 0, none⟩) 1 1]).run Try.prog w = .ok (.slice (some ⟨w.heap.size, 0, none⟩) (n + 1) G) (w.drew.alloc (.cells R 36)) := fun ty => by
    have h := run_append_grow_src (P := Try.prog) w 25 25 ty 36 i0 _ Try.underlying25 hi0 hz0 A0 n c cs hold _ 1 [x0, x1, x2] hsrc hroom (by omega) (by rw [hzb]; exact growslice_fits hroom hbig)
    rw [h, hR, hG]
  have hE1 : Plain_ ((w.drew.alloc (.cells R 36)).heap[w.heap.size]? = some (.cells R 36 (0, 0))) := ⟨by show (w.heap.push _)[w.heap.size]? = _; simp⟩
  have hE2 : Plain_ (Below w.heap.size w (w.drew.alloc (.cells R 36))) := ⟨(Below.drew (Below.refl _ _)).alloc (Nat.le_refl _) _⟩
  have hnil2 : Plain_ (A0 = none → n = 0) := ⟨hnil⟩
  clear hR hG hsrc hold hcl hcs hnil hi0 hz0 hzs hzb hnc hroom
  go_enter Try.func60, Try.ntmps60
  cases A0 with
  | none =>
    have h0 := hnil2.out rfl
    subst h0
    go_wp2_with (at_builtin; refine Lib.wpList_append_run _ rfl _ _ _ _ rfl _ _ rfl rfl _ _ (hrun _) ?_)
    go_ret
    first | exact ⟨G, R, rfl, hGn, hGm.out, hE1.out, hF.out.1, hF.out.2, hE2.out⟩ | exact ⟨G, rfl, hGn, hGm.out, R, hE1.out, hF.out.1, hF.out.2, hE2.out⟩ | exact ⟨G, rfl, by simpa using hGn, hGm.out, R, hE1.out, hF.out.1, by simpa using hF.out.2, hE2.out⟩
  | some a =>
    obtain ⟨ab, ao, asp⟩ := a
    go_wp2_with (at_builtin; refine Lib.wpList_append_run _ rfl _ _ _ _ rfl _ _ rfl rfl _ _ (hrun _) ?_)
    all_goals (go_ret; first | exact ⟨G, R, rfl, hGn, hGm.out, hE1.out, hF.out.1, hF.out.2, hE2.out⟩ | exact ⟨G, rfl, hGn, hGm.out, R, hE1.out, hF.out.1, hF.out.2, hE2.out⟩ | exact ⟨G, rfl, by simpa using hGn, hGm.out, R, hE1.out, hF.out.1, by simpa using hF.out.2, hE2.out⟩)
set_option maxHeartbeats 1000000 in
/-- All roads: the row, its cells, what else stays. -/
theorem all (u : Value) (n i vb base : Nat) (inner : List Value) (x0 x1 x2 : Value) (w : World) (ho : w.ownsRow base 36 3 u n inner) (hi : i ≤ n) (hbig : (n + 1) * 40 ≤ 140737488355328) (hvb : u.ownBlock ≠ some vb) (hbase : base ≤ w.heap.size)
    (hv : w.heap[vb]? = some (.cells #[x0, x1, x2] 36 (0, 0))) (h1c : ∀ v ∈ inner, v.oneCell' = true) (h1v : ∀ v ∈ [x0, x1, x2], v.oneCell' = true) :
    Calls Try.prog 60 #[u, .int .i64 i, .slice (some ⟨vb, 0, none⟩) 1 1] w fun e w' => ∃ v, e = .returned v ∧ w'.ownsRow base 36 3 v (n + 1) (inner.take (i * 3) ++ [x0, x1, x2] ++ inner.drop (i * 3)) ∧
      (∃ b, v.ownBlock = some b ∧ (u.ownBlock = some b ∨ b = w.heap.size)) ∧ (∀ k, k < w.heap.size → some k ≠ u.ownBlock → w'.heap[k]? = w.heap[k]?) ∧ ∀ (B : Nat) (W : World), B ≤ base → Below B W w → Below B W w' := by
  obtain ⟨hlen, ho⟩ := ho
  have hm63 : maxLen ≤ 9223372036854775807 := by unfold maxLen; omega
  rcases ho with ⟨rfl, rfl⟩ | ⟨g, c, cur, rfl, hb, hg, hnc, hcm, hsz, htake⟩
  · obtain rfl : i = 0 := by omega
    have hin : inner = [] := List.length_eq_zero_iff.1 (by simpa using hlen)
    subst hin
    refine (end_grow none 0 0 vb [] x0 x1 x2 w (Nat.le_refl _) (by omega) (by omega) rfl (fun _ => rfl) (fun a ha => by cases ha) hv h1v).mono ?_
    rintro e w' ⟨G, A, rfl, h1, h2, h3, h4, h5, h6⟩
    refine ⟨_, rfl, ⟨by simp, .inr ⟨w.heap.size, G, A, rfl, hbase, h3, h1, h2, h4, by simpa using h5⟩⟩, ⟨w.heap.size, rfl, .inr rfl⟩, fun k hk _ => h6.block k hk, fun B W hB hW => hW.trans ⟨h6.os, h6.tape, h6.output, h6.size, fun k hk => h6.block k (by omega)⟩⟩
  · have hne : vb ≠ g := fun e => hvb (by rw [e]; rfl)
    have hgl : g < w.heap.size := (Array.getElem?_eq_some_iff.1 hg).1
    have htk : cur.toList.take (i * 3) = inner.take (i * 3) := by
      rw [← htake, List.take_take]
      congr 1
      omega
    rcases Nat.lt_or_ge i n with hin | hin
    · by_cases hr : n + 1 ≤ c
      · refine (shift g n c i vb cur x0 x1 x2 w hin hr (by omega) hne hg hsz hv (by rw [htake]; exact h1c) h1v).mono ?_
        rintro e w' ⟨rfl, A, rfl, h4, h5⟩
        refine ⟨_, rfl, ⟨by simp; omega, .inr ⟨g, c, A, rfl, hb, setRow_heap _ g cur A 36 _ hg, hr, hcm, h4, by rw [h5, htake, htk]⟩⟩, ⟨g, rfl, .inl rfl⟩, fun k hk hn => set_other _ A (fun e => hn (by rw [e]; rfl)), fun B W hB hW => set_below (Below.drew hW) (by omega) A⟩
      · refine (grow g n c i vb cur x0 x1 x2 w hin hnc (by omega) hbig hne hg hsz hv (by rw [htake]; exact h1c) h1v).mono ?_
        rintro e w' ⟨G, A, rfl, h1, h2, h3, h4, h5, h6⟩
        refine ⟨_, rfl, ⟨by simp; omega, .inr ⟨w.heap.size, G, A, rfl, hbase, h3, h1, h2, h4, by rw [h5, htake, htk]⟩⟩, ⟨w.heap.size, rfl, .inr rfl⟩, fun k hk _ => h6.block k hk, fun B W hB hW => hW.trans ⟨h6.os, h6.tape, h6.output, h6.size, fun k hk => h6.block k (by omega)⟩⟩
    · obtain rfl : i = n := by omega
      have ht : inner.take (i * 3) = inner := List.take_of_length_le (by omega)
      have hd : inner.drop (i * 3) = [] := List.drop_eq_nil_of_le (by omega)
      by_cases hr : i + 1 ≤ c
      · refine (end_room g i c vb cur x0 x1 x2 w hr (by omega) hg hsz hv h1v).mono ?_
        rintro e w' ⟨rfl, A, rfl, h4, h5⟩
        refine ⟨_, rfl, ⟨by simp; omega, .inr ⟨g, c, A, rfl, hb, setRow_heap _ g cur A 36 _ hg, hr, hcm, h4, by rw [h5, htake, ht, hd, List.append_nil]⟩⟩, ⟨g, rfl, .inl rfl⟩, fun k hk hn => set_other _ A (fun e => hn (by rw [e]; rfl)), fun B W hB hW => set_below hW (by omega) A⟩
      · refine (end_grow (some ⟨g, 0, none⟩) i c vb inner x0 x1 x2 w hnc (by omega) hbig hlen (fun h => by cases h) (fun a ha => by cases ha; exact ⟨g, rfl, cur, hg, htake⟩) hv h1v).mono ?_
        rintro e w' ⟨G, A, rfl, h1, h2, h3, h4, h5, h6⟩
        refine ⟨_, rfl, ⟨by simp; omega, .inr ⟨w.heap.size, G, A, rfl, hbase, h3, h1, h2, h4, by rw [h5, ht, hd, List.append_nil]⟩⟩, ⟨w.heap.size, rfl, .inr rfl⟩, fun k hk _ => h6.block k hk, fun B W hB hW => hW.trans ⟨h6.os, h6.tape, h6.output, h6.size, fun k hk => h6.block k (by omega)⟩⟩
end Go.Proofs.Ytfghapankndioaa.Ins
