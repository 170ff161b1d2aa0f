/- Opening an argument of a law: what a reading of it tells, kind by kind. -/
import Derived.Test.YtglpmjcknhcjcaaWWords
import Derived.WideShapes
import Derived.ChangeArms
import Derived.ChangeSlices
namespace Go.Proofs.Ytglpmjcknhcjcaa.Opn
open Go Go.ChangeShapes Go.WideShapes Go.Proofs.YtglpmjcknhcjcaaW.PrintWords

/-- Whatever is read at type t is of this kind, and what is known of it. -/
def Opn {α : Type} (P : Program) (w : World) (d : Kd α) (t : TypeId) (wf : α → Prop) : Prop :=
  ∀ (H : Type) (enc : TypeId × Value → H) (fuel : Nat) (cs : List Value) (x : DataW H × List MemPlace),
    DataW.trod enc P w 0 (fun _ => true) true fuel t cs = some x → ∃ a, d.K w a cs ∧ wf a

/-- The same of the fields of a struct, from an offset on. -/
def OpnL {α : Type} (P : Program) (w : World) (d : Kd α) (fs : List Field) (off : Nat) (wf : α → Prop) : Prop :=
  ∀ (H : Type) (enc : TypeId × Value → H) (fuel : Nat) (cs : List Value) (xs : List (DataW H × List MemPlace)), cs.length = off + d.sz →
    xs.length = fs.length →
    (∀ (i : Nat) (f : Field), fs[i]? = some f → DataW.trod enc P w 0 (fun _ => true) true fuel f.type ((cs.drop f.offset).take (P.cellsOf f.type)) = xs[i]?) →
    ∃ a, d.K w a (cs.drop off) ∧ wf a

section
variable {P : Program} {w : World} {t e : TypeId}

theorem opn_int {k : IntKind} (ht : P.underlying t = some (.int k)) : Opn P w (Kd.int k) t (fun n => (Lit.int k n).wf = true) := by
  intro H enc fuel cs x h
  obtain ⟨n, rfl, _, hw⟩ := DataW.trod_int ht h
  exact ⟨n, rfl, hw⟩

theorem opn_bool (ht : P.underlying t = some .bool) : Opn P w Kd.bool t (fun _ => True) := by
  intro H enc fuel cs x h
  obtain ⟨n, rfl, _⟩ := DataW.trod_bool ht h
  exact ⟨n, rfl, trivial⟩

theorem opn_string (ht : P.underlying t = some .string) : Opn P w Kd.string t (fun s => s.size ≤ maxLen) := by
  intro H enc fuel cs x h
  obtain ⟨n, rfl, _, hs⟩ := DataW.trod_string ht h
  exact ⟨n, rfl, hs⟩

theorem opn_slice {α : Type} {d : Kd α} {wf : α → Prop} (ht : P.underlying t = some (.slice e)) (hc : P.cellsOf e = d.sz) (he : Opn P w d e wf) :
    Opn P w (Kd.slice e d) t (fun xs => xs.length ≤ maxLen ∧ ∀ x ∈ xs, wf x) := by
  intro H enc fuel cs x h
  rcases DataW.trod_slice ht h with ⟨rfl, _⟩ | ⟨a, len, cap, elems, rest, n, _, rfl, _, hb, hl, hm, hlen, hel, _, _⟩
  · exact ⟨[], ⟨none, 0, rfl, Nat.le_refl _, ⟨rfl, by simp, fun h => absurd h (Nat.lt_irrefl 0)⟩⟩, by simp⟩
  · have key : ∀ i, i < len → ∃ y c, w.cells? 0 (a.add (i * P.cellsOf e)) (P.cellsOf e) = some c ∧ d.K w y c ∧ wf y := by
      intro i hi
      have h1 := hel i hi
      rw [List.getElem?_eq_getElem (by omega), Option.bind_eq_some_iff] at h1
      obtain ⟨c, hc1, hc2⟩ := h1
      obtain ⟨y, hy1, hy2⟩ := he H enc n c _ hc2
      exact ⟨y, c, hc1, hy1, hy2⟩
    have mk : ∀ m, m ≤ len → ∃ ys : List α, ys.length = m ∧ (∀ y ∈ ys, wf y) ∧ ∀ j p, ys[j]? = some p → ∃ c, w.cells? 0 (a.add (j * P.cellsOf e)) (P.cellsOf e) = some c ∧ d.K w p c := by
      intro m
      induction m with
      | zero => exact fun _ => ⟨[], rfl, by simp, fun j p h => by simp at h⟩
      | succ m ih =>
        intro hm
        obtain ⟨ys, hy1, hy2, hy3⟩ := ih (by omega)
        obtain ⟨y, c, hc1, hk, hw⟩ := key m (by omega)
        refine ⟨ys ++ [y], by simp [hy1], ?_, ?_⟩
        · intro z hz
          rcases List.mem_append.1 hz with hz | hz
          · exact hy2 z hz
          · rw [List.mem_singleton.1 hz]; exact hw
        · intro j p hj
          rcases Nat.lt_or_ge j ys.length with hlt | hge
          · rw [List.getElem?_append_left hlt] at hj
            exact hy3 j p hj
          · have hj' : j = ys.length := by
              have := (List.getElem?_eq_some_iff.1 hj).1
              rw [List.length_append, List.length_singleton] at this
              omega
            subst hj'
            have : y = p := by simpa using hj
            subst this
            rw [hy1]
            exact ⟨c, hc1, hk⟩
    obtain ⟨ys, hy1, hy2, hy3⟩ := mk len (Nat.le_refl _)
    have hml : len ≤ maxLen := Nat.le_trans hl hm
    refine ⟨ys, ⟨some a, cap, by rw [hy1], by omega, ⟨rfl, by unfold maxLen at hml; omega, fun _ => ⟨a, rfl, fun j p hj => ?_⟩⟩⟩, by omega, hy2⟩
    obtain ⟨c, hc1, hk⟩ := hy3 j p hj
    obtain ⟨_, hcl, hcell⟩ := World.cells?_some hc1
    refine ⟨c, by rw [hcl, hc], hk, fun i u hu => ?_⟩
    have hi : i < P.cellsOf e := by rw [← hcl]; exact (List.getElem?_eq_some_iff.1 hu).1
    have := hcell i hi
    rw [hu] at this
    rw [← hc, ← this]
    simp [Addr.add_add]

theorem opnL_one {α : Type} {d : Kd α} {wf : α → Prop} {f : Field} {off : Nat} (ho : f.offset = off) (hc : P.cellsOf f.type = d.sz) (h : Opn P w d f.type wf) : OpnL P w d [f] off wf := by
  intro H enc fuel cs xs hl hx hf
  have h0 := hf 0 f rfl
  rw [List.getElem?_eq_getElem (by rw [hx]; exact Nat.zero_lt_one), ho, hc, List.take_of_length_le (by simp; omega)] at h0
  exact h H enc fuel _ _ h0

theorem opnL_cons {α β : Type} {d : Kd α} {d' : Kd β} {wf : α → Prop} {wf' : β → Prop} {f : Field} {fs : List Field} {off : Nat} (ho : f.offset = off) (hc : P.cellsOf f.type = d.sz) (h : Opn P w d f.type wf) (h' : OpnL P w d' fs (off + d.sz) wf') :
    OpnL P w (Kd.pair d d') (f :: fs) off (fun p => wf p.1 ∧ wf' p.2) := by
  intro H enc fuel cs xs hl hx hf
  have hl' : cs.length = off + (d.sz + d'.sz) := hl
  have h0 := hf 0 f rfl
  rw [List.getElem?_eq_getElem (by rw [hx]; simp), ho, hc] at h0
  obtain ⟨a, ha, hwa⟩ := h H enc fuel _ _ h0
  obtain ⟨b, hb, hwb⟩ := h' H enc fuel cs xs.tail (by omega) (by simp [hx]) (fun i g hg => by
    have := hf (i + 1) g (by simpa using hg)
    rw [this]
    cases xs with
    | nil => simp at hx
    | cons x xs => simp)
  refine ⟨(a, b), ⟨(cs.drop off).take d.sz, cs.drop (off + d.sz), ?_, ha, hb⟩, hwa, hwb⟩
  rw [← List.drop_drop, List.take_append_drop]

theorem opnL_iso {α β : Type} {d : Kd α} {wf : α → Prop} {fs : List Field} {off : Nat} (f : β → α) (g : α → β) (hfg : ∀ a, f (g a) = a) (h : OpnL P w d fs off wf) : OpnL P w (Kd.iso d f) fs off (fun b => wf (f b)) := by
  intro H enc fuel cs xs hl hx hf
  obtain ⟨a, ha, hw⟩ := h H enc fuel cs xs hl hx hf
  refine ⟨g a, ?_, by show wf (f (g a)); rw [hfg]; exact hw⟩
  show d.K w (f (g a)) _
  rw [hfg]
  exact ha

theorem opn_struct {α : Type} {d : Kd α} {wf : α → Prop} {fs : Array Field} (ht : P.underlying t = some (.struct fs)) (hc : P.cellsOf t = d.sz) (h : OpnL P w d fs.toList 0 wf) : Opn P w d t wf := by
  intro H enc fuel cs x hx
  obtain ⟨xs, n, _, _, hl, hxl, hf⟩ := DataW.trod_struct ht hx
  obtain ⟨a, ha, hw⟩ := h H enc n cs xs (by omega) (by simpa using hxl) (fun i f hi => hf i f (by simpa using hi))
  exact ⟨a, by simpa using ha, hw⟩

/-- A struct by value: its cells. -/
theorem okWide_agg {fs : Array Field} {r : Reach} {base : Nat} {v : Value} (ht : P.underlying t = some (.struct fs)) (h : Value.okWide P w r base t v) : ∃ cs, v = .agg cs := by
  simp only [Value.okWide, ht] at h
  obtain ⟨cs, rfl, _⟩ := h
  exact ⟨cs, rfl⟩

theorem opened {α : Type} {d : Kd α} {wf : α → Prop} {H : Type} {enc : TypeId × Value → H} {v : Value} {x : DataW H} {ps : List MemPlace} (h : Opn P w d t wf) (ht : DataW.Trod enc P w 0 (fun _ => true) true t v x ps) : ∃ a, d.K w a v.cells.toList ∧ wf a := by
  obtain ⟨fuel, hf⟩ := ht
  exact h H enc fuel _ _ hf
end
end Go.Proofs.Ytglpmjcknhcjcaa.Opn
