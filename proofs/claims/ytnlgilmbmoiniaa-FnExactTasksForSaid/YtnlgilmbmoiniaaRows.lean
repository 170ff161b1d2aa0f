/-
  No cell of these rows narrows 'for every input' (looked for: loops, veiled, ifaces, maps, wideKeys, modest, calm, conditions, laid).
  DERIVED. THE GIVEN ROWS OF THIS SEAT. 4 by the template 'for every input the law returns true; each argument reads behind the call as it read before'; 0 by the template 'total and deterministic' (their statements: YtnlgilmbmoiniaaTotals.lean).
  GIVEN WITH THE SEED: the statements are not yours to turn. If you find one false, say at which input.
  Laid BY PROGRAM, IN A SANDBOX (cutbox-rows.mjs): the forced cells as the released guide's own fill.sh prints them over the translation 1ade8e0fd0cfda8f… (all of the seat's roots in one cut). By AI agents, Wed Nov 11 2026. No macro, syntax, notation, axiom, sorry.
-/
import Derived.Test.YtnlgilmbmoiniaaChecked
import GoSem.Claim
import GoSem.ClaimJoined
import GoSem.ClaimMapViews
import Derived.JoinedTies
import Derived.KernelRfl
namespace Go.Proofs.Ytnlgilmbmoiniaa
/- THE CELL 'sum', in the pinned program and in every row, IS THE sha256 OF THE DUMP (.gsa) THAT YtnlgilmbmoiniaaProg.lean LOADS. Nothing in Lean hashes anything: it is a label: what it is worth is what the hold of that sum in a sandbox is worth. -/
noncomputable def Try.pinned : Pinned := { name := "ytnlgilmbmoiniaa", sum := "1ade8e0fd0cfda8f64d9fe35350eccfeae98744d4ee2a007a36572586d8355cf", checked := Try.checked }
namespace Rows
def none {H : Type} : Left H := { results := [], args := [] }

/-- 'laws.FnExactQuiet': WHATEVER THE INPUT: true; the input reads as it did. -/
def fnExactQuietSpec : ChangeSpec := { name := "fnExactQuiet", fn := fun _ => fun
  | [d1, d2] => { results := [.lit (.bool true)], args := [d1, d2] }
  | _ => none }
def fnExactQuietRow : OpenClaim := { program := "ytnlgilmbmoiniaa", sum := "1ade8e0fd0cfda8f64d9fe35350eccfeae98744d4ee2a007a36572586d8355cf", func := "loop.example/g03007/laws.FnExactQuiet", spec := "fnExactQuiet", apart := false }
def FnExactQuietSaid : Prop := fnExactQuietRow.holds Try.pinned (OpenSpec.ofChange fnExactQuietSpec)

/-- ITS FALSE NEIGHBOUR: 'it returns false'. Refute it at one input. -/
def fnExactQuietWrong : ChangeSpec := { name := "fnExactQuiet", fn := fun _ => fun
  | [d1, d2] => { results := [.lit (.bool false)], args := [d1, d2] }
  | _ => none }
def FnExactQuietWrongFalsely : Prop := fnExactQuietRow.holds Try.pinned (OpenSpec.ofChange fnExactQuietWrong)

/-- 'laws.FnExactTasksFor': WHATEVER THE INPUT: true; the input reads as it did. -/
def fnExactTasksForSpec : ChangeSpec := { name := "fnExactTasksFor", fn := fun _ => fun
  | [d1, d2, d3, d4] => { results := [.lit (.bool true)], args := [d1, d2, d3, d4] }
  | _ => none }
def fnExactTasksForRow : OpenClaim := { program := "ytnlgilmbmoiniaa", sum := "1ade8e0fd0cfda8f64d9fe35350eccfeae98744d4ee2a007a36572586d8355cf", func := "loop.example/g03007/laws.FnExactTasksFor", spec := "fnExactTasksFor", unfollowed := true, recurses := true, apart := false }
def FnExactTasksForSaid : Prop := fnExactTasksForRow.holds Try.pinned (OpenSpec.ofChange fnExactTasksForSpec)

/-- ITS FALSE NEIGHBOUR: 'it returns false'. Refute it at one input. -/
def fnExactTasksForWrong : ChangeSpec := { name := "fnExactTasksFor", fn := fun _ => fun
  | [d1, d2, d3, d4] => { results := [.lit (.bool false)], args := [d1, d2, d3, d4] }
  | _ => none }
def FnExactTasksForWrongFalsely : Prop := fnExactTasksForRow.holds Try.pinned (OpenSpec.ofChange fnExactTasksForWrong)

/-- 'laws.FnExactToday': WHATEVER THE INPUT: true; the input reads as it did. -/
def fnExactTodaySpec : ChangeSpec := { name := "fnExactToday", fn := fun _ => fun
  | [d1, d2] => { results := [.lit (.bool true)], args := [d1, d2] }
  | _ => none }
def fnExactTodayRow : OpenClaim := { program := "ytnlgilmbmoiniaa", sum := "1ade8e0fd0cfda8f64d9fe35350eccfeae98744d4ee2a007a36572586d8355cf", func := "loop.example/g03007/laws.FnExactToday", spec := "fnExactToday", apart := false }
def FnExactTodaySaid : Prop := fnExactTodayRow.holds Try.pinned (OpenSpec.ofChange fnExactTodaySpec)

/-- ITS FALSE NEIGHBOUR: 'it returns false'. Refute it at one input. -/
def fnExactTodayWrong : ChangeSpec := { name := "fnExactToday", fn := fun _ => fun
  | [d1, d2] => { results := [.lit (.bool false)], args := [d1, d2] }
  | _ => none }
def FnExactTodayWrongFalsely : Prop := fnExactTodayRow.holds Try.pinned (OpenSpec.ofChange fnExactTodayWrong)

/-- 'laws.FnExactTaskOf': WHATEVER THE INPUT: true; the input reads as it did. -/
def fnExactTaskOfSpec : ChangeSpec := { name := "fnExactTaskOf", fn := fun _ => fun
  | [d1, d2, d3, d4] => { results := [.lit (.bool true)], args := [d1, d2, d3, d4] }
  | _ => none }
def fnExactTaskOfRow : OpenClaim := { program := "ytnlgilmbmoiniaa", sum := "1ade8e0fd0cfda8f64d9fe35350eccfeae98744d4ee2a007a36572586d8355cf", func := "loop.example/g03007/laws.FnExactTaskOf", spec := "fnExactTaskOf", unfollowed := true, recurses := true, apart := false }
def FnExactTaskOfSaid : Prop := fnExactTaskOfRow.holds Try.pinned (OpenSpec.ofChange fnExactTaskOfSpec)

/-- ITS FALSE NEIGHBOUR: 'it returns false'. Refute it at one input. -/
def fnExactTaskOfWrong : ChangeSpec := { name := "fnExactTaskOf", fn := fun _ => fun
  | [d1, d2, d3, d4] => { results := [.lit (.bool false)], args := [d1, d2, d3, d4] }
  | _ => none }
def FnExactTaskOfWrongFalsely : Prop := fnExactTaskOfRow.holds Try.pinned (OpenSpec.ofChange fnExactTaskOfWrong)

/- THE SECOND FORM. 'bulk': how many values and letters a reading holds, each counted each time it is reached (what is shared counts as often as it is met; a slice's spare places count too). A statement '..UptoSaid' is the law's where the arguments, and the package variables that the reading takes, are together of bulk at most 1048576: NARROWER than '..Said'. Prove '..Said' where nothing that the law and all that it calls make is longer than what came in: it says more and counts as full. Else prove '..UptoSaid'. A law counts once. -/
mutual
def uptoBulk {H : Type} : DataW H → Nat
  | .lit (.string bytes) => bytes.length + 1
  | .lit _ => 1
  | .nil => 1
  | .ptr d => uptoBulk d + 1
  | .slice elems spare => uptoBulkAll elems + uptoBulkAll spare + 1
  | .agg parts => uptoBulkAll parts + 1
  | .iface _ d => uptoBulk d + 1
  | .map entries => uptoBulkEntries entries + 1
  | .held _ => 1
def uptoBulkAll {H : Type} : List (DataW H) → Nat
  | [] => 0
  | d :: r => uptoBulk d + uptoBulkAll r
def uptoBulkEntries {H : Type} : List (Lit × DataW H) → Nat
  | [] => 0
  | x :: r => uptoBulkEntry x + uptoBulkEntries r
def uptoBulkEntry {H : Type} : Lit × DataW H → Nat
  | (.string bytes, d) => bytes.length + uptoBulk d + 1
  | (_, d) => uptoBulk d + 1
 end
def uptoSmall : (H : Type) → List (DataW H) → Bool := fun _ ds => decide (uptoBulkAll ds ≤ 1048576)
def OpenSpec.upto (s : _root_.Go.ChangeSpec) : _root_.Go.OpenSpec := { _root_.Go.OpenSpec.ofChange s with cond := some uptoSmall }

/-- 'laws.FnExactQuiet', WHERE WHAT IT READS IS OF BULK AT MOST 1048576: true; the input reads as it did. -/
def fnExactQuietUptoRow : OpenClaim := { program := "ytnlgilmbmoiniaa", sum := "1ade8e0fd0cfda8f64d9fe35350eccfeae98744d4ee2a007a36572586d8355cf", func := "loop.example/g03007/laws.FnExactQuiet", spec := "fnExactQuiet", apart := false, narrowed := true }
def FnExactQuietUptoSaid : Prop := fnExactQuietUptoRow.holds Try.pinned (OpenSpec.upto fnExactQuietSpec)

/-- 'laws.FnExactTasksFor', WHERE WHAT IT READS IS OF BULK AT MOST 1048576: true; the input reads as it did. -/
def fnExactTasksForUptoRow : OpenClaim := { program := "ytnlgilmbmoiniaa", sum := "1ade8e0fd0cfda8f64d9fe35350eccfeae98744d4ee2a007a36572586d8355cf", func := "loop.example/g03007/laws.FnExactTasksFor", spec := "fnExactTasksFor", unfollowed := true, recurses := true, apart := false, narrowed := true }
def FnExactTasksForUptoSaid : Prop := fnExactTasksForUptoRow.holds Try.pinned (OpenSpec.upto fnExactTasksForSpec)

/-- 'laws.FnExactToday', WHERE WHAT IT READS IS OF BULK AT MOST 1048576: true; the input reads as it did. -/
def fnExactTodayUptoRow : OpenClaim := { program := "ytnlgilmbmoiniaa", sum := "1ade8e0fd0cfda8f64d9fe35350eccfeae98744d4ee2a007a36572586d8355cf", func := "loop.example/g03007/laws.FnExactToday", spec := "fnExactToday", apart := false, narrowed := true }
def FnExactTodayUptoSaid : Prop := fnExactTodayUptoRow.holds Try.pinned (OpenSpec.upto fnExactTodaySpec)

/-- 'laws.FnExactTaskOf', WHERE WHAT IT READS IS OF BULK AT MOST 1048576: true; the input reads as it did. -/
def fnExactTaskOfUptoRow : OpenClaim := { program := "ytnlgilmbmoiniaa", sum := "1ade8e0fd0cfda8f64d9fe35350eccfeae98744d4ee2a007a36572586d8355cf", func := "loop.example/g03007/laws.FnExactTaskOf", spec := "fnExactTaskOf", unfollowed := true, recurses := true, apart := false, narrowed := true }
def FnExactTaskOfUptoSaid : Prop := fnExactTaskOfUptoRow.holds Try.pinned (OpenSpec.upto fnExactTaskOfSpec)

end Rows
end Go.Proofs.Ytnlgilmbmoiniaa
