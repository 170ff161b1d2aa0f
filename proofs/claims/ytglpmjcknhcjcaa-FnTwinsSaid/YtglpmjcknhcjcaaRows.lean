/-
  No cell of these rows narrows 'for every input' (looked for: loops, veiled, ifaces, maps, wideKeys, modest, calm, conditions, laid).
  DERIVED. THE GIVEN ROWS OF THIS SEAT. 5 by the template 'for every input the law returns true; each argument reads behind the call as it read before'; 0 by the template 'total and deterministic' (their statements: YtglpmjcknhcjcaaTotals.lean).
  GIVEN WITH THE SEED: the statements are not yours to turn. If you find one false, say at which input.
  Laid BY PROGRAM, IN A SANDBOX (cutbox-rows.mjs): the forced cells as the released guide's own fill.sh prints them over the translation 422526a2ff9de63a… (all of the seat's roots in one cut). By AI agents, Wed Nov 11 2026. No macro, syntax, notation, axiom, sorry.
-/
import Derived.Test.YtglpmjcknhcjcaaChecked
import GoSem.Claim
import GoSem.ClaimJoined
import GoSem.ClaimMapViews
import Derived.JoinedTies
import Derived.KernelRfl
namespace Go.Proofs.Ytglpmjcknhcjcaa
/- THE CELL 'sum', in the pinned program and in every row, IS THE sha256 OF THE DUMP (.gsa) THAT YtglpmjcknhcjcaaProg.lean LOADS. Nothing in Lean hashes anything: it is a label: what it is worth is what the hold of that sum in a sandbox is worth. -/
noncomputable def Try.pinned : Pinned := { name := "ytglpmjcknhcjcaa", sum := "422526a2ff9de63a09901e5ae7ff51a8a40ab81796fc0d1d67b406f7ae94f34a", checked := Try.checked }
namespace Rows
def none {H : Type} : Left H := { results := [], args := [] }

/-- 'laws.FnExactTwinsOf': WHATEVER THE INPUT: true; the input reads as it did. -/
def fnExactTwinsOfSpec : ChangeSpec := { name := "fnExactTwinsOf", fn := fun _ => fun
  | [d] => { results := [.lit (.bool true)], args := [d] }
  | _ => none }
def fnExactTwinsOfRow : OpenClaim := { program := "ytglpmjcknhcjcaa", sum := "422526a2ff9de63a09901e5ae7ff51a8a40ab81796fc0d1d67b406f7ae94f34a", func := "loop.example/g03007/laws.FnExactTwinsOf", spec := "fnExactTwinsOf", unfollowed := true, recurses := true, apart := false }
def FnExactTwinsOfSaid : Prop := fnExactTwinsOfRow.holds Try.pinned (OpenSpec.ofChange fnExactTwinsOfSpec)

/-- ITS FALSE NEIGHBOUR: 'it returns false'. Refute it at one input. -/
def fnExactTwinsOfWrong : ChangeSpec := { name := "fnExactTwinsOf", fn := fun _ => fun
  | [d] => { results := [.lit (.bool false)], args := [d] }
  | _ => none }
def FnExactTwinsOfWrongFalsely : Prop := fnExactTwinsOfRow.holds Try.pinned (OpenSpec.ofChange fnExactTwinsOfWrong)

/-- 'laws.FnExactSameOwner': WHATEVER THE INPUT: true; the input reads as it did. -/
def fnExactSameOwnerSpec : ChangeSpec := { name := "fnExactSameOwner", fn := fun _ => fun
  | [d1, d2] => { results := [.lit (.bool true)], args := [d1, d2] }
  | _ => none }
def fnExactSameOwnerRow : OpenClaim := { program := "ytglpmjcknhcjcaa", sum := "422526a2ff9de63a09901e5ae7ff51a8a40ab81796fc0d1d67b406f7ae94f34a", func := "loop.example/g03007/laws.FnExactSameOwner", spec := "fnExactSameOwner", apart := false }
def FnExactSameOwnerSaid : Prop := fnExactSameOwnerRow.holds Try.pinned (OpenSpec.ofChange fnExactSameOwnerSpec)

/-- ITS FALSE NEIGHBOUR: 'it returns false'. Refute it at one input. -/
def fnExactSameOwnerWrong : ChangeSpec := { name := "fnExactSameOwner", fn := fun _ => fun
  | [d1, d2] => { results := [.lit (.bool false)], args := [d1, d2] }
  | _ => none }
def FnExactSameOwnerWrongFalsely : Prop := fnExactSameOwnerRow.holds Try.pinned (OpenSpec.ofChange fnExactSameOwnerWrong)

/-- 'laws.FnExactDropTwins': WHATEVER THE INPUT: true; the input reads as it did. -/
def fnExactDropTwinsSpec : ChangeSpec := { name := "fnExactDropTwins", fn := fun _ => fun
  | [d] => { results := [.lit (.bool true)], args := [d] }
  | _ => none }
def fnExactDropTwinsRow : OpenClaim := { program := "ytglpmjcknhcjcaa", sum := "422526a2ff9de63a09901e5ae7ff51a8a40ab81796fc0d1d67b406f7ae94f34a", func := "loop.example/g03007/laws.FnExactDropTwins", spec := "fnExactDropTwins", unfollowed := true, recurses := true, apart := false }
def FnExactDropTwinsSaid : Prop := fnExactDropTwinsRow.holds Try.pinned (OpenSpec.ofChange fnExactDropTwinsSpec)

/-- ITS FALSE NEIGHBOUR: 'it returns false'. Refute it at one input. -/
def fnExactDropTwinsWrong : ChangeSpec := { name := "fnExactDropTwins", fn := fun _ => fun
  | [d] => { results := [.lit (.bool false)], args := [d] }
  | _ => none }
def FnExactDropTwinsWrongFalsely : Prop := fnExactDropTwinsRow.holds Try.pinned (OpenSpec.ofChange fnExactDropTwinsWrong)

/-- 'laws.FnExactGroupReports': WHATEVER THE INPUT: true; the input reads as it did. -/
def fnExactGroupReportsSpec : ChangeSpec := { name := "fnExactGroupReports", fn := fun _ => fun
  | [d] => { results := [.lit (.bool true)], args := [d] }
  | _ => none }
def fnExactGroupReportsRow : OpenClaim := { program := "ytglpmjcknhcjcaa", sum := "422526a2ff9de63a09901e5ae7ff51a8a40ab81796fc0d1d67b406f7ae94f34a", func := "loop.example/g03007/laws.FnExactGroupReports", spec := "fnExactGroupReports", apart := false }
def FnExactGroupReportsSaid : Prop := fnExactGroupReportsRow.holds Try.pinned (OpenSpec.ofChange fnExactGroupReportsSpec)

/-- ITS FALSE NEIGHBOUR: 'it returns false'. Refute it at one input. -/
def fnExactGroupReportsWrong : ChangeSpec := { name := "fnExactGroupReports", fn := fun _ => fun
  | [d] => { results := [.lit (.bool false)], args := [d] }
  | _ => none }
def FnExactGroupReportsWrongFalsely : Prop := fnExactGroupReportsRow.holds Try.pinned (OpenSpec.ofChange fnExactGroupReportsWrong)

/-- 'laws.FnTwins': WHATEVER THE INPUT: true; the input reads as it did. -/
def fnTwinsSpec : ChangeSpec := { name := "fnTwins", fn := fun _ => fun
  | [d] => { results := [.lit (.bool true)], args := [d] }
  | _ => none }
def fnTwinsRow : OpenClaim := { program := "ytglpmjcknhcjcaa", sum := "422526a2ff9de63a09901e5ae7ff51a8a40ab81796fc0d1d67b406f7ae94f34a", func := "loop.example/g03007/laws.FnTwins", spec := "fnTwins", unfollowed := true, recurses := true, apart := false }
def FnTwinsSaid : Prop := fnTwinsRow.holds Try.pinned (OpenSpec.ofChange fnTwinsSpec)

/-- ITS FALSE NEIGHBOUR: 'it returns false'. Refute it at one input. -/
def fnTwinsWrong : ChangeSpec := { name := "fnTwins", fn := fun _ => fun
  | [d] => { results := [.lit (.bool false)], args := [d] }
  | _ => none }
def FnTwinsWrongFalsely : Prop := fnTwinsRow.holds Try.pinned (OpenSpec.ofChange fnTwinsWrong)

/- THE SECOND FORM. 'bulk': how many values and letters a reading holds, each counted each time it is reached (what is shared counts as often as it is met; a slice's spare places count too). A statement '..UptoSaid' is the law's where the arguments, and the package variables that the reading takes, are together of bulk at most 1048576: NARROWER than '..Said'. Prove '..Said' where nothing that the law and all that it calls make is longer than what came in: it says more and counts as full. Else prove '..UptoSaid'. A law counts once. -/
mutual
def uptoBulk {H : Type} : DataW H → Nat
  | .lit (.string bytes) => bytes.length + 1
  | .lit _ => 1
  | .nil => 1
  | .ptr d => uptoBulk d + 1
  | .slice elems spare => uptoBulkAll elems + uptoBulkAll spare + 1
  | .agg parts => uptoBulkAll parts + 1
  | .iface _ d => uptoBulk d + 1
  | .map entries => uptoBulkEntries entries + 1
  | .held _ => 1
def uptoBulkAll {H : Type} : List (DataW H) → Nat
  | [] => 0
  | d :: r => uptoBulk d + uptoBulkAll r
def uptoBulkEntries {H : Type} : List (Lit × DataW H) → Nat
  | [] => 0
  | x :: r => uptoBulkEntry x + uptoBulkEntries r
def uptoBulkEntry {H : Type} : Lit × DataW H → Nat
  | (.string bytes, d) => bytes.length + uptoBulk d + 1
  | (_, d) => uptoBulk d + 1
 end
def uptoSmall : (H : Type) → List (DataW H) → Bool := fun _ ds => decide (uptoBulkAll ds ≤ 1048576)
def OpenSpec.upto (s : _root_.Go.ChangeSpec) : _root_.Go.OpenSpec := { _root_.Go.OpenSpec.ofChange s with cond := some uptoSmall }

/-- 'laws.FnExactTwinsOf', WHERE WHAT IT READS IS OF BULK AT MOST 1048576: true; the input reads as it did. -/
def fnExactTwinsOfUptoRow : OpenClaim := { program := "ytglpmjcknhcjcaa", sum := "422526a2ff9de63a09901e5ae7ff51a8a40ab81796fc0d1d67b406f7ae94f34a", func := "loop.example/g03007/laws.FnExactTwinsOf", spec := "fnExactTwinsOf", unfollowed := true, recurses := true, apart := false, narrowed := true }
def FnExactTwinsOfUptoSaid : Prop := fnExactTwinsOfUptoRow.holds Try.pinned (OpenSpec.upto fnExactTwinsOfSpec)

/-- 'laws.FnExactSameOwner', WHERE WHAT IT READS IS OF BULK AT MOST 1048576: true; the input reads as it did. -/
def fnExactSameOwnerUptoRow : OpenClaim := { program := "ytglpmjcknhcjcaa", sum := "422526a2ff9de63a09901e5ae7ff51a8a40ab81796fc0d1d67b406f7ae94f34a", func := "loop.example/g03007/laws.FnExactSameOwner", spec := "fnExactSameOwner", apart := false, narrowed := true }
def FnExactSameOwnerUptoSaid : Prop := fnExactSameOwnerUptoRow.holds Try.pinned (OpenSpec.upto fnExactSameOwnerSpec)

/-- 'laws.FnExactDropTwins', WHERE WHAT IT READS IS OF BULK AT MOST 1048576: true; the input reads as it did. -/
def fnExactDropTwinsUptoRow : OpenClaim := { program := "ytglpmjcknhcjcaa", sum := "422526a2ff9de63a09901e5ae7ff51a8a40ab81796fc0d1d67b406f7ae94f34a", func := "loop.example/g03007/laws.FnExactDropTwins", spec := "fnExactDropTwins", unfollowed := true, recurses := true, apart := false, narrowed := true }
def FnExactDropTwinsUptoSaid : Prop := fnExactDropTwinsUptoRow.holds Try.pinned (OpenSpec.upto fnExactDropTwinsSpec)

/-- 'laws.FnExactGroupReports', WHERE WHAT IT READS IS OF BULK AT MOST 1048576: true; the input reads as it did. -/
def fnExactGroupReportsUptoRow : OpenClaim := { program := "ytglpmjcknhcjcaa", sum := "422526a2ff9de63a09901e5ae7ff51a8a40ab81796fc0d1d67b406f7ae94f34a", func := "loop.example/g03007/laws.FnExactGroupReports", spec := "fnExactGroupReports", apart := false, narrowed := true }
def FnExactGroupReportsUptoSaid : Prop := fnExactGroupReportsUptoRow.holds Try.pinned (OpenSpec.upto fnExactGroupReportsSpec)

/-- 'laws.FnTwins', WHERE WHAT IT READS IS OF BULK AT MOST 1048576: true; the input reads as it did. -/
def fnTwinsUptoRow : OpenClaim := { program := "ytglpmjcknhcjcaa", sum := "422526a2ff9de63a09901e5ae7ff51a8a40ab81796fc0d1d67b406f7ae94f34a", func := "loop.example/g03007/laws.FnTwins", spec := "fnTwins", unfollowed := true, recurses := true, apart := false, narrowed := true }
def FnTwinsUptoSaid : Prop := fnTwinsUptoRow.holds Try.pinned (OpenSpec.upto fnTwinsSpec)

end Rows
end Go.Proofs.Ytglpmjcknhcjcaa
