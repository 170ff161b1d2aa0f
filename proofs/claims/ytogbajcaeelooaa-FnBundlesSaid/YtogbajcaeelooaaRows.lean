/-
  No cell of these rows narrows 'for every input' (looked for: loops, veiled, ifaces, maps, wideKeys, modest, calm, conditions, laid).
  DERIVED. THE GIVEN ROWS OF THIS SEAT. 7 by the template 'for every input the law returns true; each argument reads behind the call as it read before'; 0 by the template 'total and deterministic' (their statements: YtogbajcaeelooaaTotals.lean).
  GIVEN WITH THE SEED: the statements are not yours to turn. If you find one false, say at which input.
  Laid BY PROGRAM, IN A SANDBOX (cutbox-rows.mjs): the forced cells as the released guide's own fill.sh prints them over the translation befeda0dee4664c3… (all of the seat's roots in one cut). By AI agents, Wed Nov 11 2026. No macro, syntax, notation, axiom, sorry.
-/
import Derived.Test.YtogbajcaeelooaaChecked
import GoSem.Claim
import GoSem.ClaimJoined
import GoSem.ClaimMapViews
import Derived.JoinedTies
import Derived.KernelRfl
namespace Go.Proofs.Ytogbajcaeelooaa
/- THE CELL 'sum', in the pinned program and in every row, IS THE sha256 OF THE DUMP (.gsa) THAT YtogbajcaeelooaaProg.lean LOADS. Nothing in Lean hashes anything: it is a label: what it is worth is what the hold of that sum in a sandbox is worth. -/
noncomputable def Try.pinned : Pinned := { name := "ytogbajcaeelooaa", sum := "befeda0dee4664c38709926f5af003494f4b972d41abfb0dbd7315fa3ae77dd7", checked := Try.checked }
namespace Rows
def none {H : Type} : Left H := { results := [], args := [] }

/-- 'laws.FnExactOuterOf': WHATEVER THE INPUT: true; the input reads as it did. -/
def fnExactOuterOfSpec : ChangeSpec := { name := "fnExactOuterOf", fn := fun _ => fun
  | [d1, d2] => { results := [.lit (.bool true)], args := [d1, d2] }
  | _ => none }
def fnExactOuterOfRow : OpenClaim := { program := "ytogbajcaeelooaa", sum := "befeda0dee4664c38709926f5af003494f4b972d41abfb0dbd7315fa3ae77dd7", func := "loop.example/g03007/laws.FnExactOuterOf", spec := "fnExactOuterOf", unfollowed := true, recurses := true, apart := false }
def FnExactOuterOfSaid : Prop := fnExactOuterOfRow.holds Try.pinned (OpenSpec.ofChange fnExactOuterOfSpec)

/-- ITS FALSE NEIGHBOUR: 'it returns false'. Refute it at one input. -/
def fnExactOuterOfWrong : ChangeSpec := { name := "fnExactOuterOf", fn := fun _ => fun
  | [d1, d2] => { results := [.lit (.bool false)], args := [d1, d2] }
  | _ => none }
def FnExactOuterOfWrongFalsely : Prop := fnExactOuterOfRow.holds Try.pinned (OpenSpec.ofChange fnExactOuterOfWrong)

/-- 'laws.FnExactAreInners': WHATEVER THE INPUT: true; the input reads as it did. -/
def fnExactAreInnersSpec : ChangeSpec := { name := "fnExactAreInners", fn := fun _ => fun
  | [d] => { results := [.lit (.bool true)], args := [d] }
  | _ => none }
def fnExactAreInnersRow : OpenClaim := { program := "ytogbajcaeelooaa", sum := "befeda0dee4664c38709926f5af003494f4b972d41abfb0dbd7315fa3ae77dd7", func := "loop.example/g03007/laws.FnExactAreInners", spec := "fnExactAreInners", unfollowed := true, recurses := true, apart := false }
def FnExactAreInnersSaid : Prop := fnExactAreInnersRow.holds Try.pinned (OpenSpec.ofChange fnExactAreInnersSpec)

/-- ITS FALSE NEIGHBOUR: 'it returns false'. Refute it at one input. -/
def fnExactAreInnersWrong : ChangeSpec := { name := "fnExactAreInners", fn := fun _ => fun
  | [d] => { results := [.lit (.bool false)], args := [d] }
  | _ => none }
def FnExactAreInnersWrongFalsely : Prop := fnExactAreInnersRow.holds Try.pinned (OpenSpec.ofChange fnExactAreInnersWrong)

/-- 'laws.FnExactTopOf': WHATEVER THE INPUT: true; the input reads as it did. -/
def fnExactTopOfSpec : ChangeSpec := { name := "fnExactTopOf", fn := fun _ => fun
  | [d1, d2] => { results := [.lit (.bool true)], args := [d1, d2] }
  | _ => none }
def fnExactTopOfRow : OpenClaim := { program := "ytogbajcaeelooaa", sum := "befeda0dee4664c38709926f5af003494f4b972d41abfb0dbd7315fa3ae77dd7", func := "loop.example/g03007/laws.FnExactTopOf", spec := "fnExactTopOf", unfollowed := true, recurses := true, apart := false }
def FnExactTopOfSaid : Prop := fnExactTopOfRow.holds Try.pinned (OpenSpec.ofChange fnExactTopOfSpec)

/-- ITS FALSE NEIGHBOUR: 'it returns false'. Refute it at one input. -/
def fnExactTopOfWrong : ChangeSpec := { name := "fnExactTopOf", fn := fun _ => fun
  | [d1, d2] => { results := [.lit (.bool false)], args := [d1, d2] }
  | _ => none }
def FnExactTopOfWrongFalsely : Prop := fnExactTopOfRow.holds Try.pinned (OpenSpec.ofChange fnExactTopOfWrong)

/-- 'laws.FnExactPutIn': WHATEVER THE INPUT: true; the input reads as it did. -/
def fnExactPutInSpec : ChangeSpec := { name := "fnExactPutIn", fn := fun _ => fun
  | [d1, d2, d3] => { results := [.lit (.bool true)], args := [d1, d2, d3] }
  | _ => none }
def fnExactPutInRow : OpenClaim := { program := "ytogbajcaeelooaa", sum := "befeda0dee4664c38709926f5af003494f4b972d41abfb0dbd7315fa3ae77dd7", func := "loop.example/g03007/laws.FnExactPutIn", spec := "fnExactPutIn", unfollowed := true, recurses := true, apart := false }
def FnExactPutInSaid : Prop := fnExactPutInRow.holds Try.pinned (OpenSpec.ofChange fnExactPutInSpec)

/-- ITS FALSE NEIGHBOUR: 'it returns false'. Refute it at one input. -/
def fnExactPutInWrong : ChangeSpec := { name := "fnExactPutIn", fn := fun _ => fun
  | [d1, d2, d3] => { results := [.lit (.bool false)], args := [d1, d2, d3] }
  | _ => none }
def FnExactPutInWrongFalsely : Prop := fnExactPutInRow.holds Try.pinned (OpenSpec.ofChange fnExactPutInWrong)

/-- 'laws.FnExactTakeFrom': WHATEVER THE INPUT: true; the input reads as it did. -/
def fnExactTakeFromSpec : ChangeSpec := { name := "fnExactTakeFrom", fn := fun _ => fun
  | [d1, d2] => { results := [.lit (.bool true)], args := [d1, d2] }
  | _ => none }
def fnExactTakeFromRow : OpenClaim := { program := "ytogbajcaeelooaa", sum := "befeda0dee4664c38709926f5af003494f4b972d41abfb0dbd7315fa3ae77dd7", func := "loop.example/g03007/laws.FnExactTakeFrom", spec := "fnExactTakeFrom", unfollowed := true, recurses := true, apart := false }
def FnExactTakeFromSaid : Prop := fnExactTakeFromRow.holds Try.pinned (OpenSpec.ofChange fnExactTakeFromSpec)

/-- ITS FALSE NEIGHBOUR: 'it returns false'. Refute it at one input. -/
def fnExactTakeFromWrong : ChangeSpec := { name := "fnExactTakeFrom", fn := fun _ => fun
  | [d1, d2] => { results := [.lit (.bool false)], args := [d1, d2] }
  | _ => none }
def FnExactTakeFromWrongFalsely : Prop := fnExactTakeFromRow.holds Try.pinned (OpenSpec.ofChange fnExactTakeFromWrong)

/-- 'laws.FnExactAllIn': WHATEVER THE INPUT: true; the input reads as it did. -/
def fnExactAllInSpec : ChangeSpec := { name := "fnExactAllIn", fn := fun _ => fun
  | [d1, d2] => { results := [.lit (.bool true)], args := [d1, d2] }
  | _ => none }
def fnExactAllInRow : OpenClaim := { program := "ytogbajcaeelooaa", sum := "befeda0dee4664c38709926f5af003494f4b972d41abfb0dbd7315fa3ae77dd7", func := "loop.example/g03007/laws.FnExactAllIn", spec := "fnExactAllIn", unfollowed := true, recurses := true, apart := false }
def FnExactAllInSaid : Prop := fnExactAllInRow.holds Try.pinned (OpenSpec.ofChange fnExactAllInSpec)

/-- ITS FALSE NEIGHBOUR: 'it returns false'. Refute it at one input. -/
def fnExactAllInWrong : ChangeSpec := { name := "fnExactAllIn", fn := fun _ => fun
  | [d1, d2] => { results := [.lit (.bool false)], args := [d1, d2] }
  | _ => none }
def FnExactAllInWrongFalsely : Prop := fnExactAllInRow.holds Try.pinned (OpenSpec.ofChange fnExactAllInWrong)

/-- 'laws.FnBundles': WHATEVER THE INPUT: true; the input reads as it did. -/
def fnBundlesSpec : ChangeSpec := { name := "fnBundles", fn := fun _ => fun
  | [d] => { results := [.lit (.bool true)], args := [d] }
  | _ => none }
def fnBundlesRow : OpenClaim := { program := "ytogbajcaeelooaa", sum := "befeda0dee4664c38709926f5af003494f4b972d41abfb0dbd7315fa3ae77dd7", func := "loop.example/g03007/laws.FnBundles", spec := "fnBundles", unfollowed := true, recurses := true, apart := false }
def FnBundlesSaid : Prop := fnBundlesRow.holds Try.pinned (OpenSpec.ofChange fnBundlesSpec)

/-- ITS FALSE NEIGHBOUR: 'it returns false'. Refute it at one input. -/
def fnBundlesWrong : ChangeSpec := { name := "fnBundles", fn := fun _ => fun
  | [d] => { results := [.lit (.bool false)], args := [d] }
  | _ => none }
def FnBundlesWrongFalsely : Prop := fnBundlesRow.holds Try.pinned (OpenSpec.ofChange fnBundlesWrong)

/- THE SECOND FORM. 'bulk': how many values and letters a reading holds, each counted each time it is reached (what is shared counts as often as it is met; a slice's spare places count too). A statement '..UptoSaid' is the law's where the arguments, and the package variables that the reading takes, are together of bulk at most 1048576: NARROWER than '..Said'. Prove '..Said' where nothing that the law and all that it calls make is longer than what came in: it says more and counts as full. Else prove '..UptoSaid'. A law counts once. -/
mutual
def uptoBulk {H : Type} : DataW H → Nat
  | .lit (.string bytes) => bytes.length + 1
  | .lit _ => 1
  | .nil => 1
  | .ptr d => uptoBulk d + 1
  | .slice elems spare => uptoBulkAll elems + uptoBulkAll spare + 1
  | .agg parts => uptoBulkAll parts + 1
  | .iface _ d => uptoBulk d + 1
  | .map entries => uptoBulkEntries entries + 1
  | .held _ => 1
def uptoBulkAll {H : Type} : List (DataW H) → Nat
  | [] => 0
  | d :: r => uptoBulk d + uptoBulkAll r
def uptoBulkEntries {H : Type} : List (Lit × DataW H) → Nat
  | [] => 0
  | x :: r => uptoBulkEntry x + uptoBulkEntries r
def uptoBulkEntry {H : Type} : Lit × DataW H → Nat
  | (.string bytes, d) => bytes.length + uptoBulk d + 1
  | (_, d) => uptoBulk d + 1
 end
def uptoSmall : (H : Type) → List (DataW H) → Bool := fun _ ds => decide (uptoBulkAll ds ≤ 1048576)
def OpenSpec.upto (s : _root_.Go.ChangeSpec) : _root_.Go.OpenSpec := { _root_.Go.OpenSpec.ofChange s with cond := some uptoSmall }

/-- 'laws.FnExactOuterOf', WHERE WHAT IT READS IS OF BULK AT MOST 1048576: true; the input reads as it did. -/
def fnExactOuterOfUptoRow : OpenClaim := { program := "ytogbajcaeelooaa", sum := "befeda0dee4664c38709926f5af003494f4b972d41abfb0dbd7315fa3ae77dd7", func := "loop.example/g03007/laws.FnExactOuterOf", spec := "fnExactOuterOf", unfollowed := true, recurses := true, apart := false, narrowed := true }
def FnExactOuterOfUptoSaid : Prop := fnExactOuterOfUptoRow.holds Try.pinned (OpenSpec.upto fnExactOuterOfSpec)

/-- 'laws.FnExactAreInners', WHERE WHAT IT READS IS OF BULK AT MOST 1048576: true; the input reads as it did. -/
def fnExactAreInnersUptoRow : OpenClaim := { program := "ytogbajcaeelooaa", sum := "befeda0dee4664c38709926f5af003494f4b972d41abfb0dbd7315fa3ae77dd7", func := "loop.example/g03007/laws.FnExactAreInners", spec := "fnExactAreInners", unfollowed := true, recurses := true, apart := false, narrowed := true }
def FnExactAreInnersUptoSaid : Prop := fnExactAreInnersUptoRow.holds Try.pinned (OpenSpec.upto fnExactAreInnersSpec)

/-- 'laws.FnExactTopOf', WHERE WHAT IT READS IS OF BULK AT MOST 1048576: true; the input reads as it did. -/
def fnExactTopOfUptoRow : OpenClaim := { program := "ytogbajcaeelooaa", sum := "befeda0dee4664c38709926f5af003494f4b972d41abfb0dbd7315fa3ae77dd7", func := "loop.example/g03007/laws.FnExactTopOf", spec := "fnExactTopOf", unfollowed := true, recurses := true, apart := false, narrowed := true }
def FnExactTopOfUptoSaid : Prop := fnExactTopOfUptoRow.holds Try.pinned (OpenSpec.upto fnExactTopOfSpec)

/-- 'laws.FnExactPutIn', WHERE WHAT IT READS IS OF BULK AT MOST 1048576: true; the input reads as it did. -/
def fnExactPutInUptoRow : OpenClaim := { program := "ytogbajcaeelooaa", sum := "befeda0dee4664c38709926f5af003494f4b972d41abfb0dbd7315fa3ae77dd7", func := "loop.example/g03007/laws.FnExactPutIn", spec := "fnExactPutIn", unfollowed := true, recurses := true, apart := false, narrowed := true }
def FnExactPutInUptoSaid : Prop := fnExactPutInUptoRow.holds Try.pinned (OpenSpec.upto fnExactPutInSpec)

/-- 'laws.FnExactTakeFrom', WHERE WHAT IT READS IS OF BULK AT MOST 1048576: true; the input reads as it did. -/
def fnExactTakeFromUptoRow : OpenClaim := { program := "ytogbajcaeelooaa", sum := "befeda0dee4664c38709926f5af003494f4b972d41abfb0dbd7315fa3ae77dd7", func := "loop.example/g03007/laws.FnExactTakeFrom", spec := "fnExactTakeFrom", unfollowed := true, recurses := true, apart := false, narrowed := true }
def FnExactTakeFromUptoSaid : Prop := fnExactTakeFromUptoRow.holds Try.pinned (OpenSpec.upto fnExactTakeFromSpec)

/-- 'laws.FnExactAllIn', WHERE WHAT IT READS IS OF BULK AT MOST 1048576: true; the input reads as it did. -/
def fnExactAllInUptoRow : OpenClaim := { program := "ytogbajcaeelooaa", sum := "befeda0dee4664c38709926f5af003494f4b972d41abfb0dbd7315fa3ae77dd7", func := "loop.example/g03007/laws.FnExactAllIn", spec := "fnExactAllIn", unfollowed := true, recurses := true, apart := false, narrowed := true }
def FnExactAllInUptoSaid : Prop := fnExactAllInUptoRow.holds Try.pinned (OpenSpec.upto fnExactAllInSpec)

/-- 'laws.FnBundles', WHERE WHAT IT READS IS OF BULK AT MOST 1048576: true; the input reads as it did. -/
def fnBundlesUptoRow : OpenClaim := { program := "ytogbajcaeelooaa", sum := "befeda0dee4664c38709926f5af003494f4b972d41abfb0dbd7315fa3ae77dd7", func := "loop.example/g03007/laws.FnBundles", spec := "fnBundles", unfollowed := true, recurses := true, apart := false, narrowed := true }
def FnBundlesUptoSaid : Prop := fnBundlesUptoRow.holds Try.pinned (OpenSpec.upto fnBundlesSpec)

end Rows
end Go.Proofs.Ytogbajcaeelooaa
