/-
  No cell of these rows narrows 'for every input' (looked for: loops, veiled, ifaces, maps, wideKeys, modest, calm, conditions, laid).
  DERIVED. THE GIVEN ROWS OF THIS SEAT. 7 by the template 'for every input the law returns true; each argument reads behind the call as it read before'; 0 by the template 'total and deterministic' (their statements: YtfghapankndioaaTotals.lean).
  GIVEN WITH THE SEED: the statements are not yours to turn. If you find one false, say at which input.
  Laid BY PROGRAM, IN A SANDBOX (cutbox-rows.mjs): the forced cells as the released guide's own fill.sh prints them over the translation b273b8d70812d162… (all of the seat's roots in one cut). By AI agents, Wed Nov 11 2026. No macro, syntax, notation, axiom, sorry.
-/
import Derived.Test.YtfghapankndioaaChecked
import GoSem.Claim
import GoSem.ClaimJoined
import GoSem.ClaimMapViews
import Derived.JoinedTies
import Derived.KernelRfl
namespace Go.Proofs.Ytfghapankndioaa
/- THE CELL 'sum', in the pinned program and in every row, IS THE sha256 OF THE DUMP (.gsa) THAT YtfghapankndioaaProg.lean LOADS. Nothing in Lean hashes anything: it is a label: what it is worth is what the hold of that sum in a sandbox is worth. -/
noncomputable def Try.pinned : Pinned := { name := "ytfghapankndioaa", sum := "b273b8d70812d1621a7647bf2d7b31c4783dd66e48f42c05d950d1bdca67777d", checked := Try.checked }
namespace Rows
def none {H : Type} : Left H := { results := [], args := [] }

/-- 'laws.FnExactAreSecrets': WHATEVER THE INPUT: true; the input reads as it did. -/
def fnExactAreSecretsSpec : ChangeSpec := { name := "fnExactAreSecrets", fn := fun _ => fun
  | [d] => { results := [.lit (.bool true)], args := [d] }
  | _ => none }
def fnExactAreSecretsRow : OpenClaim := { program := "ytfghapankndioaa", sum := "b273b8d70812d1621a7647bf2d7b31c4783dd66e48f42c05d950d1bdca67777d", func := "loop.example/g03007/laws.FnExactAreSecrets", spec := "fnExactAreSecrets", apart := false }
def FnExactAreSecretsSaid : Prop := fnExactAreSecretsRow.holds Try.pinned (OpenSpec.ofChange fnExactAreSecretsSpec)

/-- ITS FALSE NEIGHBOUR: 'it returns false'. Refute it at one input. -/
def fnExactAreSecretsWrong : ChangeSpec := { name := "fnExactAreSecrets", fn := fun _ => fun
  | [d] => { results := [.lit (.bool false)], args := [d] }
  | _ => none }
def FnExactAreSecretsWrongFalsely : Prop := fnExactAreSecretsRow.holds Try.pinned (OpenSpec.ofChange fnExactAreSecretsWrong)

/-- 'laws.FnExactIsSecretOf': WHATEVER THE INPUT: true; the input reads as it did. -/
def fnExactIsSecretOfSpec : ChangeSpec := { name := "fnExactIsSecretOf", fn := fun _ => fun
  | [d1, d2] => { results := [.lit (.bool true)], args := [d1, d2] }
  | _ => none }
def fnExactIsSecretOfRow : OpenClaim := { program := "ytfghapankndioaa", sum := "b273b8d70812d1621a7647bf2d7b31c4783dd66e48f42c05d950d1bdca67777d", func := "loop.example/g03007/laws.FnExactIsSecretOf", spec := "fnExactIsSecretOf", apart := false }
def FnExactIsSecretOfSaid : Prop := fnExactIsSecretOfRow.holds Try.pinned (OpenSpec.ofChange fnExactIsSecretOfSpec)

/-- ITS FALSE NEIGHBOUR: 'it returns false'. Refute it at one input. -/
def fnExactIsSecretOfWrong : ChangeSpec := { name := "fnExactIsSecretOf", fn := fun _ => fun
  | [d1, d2] => { results := [.lit (.bool false)], args := [d1, d2] }
  | _ => none }
def FnExactIsSecretOfWrongFalsely : Prop := fnExactIsSecretOfRow.holds Try.pinned (OpenSpec.ofChange fnExactIsSecretOfWrong)

/-- 'laws.FnExactEqualSecrets': WHATEVER THE INPUT: true; the input reads as it did. -/
def fnExactEqualSecretsSpec : ChangeSpec := { name := "fnExactEqualSecrets", fn := fun _ => fun
  | [d1, d2] => { results := [.lit (.bool true)], args := [d1, d2] }
  | _ => none }
def fnExactEqualSecretsRow : OpenClaim := { program := "ytfghapankndioaa", sum := "b273b8d70812d1621a7647bf2d7b31c4783dd66e48f42c05d950d1bdca67777d", func := "loop.example/g03007/laws.FnExactEqualSecrets", spec := "fnExactEqualSecrets", unfollowed := true, recurses := true, apart := false }
def FnExactEqualSecretsSaid : Prop := fnExactEqualSecretsRow.holds Try.pinned (OpenSpec.ofChange fnExactEqualSecretsSpec)

/-- ITS FALSE NEIGHBOUR: 'it returns false'. Refute it at one input. -/
def fnExactEqualSecretsWrong : ChangeSpec := { name := "fnExactEqualSecrets", fn := fun _ => fun
  | [d1, d2] => { results := [.lit (.bool false)], args := [d1, d2] }
  | _ => none }
def FnExactEqualSecretsWrongFalsely : Prop := fnExactEqualSecretsRow.holds Try.pinned (OpenSpec.ofChange fnExactEqualSecretsWrong)

/-- 'laws.FnExactMarksOf': WHATEVER THE INPUT: true; the input reads as it did. -/
def fnExactMarksOfSpec : ChangeSpec := { name := "fnExactMarksOf", fn := fun _ => fun
  | [d1, d2] => { results := [.lit (.bool true)], args := [d1, d2] }
  | _ => none }
def fnExactMarksOfRow : OpenClaim := { program := "ytfghapankndioaa", sum := "b273b8d70812d1621a7647bf2d7b31c4783dd66e48f42c05d950d1bdca67777d", func := "loop.example/g03007/laws.FnExactMarksOf", spec := "fnExactMarksOf", unfollowed := true, recurses := true, apart := false }
def FnExactMarksOfSaid : Prop := fnExactMarksOfRow.holds Try.pinned (OpenSpec.ofChange fnExactMarksOfSpec)

/-- ITS FALSE NEIGHBOUR: 'it returns false'. Refute it at one input. -/
def fnExactMarksOfWrong : ChangeSpec := { name := "fnExactMarksOf", fn := fun _ => fun
  | [d1, d2] => { results := [.lit (.bool false)], args := [d1, d2] }
  | _ => none }
def FnExactMarksOfWrongFalsely : Prop := fnExactMarksOfRow.holds Try.pinned (OpenSpec.ofChange fnExactMarksOfWrong)

/-- 'laws.FnExactSealOf': WHATEVER THE INPUT: true; the input reads as it did. -/
def fnExactSealOfSpec : ChangeSpec := { name := "fnExactSealOf", fn := fun _ => fun
  | [d1, d2] => { results := [.lit (.bool true)], args := [d1, d2] }
  | _ => none }
def fnExactSealOfRow : OpenClaim := { program := "ytfghapankndioaa", sum := "b273b8d70812d1621a7647bf2d7b31c4783dd66e48f42c05d950d1bdca67777d", func := "loop.example/g03007/laws.FnExactSealOf", spec := "fnExactSealOf", unfollowed := true, recurses := true, apart := false }
def FnExactSealOfSaid : Prop := fnExactSealOfRow.holds Try.pinned (OpenSpec.ofChange fnExactSealOfSpec)

/-- ITS FALSE NEIGHBOUR: 'it returns false'. Refute it at one input. -/
def fnExactSealOfWrong : ChangeSpec := { name := "fnExactSealOf", fn := fun _ => fun
  | [d1, d2] => { results := [.lit (.bool false)], args := [d1, d2] }
  | _ => none }
def FnExactSealOfWrongFalsely : Prop := fnExactSealOfRow.holds Try.pinned (OpenSpec.ofChange fnExactSealOfWrong)

/-- 'laws.FnExactPutSecret': WHATEVER THE INPUT: true; the input reads as it did. -/
def fnExactPutSecretSpec : ChangeSpec := { name := "fnExactPutSecret", fn := fun _ => fun
  | [d1, d2] => { results := [.lit (.bool true)], args := [d1, d2] }
  | _ => none }
def fnExactPutSecretRow : OpenClaim := { program := "ytfghapankndioaa", sum := "b273b8d70812d1621a7647bf2d7b31c4783dd66e48f42c05d950d1bdca67777d", func := "loop.example/g03007/laws.FnExactPutSecret", spec := "fnExactPutSecret", inPlace := ["slices.overlaps[loop.example/g03007/impl.Secret]"], unfollowed := true, recurses := true, apart := false }
def FnExactPutSecretSaid : Prop := fnExactPutSecretRow.holds Try.pinned (OpenSpec.ofChange fnExactPutSecretSpec)

/-- ITS FALSE NEIGHBOUR: 'it returns false'. Refute it at one input. -/
def fnExactPutSecretWrong : ChangeSpec := { name := "fnExactPutSecret", fn := fun _ => fun
  | [d1, d2] => { results := [.lit (.bool false)], args := [d1, d2] }
  | _ => none }
def FnExactPutSecretWrongFalsely : Prop := fnExactPutSecretRow.holds Try.pinned (OpenSpec.ofChange fnExactPutSecretWrong)

/-- 'laws.FnSecrets': WHATEVER THE INPUT: true; the input reads as it did. -/
def fnSecretsSpec : ChangeSpec := { name := "fnSecrets", fn := fun _ => fun
  | [d] => { results := [.lit (.bool true)], args := [d] }
  | _ => none }
def fnSecretsRow : OpenClaim := { program := "ytfghapankndioaa", sum := "b273b8d70812d1621a7647bf2d7b31c4783dd66e48f42c05d950d1bdca67777d", func := "loop.example/g03007/laws.FnSecrets", spec := "fnSecrets", inPlace := ["slices.overlaps[loop.example/g03007/impl.Secret]"], unfollowed := true, recurses := true, apart := false }
def FnSecretsSaid : Prop := fnSecretsRow.holds Try.pinned (OpenSpec.ofChange fnSecretsSpec)

/-- ITS FALSE NEIGHBOUR: 'it returns false'. Refute it at one input. -/
def fnSecretsWrong : ChangeSpec := { name := "fnSecrets", fn := fun _ => fun
  | [d] => { results := [.lit (.bool false)], args := [d] }
  | _ => none }
def FnSecretsWrongFalsely : Prop := fnSecretsRow.holds Try.pinned (OpenSpec.ofChange fnSecretsWrong)

/- THE SECOND FORM. 'bulk': how many values and letters a reading holds, each counted each time it is reached (what is shared counts as often as it is met; a slice's spare places count too). A statement '..UptoSaid' is the law's where the arguments, and the package variables that the reading takes, are together of bulk at most 1048576: NARROWER than '..Said'. Prove '..Said' where nothing that the law and all that it calls make is longer than what came in: it says more and counts as full. Else prove '..UptoSaid'. A law counts once. -/
mutual
def uptoBulk {H : Type} : DataW H → Nat
  | .lit (.string bytes) => bytes.length + 1
  | .lit _ => 1
  | .nil => 1
  | .ptr d => uptoBulk d + 1
  | .slice elems spare => uptoBulkAll elems + uptoBulkAll spare + 1
  | .agg parts => uptoBulkAll parts + 1
  | .iface _ d => uptoBulk d + 1
  | .map entries => uptoBulkEntries entries + 1
  | .held _ => 1
def uptoBulkAll {H : Type} : List (DataW H) → Nat
  | [] => 0
  | d :: r => uptoBulk d + uptoBulkAll r
def uptoBulkEntries {H : Type} : List (Lit × DataW H) → Nat
  | [] => 0
  | x :: r => uptoBulkEntry x + uptoBulkEntries r
def uptoBulkEntry {H : Type} : Lit × DataW H → Nat
  | (.string bytes, d) => bytes.length + uptoBulk d + 1
  | (_, d) => uptoBulk d + 1
 end
def uptoSmall : (H : Type) → List (DataW H) → Bool := fun _ ds => decide (uptoBulkAll ds ≤ 1048576)
def OpenSpec.upto (s : _root_.Go.ChangeSpec) : _root_.Go.OpenSpec := { _root_.Go.OpenSpec.ofChange s with cond := some uptoSmall }

/-- 'laws.FnExactAreSecrets', WHERE WHAT IT READS IS OF BULK AT MOST 1048576: true; the input reads as it did. -/
def fnExactAreSecretsUptoRow : OpenClaim := { program := "ytfghapankndioaa", sum := "b273b8d70812d1621a7647bf2d7b31c4783dd66e48f42c05d950d1bdca67777d", func := "loop.example/g03007/laws.FnExactAreSecrets", spec := "fnExactAreSecrets", apart := false, narrowed := true }
def FnExactAreSecretsUptoSaid : Prop := fnExactAreSecretsUptoRow.holds Try.pinned (OpenSpec.upto fnExactAreSecretsSpec)

/-- 'laws.FnExactIsSecretOf', WHERE WHAT IT READS IS OF BULK AT MOST 1048576: true; the input reads as it did. -/
def fnExactIsSecretOfUptoRow : OpenClaim := { program := "ytfghapankndioaa", sum := "b273b8d70812d1621a7647bf2d7b31c4783dd66e48f42c05d950d1bdca67777d", func := "loop.example/g03007/laws.FnExactIsSecretOf", spec := "fnExactIsSecretOf", apart := false, narrowed := true }
def FnExactIsSecretOfUptoSaid : Prop := fnExactIsSecretOfUptoRow.holds Try.pinned (OpenSpec.upto fnExactIsSecretOfSpec)

/-- 'laws.FnExactEqualSecrets', WHERE WHAT IT READS IS OF BULK AT MOST 1048576: true; the input reads as it did. -/
def fnExactEqualSecretsUptoRow : OpenClaim := { program := "ytfghapankndioaa", sum := "b273b8d70812d1621a7647bf2d7b31c4783dd66e48f42c05d950d1bdca67777d", func := "loop.example/g03007/laws.FnExactEqualSecrets", spec := "fnExactEqualSecrets", unfollowed := true, recurses := true, apart := false, narrowed := true }
def FnExactEqualSecretsUptoSaid : Prop := fnExactEqualSecretsUptoRow.holds Try.pinned (OpenSpec.upto fnExactEqualSecretsSpec)

/-- 'laws.FnExactMarksOf', WHERE WHAT IT READS IS OF BULK AT MOST 1048576: true; the input reads as it did. -/
def fnExactMarksOfUptoRow : OpenClaim := { program := "ytfghapankndioaa", sum := "b273b8d70812d1621a7647bf2d7b31c4783dd66e48f42c05d950d1bdca67777d", func := "loop.example/g03007/laws.FnExactMarksOf", spec := "fnExactMarksOf", unfollowed := true, recurses := true, apart := false, narrowed := true }
def FnExactMarksOfUptoSaid : Prop := fnExactMarksOfUptoRow.holds Try.pinned (OpenSpec.upto fnExactMarksOfSpec)

/-- 'laws.FnExactSealOf', WHERE WHAT IT READS IS OF BULK AT MOST 1048576: true; the input reads as it did. -/
def fnExactSealOfUptoRow : OpenClaim := { program := "ytfghapankndioaa", sum := "b273b8d70812d1621a7647bf2d7b31c4783dd66e48f42c05d950d1bdca67777d", func := "loop.example/g03007/laws.FnExactSealOf", spec := "fnExactSealOf", unfollowed := true, recurses := true, apart := false, narrowed := true }
def FnExactSealOfUptoSaid : Prop := fnExactSealOfUptoRow.holds Try.pinned (OpenSpec.upto fnExactSealOfSpec)

/-- 'laws.FnExactPutSecret', WHERE WHAT IT READS IS OF BULK AT MOST 1048576: true; the input reads as it did. -/
def fnExactPutSecretUptoRow : OpenClaim := { program := "ytfghapankndioaa", sum := "b273b8d70812d1621a7647bf2d7b31c4783dd66e48f42c05d950d1bdca67777d", func := "loop.example/g03007/laws.FnExactPutSecret", spec := "fnExactPutSecret", inPlace := ["slices.overlaps[loop.example/g03007/impl.Secret]"], unfollowed := true, recurses := true, apart := false, narrowed := true }
def FnExactPutSecretUptoSaid : Prop := fnExactPutSecretUptoRow.holds Try.pinned (OpenSpec.upto fnExactPutSecretSpec)

/-- 'laws.FnSecrets', WHERE WHAT IT READS IS OF BULK AT MOST 1048576: true; the input reads as it did. -/
def fnSecretsUptoRow : OpenClaim := { program := "ytfghapankndioaa", sum := "b273b8d70812d1621a7647bf2d7b31c4783dd66e48f42c05d950d1bdca67777d", func := "loop.example/g03007/laws.FnSecrets", spec := "fnSecrets", inPlace := ["slices.overlaps[loop.example/g03007/impl.Secret]"], unfollowed := true, recurses := true, apart := false, narrowed := true }
def FnSecretsUptoSaid : Prop := fnSecretsUptoRow.holds Try.pinned (OpenSpec.upto fnSecretsSpec)

end Rows
end Go.Proofs.Ytfghapankndioaa
