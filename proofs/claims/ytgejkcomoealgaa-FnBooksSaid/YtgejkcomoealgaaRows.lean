/-
  No cell of these rows narrows 'for every input' (looked for: loops, veiled, ifaces, maps, wideKeys, modest, calm, conditions, laid).
  DERIVED. THE GIVEN ROWS OF THIS SEAT. 7 by the template 'for every input the law returns true; each argument reads behind the call as it read before'; 0 by the template 'total and deterministic' (their statements: YtgejkcomoealgaaTotals.lean).
  GIVEN WITH THE SEED: the statements are not yours to turn. If you find one false, say at which input.
  Laid BY PROGRAM, IN A SANDBOX (cutbox-rows.mjs): the forced cells as the released guide's own fill.sh prints them over the translation 3a0d29577eaa88dc… (all of the seat's roots in one cut). By AI agents, Wed Nov 11 2026. No macro, syntax, notation, axiom, sorry.
-/
import Derived.Test.YtgejkcomoealgaaChecked
import GoSem.Claim
import GoSem.ClaimJoined
import GoSem.ClaimMapViews
import Derived.JoinedTies
import Derived.KernelRfl
namespace Go.Proofs.Ytgejkcomoealgaa
/- THE CELL 'sum', in the pinned program and in every row, IS THE sha256 OF THE DUMP (.gsa) THAT YtgejkcomoealgaaProg.lean LOADS. Nothing in Lean hashes anything: it is a label: what it is worth is what the hold of that sum in a sandbox is worth. -/
noncomputable def Try.pinned : Pinned := { name := "ytgejkcomoealgaa", sum := "3a0d29577eaa88dccca5e2c06e8a726af82afb7db53c94d25f2fea153cec69f7", checked := Try.checked }
namespace Rows
def none {H : Type} : Left H := { results := [], args := [] }

/-- 'laws.FnExactAreEntries': WHATEVER THE INPUT: true; the input reads as it did. -/
def fnExactAreEntriesSpec : ChangeSpec := { name := "fnExactAreEntries", fn := fun _ => fun
  | [d] => { results := [.lit (.bool true)], args := [d] }
  | _ => none }
def fnExactAreEntriesRow : OpenClaim := { program := "ytgejkcomoealgaa", sum := "3a0d29577eaa88dccca5e2c06e8a726af82afb7db53c94d25f2fea153cec69f7", func := "loop.example/g03007/laws.FnExactAreEntries", spec := "fnExactAreEntries", apart := false }
def FnExactAreEntriesSaid : Prop := fnExactAreEntriesRow.holds Try.pinned (OpenSpec.ofChange fnExactAreEntriesSpec)

/-- ITS FALSE NEIGHBOUR: 'it returns false'. Refute it at one input. -/
def fnExactAreEntriesWrong : ChangeSpec := { name := "fnExactAreEntries", fn := fun _ => fun
  | [d] => { results := [.lit (.bool false)], args := [d] }
  | _ => none }
def FnExactAreEntriesWrongFalsely : Prop := fnExactAreEntriesRow.holds Try.pinned (OpenSpec.ofChange fnExactAreEntriesWrong)

/-- 'laws.FnExactTotalPaid': WHATEVER THE INPUT: true; the input reads as it did. -/
def fnExactTotalPaidSpec : ChangeSpec := { name := "fnExactTotalPaid", fn := fun _ => fun
  | [d1, d2] => { results := [.lit (.bool true)], args := [d1, d2] }
  | _ => none }
def fnExactTotalPaidRow : OpenClaim := { program := "ytgejkcomoealgaa", sum := "3a0d29577eaa88dccca5e2c06e8a726af82afb7db53c94d25f2fea153cec69f7", func := "loop.example/g03007/laws.FnExactTotalPaid", spec := "fnExactTotalPaid", apart := false }
def FnExactTotalPaidSaid : Prop := fnExactTotalPaidRow.holds Try.pinned (OpenSpec.ofChange fnExactTotalPaidSpec)

/-- ITS FALSE NEIGHBOUR: 'it returns false'. Refute it at one input. -/
def fnExactTotalPaidWrong : ChangeSpec := { name := "fnExactTotalPaid", fn := fun _ => fun
  | [d1, d2] => { results := [.lit (.bool false)], args := [d1, d2] }
  | _ => none }
def FnExactTotalPaidWrongFalsely : Prop := fnExactTotalPaidRow.holds Try.pinned (OpenSpec.ofChange fnExactTotalPaidWrong)

/-- 'laws.FnExactBalance': WHATEVER THE INPUT: true; the input reads as it did. -/
def fnExactBalanceSpec : ChangeSpec := { name := "fnExactBalance", fn := fun _ => fun
  | [d1, d2] => { results := [.lit (.bool true)], args := [d1, d2] }
  | _ => none }
def fnExactBalanceRow : OpenClaim := { program := "ytgejkcomoealgaa", sum := "3a0d29577eaa88dccca5e2c06e8a726af82afb7db53c94d25f2fea153cec69f7", func := "loop.example/g03007/laws.FnExactBalance", spec := "fnExactBalance", apart := false }
def FnExactBalanceSaid : Prop := fnExactBalanceRow.holds Try.pinned (OpenSpec.ofChange fnExactBalanceSpec)

/-- ITS FALSE NEIGHBOUR: 'it returns false'. Refute it at one input. -/
def fnExactBalanceWrong : ChangeSpec := { name := "fnExactBalance", fn := fun _ => fun
  | [d1, d2] => { results := [.lit (.bool false)], args := [d1, d2] }
  | _ => none }
def FnExactBalanceWrongFalsely : Prop := fnExactBalanceRow.holds Try.pinned (OpenSpec.ofChange fnExactBalanceWrong)

/-- 'laws.FnExactAddEntry': WHATEVER THE INPUT: true; the input reads as it did. -/
def fnExactAddEntrySpec : ChangeSpec := { name := "fnExactAddEntry", fn := fun _ => fun
  | [d1, d2] => { results := [.lit (.bool true)], args := [d1, d2] }
  | _ => none }
def fnExactAddEntryRow : OpenClaim := { program := "ytgejkcomoealgaa", sum := "3a0d29577eaa88dccca5e2c06e8a726af82afb7db53c94d25f2fea153cec69f7", func := "loop.example/g03007/laws.FnExactAddEntry", spec := "fnExactAddEntry", apart := false }
def FnExactAddEntrySaid : Prop := fnExactAddEntryRow.holds Try.pinned (OpenSpec.ofChange fnExactAddEntrySpec)

/-- ITS FALSE NEIGHBOUR: 'it returns false'. Refute it at one input. -/
def fnExactAddEntryWrong : ChangeSpec := { name := "fnExactAddEntry", fn := fun _ => fun
  | [d1, d2] => { results := [.lit (.bool false)], args := [d1, d2] }
  | _ => none }
def FnExactAddEntryWrongFalsely : Prop := fnExactAddEntryRow.holds Try.pinned (OpenSpec.ofChange fnExactAddEntryWrong)

/-- 'laws.FnExactPayShares': WHATEVER THE INPUT: true; the input reads as it did. -/
def fnExactPaySharesSpec : ChangeSpec := { name := "fnExactPayShares", fn := fun _ => fun
  | [d1, d2, d3, d4] => { results := [.lit (.bool true)], args := [d1, d2, d3, d4] }
  | _ => none }
def fnExactPaySharesRow : OpenClaim := { program := "ytgejkcomoealgaa", sum := "3a0d29577eaa88dccca5e2c06e8a726af82afb7db53c94d25f2fea153cec69f7", func := "loop.example/g03007/laws.FnExactPayShares", spec := "fnExactPayShares", apart := false }
def FnExactPaySharesSaid : Prop := fnExactPaySharesRow.holds Try.pinned (OpenSpec.ofChange fnExactPaySharesSpec)

/-- ITS FALSE NEIGHBOUR: 'it returns false'. Refute it at one input. -/
def fnExactPaySharesWrong : ChangeSpec := { name := "fnExactPayShares", fn := fun _ => fun
  | [d1, d2, d3, d4] => { results := [.lit (.bool false)], args := [d1, d2, d3, d4] }
  | _ => none }
def FnExactPaySharesWrongFalsely : Prop := fnExactPaySharesRow.holds Try.pinned (OpenSpec.ofChange fnExactPaySharesWrong)

/-- 'laws.FnExactAccountsOf': WHATEVER THE INPUT: true; the input reads as it did. -/
def fnExactAccountsOfSpec : ChangeSpec := { name := "fnExactAccountsOf", fn := fun _ => fun
  | [d] => { results := [.lit (.bool true)], args := [d] }
  | _ => none }
def fnExactAccountsOfRow : OpenClaim := { program := "ytgejkcomoealgaa", sum := "3a0d29577eaa88dccca5e2c06e8a726af82afb7db53c94d25f2fea153cec69f7", func := "loop.example/g03007/laws.FnExactAccountsOf", spec := "fnExactAccountsOf", recurses := true, apart := false }
def FnExactAccountsOfSaid : Prop := fnExactAccountsOfRow.holds Try.pinned (OpenSpec.ofChange fnExactAccountsOfSpec)

/-- ITS FALSE NEIGHBOUR: 'it returns false'. Refute it at one input. -/
def fnExactAccountsOfWrong : ChangeSpec := { name := "fnExactAccountsOf", fn := fun _ => fun
  | [d] => { results := [.lit (.bool false)], args := [d] }
  | _ => none }
def FnExactAccountsOfWrongFalsely : Prop := fnExactAccountsOfRow.holds Try.pinned (OpenSpec.ofChange fnExactAccountsOfWrong)

/-- 'laws.FnBooks': WHATEVER THE INPUT: true; the input reads as it did. -/
def fnBooksSpec : ChangeSpec := { name := "fnBooks", fn := fun _ => fun
  | [d] => { results := [.lit (.bool true)], args := [d] }
  | _ => none }
def fnBooksRow : OpenClaim := { program := "ytgejkcomoealgaa", sum := "3a0d29577eaa88dccca5e2c06e8a726af82afb7db53c94d25f2fea153cec69f7", func := "loop.example/g03007/laws.FnBooks", spec := "fnBooks", recurses := true, apart := false }
def FnBooksSaid : Prop := fnBooksRow.holds Try.pinned (OpenSpec.ofChange fnBooksSpec)

/-- ITS FALSE NEIGHBOUR: 'it returns false'. Refute it at one input. -/
def fnBooksWrong : ChangeSpec := { name := "fnBooks", fn := fun _ => fun
  | [d] => { results := [.lit (.bool false)], args := [d] }
  | _ => none }
def FnBooksWrongFalsely : Prop := fnBooksRow.holds Try.pinned (OpenSpec.ofChange fnBooksWrong)

/- THE SECOND FORM. 'bulk': how many values and letters a reading holds, each counted each time it is reached (what is shared counts as often as it is met; a slice's spare places count too). A statement '..UptoSaid' is the law's where the arguments, and the package variables that the reading takes, are together of bulk at most 1048576: NARROWER than '..Said'. Prove '..Said' where nothing that the law and all that it calls make is longer than what came in: it says more and counts as full. Else prove '..UptoSaid'. A law counts once. -/
mutual
def uptoBulk {H : Type} : DataW H → Nat
  | .lit (.string bytes) => bytes.length + 1
  | .lit _ => 1
  | .nil => 1
  | .ptr d => uptoBulk d + 1
  | .slice elems spare => uptoBulkAll elems + uptoBulkAll spare + 1
  | .agg parts => uptoBulkAll parts + 1
  | .iface _ d => uptoBulk d + 1
  | .map entries => uptoBulkEntries entries + 1
  | .held _ => 1
def uptoBulkAll {H : Type} : List (DataW H) → Nat
  | [] => 0
  | d :: r => uptoBulk d + uptoBulkAll r
def uptoBulkEntries {H : Type} : List (Lit × DataW H) → Nat
  | [] => 0
  | x :: r => uptoBulkEntry x + uptoBulkEntries r
def uptoBulkEntry {H : Type} : Lit × DataW H → Nat
  | (.string bytes, d) => bytes.length + uptoBulk d + 1
  | (_, d) => uptoBulk d + 1
 end
def uptoSmall : (H : Type) → List (DataW H) → Bool := fun _ ds => decide (uptoBulkAll ds ≤ 1048576)
def OpenSpec.upto (s : _root_.Go.ChangeSpec) : _root_.Go.OpenSpec := { _root_.Go.OpenSpec.ofChange s with cond := some uptoSmall }

/-- 'laws.FnExactAreEntries', WHERE WHAT IT READS IS OF BULK AT MOST 1048576: true; the input reads as it did. -/
def fnExactAreEntriesUptoRow : OpenClaim := { program := "ytgejkcomoealgaa", sum := "3a0d29577eaa88dccca5e2c06e8a726af82afb7db53c94d25f2fea153cec69f7", func := "loop.example/g03007/laws.FnExactAreEntries", spec := "fnExactAreEntries", apart := false, narrowed := true }
def FnExactAreEntriesUptoSaid : Prop := fnExactAreEntriesUptoRow.holds Try.pinned (OpenSpec.upto fnExactAreEntriesSpec)

/-- 'laws.FnExactTotalPaid', WHERE WHAT IT READS IS OF BULK AT MOST 1048576: true; the input reads as it did. -/
def fnExactTotalPaidUptoRow : OpenClaim := { program := "ytgejkcomoealgaa", sum := "3a0d29577eaa88dccca5e2c06e8a726af82afb7db53c94d25f2fea153cec69f7", func := "loop.example/g03007/laws.FnExactTotalPaid", spec := "fnExactTotalPaid", apart := false, narrowed := true }
def FnExactTotalPaidUptoSaid : Prop := fnExactTotalPaidUptoRow.holds Try.pinned (OpenSpec.upto fnExactTotalPaidSpec)

/-- 'laws.FnExactBalance', WHERE WHAT IT READS IS OF BULK AT MOST 1048576: true; the input reads as it did. -/
def fnExactBalanceUptoRow : OpenClaim := { program := "ytgejkcomoealgaa", sum := "3a0d29577eaa88dccca5e2c06e8a726af82afb7db53c94d25f2fea153cec69f7", func := "loop.example/g03007/laws.FnExactBalance", spec := "fnExactBalance", apart := false, narrowed := true }
def FnExactBalanceUptoSaid : Prop := fnExactBalanceUptoRow.holds Try.pinned (OpenSpec.upto fnExactBalanceSpec)

/-- 'laws.FnExactAddEntry', WHERE WHAT IT READS IS OF BULK AT MOST 1048576: true; the input reads as it did. -/
def fnExactAddEntryUptoRow : OpenClaim := { program := "ytgejkcomoealgaa", sum := "3a0d29577eaa88dccca5e2c06e8a726af82afb7db53c94d25f2fea153cec69f7", func := "loop.example/g03007/laws.FnExactAddEntry", spec := "fnExactAddEntry", apart := false, narrowed := true }
def FnExactAddEntryUptoSaid : Prop := fnExactAddEntryUptoRow.holds Try.pinned (OpenSpec.upto fnExactAddEntrySpec)

/-- 'laws.FnExactPayShares', WHERE WHAT IT READS IS OF BULK AT MOST 1048576: true; the input reads as it did. -/
def fnExactPaySharesUptoRow : OpenClaim := { program := "ytgejkcomoealgaa", sum := "3a0d29577eaa88dccca5e2c06e8a726af82afb7db53c94d25f2fea153cec69f7", func := "loop.example/g03007/laws.FnExactPayShares", spec := "fnExactPayShares", apart := false, narrowed := true }
def FnExactPaySharesUptoSaid : Prop := fnExactPaySharesUptoRow.holds Try.pinned (OpenSpec.upto fnExactPaySharesSpec)

/-- 'laws.FnExactAccountsOf', WHERE WHAT IT READS IS OF BULK AT MOST 1048576: true; the input reads as it did. -/
def fnExactAccountsOfUptoRow : OpenClaim := { program := "ytgejkcomoealgaa", sum := "3a0d29577eaa88dccca5e2c06e8a726af82afb7db53c94d25f2fea153cec69f7", func := "loop.example/g03007/laws.FnExactAccountsOf", spec := "fnExactAccountsOf", recurses := true, apart := false, narrowed := true }
def FnExactAccountsOfUptoSaid : Prop := fnExactAccountsOfUptoRow.holds Try.pinned (OpenSpec.upto fnExactAccountsOfSpec)

/-- 'laws.FnBooks', WHERE WHAT IT READS IS OF BULK AT MOST 1048576: true; the input reads as it did. -/
def fnBooksUptoRow : OpenClaim := { program := "ytgejkcomoealgaa", sum := "3a0d29577eaa88dccca5e2c06e8a726af82afb7db53c94d25f2fea153cec69f7", func := "loop.example/g03007/laws.FnBooks", spec := "fnBooks", recurses := true, apart := false, narrowed := true }
def FnBooksUptoSaid : Prop := fnBooksUptoRow.holds Try.pinned (OpenSpec.upto fnBooksSpec)

end Rows
end Go.Proofs.Ytgejkcomoealgaa
