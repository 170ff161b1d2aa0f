/-
  No cell of these rows narrows 'for every input' (looked for: loops, veiled, ifaces, maps, wideKeys, modest, calm, conditions, laid).
  DERIVED. THE GIVEN ROWS OF THIS SEAT. 6 by the template 'for every input the law returns true; each argument reads behind the call as it read before'; 0 by the template 'total and deterministic' (their statements: YthbmegdbdnmnoaaTotals.lean).
  GIVEN WITH THE SEED: the statements are not yours to turn. If you find one false, say at which input.
  Laid BY PROGRAM, IN A SANDBOX (cutbox-rows.mjs): the forced cells as the released guide's own fill.sh prints them over the translation 2b9b77d458457e96… (all of the seat's roots in one cut). By AI agents, Wed Nov 11 2026. No macro, syntax, notation, axiom, sorry.
-/
import Derived.Test.YthbmegdbdnmnoaaChecked
import GoSem.Claim
import GoSem.ClaimJoined
import GoSem.ClaimMapViews
import Derived.JoinedTies
import Derived.KernelRfl
namespace Go.Proofs.Ythbmegdbdnmnoaa
/- THE CELL 'sum', in the pinned program and in every row, IS THE sha256 OF THE DUMP (.gsa) THAT YthbmegdbdnmnoaaProg.lean LOADS. Nothing in Lean hashes anything: it is a label: what it is worth is what the hold of that sum in a sandbox is worth. -/
noncomputable def Try.pinned : Pinned := { name := "ythbmegdbdnmnoaa", sum := "2b9b77d458457e9608636d9a6ecfffa3799e8ff52ab98bc75fc6a0b0a3a3f025", checked := Try.checked }
namespace Rows
def none {H : Type} : Left H := { results := [], args := [] }

/-- 'laws.FnExactAreTickets': WHATEVER THE INPUT: true; the input reads as it did. -/
def fnExactAreTicketsSpec : ChangeSpec := { name := "fnExactAreTickets", fn := fun _ => fun
  | [d] => { results := [.lit (.bool true)], args := [d] }
  | _ => none }
def fnExactAreTicketsRow : OpenClaim := { program := "ythbmegdbdnmnoaa", sum := "2b9b77d458457e9608636d9a6ecfffa3799e8ff52ab98bc75fc6a0b0a3a3f025", func := "loop.example/g03007/laws.FnExactAreTickets", spec := "fnExactAreTickets", apart := false }
def FnExactAreTicketsSaid : Prop := fnExactAreTicketsRow.holds Try.pinned (OpenSpec.ofChange fnExactAreTicketsSpec)

/-- ITS FALSE NEIGHBOUR: 'it returns false'. Refute it at one input. -/
def fnExactAreTicketsWrong : ChangeSpec := { name := "fnExactAreTickets", fn := fun _ => fun
  | [d] => { results := [.lit (.bool false)], args := [d] }
  | _ => none }
def FnExactAreTicketsWrongFalsely : Prop := fnExactAreTicketsRow.holds Try.pinned (OpenSpec.ofChange fnExactAreTicketsWrong)

/-- 'laws.FnExactBeforeIn': WHATEVER THE INPUT: true; the input reads as it did. -/
def fnExactBeforeInSpec : ChangeSpec := { name := "fnExactBeforeIn", fn := fun _ => fun
  | [d1, d2] => { results := [.lit (.bool true)], args := [d1, d2] }
  | _ => none }
def fnExactBeforeInRow : OpenClaim := { program := "ythbmegdbdnmnoaa", sum := "2b9b77d458457e9608636d9a6ecfffa3799e8ff52ab98bc75fc6a0b0a3a3f025", func := "loop.example/g03007/laws.FnExactBeforeIn", spec := "fnExactBeforeIn", unfollowed := true, recurses := true, apart := false }
def FnExactBeforeInSaid : Prop := fnExactBeforeInRow.holds Try.pinned (OpenSpec.ofChange fnExactBeforeInSpec)

/-- ITS FALSE NEIGHBOUR: 'it returns false'. Refute it at one input. -/
def fnExactBeforeInWrong : ChangeSpec := { name := "fnExactBeforeIn", fn := fun _ => fun
  | [d1, d2] => { results := [.lit (.bool false)], args := [d1, d2] }
  | _ => none }
def FnExactBeforeInWrongFalsely : Prop := fnExactBeforeInRow.holds Try.pinned (OpenSpec.ofChange fnExactBeforeInWrong)

/-- 'laws.FnExactNextTicket': WHATEVER THE INPUT: true; the input reads as it did. -/
def fnExactNextTicketSpec : ChangeSpec := { name := "fnExactNextTicket", fn := fun _ => fun
  | [d1, d2] => { results := [.lit (.bool true)], args := [d1, d2] }
  | _ => none }
def fnExactNextTicketRow : OpenClaim := { program := "ythbmegdbdnmnoaa", sum := "2b9b77d458457e9608636d9a6ecfffa3799e8ff52ab98bc75fc6a0b0a3a3f025", func := "loop.example/g03007/laws.FnExactNextTicket", spec := "fnExactNextTicket", apart := false }
def FnExactNextTicketSaid : Prop := fnExactNextTicketRow.holds Try.pinned (OpenSpec.ofChange fnExactNextTicketSpec)

/-- ITS FALSE NEIGHBOUR: 'it returns false'. Refute it at one input. -/
def fnExactNextTicketWrong : ChangeSpec := { name := "fnExactNextTicket", fn := fun _ => fun
  | [d1, d2] => { results := [.lit (.bool false)], args := [d1, d2] }
  | _ => none }
def FnExactNextTicketWrongFalsely : Prop := fnExactNextTicketRow.holds Try.pinned (OpenSpec.ofChange fnExactNextTicketWrong)

/-- 'laws.FnExactCallTicket': WHATEVER THE INPUT: true; the input reads as it did. -/
def fnExactCallTicketSpec : ChangeSpec := { name := "fnExactCallTicket", fn := fun _ => fun
  | [d1, d2] => { results := [.lit (.bool true)], args := [d1, d2] }
  | _ => none }
def fnExactCallTicketRow : OpenClaim := { program := "ythbmegdbdnmnoaa", sum := "2b9b77d458457e9608636d9a6ecfffa3799e8ff52ab98bc75fc6a0b0a3a3f025", func := "loop.example/g03007/laws.FnExactCallTicket", spec := "fnExactCallTicket", apart := false }
def FnExactCallTicketSaid : Prop := fnExactCallTicketRow.holds Try.pinned (OpenSpec.ofChange fnExactCallTicketSpec)

/-- ITS FALSE NEIGHBOUR: 'it returns false'. Refute it at one input. -/
def fnExactCallTicketWrong : ChangeSpec := { name := "fnExactCallTicket", fn := fun _ => fun
  | [d1, d2] => { results := [.lit (.bool false)], args := [d1, d2] }
  | _ => none }
def FnExactCallTicketWrongFalsely : Prop := fnExactCallTicketRow.holds Try.pinned (OpenSpec.ofChange fnExactCallTicketWrong)

/-- 'laws.FnCounters': WHATEVER THE INPUT: true; the input reads as it did. -/
def fnCountersSpec : ChangeSpec := { name := "fnCounters", fn := fun _ => fun
  | [d] => { results := [.lit (.bool true)], args := [d] }
  | _ => none }
def fnCountersRow : OpenClaim := { program := "ythbmegdbdnmnoaa", sum := "2b9b77d458457e9608636d9a6ecfffa3799e8ff52ab98bc75fc6a0b0a3a3f025", func := "loop.example/g03007/laws.FnCounters", spec := "fnCounters", unfollowed := true, recurses := true, apart := false }
def FnCountersSaid : Prop := fnCountersRow.holds Try.pinned (OpenSpec.ofChange fnCountersSpec)

/-- ITS FALSE NEIGHBOUR: 'it returns false'. Refute it at one input. -/
def fnCountersWrong : ChangeSpec := { name := "fnCounters", fn := fun _ => fun
  | [d] => { results := [.lit (.bool false)], args := [d] }
  | _ => none }
def FnCountersWrongFalsely : Prop := fnCountersRow.holds Try.pinned (OpenSpec.ofChange fnCountersWrong)

/-- 'laws.FnExactCallAll': WHATEVER THE INPUT: true; the input reads as it did. -/
def fnExactCallAllSpec : ChangeSpec := { name := "fnExactCallAll", fn := fun _ => fun
  | [d1, d2, d3] => { results := [.lit (.bool true)], args := [d1, d2, d3] }
  | _ => none }
def fnExactCallAllRow : OpenClaim := { program := "ythbmegdbdnmnoaa", sum := "2b9b77d458457e9608636d9a6ecfffa3799e8ff52ab98bc75fc6a0b0a3a3f025", func := "loop.example/g03007/laws.FnExactCallAll", spec := "fnExactCallAll", apart := false }
def FnExactCallAllSaid : Prop := fnExactCallAllRow.holds Try.pinned (OpenSpec.ofChange fnExactCallAllSpec)

/-- ITS FALSE NEIGHBOUR: 'it returns false'. Refute it at one input. -/
def fnExactCallAllWrong : ChangeSpec := { name := "fnExactCallAll", fn := fun _ => fun
  | [d1, d2, d3] => { results := [.lit (.bool false)], args := [d1, d2, d3] }
  | _ => none }
def FnExactCallAllWrongFalsely : Prop := fnExactCallAllRow.holds Try.pinned (OpenSpec.ofChange fnExactCallAllWrong)

/- THE SECOND FORM. 'bulk': how many values and letters a reading holds, each counted each time it is reached (what is shared counts as often as it is met; a slice's spare places count too). A statement '..UptoSaid' is the law's where the arguments, and the package variables that the reading takes, are together of bulk at most 1048576: NARROWER than '..Said'. Prove '..Said' where nothing that the law and all that it calls make is longer than what came in: it says more and counts as full. Else prove '..UptoSaid'. A law counts once. -/
mutual
def uptoBulk {H : Type} : DataW H → Nat
  | .lit (.string bytes) => bytes.length + 1
  | .lit _ => 1
  | .nil => 1
  | .ptr d => uptoBulk d + 1
  | .slice elems spare => uptoBulkAll elems + uptoBulkAll spare + 1
  | .agg parts => uptoBulkAll parts + 1
  | .iface _ d => uptoBulk d + 1
  | .map entries => uptoBulkEntries entries + 1
  | .held _ => 1
def uptoBulkAll {H : Type} : List (DataW H) → Nat
  | [] => 0
  | d :: r => uptoBulk d + uptoBulkAll r
def uptoBulkEntries {H : Type} : List (Lit × DataW H) → Nat
  | [] => 0
  | x :: r => uptoBulkEntry x + uptoBulkEntries r
def uptoBulkEntry {H : Type} : Lit × DataW H → Nat
  | (.string bytes, d) => bytes.length + uptoBulk d + 1
  | (_, d) => uptoBulk d + 1
 end
def uptoSmall : (H : Type) → List (DataW H) → Bool := fun _ ds => decide (uptoBulkAll ds ≤ 1048576)
def OpenSpec.upto (s : _root_.Go.ChangeSpec) : _root_.Go.OpenSpec := { _root_.Go.OpenSpec.ofChange s with cond := some uptoSmall }

/-- 'laws.FnExactAreTickets', WHERE WHAT IT READS IS OF BULK AT MOST 1048576: true; the input reads as it did. -/
def fnExactAreTicketsUptoRow : OpenClaim := { program := "ythbmegdbdnmnoaa", sum := "2b9b77d458457e9608636d9a6ecfffa3799e8ff52ab98bc75fc6a0b0a3a3f025", func := "loop.example/g03007/laws.FnExactAreTickets", spec := "fnExactAreTickets", apart := false, narrowed := true }
def FnExactAreTicketsUptoSaid : Prop := fnExactAreTicketsUptoRow.holds Try.pinned (OpenSpec.upto fnExactAreTicketsSpec)

/-- 'laws.FnExactBeforeIn', WHERE WHAT IT READS IS OF BULK AT MOST 1048576: true; the input reads as it did. -/
def fnExactBeforeInUptoRow : OpenClaim := { program := "ythbmegdbdnmnoaa", sum := "2b9b77d458457e9608636d9a6ecfffa3799e8ff52ab98bc75fc6a0b0a3a3f025", func := "loop.example/g03007/laws.FnExactBeforeIn", spec := "fnExactBeforeIn", unfollowed := true, recurses := true, apart := false, narrowed := true }
def FnExactBeforeInUptoSaid : Prop := fnExactBeforeInUptoRow.holds Try.pinned (OpenSpec.upto fnExactBeforeInSpec)

/-- 'laws.FnExactNextTicket', WHERE WHAT IT READS IS OF BULK AT MOST 1048576: true; the input reads as it did. -/
def fnExactNextTicketUptoRow : OpenClaim := { program := "ythbmegdbdnmnoaa", sum := "2b9b77d458457e9608636d9a6ecfffa3799e8ff52ab98bc75fc6a0b0a3a3f025", func := "loop.example/g03007/laws.FnExactNextTicket", spec := "fnExactNextTicket", apart := false, narrowed := true }
def FnExactNextTicketUptoSaid : Prop := fnExactNextTicketUptoRow.holds Try.pinned (OpenSpec.upto fnExactNextTicketSpec)

/-- 'laws.FnExactCallTicket', WHERE WHAT IT READS IS OF BULK AT MOST 1048576: true; the input reads as it did. -/
def fnExactCallTicketUptoRow : OpenClaim := { program := "ythbmegdbdnmnoaa", sum := "2b9b77d458457e9608636d9a6ecfffa3799e8ff52ab98bc75fc6a0b0a3a3f025", func := "loop.example/g03007/laws.FnExactCallTicket", spec := "fnExactCallTicket", apart := false, narrowed := true }
def FnExactCallTicketUptoSaid : Prop := fnExactCallTicketUptoRow.holds Try.pinned (OpenSpec.upto fnExactCallTicketSpec)

/-- 'laws.FnCounters', WHERE WHAT IT READS IS OF BULK AT MOST 1048576: true; the input reads as it did. -/
def fnCountersUptoRow : OpenClaim := { program := "ythbmegdbdnmnoaa", sum := "2b9b77d458457e9608636d9a6ecfffa3799e8ff52ab98bc75fc6a0b0a3a3f025", func := "loop.example/g03007/laws.FnCounters", spec := "fnCounters", unfollowed := true, recurses := true, apart := false, narrowed := true }
def FnCountersUptoSaid : Prop := fnCountersUptoRow.holds Try.pinned (OpenSpec.upto fnCountersSpec)

/-- 'laws.FnExactCallAll', WHERE WHAT IT READS IS OF BULK AT MOST 1048576: true; the input reads as it did. -/
def fnExactCallAllUptoRow : OpenClaim := { program := "ythbmegdbdnmnoaa", sum := "2b9b77d458457e9608636d9a6ecfffa3799e8ff52ab98bc75fc6a0b0a3a3f025", func := "loop.example/g03007/laws.FnExactCallAll", spec := "fnExactCallAll", apart := false, narrowed := true }
def FnExactCallAllUptoSaid : Prop := fnExactCallAllUptoRow.holds Try.pinned (OpenSpec.upto fnExactCallAllSpec)

end Rows
end Go.Proofs.Ythbmegdbdnmnoaa
