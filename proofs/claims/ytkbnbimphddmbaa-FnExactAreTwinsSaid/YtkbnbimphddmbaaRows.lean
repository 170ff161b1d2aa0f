/-
  No cell of these rows narrows 'for every input' (looked for: loops, veiled, ifaces, maps, wideKeys, modest, calm, conditions, laid).
  DERIVED. THE GIVEN ROWS OF THIS SEAT. 10 by the template 'for every input the law returns true; each argument reads behind the call as it read before'; 0 by the template 'total and deterministic' (their statements: YtkbnbimphddmbaaTotals.lean).
  GIVEN WITH THE SEED: the statements are not yours to turn. If you find one false, say at which input.
  Laid BY PROGRAM, IN A SANDBOX (cutbox-rows.mjs): the forced cells as the released guide's own fill.sh prints them over the translation 4cec8e4ffc9d70ee… (all of the seat's roots in one cut). By AI agents, Wed Nov 11 2026. No macro, syntax, notation, axiom, sorry.
-/
import Derived.Test.YtkbnbimphddmbaaChecked
import GoSem.Claim
import GoSem.ClaimJoined
import GoSem.ClaimMapViews
import Derived.JoinedTies
import Derived.KernelRfl
namespace Go.Proofs.Ytkbnbimphddmbaa
/- THE CELL 'sum', in the pinned program and in every row, IS THE sha256 OF THE DUMP (.gsa) THAT YtkbnbimphddmbaaProg.lean LOADS. Nothing in Lean hashes anything: it is a label: what it is worth is what the hold of that sum in a sandbox is worth. -/
noncomputable def Try.pinned : Pinned := { name := "ytkbnbimphddmbaa", sum := "4cec8e4ffc9d70eefe7850cf327b166594df6a8d43c08783dcf5d8e8b3e08693", checked := Try.checked }
namespace Rows
def none {H : Type} : Left H := { results := [], args := [] }

/-- 'laws.FnExactHolderText': WHATEVER THE INPUT: true; the input reads as it did. -/
def fnExactHolderTextSpec : ChangeSpec := { name := "fnExactHolderText", fn := fun _ => fun
  | [d] => { results := [.lit (.bool true)], args := [d] }
  | _ => none }
def fnExactHolderTextRow : OpenClaim := { program := "ytkbnbimphddmbaa", sum := "4cec8e4ffc9d70eefe7850cf327b166594df6a8d43c08783dcf5d8e8b3e08693", func := "loop.example/g03007/laws.FnExactHolderText", spec := "fnExactHolderText", apart := false }
def FnExactHolderTextSaid : Prop := fnExactHolderTextRow.holds Try.pinned (OpenSpec.ofChange fnExactHolderTextSpec)

/-- ITS FALSE NEIGHBOUR: 'it returns false'. Refute it at one input. -/
def fnExactHolderTextWrong : ChangeSpec := { name := "fnExactHolderText", fn := fun _ => fun
  | [d] => { results := [.lit (.bool false)], args := [d] }
  | _ => none }
def FnExactHolderTextWrongFalsely : Prop := fnExactHolderTextRow.holds Try.pinned (OpenSpec.ofChange fnExactHolderTextWrong)

/-- 'laws.FnExactKindOf': WHATEVER THE INPUT: true; the input reads as it did. -/
def fnExactKindOfSpec : ChangeSpec := { name := "fnExactKindOf", fn := fun _ => fun
  | [d] => { results := [.lit (.bool true)], args := [d] }
  | _ => none }
def fnExactKindOfRow : OpenClaim := { program := "ytkbnbimphddmbaa", sum := "4cec8e4ffc9d70eefe7850cf327b166594df6a8d43c08783dcf5d8e8b3e08693", func := "loop.example/g03007/laws.FnExactKindOf", spec := "fnExactKindOf", apart := false }
def FnExactKindOfSaid : Prop := fnExactKindOfRow.holds Try.pinned (OpenSpec.ofChange fnExactKindOfSpec)

/-- ITS FALSE NEIGHBOUR: 'it returns false'. Refute it at one input. -/
def fnExactKindOfWrong : ChangeSpec := { name := "fnExactKindOf", fn := fun _ => fun
  | [d] => { results := [.lit (.bool false)], args := [d] }
  | _ => none }
def FnExactKindOfWrongFalsely : Prop := fnExactKindOfRow.holds Try.pinned (OpenSpec.ofChange fnExactKindOfWrong)

/-- 'laws.FnExactIsCalendar': WHATEVER THE INPUT: true; the input reads as it did. -/
def fnExactIsCalendarSpec : ChangeSpec := { name := "fnExactIsCalendar", fn := fun _ => fun
  | [d] => { results := [.lit (.bool true)], args := [d] }
  | _ => none }
def fnExactIsCalendarRow : OpenClaim := { program := "ytkbnbimphddmbaa", sum := "4cec8e4ffc9d70eefe7850cf327b166594df6a8d43c08783dcf5d8e8b3e08693", func := "loop.example/g03007/laws.FnExactIsCalendar", spec := "fnExactIsCalendar", apart := false }
def FnExactIsCalendarSaid : Prop := fnExactIsCalendarRow.holds Try.pinned (OpenSpec.ofChange fnExactIsCalendarSpec)

/-- ITS FALSE NEIGHBOUR: 'it returns false'. Refute it at one input. -/
def fnExactIsCalendarWrong : ChangeSpec := { name := "fnExactIsCalendar", fn := fun _ => fun
  | [d] => { results := [.lit (.bool false)], args := [d] }
  | _ => none }
def FnExactIsCalendarWrongFalsely : Prop := fnExactIsCalendarRow.holds Try.pinned (OpenSpec.ofChange fnExactIsCalendarWrong)

/-- 'laws.FnExactAreTwins': WHATEVER THE INPUT: true; the input reads as it did. -/
def fnExactAreTwinsSpec : ChangeSpec := { name := "fnExactAreTwins", fn := fun _ => fun
  | [d1, d2] => { results := [.lit (.bool true)], args := [d1, d2] }
  | _ => none }
def fnExactAreTwinsRow : OpenClaim := { program := "ytkbnbimphddmbaa", sum := "4cec8e4ffc9d70eefe7850cf327b166594df6a8d43c08783dcf5d8e8b3e08693", func := "loop.example/g03007/laws.FnExactAreTwins", spec := "fnExactAreTwins", apart := false }
def FnExactAreTwinsSaid : Prop := fnExactAreTwinsRow.holds Try.pinned (OpenSpec.ofChange fnExactAreTwinsSpec)

/-- ITS FALSE NEIGHBOUR: 'it returns false'. Refute it at one input. -/
def fnExactAreTwinsWrong : ChangeSpec := { name := "fnExactAreTwins", fn := fun _ => fun
  | [d1, d2] => { results := [.lit (.bool false)], args := [d1, d2] }
  | _ => none }
def FnExactAreTwinsWrongFalsely : Prop := fnExactAreTwinsRow.holds Try.pinned (OpenSpec.ofChange fnExactAreTwinsWrong)

/-- 'laws.FnExactIsOpen': WHATEVER THE INPUT: true; the input reads as it did. -/
def fnExactIsOpenSpec : ChangeSpec := { name := "fnExactIsOpen", fn := fun _ => fun
  | [d1, d2] => { results := [.lit (.bool true)], args := [d1, d2] }
  | _ => none }
def fnExactIsOpenRow : OpenClaim := { program := "ytkbnbimphddmbaa", sum := "4cec8e4ffc9d70eefe7850cf327b166594df6a8d43c08783dcf5d8e8b3e08693", func := "loop.example/g03007/laws.FnExactIsOpen", spec := "fnExactIsOpen", apart := false }
def FnExactIsOpenSaid : Prop := fnExactIsOpenRow.holds Try.pinned (OpenSpec.ofChange fnExactIsOpenSpec)

/-- ITS FALSE NEIGHBOUR: 'it returns false'. Refute it at one input. -/
def fnExactIsOpenWrong : ChangeSpec := { name := "fnExactIsOpen", fn := fun _ => fun
  | [d1, d2] => { results := [.lit (.bool false)], args := [d1, d2] }
  | _ => none }
def FnExactIsOpenWrongFalsely : Prop := fnExactIsOpenRow.holds Try.pinned (OpenSpec.ofChange fnExactIsOpenWrong)

/-- 'laws.FnExactNextOpen': WHATEVER THE INPUT: true; the input reads as it did. -/
def fnExactNextOpenSpec : ChangeSpec := { name := "fnExactNextOpen", fn := fun _ => fun
  | [d1, d2] => { results := [.lit (.bool true)], args := [d1, d2] }
  | _ => none }
def fnExactNextOpenRow : OpenClaim := { program := "ytkbnbimphddmbaa", sum := "4cec8e4ffc9d70eefe7850cf327b166594df6a8d43c08783dcf5d8e8b3e08693", func := "loop.example/g03007/laws.FnExactNextOpen", spec := "fnExactNextOpen", apart := false }
def FnExactNextOpenSaid : Prop := fnExactNextOpenRow.holds Try.pinned (OpenSpec.ofChange fnExactNextOpenSpec)

/-- ITS FALSE NEIGHBOUR: 'it returns false'. Refute it at one input. -/
def fnExactNextOpenWrong : ChangeSpec := { name := "fnExactNextOpen", fn := fun _ => fun
  | [d1, d2] => { results := [.lit (.bool false)], args := [d1, d2] }
  | _ => none }
def FnExactNextOpenWrongFalsely : Prop := fnExactNextOpenRow.holds Try.pinned (OpenSpec.ofChange fnExactNextOpenWrong)

/-- 'laws.FnExactOpenDaysBetween': WHATEVER THE INPUT: true; the input reads as it did. -/
def fnExactOpenDaysBetweenSpec : ChangeSpec := { name := "fnExactOpenDaysBetween", fn := fun _ => fun
  | [d1, d2, d3] => { results := [.lit (.bool true)], args := [d1, d2, d3] }
  | _ => none }
def fnExactOpenDaysBetweenRow : OpenClaim := { program := "ytkbnbimphddmbaa", sum := "4cec8e4ffc9d70eefe7850cf327b166594df6a8d43c08783dcf5d8e8b3e08693", func := "loop.example/g03007/laws.FnExactOpenDaysBetween", spec := "fnExactOpenDaysBetween", apart := false }
def FnExactOpenDaysBetweenSaid : Prop := fnExactOpenDaysBetweenRow.holds Try.pinned (OpenSpec.ofChange fnExactOpenDaysBetweenSpec)

/-- ITS FALSE NEIGHBOUR: 'it returns false'. Refute it at one input. -/
def fnExactOpenDaysBetweenWrong : ChangeSpec := { name := "fnExactOpenDaysBetween", fn := fun _ => fun
  | [d1, d2, d3] => { results := [.lit (.bool false)], args := [d1, d2, d3] }
  | _ => none }
def FnExactOpenDaysBetweenWrongFalsely : Prop := fnExactOpenDaysBetweenRow.holds Try.pinned (OpenSpec.ofChange fnExactOpenDaysBetweenWrong)

/-- 'laws.FnExactAddOpenDays': WHATEVER THE INPUT: true; the input reads as it did. -/
def fnExactAddOpenDaysSpec : ChangeSpec := { name := "fnExactAddOpenDays", fn := fun _ => fun
  | [d1, d2, d3] => { results := [.lit (.bool true)], args := [d1, d2, d3] }
  | _ => none }
def fnExactAddOpenDaysRow : OpenClaim := { program := "ytkbnbimphddmbaa", sum := "4cec8e4ffc9d70eefe7850cf327b166594df6a8d43c08783dcf5d8e8b3e08693", func := "loop.example/g03007/laws.FnExactAddOpenDays", spec := "fnExactAddOpenDays", apart := false }
def FnExactAddOpenDaysSaid : Prop := fnExactAddOpenDaysRow.holds Try.pinned (OpenSpec.ofChange fnExactAddOpenDaysSpec)

/-- ITS FALSE NEIGHBOUR: 'it returns false'. Refute it at one input. -/
def fnExactAddOpenDaysWrong : ChangeSpec := { name := "fnExactAddOpenDays", fn := fun _ => fun
  | [d1, d2, d3] => { results := [.lit (.bool false)], args := [d1, d2, d3] }
  | _ => none }
def FnExactAddOpenDaysWrongFalsely : Prop := fnExactAddOpenDaysRow.holds Try.pinned (OpenSpec.ofChange fnExactAddOpenDaysWrong)

/-- 'laws.FnExactLastDay': WHATEVER THE INPUT: true; the input reads as it did. -/
def fnExactLastDaySpec : ChangeSpec := { name := "fnExactLastDay", fn := fun _ => fun
  | [d1, d2] => { results := [.lit (.bool true)], args := [d1, d2] }
  | _ => none }
def fnExactLastDayRow : OpenClaim := { program := "ytkbnbimphddmbaa", sum := "4cec8e4ffc9d70eefe7850cf327b166594df6a8d43c08783dcf5d8e8b3e08693", func := "loop.example/g03007/laws.FnExactLastDay", spec := "fnExactLastDay", apart := false }
def FnExactLastDaySaid : Prop := fnExactLastDayRow.holds Try.pinned (OpenSpec.ofChange fnExactLastDaySpec)

/-- ITS FALSE NEIGHBOUR: 'it returns false'. Refute it at one input. -/
def fnExactLastDayWrong : ChangeSpec := { name := "fnExactLastDay", fn := fun _ => fun
  | [d1, d2] => { results := [.lit (.bool false)], args := [d1, d2] }
  | _ => none }
def FnExactLastDayWrongFalsely : Prop := fnExactLastDayRow.holds Try.pinned (OpenSpec.ofChange fnExactLastDayWrong)

/-- 'laws.FnCalendars': WHATEVER THE INPUT: true; the input reads as it did. -/
def fnCalendarsSpec : ChangeSpec := { name := "fnCalendars", fn := fun _ => fun
  | [d] => { results := [.lit (.bool true)], args := [d] }
  | _ => none }
def fnCalendarsRow : OpenClaim := { program := "ytkbnbimphddmbaa", sum := "4cec8e4ffc9d70eefe7850cf327b166594df6a8d43c08783dcf5d8e8b3e08693", func := "loop.example/g03007/laws.FnCalendars", spec := "fnCalendars", apart := false }
def FnCalendarsSaid : Prop := fnCalendarsRow.holds Try.pinned (OpenSpec.ofChange fnCalendarsSpec)

/-- ITS FALSE NEIGHBOUR: 'it returns false'. Refute it at one input. -/
def fnCalendarsWrong : ChangeSpec := { name := "fnCalendars", fn := fun _ => fun
  | [d] => { results := [.lit (.bool false)], args := [d] }
  | _ => none }
def FnCalendarsWrongFalsely : Prop := fnCalendarsRow.holds Try.pinned (OpenSpec.ofChange fnCalendarsWrong)

/- THE SECOND FORM. 'bulk': how many values and letters a reading holds, each counted each time it is reached (what is shared counts as often as it is met; a slice's spare places count too). A statement '..UptoSaid' is the law's where the arguments, and the package variables that the reading takes, are together of bulk at most 1048576: NARROWER than '..Said'. Prove '..Said' where nothing that the law and all that it calls make is longer than what came in: it says more and counts as full. Else prove '..UptoSaid'. A law counts once. -/
mutual
def uptoBulk {H : Type} : DataW H → Nat
  | .lit (.string bytes) => bytes.length + 1
  | .lit _ => 1
  | .nil => 1
  | .ptr d => uptoBulk d + 1
  | .slice elems spare => uptoBulkAll elems + uptoBulkAll spare + 1
  | .agg parts => uptoBulkAll parts + 1
  | .iface _ d => uptoBulk d + 1
  | .map entries => uptoBulkEntries entries + 1
  | .held _ => 1
def uptoBulkAll {H : Type} : List (DataW H) → Nat
  | [] => 0
  | d :: r => uptoBulk d + uptoBulkAll r
def uptoBulkEntries {H : Type} : List (Lit × DataW H) → Nat
  | [] => 0
  | x :: r => uptoBulkEntry x + uptoBulkEntries r
def uptoBulkEntry {H : Type} : Lit × DataW H → Nat
  | (.string bytes, d) => bytes.length + uptoBulk d + 1
  | (_, d) => uptoBulk d + 1
 end
def uptoSmall : (H : Type) → List (DataW H) → Bool := fun _ ds => decide (uptoBulkAll ds ≤ 1048576)
def OpenSpec.upto (s : _root_.Go.ChangeSpec) : _root_.Go.OpenSpec := { _root_.Go.OpenSpec.ofChange s with cond := some uptoSmall }

/-- 'laws.FnExactHolderText', WHERE WHAT IT READS IS OF BULK AT MOST 1048576: true; the input reads as it did. -/
def fnExactHolderTextUptoRow : OpenClaim := { program := "ytkbnbimphddmbaa", sum := "4cec8e4ffc9d70eefe7850cf327b166594df6a8d43c08783dcf5d8e8b3e08693", func := "loop.example/g03007/laws.FnExactHolderText", spec := "fnExactHolderText", apart := false, narrowed := true }
def FnExactHolderTextUptoSaid : Prop := fnExactHolderTextUptoRow.holds Try.pinned (OpenSpec.upto fnExactHolderTextSpec)

/-- 'laws.FnExactKindOf', WHERE WHAT IT READS IS OF BULK AT MOST 1048576: true; the input reads as it did. -/
def fnExactKindOfUptoRow : OpenClaim := { program := "ytkbnbimphddmbaa", sum := "4cec8e4ffc9d70eefe7850cf327b166594df6a8d43c08783dcf5d8e8b3e08693", func := "loop.example/g03007/laws.FnExactKindOf", spec := "fnExactKindOf", apart := false, narrowed := true }
def FnExactKindOfUptoSaid : Prop := fnExactKindOfUptoRow.holds Try.pinned (OpenSpec.upto fnExactKindOfSpec)

/-- 'laws.FnExactIsCalendar', WHERE WHAT IT READS IS OF BULK AT MOST 1048576: true; the input reads as it did. -/
def fnExactIsCalendarUptoRow : OpenClaim := { program := "ytkbnbimphddmbaa", sum := "4cec8e4ffc9d70eefe7850cf327b166594df6a8d43c08783dcf5d8e8b3e08693", func := "loop.example/g03007/laws.FnExactIsCalendar", spec := "fnExactIsCalendar", apart := false, narrowed := true }
def FnExactIsCalendarUptoSaid : Prop := fnExactIsCalendarUptoRow.holds Try.pinned (OpenSpec.upto fnExactIsCalendarSpec)

/-- 'laws.FnExactAreTwins', WHERE WHAT IT READS IS OF BULK AT MOST 1048576: true; the input reads as it did. -/
def fnExactAreTwinsUptoRow : OpenClaim := { program := "ytkbnbimphddmbaa", sum := "4cec8e4ffc9d70eefe7850cf327b166594df6a8d43c08783dcf5d8e8b3e08693", func := "loop.example/g03007/laws.FnExactAreTwins", spec := "fnExactAreTwins", apart := false, narrowed := true }
def FnExactAreTwinsUptoSaid : Prop := fnExactAreTwinsUptoRow.holds Try.pinned (OpenSpec.upto fnExactAreTwinsSpec)

/-- 'laws.FnExactIsOpen', WHERE WHAT IT READS IS OF BULK AT MOST 1048576: true; the input reads as it did. -/
def fnExactIsOpenUptoRow : OpenClaim := { program := "ytkbnbimphddmbaa", sum := "4cec8e4ffc9d70eefe7850cf327b166594df6a8d43c08783dcf5d8e8b3e08693", func := "loop.example/g03007/laws.FnExactIsOpen", spec := "fnExactIsOpen", apart := false, narrowed := true }
def FnExactIsOpenUptoSaid : Prop := fnExactIsOpenUptoRow.holds Try.pinned (OpenSpec.upto fnExactIsOpenSpec)

/-- 'laws.FnExactNextOpen', WHERE WHAT IT READS IS OF BULK AT MOST 1048576: true; the input reads as it did. -/
def fnExactNextOpenUptoRow : OpenClaim := { program := "ytkbnbimphddmbaa", sum := "4cec8e4ffc9d70eefe7850cf327b166594df6a8d43c08783dcf5d8e8b3e08693", func := "loop.example/g03007/laws.FnExactNextOpen", spec := "fnExactNextOpen", apart := false, narrowed := true }
def FnExactNextOpenUptoSaid : Prop := fnExactNextOpenUptoRow.holds Try.pinned (OpenSpec.upto fnExactNextOpenSpec)

/-- 'laws.FnExactOpenDaysBetween', WHERE WHAT IT READS IS OF BULK AT MOST 1048576: true; the input reads as it did. -/
def fnExactOpenDaysBetweenUptoRow : OpenClaim := { program := "ytkbnbimphddmbaa", sum := "4cec8e4ffc9d70eefe7850cf327b166594df6a8d43c08783dcf5d8e8b3e08693", func := "loop.example/g03007/laws.FnExactOpenDaysBetween", spec := "fnExactOpenDaysBetween", apart := false, narrowed := true }
def FnExactOpenDaysBetweenUptoSaid : Prop := fnExactOpenDaysBetweenUptoRow.holds Try.pinned (OpenSpec.upto fnExactOpenDaysBetweenSpec)

/-- 'laws.FnExactAddOpenDays', WHERE WHAT IT READS IS OF BULK AT MOST 1048576: true; the input reads as it did. -/
def fnExactAddOpenDaysUptoRow : OpenClaim := { program := "ytkbnbimphddmbaa", sum := "4cec8e4ffc9d70eefe7850cf327b166594df6a8d43c08783dcf5d8e8b3e08693", func := "loop.example/g03007/laws.FnExactAddOpenDays", spec := "fnExactAddOpenDays", apart := false, narrowed := true }
def FnExactAddOpenDaysUptoSaid : Prop := fnExactAddOpenDaysUptoRow.holds Try.pinned (OpenSpec.upto fnExactAddOpenDaysSpec)

/-- 'laws.FnExactLastDay', WHERE WHAT IT READS IS OF BULK AT MOST 1048576: true; the input reads as it did. -/
def fnExactLastDayUptoRow : OpenClaim := { program := "ytkbnbimphddmbaa", sum := "4cec8e4ffc9d70eefe7850cf327b166594df6a8d43c08783dcf5d8e8b3e08693", func := "loop.example/g03007/laws.FnExactLastDay", spec := "fnExactLastDay", apart := false, narrowed := true }
def FnExactLastDayUptoSaid : Prop := fnExactLastDayUptoRow.holds Try.pinned (OpenSpec.upto fnExactLastDaySpec)

/-- 'laws.FnCalendars', WHERE WHAT IT READS IS OF BULK AT MOST 1048576: true; the input reads as it did. -/
def fnCalendarsUptoRow : OpenClaim := { program := "ytkbnbimphddmbaa", sum := "4cec8e4ffc9d70eefe7850cf327b166594df6a8d43c08783dcf5d8e8b3e08693", func := "loop.example/g03007/laws.FnCalendars", spec := "fnCalendars", apart := false, narrowed := true }
def FnCalendarsUptoSaid : Prop := fnCalendarsUptoRow.holds Try.pinned (OpenSpec.upto fnCalendarsSpec)

end Rows
end Go.Proofs.Ytkbnbimphddmbaa
