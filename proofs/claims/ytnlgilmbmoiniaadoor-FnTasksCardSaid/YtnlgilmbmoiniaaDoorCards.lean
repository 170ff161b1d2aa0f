/-
  DERIVED. GIVEN WITH THE SEED: THE CARDS: each row of YtnlgilmbmoiniaaDoorRows.lean that lists a variable, with what it lists TIED to the program's text (the seventh form; the later family's looks); each row that meets fmt, with fmt's text TOLD by the authors' own Lean function (tested against real Go, not proved from fmt's source: count such statements apart). THE CARD IS WHAT COUNTS. Prove the row's statement (the work); the ties are given (YtnlgilmbmoiniaaDoorTie.lean); close each card by the builder's one call (the guide's Derived/Test/ToyasCard.lean, 'card_holds'). Laid BY PROGRAM, IN A SANDBOX (cutbox-door.mjs). By AI agents, Wed Nov 11 2026. No macro, syntax, notation, axiom, sorry.
-/
import Derived.Test.YtnlgilmbmoiniaaDoorRows
import GoSem.ClaimSeven
namespace Go.Proofs.YtnlgilmbmoiniaaDoor
namespace Rows

/-- THE TIED CARD OF 'laws.FnTasks'. -/
def fnTasksCard : Claim7 := { stood := { row := fnTasksRow, standIns := [], harness := (true, "08afa253bf0ad63451167b54bd08f01ed3a63981432fb8341aef38bc7099fc29"), looks := false }, kinds := [], alts := [], laidByText := true, laidKinds := [.data, .data, .data], laidTests := true, laidLooks := .later }
def FnTasksCardSaid : Prop := Claim7.holds Tryd.pinned (.plain (OpenSpec.ofChange fnTasksSpec)) fnTasksCard

/-- THE TIED CARD OF 'laws.FnExactTaskText'. -/
def fnExactTaskTextCard : Claim7 := { stood := { row := fnExactTaskTextRow, standIns := [], harness := (true, "08afa253bf0ad63451167b54bd08f01ed3a63981432fb8341aef38bc7099fc29"), looks := false }, kinds := [], alts := [], laidByText := true, laidKinds := [.data, .data, .data], laidTests := true, laidLooks := .later }
def FnExactTaskTextCardSaid : Prop := Claim7.holds Tryd.pinned (.plain (OpenSpec.ofChange fnExactTaskTextSpec)) fnExactTaskTextCard

/-- THE SECOND FORM's CARD OF 'laws.FnTasks'. -/
def fnTasksUptoCard : Claim7 := { stood := { row := fnTasksUptoRow, standIns := [], harness := (true, "08afa253bf0ad63451167b54bd08f01ed3a63981432fb8341aef38bc7099fc29"), looks := false }, kinds := [], alts := [], laidByText := true, laidKinds := [.data, .data, .data], laidTests := true, laidLooks := .later }
def FnTasksUptoCardSaid : Prop := Claim7.holds Tryd.pinned (.plain (OpenSpec.upto fnTasksSpec)) fnTasksUptoCard

/-- THE SECOND FORM's CARD OF 'laws.FnExactTaskText'. -/
def fnExactTaskTextUptoCard : Claim7 := { stood := { row := fnExactTaskTextUptoRow, standIns := [], harness := (true, "08afa253bf0ad63451167b54bd08f01ed3a63981432fb8341aef38bc7099fc29"), looks := false }, kinds := [], alts := [], laidByText := true, laidKinds := [.data, .data, .data], laidTests := true, laidLooks := .later }
def FnExactTaskTextUptoCardSaid : Prop := Claim7.holds Tryd.pinned (.plain (OpenSpec.upto fnExactTaskTextSpec)) fnExactTaskTextUptoCard
end Rows
end Go.Proofs.YtnlgilmbmoiniaaDoor
