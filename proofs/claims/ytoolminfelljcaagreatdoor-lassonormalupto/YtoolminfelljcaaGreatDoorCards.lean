/-
  DERIVED. GIVEN WITH THE SEED: THE CARDS: each row of YtoolminfelljcaaGreatDoorRows.lean that lists a variable, with what it lists TIED to the program's text (the seventh form; the later family's looks); each row that meets fmt, with fmt's text TOLD by the authors' own Lean function (tested against real Go, not proved from fmt's source: count such statements apart). THE CARD IS WHAT COUNTS. Prove the row's statement (the work); the ties are given (YtoolminfelljcaaGreatDoorTie.lean); close each card by the builder's one call (the guide's Derived/Test/ToyasCard.lean, 'card_holds'). Laid BY PROGRAM, IN A SANDBOX (cutbox-door.mjs). By AI agents, Wed Nov 11 2026. No macro, syntax, notation, axiom, sorry.
-/
import Derived.Test.YtoolminfelljcaaGreatDoorRows
import GoSem.ClaimSeven
namespace Go.Proofs.YtoolminfelljcaaGreatDoor
namespace Rows

/-- THE TIED CARD OF 'foregonelaw13.LassoForms'. -/
def lassoFormsCard : Claim7 := { stood := { row := lassoFormsRow, standIns := [], harness := (true, "ebc69e162b5783f7b355220421975fd960f7393e9a2821076270f4873c551809"), looks := true }, kinds := [], alts := [], laidByText := true, laidKinds := [.data, .data, .data, .sentinel, .sentinel], laidTests := true, laidLooks := .later }
def LassoFormsCardSaid : Prop := Claim7.holds Tryz.pinned (.plain (OpenSpec.ofChange lassoFormsSpec)) lassoFormsCard

/-- THE TIED CARD OF 'foregonelaw13.LassoNormal'. -/
def lassoNormalCard : Claim7 := { stood := { row := lassoNormalRow, standIns := [], harness := (true, "ebc69e162b5783f7b355220421975fd960f7393e9a2821076270f4873c551809"), looks := true }, kinds := [], alts := [], laidByText := true, laidKinds := [.data, .data, .data, .sentinel, .sentinel], laidTests := true, laidLooks := .later }
def LassoNormalCardSaid : Prop := Claim7.holds Tryz.pinned (.plain (OpenSpec.ofChange lassoNormalSpec)) lassoNormalCard

/-- THE SECOND FORM's CARD OF 'foregonelaw13.LassoForms'. -/
def lassoFormsUptoCard : Claim7 := { stood := { row := lassoFormsUptoRow, standIns := [], harness := (true, "ebc69e162b5783f7b355220421975fd960f7393e9a2821076270f4873c551809"), looks := true }, kinds := [], alts := [], laidByText := true, laidKinds := [.data, .data, .data, .sentinel, .sentinel], laidTests := true, laidLooks := .later }
def LassoFormsUptoCardSaid : Prop := Claim7.holds Tryz.pinned (.plain (OpenSpec.upto lassoFormsSpec)) lassoFormsUptoCard

/-- THE SECOND FORM's CARD OF 'foregonelaw13.LassoNormal'. -/
def lassoNormalUptoCard : Claim7 := { stood := { row := lassoNormalUptoRow, standIns := [], harness := (true, "ebc69e162b5783f7b355220421975fd960f7393e9a2821076270f4873c551809"), looks := true }, kinds := [], alts := [], laidByText := true, laidKinds := [.data, .data, .data, .sentinel, .sentinel], laidTests := true, laidLooks := .later }
def LassoNormalUptoCardSaid : Prop := Claim7.holds Tryz.pinned (.plain (OpenSpec.upto lassoNormalSpec)) lassoNormalUptoCard
end Rows
end Go.Proofs.YtoolminfelljcaaGreatDoor
