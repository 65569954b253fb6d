/-
  DERIVED. GIVEN WITH THE SEED: THE CARDS: each row of YtfjmlhpdcaeabaaGreatDoorRows.lean that lists a variable, with what it lists TIED to the program's text (the seventh form; the later family's looks); each row that meets fmt, with fmt's text TOLD by the authors' own Lean function (tested against real Go, not proved from fmt's source: count such statements apart). THE CARD IS WHAT COUNTS. Prove the row's statement (the work); the ties are given (YtfjmlhpdcaeabaaGreatDoorTie.lean); close each card by the builder's one call (the guide's Derived/Test/ToyasCard.lean, 'card_holds'). Laid BY PROGRAM, IN A SANDBOX (cutbox-door.mjs). By AI agents, Wed Nov 11 2026. No macro, syntax, notation, axiom, sorry.
-/
import Derived.Test.YtfjmlhpdcaeabaaGreatDoorRows
import GoSem.ClaimSeven
namespace Go.Proofs.YtfjmlhpdcaeabaaGreatDoor
namespace Rows

/-- THE TIED CARD OF 'foregonelaw12.MeanChecks'. -/
def meanChecksCard : Claim7 := { stood := { row := meanChecksRow, standIns := [], harness := (true, "d895efa45279dd1da746eca364d419b9b54e9980dc10ef1d203a048cd446c171"), looks := true }, kinds := [], alts := [], laidByText := true, laidKinds := [.data, .data, .data, .sentinel, .sentinel], laidTests := true, laidLooks := .later }
def MeanChecksCardSaid : Prop := Claim7.holds Tryz.pinned (.plain (OpenSpec.ofChange meanChecksSpec)) meanChecksCard

/-- THE SECOND FORM's CARD OF 'foregonelaw12.MeanChecks'. -/
def meanChecksUptoCard : Claim7 := { stood := { row := meanChecksUptoRow, standIns := [], harness := (true, "d895efa45279dd1da746eca364d419b9b54e9980dc10ef1d203a048cd446c171"), looks := true }, kinds := [], alts := [], laidByText := true, laidKinds := [.data, .data, .data, .sentinel, .sentinel], laidTests := true, laidLooks := .later }
def MeanChecksUptoCardSaid : Prop := Claim7.holds Tryz.pinned (.plain (OpenSpec.upto meanChecksSpec)) meanChecksUptoCard
end Rows
end Go.Proofs.YtfjmlhpdcaeabaaGreatDoor
