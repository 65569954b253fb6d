/-
  DERIVED. GIVEN WITH THE SEED: THE CARDS: each row of YtodldpffhfgicaaGreatDoorRows.lean that lists a variable, with what it lists TIED to the program's text (the seventh form; the later family's looks); each row that meets fmt, with fmt's text TOLD by the authors' own Lean function (tested against real Go, not proved from fmt's source: count such statements apart). THE CARD IS WHAT COUNTS. Prove the row's statement (the work); the ties are given (YtodldpffhfgicaaGreatDoorTie.lean); close each card by the builder's one call (the guide's Derived/Test/ToyasCard.lean, 'card_holds'). Laid BY PROGRAM, IN A SANDBOX (cutbox-door.mjs). By AI agents, Wed Nov 11 2026. No macro, syntax, notation, axiom, sorry.
-/
import Derived.Test.YtodldpffhfgicaaGreatDoorRows
import GoSem.ClaimSeven
namespace Go.Proofs.YtodldpffhfgicaaGreatDoor
namespace Rows

/-- THE TIED CARD OF 'foregonelaw13.LassoChecks'. -/
def lassoChecksCard : Claim7 := { stood := { row := lassoChecksRow, standIns := [], harness := (true, "2f5ae0ecfab45397c2aace3f812abae3ce943935f0abcd5a8068a4d29b98a9d1"), looks := true }, kinds := [], alts := [], laidByText := true, laidKinds := [.data, .data, .data, .sentinel, .sentinel], laidTests := true, laidLooks := .later }
def LassoChecksCardSaid : Prop := Claim7.holds Tryz.pinned (.plain (OpenSpec.ofChange lassoChecksSpec)) lassoChecksCard

/-- THE TIED CARD OF 'foregonelaw13.LassoForms'. -/
def lassoFormsCard : Claim7 := { stood := { row := lassoFormsRow, standIns := [], harness := (true, "2f5ae0ecfab45397c2aace3f812abae3ce943935f0abcd5a8068a4d29b98a9d1"), looks := true }, kinds := [], alts := [], laidByText := true, laidKinds := [.data, .data, .data, .sentinel, .sentinel], laidTests := true, laidLooks := .later }
def LassoFormsCardSaid : Prop := Claim7.holds Tryz.pinned (.plain (OpenSpec.ofChange lassoFormsSpec)) lassoFormsCard

/-- THE SECOND FORM's CARD OF 'foregonelaw13.LassoChecks'. -/
def lassoChecksUptoCard : Claim7 := { stood := { row := lassoChecksUptoRow, standIns := [], harness := (true, "2f5ae0ecfab45397c2aace3f812abae3ce943935f0abcd5a8068a4d29b98a9d1"), looks := true }, kinds := [], alts := [], laidByText := true, laidKinds := [.data, .data, .data, .sentinel, .sentinel], laidTests := true, laidLooks := .later }
def LassoChecksUptoCardSaid : Prop := Claim7.holds Tryz.pinned (.plain (OpenSpec.upto lassoChecksSpec)) lassoChecksUptoCard

/-- THE SECOND FORM's CARD OF 'foregonelaw13.LassoForms'. -/
def lassoFormsUptoCard : Claim7 := { stood := { row := lassoFormsUptoRow, standIns := [], harness := (true, "2f5ae0ecfab45397c2aace3f812abae3ce943935f0abcd5a8068a4d29b98a9d1"), looks := true }, kinds := [], alts := [], laidByText := true, laidKinds := [.data, .data, .data, .sentinel, .sentinel], laidTests := true, laidLooks := .later }
def LassoFormsUptoCardSaid : Prop := Claim7.holds Tryz.pinned (.plain (OpenSpec.upto lassoFormsSpec)) lassoFormsUptoCard
end Rows
end Go.Proofs.YtodldpffhfgicaaGreatDoor
