/- foregonelaw13.LassoChecks answers true at every input, where what it reads is of bulk at most 1048576 (the tied card). Conditions: the row's own (laid variables as the program's text lays them; memory may be shared). -/
import Derived.Test.YtodldpffhfgicaaGreatDoorZ7
import Derived.Test.YtodldpffhfgicaaGreatDoorZ6
namespace Go.Proofs.YtodldpffhfgicaaGreatDoor
theorem lassoChecksUpto_card : Rows.LassoChecksUptoCardSaid := Go.Ab.X.card_of Go.Ab.X.saidUpto3
end Go.Proofs.YtodldpffhfgicaaGreatDoor
#print axioms Go.Proofs.YtodldpffhfgicaaGreatDoor.lassoChecksUpto_card
