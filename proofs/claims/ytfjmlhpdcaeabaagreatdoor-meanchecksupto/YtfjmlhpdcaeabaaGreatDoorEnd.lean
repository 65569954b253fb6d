/- foregonelaw12.MeanChecks answers true at every input, where what it reads is of bulk at most 1048576 (the tied card). Conditions: the row's own (laid variables as the program's text lays them; memory may be shared). -/
import Derived.Test.YtfjmlhpdcaeabaaGreatDoorZ3
import Derived.Test.YtfjmlhpdcaeabaaGreatDoorZ4
namespace Go.Proofs.YtfjmlhpdcaeabaaGreatDoor
theorem meanChecksUpto_card : Rows.MeanChecksUptoCardSaid := Go.Ab.X.card_of Go.Ab.X.saidUpto
end Go.Proofs.YtfjmlhpdcaeabaaGreatDoor
#print axioms Go.Proofs.YtfjmlhpdcaeabaaGreatDoor.meanChecksUpto_card
