/- foregonelaw13.LassoNormal answers true at every input, where what it reads is of bulk at most 1048576 (the tied card). Conditions: the row's own (laid variables as the program's text lays them; memory may be shared). -/
import Derived.Test.YtoolminfelljcaaGreatDoorZ7b
import Derived.Test.YtoolminfelljcaaGreatDoorZ6b
namespace Go.Proofs.YtoolminfelljcaaGreatDoor
theorem lassoNormalUpto_card : Rows.LassoNormalUptoCardSaid := Go.Ab.X.card_of Go.Ab.X.saidUpto4
end Go.Proofs.YtoolminfelljcaaGreatDoor
#print axioms Go.Proofs.YtoolminfelljcaaGreatDoor.lassoNormalUpto_card
