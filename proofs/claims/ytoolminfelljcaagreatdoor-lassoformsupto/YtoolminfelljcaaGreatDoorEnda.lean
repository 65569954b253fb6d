/- foregonelaw13.LassoForms answers true at every input, where what it reads is of bulk at most 1048576 (the tied card). Conditions: the row's own (laid variables as the program's text lays them; memory may be shared). -/
import Derived.Test.YtoolminfelljcaaGreatDoorZ7a
import Derived.Test.YtoolminfelljcaaGreatDoorZ6a
namespace Go.Proofs.YtoolminfelljcaaGreatDoor
theorem lassoFormsUpto_card : Rows.LassoFormsUptoCardSaid := Go.Ab.X.card_of Go.Ab.X.saidUpto3
end Go.Proofs.YtoolminfelljcaaGreatDoor
#print axioms Go.Proofs.YtoolminfelljcaaGreatDoor.lassoFormsUpto_card
