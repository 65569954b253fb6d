/- A part. -/
import Derived.Test.YtfjmlhpdcaeabaaGreatDoorY1
set_option linter.all false
noncomputable section
namespace Go.Ab.X
open Go Go.Ab Go.Proofs
set_option maxRecDepth 100000
theorem m8:zAN M1 1000000 6 [d18] (.int .i64 (.ofNat 0))=true:=by kernel_rfl
theorem m119:zAN M1 1000000 6 [d109] (.int .i64 (.ofNat 0))=true:=by kernel_rfl
end Go.Ab.X
end
