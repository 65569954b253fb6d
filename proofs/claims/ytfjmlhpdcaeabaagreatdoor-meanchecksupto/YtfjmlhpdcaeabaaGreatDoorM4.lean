/- A part. -/
import Derived.Test.YtfjmlhpdcaeabaaGreatDoorY1
set_option linter.all false
noncomputable section
namespace Go.Ab.X
open Go Go.Ab Go.Proofs
set_option maxRecDepth 100000
theorem m121:zAN M1 1000000 6 [d112] (.int .i64 (.ofNat 6))=true:=by kernel_rfl
theorem m122:zAN M1 1000000 6 [d110] (.int .i64 (.ofNat 0))=true:=by kernel_rfl
end Go.Ab.X
end
