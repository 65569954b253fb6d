/- A part. -/
import Derived.Test.YtfjmlhpdcaeabaaGreatDoorY1
set_option linter.all false
noncomputable section
namespace Go.Ab.X
open Go Go.Ab Go.Proofs
set_option maxRecDepth 100000
theorem m117:zAN M2 1000000 303 [d38,d106] d104=true:=by kernel_rfl
theorem m120:zAN M2 1000000 32 [d110] d111=true:=by kernel_rfl
theorem m23:zAN M3 1000000 14 [d18] d36=true:=by kernel_rfl
end Go.Ab.X
end
