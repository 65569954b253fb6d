/- A part. -/
import Derived.Test.YtfjmlhpdcaeabaaGreatDoorY1
set_option linter.all false
noncomputable section
namespace Go.Ab.X
open Go Go.Ab Go.Proofs
set_option maxRecDepth 100000
theorem m79:zAN M3 1000000 51 [d18,d81,d83] d75=true:=by kernel_rfl
theorem m118:zAN M3 1000000 51 [d18,d93,d50] d107=true:=by kernel_rfl
theorem m124:zAN M4 1000000 4 [] (.bool true)=true:=by kernel_rfl
end Go.Ab.X
end
