/- A part. -/
import Derived.Test.YtodldpffhfgicaaGreatDoorY1
import Derived.KernelRfl
set_option linter.all false
noncomputable section
namespace Go.Ab.X
open Go Go.Ab Go.Proofs
set_option maxRecDepth 100000
theorem m97:zAG M3 1000000 175 [d10,d85,d24] d30=true:=by kernel_rfl
theorem m98:zAG M3 1000000 175 [d10,d85,d27] d30=true:=by kernel_rfl
end Go.Ab.X
end
