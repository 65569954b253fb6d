/- A part. -/
import Derived.Test.YtodldpffhfgicaaGreatDoorY1
import Derived.KernelRfl
set_option linter.all false
noncomputable section
namespace Go.Ab.X
open Go Go.Ab Go.Proofs
set_option maxRecDepth 100000
theorem m93:zAG M0 1000000 372 [(.int .i64 (.ofNat 6)),d82,d82] d12=true:=by kernel_rfl
end Go.Ab.X
end
