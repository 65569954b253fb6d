/- A part. -/
import Derived.Test.YtodldpffhfgicaaGreatDoorY1
import Derived.KernelRfl
set_option linter.all false
noncomputable section
namespace Go.Ab.X
open Go Go.Ab Go.Proofs
set_option maxRecDepth 100000
theorem m95:zAG M1 1000000 252 [d10,d85,(.int .i64 (.ofNat 0))] (.bool true)=true:=by kernel_rfl
theorem m104:zAG M1 1000000 48 [d89] (.int .i64 (.ofNat 0))=true:=by kernel_rfl
theorem m78:zAG M3 1000000 39 [d10,(.agg [d16,(.int .i64 (.ofNat 0))]),d57] d33=true:=by kernel_rfl
theorem m79:zAG M3 1000000 39 [d10,(.agg [d34,(.int .i64 (.ofNat 2))]),d57] d36=true:=by kernel_rfl
end Go.Ab.X
end
