/- A part. -/
import Derived.Test.YtodldpffhfgicaaGreatDoorY1
import Derived.KernelRfl
set_option linter.all false
noncomputable section
namespace Go.Ab.X
open Go Go.Ab Go.Proofs
set_option maxRecDepth 100000
theorem m99:zAG M3 1000000 175 [d10,d85,d28] d30=true:=by kernel_rfl
theorem m100:zAG M3 1000000 175 [d10,d85,d31] d30=true:=by kernel_rfl
theorem m110:zAG M3 1000000 38 [d89,(.agg [d34,(.int .i64 (.ofNat 2))])] d87=true:=by kernel_rfl
theorem m115:zAG M3 1000000 39 [d10,(.agg [d34,(.int .i64 (.ofNat 2))]),d91] d93=true:=by kernel_rfl
theorem m131:zAG M3 1000000 39 [d10,(.agg [d16,(.int .i64 (.ofNat 0))]),d105] d108=true:=by kernel_rfl
theorem m101:zAG M4 1000000 38 [d10,(.agg [d16,(.int .i64 (.ofNat 0))])] d87=true:=by kernel_rfl
theorem m103:zAG M4 1000000 38 [d10,(.agg [d34,(.int .i64 (.ofNat 2))])] d88=true:=by kernel_rfl
theorem m132:zAG M5 1000000 5 [] (.bool true)=true:=by kernel_rfl
end Go.Ab.X
end
