/- A part. -/
import Derived.Test.YtodldpffhfgicaaGreatDoorY1
import Derived.KernelRfl
set_option linter.all false
noncomputable section
namespace Go.Ab.X
open Go Go.Ab Go.Proofs
set_option maxRecDepth 100000
theorem m116:zAG M0 1000000 20 [(.agg [d16,(.int .i64 (.ofNat 0))]),(.int .i64 (.ofNat 2))] d95=true:=by kernel_rfl
theorem m118:zAG M0 1000000 69 [(.sl 0 [d12] .shut),(.sl 0 [d12] .shut)] (.bool true)=true:=by kernel_rfl
theorem m119:zAG M0 1000000 115 [(.sl 0 [d13] .shut),(.sl 0 [d13] .shut)] (.int .i64 (.ofNat 0))=true:=by kernel_rfl
theorem m120:zAG M0 1000000 115 [(.sl 0 [d14] .shut),(.sl 0 [d14] .shut)] (.int .i64 (.ofNat 0))=true:=by kernel_rfl
theorem m121:zAG M0 1000000 115 [(.sl 0 [d15] .shut),(.sl 0 [d15] .shut)] (.int .i64 (.ofNat 0))=true:=by kernel_rfl
theorem m123:zAG M0 1000000 13 [(.agg [d16,(.int .i64 (.ofNat 0))]),(.int .i64 (.ofNat 1))] d98=true:=by kernel_rfl
theorem m124:zAG M0 1000000 13 [(.agg [d34,(.int .i64 (.ofNat 2))]),(.int .i64 (.ofNat 2))] (.tuple [d99,(.int .i64 (.ofNat 0))])=true:=by kernel_rfl
theorem m125:zAG M0 1000000 29 [(.int .i64 (.ofNat 0)),d100] (.agg [d97,(.int .i64 (.ofNat 0))])=true:=by kernel_rfl
theorem m126:zAG M0 1000000 29 [(.int .i64 (.ofNat 1)),d101] (.agg [d102,(.int .i64 (.ofNat 1))])=true:=by kernel_rfl
theorem m127:zAG M0 1000000 106 [d29] (.bool true)=true:=by kernel_rfl
theorem m7:zAG M1 1000000 48 [d10] (.int .i64 (.ofNat 0))=true:=by kernel_rfl
end Go.Ab.X
end
