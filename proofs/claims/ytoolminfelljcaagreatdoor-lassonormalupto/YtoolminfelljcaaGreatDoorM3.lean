/- A part. -/
import Derived.Test.YtoolminfelljcaaGreatDoorY1
import Derived.KernelRfl
set_option linter.all false
noncomputable section
namespace Go.Ab.X
open Go Go.Ab Go.Proofs
set_option maxRecDepth 100000
theorem m116:zAJ M0 1000000 14 [(.agg [d16,(.int .i64 (.ofNat 0))]),(.int .i64 (.ofNat 2))] d95=true:=by kernel_rfl
theorem m118:zAJ M0 1000000 52 [(.sl 0 [d12] .shut),(.sl 0 [d12] .shut)] (.bool true)=true:=by kernel_rfl
theorem m119:zAJ M0 1000000 89 [(.sl 0 [d13] .shut),(.sl 0 [d13] .shut)] (.int .i64 (.ofNat 0))=true:=by kernel_rfl
theorem m120:zAJ M0 1000000 89 [(.sl 0 [d14] .shut),(.sl 0 [d14] .shut)] (.int .i64 (.ofNat 0))=true:=by kernel_rfl
theorem m121:zAJ M0 1000000 89 [(.sl 0 [d15] .shut),(.sl 0 [d15] .shut)] (.int .i64 (.ofNat 0))=true:=by kernel_rfl
theorem m123:zAJ M0 1000000 7 [(.agg [d16,(.int .i64 (.ofNat 0))]),(.int .i64 (.ofNat 1))] d98=true:=by kernel_rfl
theorem m124:zAJ M0 1000000 7 [(.agg [d34,(.int .i64 (.ofNat 2))]),(.int .i64 (.ofNat 2))] (.tuple [d99,(.int .i64 (.ofNat 0))])=true:=by kernel_rfl
theorem m125:zAJ M0 1000000 24 [(.int .i64 (.ofNat 0)),d100] (.agg [d97,(.int .i64 (.ofNat 0))])=true:=by kernel_rfl
theorem m126:zAJ M0 1000000 24 [(.int .i64 (.ofNat 1)),d101] (.agg [d102,(.int .i64 (.ofNat 1))])=true:=by kernel_rfl
theorem m127:zAJ M0 1000000 130 [d29] (.bool true)=true:=by kernel_rfl
theorem m7:zAJ M1 1000000 92 [d10] (.int .i64 (.ofNat 0))=true:=by kernel_rfl
end Go.Ab.X
end
