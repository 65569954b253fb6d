/- A part. -/
import Derived.Test.YtoolminfelljcaaGreatDoorY1
import Derived.KernelRfl
set_option linter.all false
noncomputable section
namespace Go.Ab.X
open Go Go.Ab Go.Proofs
set_option maxRecDepth 100000
theorem m106:zAJ M1 1000000 212 [d89,d80,(.int .i64 (.ofNat 0))] (.bool true)=true:=by kernel_rfl
theorem m108:zAJ M1 1000000 212 [d89,d81,(.int .i64 (.ofNat 0))] (.bool true)=true:=by kernel_rfl
theorem m111:zAJ M1 1000000 212 [d10,d90,(.int .i64 (.ofNat 0))] (.bool true)=true:=by kernel_rfl
theorem m117:zAJ M1 1000000 50 [(.agg [d94,(.int .i64 (.ofNat 0))])] (.agg [d16,(.int .i64 (.ofNat 0))])=true:=by kernel_rfl
theorem m122:zAJ M1 1000000 50 [(.agg [d34,(.int .i64 (.ofNat 2))])] (.agg [d96,(.int .i64 (.ofNat 1))])=true:=by kernel_rfl
theorem m128:zAJ M1 1000000 212 [d10,d104,(.int .i64 (.ofNat 0))] (.bool true)=true:=by kernel_rfl
theorem m9:zAJ M2 1000000 57 [d10,(.agg [d16,(.int .i64 (.ofNat 0))])] (.int .i64 (.ofNat 0))=true:=by kernel_rfl
theorem m11:zAJ M2 1000000 66 [d10,d23,(.int .i64 (.ofNat 0))] (.bool true)=true:=by kernel_rfl
end Go.Ab.X
end
