/- A part. -/
import Derived.Test.YtodldpffhfgicaaGreatDoorY1
import Derived.KernelRfl
set_option linter.all false
noncomputable section
namespace Go.Ab.X
open Go Go.Ab Go.Proofs
set_option maxRecDepth 100000
theorem m106:zAG M1 1000000 252 [d89,d80,(.int .i64 (.ofNat 0))] (.bool true)=true:=by kernel_rfl
theorem m108:zAG M1 1000000 252 [d89,d81,(.int .i64 (.ofNat 0))] (.bool true)=true:=by kernel_rfl
theorem m111:zAG M1 1000000 252 [d10,d90,(.int .i64 (.ofNat 0))] (.bool true)=true:=by kernel_rfl
theorem m117:zAG M1 1000000 67 [(.agg [d94,(.int .i64 (.ofNat 0))])] (.agg [d16,(.int .i64 (.ofNat 0))])=true:=by kernel_rfl
theorem m122:zAG M1 1000000 67 [(.agg [d34,(.int .i64 (.ofNat 2))])] (.agg [d96,(.int .i64 (.ofNat 1))])=true:=by kernel_rfl
theorem m128:zAG M1 1000000 252 [d10,d104,(.int .i64 (.ofNat 0))] (.bool true)=true:=by kernel_rfl
theorem m9:zAG M2 1000000 11 [d10,(.agg [d16,(.int .i64 (.ofNat 0))])] (.int .i64 (.ofNat 0))=true:=by kernel_rfl
theorem m11:zAG M2 1000000 49 [d10,d23,(.int .i64 (.ofNat 0))] (.bool true)=true:=by kernel_rfl
end Go.Ab.X
end
