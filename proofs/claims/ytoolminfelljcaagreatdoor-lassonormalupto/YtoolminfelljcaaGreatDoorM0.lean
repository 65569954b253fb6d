/- A part. -/
import Derived.Test.YtoolminfelljcaaGreatDoorY1
import Derived.KernelRfl
set_option linter.all false
noncomputable section
namespace Go.Ab.X
open Go Go.Ab Go.Proofs
set_option maxRecDepth 100000
theorem m0:zAJ M0 1000000 22 [] d10=true:=by kernel_rfl
theorem m1:zAJ M0 1000000 24 [(.int .i64 (.ofNat 0)),d11] (.agg [d16,(.int .i64 (.ofNat 0))])=true:=by kernel_rfl
theorem m2:zAJ M0 1000000 130 [d17] (.bool true)=true:=by kernel_rfl
theorem m3:zAJ M0 1000000 130 [d12] (.bool true)=true:=by kernel_rfl
theorem m4:zAJ M0 1000000 130 [d13] (.bool true)=true:=by kernel_rfl
theorem m5:zAJ M0 1000000 130 [d18] (.bool true)=true:=by kernel_rfl
theorem m6:zAJ M0 1000000 130 [d15] (.bool true)=true:=by kernel_rfl
theorem m8:zAJ M0 1000000 130 [d14] (.bool true)=true:=by kernel_rfl
theorem m12:zAJ M0 1000000 101 [d12,d14] (.int .i64 (.negSucc 0))=true:=by kernel_rfl
theorem m14:zAJ M0 1000000 101 [d13,d14] (.int .i64 (.negSucc 0))=true:=by kernel_rfl
theorem m16:zAJ M0 1000000 101 [d14,d14] (.int .i64 (.ofNat 0))=true:=by kernel_rfl
theorem m18:zAJ M0 1000000 101 [d15,d14] (.int .i64 (.ofNat 1))=true:=by kernel_rfl
theorem m23:zAJ M0 1000000 212 [d10,d37,(.int .i64 (.ofNat 0))] (.bool true)=true:=by kernel_rfl
theorem m24:zAJ M0 1000000 212 [d10,d3,(.int .i64 (.ofNat 0))] (.bool true)=true:=by kernel_rfl
theorem m27:zAJ M0 1000000 212 [d10,d40,(.int .i64 (.ofNat 0))] (.bool true)=true:=by kernel_rfl
theorem m28:zAJ M0 1000000 101 [d12,d13] (.int .i64 (.negSucc 0))=true:=by kernel_rfl
theorem m30:zAJ M0 1000000 322 [(.int .i64 (.ofNat 8)),d41,d42] d29=true:=by kernel_rfl
theorem m33:zAJ M0 1000000 322 [(.int .i64 (.ofNat 8)),d42,d44] d29=true:=by kernel_rfl
theorem m35:zAJ M0 1000000 101 [d14,d15] (.int .i64 (.negSucc 0))=true:=by kernel_rfl
theorem m38:zAJ M0 1000000 101 [d15,d12] (.int .i64 (.ofNat 1))=true:=by kernel_rfl
theorem m41:zAJ M0 1000000 322 [(.int .i64 (.ofNat 8)),d41,d41] d25=true:=by kernel_rfl
theorem m43:zAJ M0 1000000 101 [d13,d13] (.int .i64 (.ofNat 0))=true:=by kernel_rfl
end Go.Ab.X
end
