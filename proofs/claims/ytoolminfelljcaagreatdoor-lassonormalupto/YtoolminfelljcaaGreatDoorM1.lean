/- A part. -/
import Derived.Test.YtoolminfelljcaaGreatDoorY1
import Derived.KernelRfl
set_option linter.all false
noncomputable section
namespace Go.Ab.X
open Go Go.Ab Go.Proofs
set_option maxRecDepth 100000
theorem m47:zAJ M0 1000000 212 [d10,d54,(.int .i64 (.ofNat 1))] (.bool true)=true:=by kernel_rfl
theorem m49:zAJ M0 1000000 392 [(.str [51]),(.int .i64 (.ofNat 10)),(.int .i64 (.ofNat 64))] d58=true:=by kernel_rfl
theorem m50:zAJ M0 1000000 101 [d13,d12] (.int .i64 (.ofNat 1))=true:=by kernel_rfl
theorem m51:zAJ M0 1000000 101 [d14,d13] (.int .i64 (.ofNat 1))=true:=by kernel_rfl
theorem m52:zAJ M0 1000000 205 [d59,(.int .i64 (.ofNat 8000)),(.int .i64 (.ofNat 50))] d60=true:=by kernel_rfl
theorem m54:zAJ M0 1000000 262 [(.sl 0 [d12,d13,d14,d15] .shut)] (.sl 0 [d12,d13,d14,d15] .shut)=true:=by kernel_rfl
theorem m56:zAJ M0 1000000 101 [d12,d12] (.int .i64 (.ofNat 0))=true:=by kernel_rfl
theorem m59:zAJ M0 1000000 101 [d14,d12] (.int .i64 (.ofNat 1))=true:=by kernel_rfl
theorem m65:zAJ M0 1000000 101 [d15,d13] (.int .i64 (.ofNat 1))=true:=by kernel_rfl
theorem m71:zAJ M0 1000000 101 [d12,d15] (.int .i64 (.negSucc 0))=true:=by kernel_rfl
theorem m73:zAJ M0 1000000 101 [d13,d15] (.int .i64 (.negSucc 0))=true:=by kernel_rfl
theorem m76:zAJ M0 1000000 101 [d15,d15] (.int .i64 (.ofNat 0))=true:=by kernel_rfl
theorem m83:zAJ M0 1000000 322 [(.int .i64 (.ofNat 1)),d61,d41] d13=true:=by kernel_rfl
theorem m84:zAJ M0 1000000 322 [(.int .i64 (.ofNat 6)),d41,d82] d13=true:=by kernel_rfl
theorem m86:zAJ M0 1000000 322 [(.int .i64 (.ofNat 1)),d41,d41] d14=true:=by kernel_rfl
theorem m87:zAJ M0 1000000 322 [(.int .i64 (.ofNat 6)),d42,d82] d14=true:=by kernel_rfl
theorem m89:zAJ M0 1000000 322 [(.int .i64 (.ofNat 1)),d42,d41] d15=true:=by kernel_rfl
theorem m90:zAJ M0 1000000 322 [(.int .i64 (.ofNat 6)),d44,d82] d15=true:=by kernel_rfl
theorem m92:zAJ M0 1000000 322 [(.int .i64 (.ofNat 1)),d44,d41] d18=true:=by kernel_rfl
end Go.Ab.X
end
