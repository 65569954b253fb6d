/- A part. -/
import Derived.Test.YtodldpffhfgicaaGreatDoorY1
import Derived.KernelRfl
set_option linter.all false
noncomputable section
namespace Go.Ab.X
open Go Go.Ab Go.Proofs
set_option maxRecDepth 100000
theorem m47:zAG M0 1000000 252 [d10,d54,(.int .i64 (.ofNat 1))] (.bool true)=true:=by kernel_rfl
theorem m49:zAG M0 1000000 444 [(.str [51]),(.int .i64 (.ofNat 10)),(.int .i64 (.ofNat 64))] d58=true:=by kernel_rfl
theorem m50:zAG M0 1000000 123 [d13,d12] (.int .i64 (.ofNat 1))=true:=by kernel_rfl
theorem m51:zAG M0 1000000 123 [d14,d13] (.int .i64 (.ofNat 1))=true:=by kernel_rfl
theorem m52:zAG M0 1000000 220 [d59,(.int .i64 (.ofNat 8000)),(.int .i64 (.ofNat 50))] d60=true:=by kernel_rfl
theorem m54:zAG M0 1000000 321 [(.sl 0 [d12,d13,d14,d15] .shut)] (.sl 0 [d12,d13,d14,d15] .shut)=true:=by kernel_rfl
theorem m56:zAG M0 1000000 123 [d12,d12] (.int .i64 (.ofNat 0))=true:=by kernel_rfl
theorem m59:zAG M0 1000000 123 [d14,d12] (.int .i64 (.ofNat 1))=true:=by kernel_rfl
theorem m65:zAG M0 1000000 123 [d15,d13] (.int .i64 (.ofNat 1))=true:=by kernel_rfl
theorem m71:zAG M0 1000000 123 [d12,d15] (.int .i64 (.negSucc 0))=true:=by kernel_rfl
theorem m73:zAG M0 1000000 123 [d13,d15] (.int .i64 (.negSucc 0))=true:=by kernel_rfl
theorem m76:zAG M0 1000000 123 [d15,d15] (.int .i64 (.ofNat 0))=true:=by kernel_rfl
theorem m83:zAG M0 1000000 372 [(.int .i64 (.ofNat 1)),d61,d41] d13=true:=by kernel_rfl
theorem m84:zAG M0 1000000 372 [(.int .i64 (.ofNat 6)),d41,d82] d13=true:=by kernel_rfl
theorem m86:zAG M0 1000000 372 [(.int .i64 (.ofNat 1)),d41,d41] d14=true:=by kernel_rfl
theorem m87:zAG M0 1000000 372 [(.int .i64 (.ofNat 6)),d42,d82] d14=true:=by kernel_rfl
theorem m89:zAG M0 1000000 372 [(.int .i64 (.ofNat 1)),d42,d41] d15=true:=by kernel_rfl
theorem m90:zAG M0 1000000 372 [(.int .i64 (.ofNat 6)),d44,d82] d15=true:=by kernel_rfl
theorem m92:zAG M0 1000000 372 [(.int .i64 (.ofNat 1)),d44,d41] d18=true:=by kernel_rfl
end Go.Ab.X
end
