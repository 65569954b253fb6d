/- A part. -/
import Derived.Test.YtodldpffhfgicaaGreatDoorY1
import Derived.KernelRfl
set_option linter.all false
noncomputable section
namespace Go.Ab.X
open Go Go.Ab Go.Proofs
set_option maxRecDepth 100000
theorem m0:zAG M0 1000000 27 [] d10=true:=by kernel_rfl
theorem m1:zAG M0 1000000 29 [(.int .i64 (.ofNat 0)),d11] (.agg [d16,(.int .i64 (.ofNat 0))])=true:=by kernel_rfl
theorem m2:zAG M0 1000000 106 [d17] (.bool true)=true:=by kernel_rfl
theorem m3:zAG M0 1000000 106 [d12] (.bool true)=true:=by kernel_rfl
theorem m4:zAG M0 1000000 106 [d13] (.bool true)=true:=by kernel_rfl
theorem m5:zAG M0 1000000 106 [d18] (.bool true)=true:=by kernel_rfl
theorem m6:zAG M0 1000000 106 [d15] (.bool true)=true:=by kernel_rfl
theorem m8:zAG M0 1000000 106 [d14] (.bool true)=true:=by kernel_rfl
theorem m12:zAG M0 1000000 123 [d12,d14] (.int .i64 (.negSucc 0))=true:=by kernel_rfl
theorem m14:zAG M0 1000000 123 [d13,d14] (.int .i64 (.negSucc 0))=true:=by kernel_rfl
theorem m16:zAG M0 1000000 123 [d14,d14] (.int .i64 (.ofNat 0))=true:=by kernel_rfl
theorem m18:zAG M0 1000000 123 [d15,d14] (.int .i64 (.ofNat 1))=true:=by kernel_rfl
theorem m23:zAG M0 1000000 252 [d10,d37,(.int .i64 (.ofNat 0))] (.bool true)=true:=by kernel_rfl
theorem m24:zAG M0 1000000 252 [d10,d3,(.int .i64 (.ofNat 0))] (.bool true)=true:=by kernel_rfl
theorem m27:zAG M0 1000000 252 [d10,d40,(.int .i64 (.ofNat 0))] (.bool true)=true:=by kernel_rfl
theorem m28:zAG M0 1000000 123 [d12,d13] (.int .i64 (.negSucc 0))=true:=by kernel_rfl
theorem m30:zAG M0 1000000 372 [(.int .i64 (.ofNat 8)),d41,d42] d29=true:=by kernel_rfl
theorem m33:zAG M0 1000000 372 [(.int .i64 (.ofNat 8)),d42,d44] d29=true:=by kernel_rfl
theorem m35:zAG M0 1000000 123 [d14,d15] (.int .i64 (.negSucc 0))=true:=by kernel_rfl
theorem m38:zAG M0 1000000 123 [d15,d12] (.int .i64 (.ofNat 1))=true:=by kernel_rfl
theorem m41:zAG M0 1000000 372 [(.int .i64 (.ofNat 8)),d41,d41] d25=true:=by kernel_rfl
theorem m43:zAG M0 1000000 123 [d13,d13] (.int .i64 (.ofNat 0))=true:=by kernel_rfl
end Go.Ab.X
end
