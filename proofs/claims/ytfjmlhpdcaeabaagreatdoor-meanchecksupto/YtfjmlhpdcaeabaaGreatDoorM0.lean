/- A part. -/
import Derived.Test.YtfjmlhpdcaeabaaGreatDoorY1
set_option linter.all false
noncomputable section
namespace Go.Ab.X
open Go Go.Ab Go.Proofs
set_option maxRecDepth 100000
theorem m0:zAN M0 1000000 10 [] d18=true:=by kernel_rfl
theorem m1:zAN M0 1000000 239 [d19] (.bool true)=true:=by kernel_rfl
theorem m2:zAN M0 1000000 239 [d20] (.bool true)=true:=by kernel_rfl
theorem m3:zAN M0 1000000 239 [d21] (.bool true)=true:=by kernel_rfl
theorem m4:zAN M0 1000000 239 [d22] (.bool true)=true:=by kernel_rfl
theorem m5:zAN M0 1000000 239 [d23] (.bool true)=true:=by kernel_rfl
theorem m6:zAN M0 1000000 239 [d24] (.bool true)=true:=by kernel_rfl
theorem m7:zAN M0 1000000 239 [d25] (.bool true)=true:=by kernel_rfl
theorem m9:zAN M0 1000000 350 [(.str [50]),(.int .i64 (.ofNat 10)),(.int .i64 (.ofNat 64))] d26=true:=by kernel_rfl
theorem m10:zAN M0 1000000 91 [d25,d23] (.int .i64 (.ofNat 1))=true:=by kernel_rfl
theorem m11:zAN M0 1000000 91 [d24,d25] (.int .i64 (.ofNat 1))=true:=by kernel_rfl
theorem m12:zAN M0 1000000 352 [d27,(.int .i64 (.ofNat 8000)),(.int .i64 (.ofNat 50))] d28=true:=by kernel_rfl
theorem m14:zAN M0 1000000 91 [d20,d19] (.int .i64 (.ofNat 1))=true:=by kernel_rfl
theorem m15:zAN M0 1000000 352 [d31,(.int .i64 (.ofNat 8000)),(.int .i64 (.ofNat 50))] d32=true:=by kernel_rfl
theorem m18:zAN M0 1000000 42 [d33] d33=true:=by kernel_rfl
theorem m19:zAN M0 1000000 91 [d23,d23] (.int .i64 (.ofNat 0))=true:=by kernel_rfl
theorem m20:zAN M0 1000000 91 [d20,d20] (.int .i64 (.ofNat 0))=true:=by kernel_rfl
theorem m21:zAN M0 1000000 91 [d19,d19] (.int .i64 (.ofNat 0))=true:=by kernel_rfl
theorem m22:zAN M0 1000000 91 [d24,d23] (.int .i64 (.ofNat 1))=true:=by kernel_rfl
theorem m24:zAN M0 1000000 91 [d19,d20] (.int .i64 (.negSucc 0))=true:=by kernel_rfl
theorem m27:zAN M0 1000000 230 [(.int .i64 (.ofNat 8)),d38,d30] d39=true:=by kernel_rfl
theorem m28:zAN M0 1000000 230 [(.int .i64 (.ofNat 1)),d38,d38] d24=true:=by kernel_rfl
theorem m29:zAN M0 1000000 91 [d23,d24] (.int .i64 (.negSucc 0))=true:=by kernel_rfl
theorem m30:zAN M0 1000000 91 [d25,d24] (.int .i64 (.negSucc 0))=true:=by kernel_rfl
theorem m31:zAN M0 1000000 91 [d24,d24] (.int .i64 (.ofNat 0))=true:=by kernel_rfl
theorem m34:zAN M0 1000000 230 [(.int .i64 (.ofNat 8)),d30,d30] d42=true:=by kernel_rfl
theorem m36:zAN M0 1000000 39 [d18,d12,(.int .i64 (.ofNat 0))] (.bool true)=true:=by kernel_rfl
end Go.Ab.X
end
