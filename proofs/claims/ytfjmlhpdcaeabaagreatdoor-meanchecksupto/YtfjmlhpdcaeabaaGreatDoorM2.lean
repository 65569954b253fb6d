/- A part. -/
import Derived.Test.YtfjmlhpdcaeabaaGreatDoorY1
set_option linter.all false
noncomputable section
namespace Go.Ab.X
open Go Go.Ab Go.Proofs
set_option maxRecDepth 100000
theorem m98:zAN M0 1000000 239 [d96] (.bool true)=true:=by kernel_rfl
theorem m99:zAN M0 1000000 239 [d97] (.bool true)=true:=by kernel_rfl
theorem m100:zAN M0 1000000 239 [d98] (.bool true)=true:=by kernel_rfl
theorem m101:zAN M0 1000000 239 [d99] (.bool true)=true:=by kernel_rfl
theorem m102:zAN M0 1000000 239 [d100] (.bool true)=true:=by kernel_rfl
theorem m103:zAN M0 1000000 239 [d101] (.bool true)=true:=by kernel_rfl
theorem m104:zAN M0 1000000 239 [d102] (.bool true)=true:=by kernel_rfl
theorem m106:zAN M0 1000000 91 [d95,d24] (.int .i64 (.ofNat 1))=true:=by kernel_rfl
theorem m107:zAN M0 1000000 91 [d77,d95] (.int .i64 (.ofNat 1))=true:=by kernel_rfl
theorem m108:zAN M0 1000000 91 [d96,d77] (.int .i64 (.ofNat 1))=true:=by kernel_rfl
theorem m109:zAN M0 1000000 91 [d97,d96] (.int .i64 (.ofNat 1))=true:=by kernel_rfl
theorem m110:zAN M0 1000000 91 [d98,d97] (.int .i64 (.ofNat 1))=true:=by kernel_rfl
theorem m111:zAN M0 1000000 91 [d99,d98] (.int .i64 (.ofNat 1))=true:=by kernel_rfl
theorem m112:zAN M0 1000000 91 [d100,d99] (.int .i64 (.ofNat 1))=true:=by kernel_rfl
theorem m113:zAN M0 1000000 91 [d101,d100] (.int .i64 (.ofNat 1))=true:=by kernel_rfl
theorem m114:zAN M0 1000000 91 [d102,d101] (.int .i64 (.ofNat 1))=true:=by kernel_rfl
theorem m115:zAN M0 1000000 91 [d90,d102] (.int .i64 (.ofNat 1))=true:=by kernel_rfl
theorem m116:zAN M0 1000000 352 [d104,(.int .i64 (.ofNat 8000)),(.int .i64 (.ofNat 50))] d105=true:=by kernel_rfl
theorem m123:zAN M0 1000000 39 [d109,d59,(.int .i64 (.ofNat 0))] (.bool false)=true:=by kernel_rfl
end Go.Ab.X
end
