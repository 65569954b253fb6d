/- A part. -/
import Derived.Test.YtfjmlhpdcaeabaaGreatDoorY1
set_option linter.all false
noncomputable section
namespace Go.Ab.X
open Go Go.Ab Go.Proofs
set_option maxRecDepth 100000
theorem m13:zAN M1 1000000 303 [d29,d30] d27=true:=by kernel_rfl
theorem m16:zAN M1 1000000 204 [(.sl 0 [d19,d20] .shut)] (.tuple [d31,(.int .i64 (.ofNat 0))])=true:=by kernel_rfl
theorem m25:zAN M1 1000000 239 [d31] (.bool true)=true:=by kernel_rfl
theorem m41:zAN M1 1000000 39 [d18,d49,(.int .i64 (.ofNat 0))] (.bool true)=true:=by kernel_rfl
theorem m44:zAN M1 1000000 39 [d18,d52,(.int .i64 (.ofNat 0))] (.bool true)=true:=by kernel_rfl
theorem m47:zAN M1 1000000 39 [d18,d55,(.int .i64 (.ofNat 0))] (.bool true)=true:=by kernel_rfl
theorem m50:zAN M1 1000000 39 [d18,d57,(.int .i64 (.ofNat 0))] (.bool true)=true:=by kernel_rfl
theorem m52:zAN M1 1000000 39 [d18,d61,(.int .i64 (.ofNat 0))] (.bool true)=true:=by kernel_rfl
theorem m54:zAN M1 1000000 39 [d18,d63,(.int .i64 (.ofNat 0))] (.bool true)=true:=by kernel_rfl
theorem m58:zAN M1 1000000 39 [d18,d69,(.int .i64 (.ofNat 0))] (.bool true)=true:=by kernel_rfl
theorem m60:zAN M1 1000000 39 [d18,d72,(.int .i64 (.ofNat 0))] (.bool true)=true:=by kernel_rfl
theorem m63:zAN M1 1000000 324 [d73] (.bool true)=true:=by kernel_rfl
theorem m64:zAN M1 1000000 239 [d73] (.bool true)=true:=by kernel_rfl
theorem m74:zAN M1 1000000 31 [(.sl 0 [d25,d77] .clip)] (.tuple [d79,(.int .i64 (.ofNat 0))])=true:=by kernel_rfl
end Go.Ab.X
end
