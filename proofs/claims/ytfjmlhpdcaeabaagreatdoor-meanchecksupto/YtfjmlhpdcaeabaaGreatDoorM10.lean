/- A part. -/
import Derived.Test.YtfjmlhpdcaeabaaGreatDoorY1
set_option linter.all false
noncomputable section
namespace Go.Ab.X
open Go Go.Ab Go.Proofs
set_option maxRecDepth 100000
theorem m75:zAN M1 1000000 39 [d18,d81,(.int .i64 (.ofNat 0))] (.bool true)=true:=by kernel_rfl
theorem m80:zAN M1 1000000 39 [d18,d86,(.int .i64 (.ofNat 0))] (.bool true)=true:=by kernel_rfl
theorem m82:zAN M1 1000000 204 [(.sl 0 [d25,d24] .shut)] (.tuple [d87,(.int .i64 (.ofNat 0))])=true:=by kernel_rfl
theorem m90:zAN M1 1000000 91 [d79,d79] (.int .i64 (.ofNat 0))=true:=by kernel_rfl
theorem m91:zAN M1 1000000 39 [d18,d89,(.int .i64 (.ofNat 0))] (.bool true)=true:=by kernel_rfl
theorem m92:zAN M1 1000000 239 [d79] (.bool true)=true:=by kernel_rfl
theorem m95:zAN M1 1000000 39 [d18,d93,(.int .i64 (.ofNat 0))] (.bool true)=true:=by kernel_rfl
theorem m105:zAN M1 1000000 280 [d103] (.bool true)=true:=by kernel_rfl
end Go.Ab.X
end
