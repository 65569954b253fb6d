/- A part. -/
import Derived.Test.YtodldpffhfgicaaGreatDoorY1
import Derived.KernelRfl
set_option linter.all false
noncomputable section
namespace Go.Ab.X
open Go Go.Ab Go.Proofs
set_option maxRecDepth 100000
theorem m10:zAG M1 1000000 252 [d10,d20,(.int .i64 (.ofNat 0))] (.bool true)=true:=by kernel_rfl
theorem m46:zAG M1 1000000 252 [d10,d52,(.int .i64 (.ofNat 0))] (.bool true)=true:=by kernel_rfl
theorem m53:zAG M1 1000000 416 [d61,d44] d59=true:=by kernel_rfl
theorem m80:zAG M1 1000000 252 [d10,d80,(.int .i64 (.ofNat 0))] (.bool true)=true:=by kernel_rfl
theorem m82:zAG M1 1000000 252 [d10,d81,(.int .i64 (.ofNat 0))] (.bool true)=true:=by kernel_rfl
end Go.Ab.X
end
