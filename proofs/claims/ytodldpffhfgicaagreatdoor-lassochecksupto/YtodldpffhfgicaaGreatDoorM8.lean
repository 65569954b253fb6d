/- A part. -/
import Derived.Test.YtodldpffhfgicaaGreatDoorY1
import Derived.KernelRfl
set_option linter.all false
noncomputable section
namespace Go.Ab.X
open Go Go.Ab Go.Proofs
set_option maxRecDepth 100000
theorem m72:zAG M2 1000000 175 [d10,d54,d76] d26=true:=by kernel_rfl
theorem m74:zAG M2 1000000 175 [d10,d54,d77] d26=true:=by kernel_rfl
theorem m75:zAG M2 1000000 175 [d10,d54,d78] d26=true:=by kernel_rfl
theorem m77:zAG M2 1000000 175 [d10,d54,d79] d30=true:=by kernel_rfl
theorem m81:zAG M2 1000000 175 [d10,d80,d24] d30=true:=by kernel_rfl
theorem m85:zAG M2 1000000 175 [d10,d81,d39] d30=true:=by kernel_rfl
theorem m88:zAG M2 1000000 175 [d10,d81,d43] d30=true:=by kernel_rfl
theorem m91:zAG M2 1000000 175 [d10,d81,d45] d30=true:=by kernel_rfl
theorem m94:zAG M2 1000000 175 [d10,d81,d46] d30=true:=by kernel_rfl
theorem m96:zAG M2 1000000 403 [d10] d86=true:=by kernel_rfl
theorem m102:zAG M2 1000000 175 [d10,d81,d49] d26=true:=by kernel_rfl
theorem m105:zAG M2 1000000 11 [d89,(.agg [d34,(.int .i64 (.ofNat 2))])] (.int .i64 (.ofNat 0))=true:=by kernel_rfl
theorem m107:zAG M2 1000000 175 [d89,d80,d24] d30=true:=by kernel_rfl
theorem m109:zAG M2 1000000 175 [d89,d81,d39] d30=true:=by kernel_rfl
theorem m112:zAG M2 1000000 49 [d10,d91,(.int .i64 (.ofNat 0))] (.bool true)=true:=by kernel_rfl
theorem m113:zAG M2 1000000 175 [d10,d90,d24] d26=true:=by kernel_rfl
theorem m114:zAG M2 1000000 175 [d10,d90,d27] d30=true:=by kernel_rfl
theorem m129:zAG M2 1000000 49 [d10,d105,(.int .i64 (.ofNat 0))] (.bool true)=true:=by kernel_rfl
theorem m130:zAG M2 1000000 175 [d10,d104,d24] d107=true:=by kernel_rfl
theorem m20:zAG M3 1000000 39 [d10,(.agg [d16,(.int .i64 (.ofNat 0))]),d23] d33=true:=by kernel_rfl
theorem m22:zAG M3 1000000 39 [d10,(.agg [d34,(.int .i64 (.ofNat 2))]),d23] d36=true:=by kernel_rfl
theorem m40:zAG M3 1000000 39 [d10,(.agg [d16,(.int .i64 (.ofNat 0))]),d38] d48=true:=by kernel_rfl
theorem m45:zAG M3 1000000 39 [d10,(.agg [d34,(.int .i64 (.ofNat 2))]),d38] d51=true:=by kernel_rfl
end Go.Ab.X
end
