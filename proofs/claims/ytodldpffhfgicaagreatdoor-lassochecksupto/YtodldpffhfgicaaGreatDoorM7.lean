/- A part. -/
import Derived.Test.YtodldpffhfgicaaGreatDoorY1
import Derived.KernelRfl
set_option linter.all false
noncomputable section
namespace Go.Ab.X
open Go Go.Ab Go.Proofs
set_option maxRecDepth 100000
theorem m13:zAG M2 1000000 175 [d10,d20,d24] d26=true:=by kernel_rfl
theorem m15:zAG M2 1000000 175 [d10,d20,d27] d26=true:=by kernel_rfl
theorem m17:zAG M2 1000000 175 [d10,d20,d28] d30=true:=by kernel_rfl
theorem m19:zAG M2 1000000 175 [d10,d20,d31] d26=true:=by kernel_rfl
theorem m21:zAG M2 1000000 11 [d10,(.agg [d34,(.int .i64 (.ofNat 2))])] (.int .i64 (.ofNat 0))=true:=by kernel_rfl
theorem m25:zAG M2 1000000 49 [d10,d38,(.int .i64 (.ofNat 0))] (.bool true)=true:=by kernel_rfl
theorem m26:zAG M2 1000000 175 [d10,d37,d39] d30=true:=by kernel_rfl
theorem m29:zAG M2 1000000 175 [d10,d40,d39] d26=true:=by kernel_rfl
theorem m31:zAG M2 1000000 175 [d10,d37,d43] d30=true:=by kernel_rfl
theorem m32:zAG M2 1000000 175 [d10,d40,d43] d26=true:=by kernel_rfl
theorem m34:zAG M2 1000000 175 [d10,d37,d45] d30=true:=by kernel_rfl
theorem m36:zAG M2 1000000 175 [d10,d40,d45] d26=true:=by kernel_rfl
theorem m37:zAG M2 1000000 175 [d10,d37,d46] d26=true:=by kernel_rfl
theorem m39:zAG M2 1000000 175 [d10,d40,d46] d26=true:=by kernel_rfl
theorem m42:zAG M2 1000000 175 [d10,d37,d49] d26=true:=by kernel_rfl
theorem m44:zAG M2 1000000 175 [d10,d40,d49] d30=true:=by kernel_rfl
theorem m48:zAG M2 1000000 49 [d10,d57,(.int .i64 (.ofNat 0))] (.bool true)=true:=by kernel_rfl
theorem m55:zAG M2 1000000 175 [d10,d52,d62] d63=true:=by kernel_rfl
theorem m57:zAG M2 1000000 175 [d10,d54,d64] d30=true:=by kernel_rfl
theorem m58:zAG M2 1000000 175 [d10,d54,d65] d26=true:=by kernel_rfl
theorem m60:zAG M2 1000000 175 [d10,d54,d66] d26=true:=by kernel_rfl
theorem m61:zAG M2 1000000 175 [d10,d54,d67] d26=true:=by kernel_rfl
theorem m62:zAG M2 1000000 175 [d10,d54,d68] d26=true:=by kernel_rfl
theorem m63:zAG M2 1000000 175 [d10,d54,d69] d30=true:=by kernel_rfl
theorem m64:zAG M2 1000000 175 [d10,d54,d70] d26=true:=by kernel_rfl
theorem m66:zAG M2 1000000 175 [d10,d54,d71] d26=true:=by kernel_rfl
theorem m67:zAG M2 1000000 175 [d10,d54,d72] d26=true:=by kernel_rfl
theorem m68:zAG M2 1000000 175 [d10,d54,d73] d26=true:=by kernel_rfl
theorem m69:zAG M2 1000000 175 [d10,d54,d74] d30=true:=by kernel_rfl
theorem m70:zAG M2 1000000 175 [d10,d54,d75] d26=true:=by kernel_rfl
end Go.Ab.X
end
