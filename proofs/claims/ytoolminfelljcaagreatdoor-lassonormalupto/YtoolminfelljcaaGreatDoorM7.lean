/- A part. -/
import Derived.Test.YtoolminfelljcaaGreatDoorY1
import Derived.KernelRfl
set_option linter.all false
noncomputable section
namespace Go.Ab.X
open Go Go.Ab Go.Proofs
set_option maxRecDepth 100000
theorem m13:zAJ M2 1000000 133 [d10,d20,d24] d26=true:=by kernel_rfl
theorem m15:zAJ M2 1000000 133 [d10,d20,d27] d26=true:=by kernel_rfl
theorem m17:zAJ M2 1000000 133 [d10,d20,d28] d30=true:=by kernel_rfl
theorem m19:zAJ M2 1000000 133 [d10,d20,d31] d26=true:=by kernel_rfl
theorem m21:zAJ M2 1000000 57 [d10,(.agg [d34,(.int .i64 (.ofNat 2))])] (.int .i64 (.ofNat 0))=true:=by kernel_rfl
theorem m25:zAJ M2 1000000 66 [d10,d38,(.int .i64 (.ofNat 0))] (.bool true)=true:=by kernel_rfl
theorem m26:zAJ M2 1000000 133 [d10,d37,d39] d30=true:=by kernel_rfl
theorem m29:zAJ M2 1000000 133 [d10,d40,d39] d26=true:=by kernel_rfl
theorem m31:zAJ M2 1000000 133 [d10,d37,d43] d30=true:=by kernel_rfl
theorem m32:zAJ M2 1000000 133 [d10,d40,d43] d26=true:=by kernel_rfl
theorem m34:zAJ M2 1000000 133 [d10,d37,d45] d30=true:=by kernel_rfl
theorem m36:zAJ M2 1000000 133 [d10,d40,d45] d26=true:=by kernel_rfl
theorem m37:zAJ M2 1000000 133 [d10,d37,d46] d26=true:=by kernel_rfl
theorem m39:zAJ M2 1000000 133 [d10,d40,d46] d26=true:=by kernel_rfl
theorem m42:zAJ M2 1000000 133 [d10,d37,d49] d26=true:=by kernel_rfl
theorem m44:zAJ M2 1000000 133 [d10,d40,d49] d30=true:=by kernel_rfl
theorem m48:zAJ M2 1000000 66 [d10,d57,(.int .i64 (.ofNat 0))] (.bool true)=true:=by kernel_rfl
theorem m55:zAJ M2 1000000 133 [d10,d52,d62] d63=true:=by kernel_rfl
theorem m57:zAJ M2 1000000 133 [d10,d54,d64] d30=true:=by kernel_rfl
theorem m58:zAJ M2 1000000 133 [d10,d54,d65] d26=true:=by kernel_rfl
theorem m60:zAJ M2 1000000 133 [d10,d54,d66] d26=true:=by kernel_rfl
theorem m61:zAJ M2 1000000 133 [d10,d54,d67] d26=true:=by kernel_rfl
theorem m62:zAJ M2 1000000 133 [d10,d54,d68] d26=true:=by kernel_rfl
theorem m63:zAJ M2 1000000 133 [d10,d54,d69] d30=true:=by kernel_rfl
theorem m64:zAJ M2 1000000 133 [d10,d54,d70] d26=true:=by kernel_rfl
theorem m66:zAJ M2 1000000 133 [d10,d54,d71] d26=true:=by kernel_rfl
theorem m67:zAJ M2 1000000 133 [d10,d54,d72] d26=true:=by kernel_rfl
theorem m68:zAJ M2 1000000 133 [d10,d54,d73] d26=true:=by kernel_rfl
theorem m69:zAJ M2 1000000 133 [d10,d54,d74] d30=true:=by kernel_rfl
theorem m70:zAJ M2 1000000 133 [d10,d54,d75] d26=true:=by kernel_rfl
end Go.Ab.X
end
