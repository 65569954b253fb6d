/- A part. -/
import Derived.Test.YtfjmlhpdcaeabaaGreatDoorY1
set_option linter.all false
noncomputable section
namespace Go.Ab.X
open Go Go.Ab Go.Proofs
set_option maxRecDepth 100000
theorem m17:zAN M2 1000000 41 [d18] d34=true:=by kernel_rfl
theorem m26:zAN M2 1000000 94 [d18,(.sl 0 [d25,d20] .shut)] d37=true:=by kernel_rfl
theorem m33:zAN M2 1000000 94 [d18,(.sl 0 [d24,d19] .shut)] d37=true:=by kernel_rfl
theorem m37:zAN M2 1000000 51 [d18,d12,d44] d45=true:=by kernel_rfl
theorem m39:zAN M2 1000000 51 [d18,d12,d46] d48=true:=by kernel_rfl
theorem m42:zAN M2 1000000 51 [d18,d49,d50] d51=true:=by kernel_rfl
theorem m45:zAN M2 1000000 51 [d18,d52,d50] d53=true:=by kernel_rfl
theorem m48:zAN M2 1000000 51 [d18,d55,d50] d53=true:=by kernel_rfl
theorem m51:zAN M2 1000000 51 [d18,d57,d50] d51=true:=by kernel_rfl
theorem m53:zAN M2 1000000 51 [d18,d61,d50] d45=true:=by kernel_rfl
theorem m56:zAN M2 1000000 51 [d18,d63,d50] d65=true:=by kernel_rfl
theorem m59:zAN M2 1000000 51 [d18,d69,d50] d51=true:=by kernel_rfl
theorem m65:zAN M2 1000000 51 [d18,d72,d50] d75=true:=by kernel_rfl
theorem m68:zAN M2 1000000 51 [d18,d68,d50] d76=true:=by kernel_rfl
theorem m88:zAN M2 1000000 51 [d18,d86,d50] d88=true:=by kernel_rfl
theorem m93:zAN M2 1000000 51 [d18,d89,d50] d45=true:=by kernel_rfl
end Go.Ab.X
end
