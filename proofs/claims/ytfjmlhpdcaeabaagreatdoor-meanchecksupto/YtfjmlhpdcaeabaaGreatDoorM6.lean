/- A part. -/
import Derived.Test.YtfjmlhpdcaeabaaGreatDoorY1
set_option linter.all false
noncomputable section
namespace Go.Ab.X
open Go Go.Ab Go.Proofs
set_option maxRecDepth 100000
theorem m32:zAN M3 1000000 15 [d18,(.sl 0 [d25,d20] .shut)] d41=true:=by kernel_rfl
theorem m35:zAN M3 1000000 15 [d18,(.sl 0 [d24,d19] .shut)] d43=true:=by kernel_rfl
theorem m76:zAN M3 1000000 51 [d18,d81,d82] d51=true:=by kernel_rfl
end Go.Ab.X
end
