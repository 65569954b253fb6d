/- A part. -/
import Derived.Test.YtfjmlhpdcaeabaaGreatDoorY1
set_option linter.all false
noncomputable section
namespace Go.Ab.X
open Go Go.Ab Go.Proofs
set_option maxRecDepth 100000
theorem m38:zAN M0 1000000 91 [d25,d25] (.int .i64 (.ofNat 0))=true:=by kernel_rfl
theorem m40:zAN M0 1000000 91 [d47,d47] (.int .i64 (.ofNat 0))=true:=by kernel_rfl
theorem m43:zAN M0 1000000 91 [d42,d42] (.int .i64 (.ofNat 0))=true:=by kernel_rfl
theorem m46:zAN M0 1000000 239 [d39] (.bool true)=true:=by kernel_rfl
theorem m49:zAN M0 1000000 239 [d42] (.bool true)=true:=by kernel_rfl
theorem m55:zAN M0 1000000 204 [(.sl 0 [] .shut)] (.tuple [d64,(.int .i64 (.ofNat 0))])=true:=by kernel_rfl
theorem m57:zAN M0 1000000 239 [d66] (.bool true)=true:=by kernel_rfl
theorem m61:zAN M0 1000000 287 [(.int .i64 (.ofNat 2))] (.sl 0 [d25,d24] .shut)=true:=by kernel_rfl
theorem m62:zAN M0 1000000 352 [d73,(.int .i64 (.ofNat 8000)),(.int .i64 (.ofNat 50))] d74=true:=by kernel_rfl
theorem m66:zAN M0 1000000 91 [d39,d39] (.int .i64 (.ofNat 0))=true:=by kernel_rfl
theorem m67:zAN M0 1000000 39 [d18,d68,(.int .i64 (.ofNat 0))] (.bool true)=true:=by kernel_rfl
theorem m69:zAN M0 1000000 99 [(.sl 0 [d25,d24] .shut)] (.bool true)=true:=by kernel_rfl
theorem m70:zAN M0 1000000 99 [(.sl 0 [d25,d77] .shut)] (.bool true)=true:=by kernel_rfl
theorem m71:zAN M0 1000000 191 [(.sl 0 [d25] .shut),(.sl 0 [d24] .shut)] (.sl 0 [d25,d24] .shut)=true:=by kernel_rfl
theorem m72:zAN M0 1000000 101 [(.sl 0 [d25,d24] .shut),d25] d78=true:=by kernel_rfl
theorem m73:zAN M0 1000000 175 [d79] d74=true:=by kernel_rfl
theorem m77:zAN M0 1000000 230 [(.int .i64 (.ofNat 1)),d29,d38] d25=true:=by kernel_rfl
theorem m78:zAN M0 1000000 91 [d23,d25] (.int .i64 (.negSucc 0))=true:=by kernel_rfl
theorem m81:zAN M0 1000000 352 [d87,(.int .i64 (.ofNat 8000)),(.int .i64 (.ofNat 50))] d32=true:=by kernel_rfl
theorem m83:zAN M0 1000000 230 [(.int .i64 (.ofNat 4)),d38,d38] d25=true:=by kernel_rfl
theorem m84:zAN M0 1000000 230 [(.int .i64 (.ofNat 4)),d30,d30] d77=true:=by kernel_rfl
theorem m85:zAN M0 1000000 239 [d77] (.bool true)=true:=by kernel_rfl
theorem m86:zAN M0 1000000 352 [d79,(.int .i64 (.ofNat 8000)),(.int .i64 (.ofNat 50))] d74=true:=by kernel_rfl
theorem m87:zAN M0 1000000 98 [d79] d79=true:=by kernel_rfl
theorem m89:zAN M0 1000000 91 [d77,d77] (.int .i64 (.ofNat 0))=true:=by kernel_rfl
theorem m94:zAN M0 1000000 239 [d90] (.bool true)=true:=by kernel_rfl
theorem m96:zAN M0 1000000 374 [(.str [49,49]),(.int .i64 (.ofNat 10)),(.int .i64 (.ofNat 64))] d94=true:=by kernel_rfl
theorem m97:zAN M0 1000000 239 [d95] (.bool true)=true:=by kernel_rfl
end Go.Ab.X
end
