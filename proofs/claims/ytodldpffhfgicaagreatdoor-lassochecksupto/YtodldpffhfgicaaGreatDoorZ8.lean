/- A part. -/
import Derived.Test.YtodldpffhfgicaaGreatDoorX1
import Derived.Test.YtodldpffhfgicaaGreatDoorRows
import Derived.LaidByTextLater
import Derived.SevenTiedAt
import Derived.LaidOnce
import Derived.KernelRfl
set_option linter.all false
noncomputable section
namespace Go.Ab.X
open Go Go.Proofs
open Go.Proofs.YtodldpffhfgicaaGreatDoor
set_option maxRecDepth 100000
abbrev laidVs : List (String × DataW Unit) := [("internal/strconv.uint64pow10", Rows.laid_internal_strconv_uint64pow10), ("math/bits.deBruijn32tab", Rows.laid_math_bits_deBruijn32tab), ("math/bits.deBruijn64tab", Rows.laid_math_bits_deBruijn64tab), ("strconv.ErrSyntax", Rows.laid_strconv_ErrSyntax), ("strconv.ErrRange", Rows.laid_strconv_ErrRange)]
abbrev laidKs:List LaidKind:=[.data,.data,.data,.sentinel,.sentinel]
theorem tie1:Tryz.prog.worded (varsWordLater true)=true:=by kernel_rfl
theorem tie2:Tryz.prog.worded (varsWordLater !true)=false:=by kernel_rfl
theorem tie3:Tryz.prog.worded rootWordLater=true:=by kernel_rfl
theorem tie4:laidVs.map (fun x=>Tryz.prog.kindOfLater x.1)=laidKs.map some:=by kernel_rfl
theorem tie5 : (Tryz.prog.funcNamed "gosem.cut.vars").isSome = true := by kernel_rfl
theorem tie6:varsNamedLaterB Tryz.prog (varsId Tryz.prog) laidVs=true:=by kernel_rfl
theorem tie7:∀os tape,doorLeaves Tryz.prog 62 8 65 laidVs os tape=some (laidVs.filter fun x=>x.2.handleName?.isNone,(funcsListed laidVs).map (·.2.funcsOut)):=fun _ _=>by kernel_rfl
theorem tie8 : Tryz.pinned.checked.prog.headLifts.contains "ownunsafe" = false := by kernel_rfl
theorem tieAll:Tryz.prog.laidByTextLater laidVs laidKs true:=Program.laidByTextLater_by_one 62 8 65 tie1 tie2 tie3 tie4 tie5 tie6 tie7
theorem rowTie:Rows.lassoChecksUptoRow.laidByTextAt .later Tryz.pinned [.data,.data,.data,.sentinel,.sentinel] true:=OpenClaim.laidByTextAt_later rfl rfl tieAll tie8
end Go.Ab.X
end
