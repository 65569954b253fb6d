/- A part. -/
import Derived.Test.YtodldpffhfgicaaGreatDoorZ8
import Derived.Test.YtodldpffhfgicaaGreatDoorCards
import Derived.KernelRfl
import Derived.ProofKit
set_option linter.all false
noncomputable section
namespace Go.Ab.X
open Go Go.Proofs
open Go.Proofs.YtodldpffhfgicaaGreatDoor
set_option maxRecDepth 100000
theorem goes_at {P:Program}(h:(P.funcs.toList.all fun fn=>!fn.goes)=true)(f:FuncId):(P.funcs[f]?).any Func.goes=false:=by
 cases hf:P.funcs[f]? with
 | none=>rfl
 | some fn=>
  have:=List.all_eq_true.1 h fn (by rw[Array.mem_toList_iff];exact Array.mem_of_getElem? hf)
  simpa using this
theorem goes_any {P:Program}(h:(P.funcs.toList.all fun fn=>!fn.goes)=true):P.funcs.any Func.goes=false:=by
 rw[← Array.any_toList]
 rw[List.any_eq_false]
 intro fn hfn
 have:=List.all_eq_true.1 h fn hfn
 simpa using this
theorem goes_not {P:Program}(h:(P.funcs.toList.all fun fn=>!fn.goes)=true)(f:FuncId):P.goes f=false:=by
 unfold Program.goes
 rw[goes_any h,Bool.and_false,Bool.or_false]
 have:∀l:List FuncId,(l.any fun g=>(P.funcs[g]?).any Func.goes)=false:=fun l=>by
  rw[List.any_eq_false]
  intro g _
  rw[goes_at h g];simp
 exact this _
theorem zP1 {P:Program}(h:(P.funcs.toList.all fun fn=>!fn.goes)=true)(func:String):P.goesFrom func=false:=by
 unfold Program.goesFrom
 cases P.funcNamed func with
 | none=>rfl
 | some f=>exact goes_not h f
theorem zU8 {P:Program}{c:OpenClaim}(h:(P.funcs.toList.all fun fn=>!fn.goes)=true)(hs:c.start=.entering):false=c.goesBy P:=by
 unfold OpenClaim.goesBy Program.goesAt
 rw[zP1 h,hs]
 rfl
theorem no_goes:(Tryz.pinned.checked.prog.funcs.toList.all fun fn=>!fn.goes)=true:=by kernel_rfl
theorem card_goes:false=Rows.lassoChecksUptoRow.goesBy Tryz.pinned.checked.prog:=zU8 no_goes rfl
theorem plain (f : FuncId) (fn : Func) (hf : Tryz.pinned.checked.prog.funcNamed "foregone/foregonelaw13.LassoChecks" = some f) (hfn : Tryz.pinned.checked.prog.funcs[f]? = some fn) :
  true=Tryz.pinned.checked.prog.looks []∧∀(j:Nat) t,fn.params[j]?=some t→Tryz.pinned.checked.prog.wantsStandIn t=false:=by
 obtain rfl : f = 3 := Option.some.inj ((show Tryz.prog.funcNamed "foregone/foregonelaw13.LassoChecks" = some 3 by kernel_rfl).symm.trans hf) |>.symm
 obtain rfl:fn=Tryz.f3:=(Option.some.inj (Tryz.func3.symm.trans hfn)).symm
 refine⟨by kernel_rfl,fun j t ht=>?_⟩
 have hp:Tryz.f3.params.toList=[40,43,3,46]:=by kernel_rfl
 have hm:t∈Tryz.f3.params.toList:=by rw[Array.mem_toList_iff];exact Array.mem_of_getElem? ht
 rw[hp] at hm
 simp only[List.mem_cons,List.not_mem_nil,or_false] at hm
 rcases hm with rfl|rfl|rfl|rfl
 ·exact(show Tryz.prog.wantsStandIn 40=false by kernel_rfl)
 ·exact(show Tryz.prog.wantsStandIn 43=false by kernel_rfl)
 ·exact(show Tryz.prog.wantsStandIn 3=false by kernel_rfl)
 ·exact(show Tryz.prog.wantsStandIn 46=false by kernel_rfl)
theorem card_of (h:Rows.LassoChecksUptoSaid):Rows.LassoChecksUptoCardSaid:=
 Claim7.holds_tied_plain_at .later [] _ _ _ _ h (fun _ h=>by cases h) (by kernel_rfl) (fun _ h=>by cases h) rowTie rfl ⟨rfl,rfl⟩ (by kernel_rfl) rfl plain card_goes
end Go.Ab.X
end
