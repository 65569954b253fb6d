/- A part. -/
import Derived.Test.YtfjmlhpdcaeabaaGreatDoorZ2
import Derived.Test.YtfjmlhpdcaeabaaGreatDoorZ5
import Derived.Lay
import Derived.Deep.DeepWitnessRowRef
set_option linter.all false
noncomputable section
namespace Go.Ab.X
open Go Go.Ab Go.Proofs Pl
open Go.ChangeShapes Go.WideShapes Go.ChangeAt Go.RowKit
open Go.Proofs.YtfjmlhpdcaeabaaGreatDoor
set_option maxRecDepth 100000
theorem own:ownKnob Tryz.prog.godebug=none:=by kernel_rfl
def wX0:List Value:=[.int .i64 0,.int .i64 0,.slice none 0 0,.int .i64 0,.int .i64 0,.bool false,.slice none 0 0,.string ByteArray.empty,.slice none 0 0,.slice none 0 0,.slice none 0 0]
def wS0:List Value:=[.slice none 0 0,.slice none 0 0,.slice none 0 0,.slice none 0 0,.slice none 0 0]++wX0++wX0++[.slice none 0 0,.slice none 0 0,.slice none 0 0,.slice none 0 0,.slice none 0 0,.slice none 0 0,.slice none 0 0,.bool false]
def wArgs0:Array Value:=#[.agg wS0.toArray,.agg wX0.toArray,.int .i64 0]
def zLF (os:Os):World:=World.laidAll Tryz.prog os Rows.meanChecksUptoRow.laid
theorem laid_met (os:Os):laidMet Tryz.prog Rows.meanChecksUptoRow.laid ((zLF os).forCall (fun _ _=>0) ⟨#[],wArgs0,[]⟩).memory:=
 laidMet_laidAll wArgs0 (by kernel_rfl) (by kernel_rfl)
def wdX0 {H:Type}:DataW H:=.agg [.lit (.int .i64 0),.lit (.int .i64 0),.nil,.agg [.lit (.int .i64 0),.lit (.int .i64 0),.agg [.lit (.bool false),.nil],.lit (.string []),.nil,.nil],.nil]
def wdS0 {H:Type}:DataW H:=.agg [.nil,.nil,.nil,.nil,.nil,wdX0,wdX0,.nil,.nil,.nil,.nil,.nil,.nil,.nil,.lit (.bool false)]
theorem reads (os:Os){H:Type}(enc:TypeId×Value→H):∃places,DataW.whole enc Tryz.prog ((zLF os).forCall (fun _ _=>0) ⟨#[],wArgs0,[]⟩).memory Tryz.f3.params.toList Rows.meanChecksSpec.vars false wArgs0.toList 8=some ([wdS0,wdX0,.lit (.int .i64 0)],[],places):=
 ⟨[],by kernel_rfl⟩
theorem zUR (os:Os)(started:os.Started)(H:Type)(enc:TypeId×Value→H)(F:Stop.Interp) :
  ReturnsInHanded {} Tryz.checked os 3 .any ((Rows.OpenSpec.upto Rows.meanChecksSpec).preRow enc Tryz.prog Tryz.f3 Rows.meanChecksUptoRow.domain false Rows.meanChecksUptoRow.laid) (((Rows.OpenSpec.upto Rows.meanChecksSpec).at F).post enc Tryz.prog Tryz.f3 false true false false):=by
 obtain⟨places,hx⟩:=reads os enc
 refine returnsInHanded_of_row (C:=Tryz.checked) (s:=Rows.OpenSpec.upto Rows.meanChecksSpec) own started (by kernel_rfl) Tryz.func3
  (witness_row_atRef (enc:=enc) (C:=Tryz.checked) false (zLF os) wArgs0 (World.laidAll_os _ _ _) (by kernel_rfl) (by kernel_rfl) (by kernel_rfl)
   (OpenSpec.preRow_of_cond 8 hx (by kernel_rfl) (fun k hk=>by cases hk;kernel_rfl) (by kernel_rfl) (laid_met os))) ?_
 intro W base args ds gs before hval hW _ hcond _ _ _ _
 have hk:=hcond _ rfl
 have hk:=of_decide_eq_true hk
 exact contract enc W base args ds gs before hval hW hk
theorem saidUpto:Rows.MeanChecksUptoSaid:=
 OpenClaim.holds_of_cond 3 Tryz.f3 rfl rfl rfl rfl rfl rfl rfl ⟨rfl,rfl,rfl,rfl,rfl⟩ rfl rfl rfl rfl rfl (by kernel_rfl) Tryz.func3 v6
  (of_decide_eq_true (by kernel_rfl)) (by unfold Func.isWrapper;first|(rw[if_pos (by decide +kernel)];kernel_rfl)|(rw[if_neg (by decide +kernel)];exact⟨rfl,rfl⟩))
  (fun os started H enc _ F=>by rw[OpenClaim.pre_eq_preRow];exact zUR os started H enc F)
end Go.Ab.X
end
