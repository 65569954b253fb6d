/- A part. -/
import Derived.Test.YtodldpffhfgicaaGreatDoorX1
import Derived.Test.YtodldpffhfgicaaGreatDoorRows
import Derived.JoinedOf
set_option linter.all false
noncomputable section
namespace Go.Ab.Xa
open Go Go.Ab Go.Proofs
open Go.Proofs.YtodldpffhfgicaaGreatDoor
set_option maxRecDepth 100000
abbrev Q:=Tryz.pinned.checked.prog
abbrev R:=Rows.lassoChecksUptoRow
abbrev B:=(Rows.OpenSpec.upto Rows.lassoChecksSpec).bare
theorem j1:(laidOutB Q)=true:=by kernel_rfl
theorem j2:(mapsRowed Q)=true:=by kernel_rfl
theorem j9:((R.inPlace==Q.inPlace 3))=true:=by kernel_rfl
theorem j10:((R.unfollowed==Q.unfollowed 3))=true:=by kernel_rfl
theorem j11:((R.recurses==Q.recurses 3))=true:=by kernel_rfl
theorem j12:((R.named==Q.varsNamed 3))=true:=by kernel_rfl
theorem j16:((R.loops==(Tryz.f3.params.toList++B.plain.varTypes Q).any (Q.loopsFrom ·)))=true:=by kernel_rfl
theorem j22:((R.plainKeys==Q.plainKeys))=true:=by kernel_rfl
theorem j24:(Q.stopsHeard)=true:=by kernel_rfl
theorem j25:(Q.mayEnter)=true:=by kernel_rfl
theorem v6a:joinedFacts Q 3 Tryz.f3 B R=true:=by
 unfold joinedFacts
 simp only[Bool.and_eq_true]
 exact⟨⟨⟨⟨⟨⟨⟨⟨⟨⟨⟨⟨⟨⟨⟨⟨⟨⟨⟨⟨⟨⟨⟨⟨⟨⟨⟨⟨⟨⟨⟨by kernel_rfl,j1⟩,j2⟩,by kernel_rfl⟩,by kernel_rfl⟩,by kernel_rfl⟩,by kernel_rfl⟩,by kernel_rfl⟩,by kernel_rfl⟩,j9⟩,j10⟩,j11⟩,j12⟩,by kernel_rfl⟩,by kernel_rfl⟩,by kernel_rfl⟩,j16⟩,by kernel_rfl⟩,by kernel_rfl⟩,by kernel_rfl⟩,by kernel_rfl⟩,by kernel_rfl⟩,j22⟩,by kernel_rfl⟩,j24⟩,j25⟩,by kernel_rfl⟩,by kernel_rfl⟩,by kernel_rfl⟩,by kernel_rfl⟩,by kernel_rfl⟩,by kernel_rfl⟩
end Go.Ab.Xa
end
