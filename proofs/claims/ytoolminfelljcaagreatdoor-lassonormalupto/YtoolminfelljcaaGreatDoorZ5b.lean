/- A part. -/
import Derived.Test.YtoolminfelljcaaGreatDoorX1
import Derived.Test.YtoolminfelljcaaGreatDoorRows
import Derived.JoinedOf
set_option linter.all false
noncomputable section
namespace Go.Ab.Xb
open Go Go.Ab Go.Proofs
open Go.Proofs.YtoolminfelljcaaGreatDoor
set_option maxRecDepth 100000
abbrev Q:=Tryz.pinned.checked.prog
abbrev R:=Rows.lassoNormalUptoRow
abbrev B:=(Rows.OpenSpec.upto Rows.lassoNormalSpec).bare
theorem j1:(laidOutB Q)=true:=by kernel_rfl
theorem j2:(mapsRowed Q)=true:=by kernel_rfl
theorem j9:((R.inPlace==Q.inPlace 4))=true:=by kernel_rfl
theorem j10:((R.unfollowed==Q.unfollowed 4))=true:=by kernel_rfl
theorem j11:((R.recurses==Q.recurses 4))=true:=by kernel_rfl
theorem j12:((R.named==Q.varsNamed 4))=true:=by kernel_rfl
theorem j16:((R.loops==(Tryz.f4.params.toList++B.plain.varTypes Q).any (Q.loopsFrom ·)))=true:=by kernel_rfl
theorem j22:((R.plainKeys==Q.plainKeys))=true:=by kernel_rfl
theorem j24:(Q.stopsHeard)=true:=by kernel_rfl
theorem j25:(Q.mayEnter)=true:=by kernel_rfl
theorem v6b:joinedFacts Q 4 Tryz.f4 B R=true:=by
 unfold joinedFacts
 simp only[Bool.and_eq_true]
 exact⟨⟨⟨⟨⟨⟨⟨⟨⟨⟨⟨⟨⟨⟨⟨⟨⟨⟨⟨⟨⟨⟨⟨⟨⟨⟨⟨⟨⟨⟨⟨by kernel_rfl,j1⟩,j2⟩,by kernel_rfl⟩,by kernel_rfl⟩,by kernel_rfl⟩,by kernel_rfl⟩,by kernel_rfl⟩,by kernel_rfl⟩,j9⟩,j10⟩,j11⟩,j12⟩,by kernel_rfl⟩,by kernel_rfl⟩,by kernel_rfl⟩,j16⟩,by kernel_rfl⟩,by kernel_rfl⟩,by kernel_rfl⟩,by kernel_rfl⟩,by kernel_rfl⟩,j22⟩,by kernel_rfl⟩,j24⟩,j25⟩,by kernel_rfl⟩,by kernel_rfl⟩,by kernel_rfl⟩,by kernel_rfl⟩,by kernel_rfl⟩,by kernel_rfl⟩
end Go.Ab.Xb
end
