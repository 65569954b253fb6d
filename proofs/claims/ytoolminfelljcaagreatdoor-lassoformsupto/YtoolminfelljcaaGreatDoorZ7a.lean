/- A part. -/
import Derived.Test.YtoolminfelljcaaGreatDoorZ2
import Derived.Test.YtoolminfelljcaaGreatDoorZ5a
import Derived.Lay
import Derived.Carry
import Derived.Deep.DeepWitnessRowRef
set_option linter.all false
noncomputable section
namespace Go.Ab.X
open Go Go.Ab Go.Proofs Pl
open Go.ChangeShapes Go.WideShapes Go.ChangeAt Go.RowKit
open Go.Proofs.YtoolminfelljcaaGreatDoor
set_option maxRecDepth 100000
theorem params3:Tryz.f3.params.toList=[24,24,3,3]:=by kernel_rfl
theorem results3:Tryz.f3.resultTypes=#[4]:=by kernel_rfl
theorem contract3 {H:Type}(enc:TypeId×Value→H)(W:World)(base:Nat)(args:Array Value)(ds gs:List (DataW H))(before:List MemPlace)
  (hval:∀(j:Nat) t v,Tryz.f3.params[j]?=some t→args[j]?=some v→Value.okWide Tryz.prog W .any base t v)
  (hW:DataW.Whole enc Tryz.prog Tryz.f3.params.toList Rows.lassoFormsSpec.vars false W args.toList ds gs before) (hb:Rows.uptoBulkAll (ds++gs)≤1048576) :
  Calls Tryz.prog 3 args W fun e W'=>∃v,e=.returned v∧Rows.lassoFormsSpec.post enc Tryz.prog Tryz.f3 false true false false W args v W':=by
 have hW':=hW
 have hlt:=hW.lt
 obtain⟨p,q,hA0,hV,rfl,hfz,hnd⟩:=hW
 obtain⟨rfl,rfl⟩:=trodVars_none hV
 have hA:DataW.TrodAll enc Tryz.prog W 0 (fun _=>true) true [24,24,3,3] args.toList ds p:=by rw[← params3];exact hA0
 obtain⟨v0,v1,v2,v3,d0,d1,d2,d3,p0,p1,p2,p3,rfl,rfl,rfl,h0,h1,h2,h3⟩:=trodAll_four hA
 have hp2:Tryz.f3.params[2]?=some 3:=by rw[← Array.getElem?_toList,params3];rfl
 obtain⟨n2,rfl,rfl,rfl,hwf2⟩:=open_int und3 (hval 2 3 v2 hp2 rfl) h2
 have hp3:Tryz.f3.params[3]?=some 3:=by rw[← Array.getElem?_toList,params3];rfl
 obtain⟨n3,rfl,rfl,rfl,hwf3⟩:=open_int und3 (hval 3 3 v3 hp3 rfl) h3
 simp only[List.append_nil,List.cons_append,List.nil_append,Rows.uptoBulkAll] at hb
 have hC:∀b o v,W.cell? ⟨b,o,none⟩=some v→(gh0 W (OkC E1 Tryz.prog)).C b o=some v:=fun _ _ _ h=>h
 obtain⟨f0,h0'⟩:=h0
 obtain⟨a0,vl0,sz0⟩:=rd24 okE1.1 hC _ _ _ _ _ (Nat.le_refl _) h0'
 have hv0:VR (gh0 W (OkC E1 Tryz.prog)) (zAK a0) v0:=lasV vl0
 have ok0:okA a0:=zSM sz0 (by omega)
 obtain⟨f1,h1'⟩:=h1
 obtain⟨a1,vl1,sz1⟩:=rd24 okE1.1 hC _ _ _ _ _ (Nat.le_refl _) h1'
 have hv1:VR (gh0 W (OkC E1 Tryz.prog)) (zAK a1) v1:=lasV vl1
 have ok1:okA a1:=zSM sz1 (by omega)
 have hv2:VR (gh0 W (OkC E1 Tryz.prog)) (.int .i64 n2) (.int .i64 n2):=.int _ _
 have hv3:VR (gh0 W (OkC E1 Tryz.prog)) (.int .i64 n3) (.int .i64 n3):=.int _ _
 have hargs:VRs (gh0 W (OkC E1 Tryz.prog)) [zAK a0,zAK a1,.int .i64 n2,.int .i64 n3] #[v0,v1,.int .i64 n2,.int .i64 n3]:=by
  have:VL (gh0 W (OkC E1 Tryz.prog)) [zAK a0,zAK a1,.int .i64 n2,.int .i64 n3] [v0,v1,.int .i64 n2,.int .i64 n3]:=⟨hv0,hv1,hv2,hv3,trivial⟩
  exact this.vrs
 have hmeet:C E1 3 [zAK a0,zAK a1,.int .i64 n2,.int .i64 n3] .empty fun cr _=>cr=.ret (.bool true):=c3 ok0 ok1 (wf64 hwf2) (wf64 hwf3) rfl
 have htop:tops [zAK a0,zAK a1,.int .i64 n2,.int .i64 n3]=0:=rfl
 have hcall:=zS7 okE1.1 okE1.2 mixed hmeet (by rfl) (by rfl) (g:=gh0 W (OkC E1 Tryz.prog)) rfl (rel0 W _) hargs htop
 refine hcall.mono fun x W' ⟨g',s',v',he,hv,hr⟩=>?_
 subst he
 cases hv
 refine⟨_,rfl,[d0,d1,.lit (.int .i64 n2),.lit (.int .i64 n3)],[],_,[],p0++p1++[]++[],[],hW',?_,?_,?_,Rel.keptBut hr _,fun h=>by cases h⟩
 ·rw[results3]
  exact trodAll_mk1 (shut_bool und4 true)
 ·rw[params3]
  have hs0:∀p∈p0,p.block<W.heap.size:=fun p hp=>hlt p (by simp[hp])
  have t0:DataW.Trod enc Tryz.prog W' 0 (fun b=>decide (b<W.heap.size)) true 24 v0 d0 p0:=Go.WideElems.Trod_stays laidOut read24 rows24 ⟨f0,h0'⟩ (fun p hp=>Rel.sameAt hr (hs0 p hp)) (fun p hp=>by simpa using hs0 p hp)
  have hs1:∀p∈p1,p.block<W.heap.size:=fun p hp=>hlt p (by simp[hp])
  have t1:DataW.Trod enc Tryz.prog W' 0 (fun b=>decide (b<W.heap.size)) true 24 v1 d1 p1:=Go.WideElems.Trod_stays laidOut read24 rows24 ⟨f1,h1'⟩ (fun p hp=>Rel.sameAt hr (hs1 p hp)) (fun p hp=>by simpa using hs1 p hp)
  simp only[List.append_assoc]
  exact trodAll_mk4 t0 t1 (Go.ChangeShapes.shut_int und3 hwf2) (Go.ChangeShapes.shut_int und3 hwf3)
 ·rfl
def wArgs3:Array Value:=#[.agg wL0.toArray,.agg wL0.toArray,.int .i64 0,.int .i64 0]
def zIZ (os:Os):World:=World.laidAll Tryz.prog os Rows.lassoFormsUptoRow.laid
theorem zX2 (os:Os):laidMet Tryz.prog Rows.lassoFormsUptoRow.laid ((zIZ os).forCall (fun _ _=>0) ⟨#[],wArgs3,[]⟩).memory:=
 laidMet_laidAll wArgs3 (by kernel_rfl) (by kernel_rfl)
theorem reads3 (os:Os){H:Type}(enc:TypeId×Value→H):∃places,DataW.whole enc Tryz.prog ((zIZ os).forCall (fun _ _=>0) ⟨#[],wArgs3,[]⟩).memory Tryz.f3.params.toList Rows.lassoFormsSpec.vars false wArgs3.toList 8=some ([wdL0,wdL0,.lit (.int .i64 0),.lit (.int .i64 0)],[],places):=
 ⟨[],by kernel_rfl⟩
theorem zQQ (os:Os)(started:os.Started)(H:Type)(enc:TypeId×Value→H)(F:Stop.Interp) :
  ReturnsInHanded {} Tryz.checked os 3 .any ((Rows.OpenSpec.upto Rows.lassoFormsSpec).preRow enc Tryz.prog Tryz.f3 Rows.lassoFormsUptoRow.domain false Rows.lassoFormsUptoRow.laid) (((Rows.OpenSpec.upto Rows.lassoFormsSpec).at F).post enc Tryz.prog Tryz.f3 false true false false):=by
 obtain⟨places,hx⟩:=reads3 os enc
 refine returnsInHanded_of_row (C:=Tryz.checked) (s:=Rows.OpenSpec.upto Rows.lassoFormsSpec) own started (by kernel_rfl) Tryz.func3
  (witness_row_atRef (enc:=enc) (C:=Tryz.checked) false (zIZ os) wArgs3 (World.laidAll_os _ _ _) (by kernel_rfl) (by kernel_rfl) (by kernel_rfl)
   (OpenSpec.preRow_of_cond 8 hx (by kernel_rfl) (fun k hk=>by cases hk;kernel_rfl) (by kernel_rfl) (zX2 os))) ?_
 intro W base args ds gs before hval hW _ hcond _ _ _ _
 have hk:=hcond _ rfl
 have hk:=of_decide_eq_true hk
 exact contract3 enc W base args ds gs before hval hW hk
theorem saidUpto3:Rows.LassoFormsUptoSaid:=
 OpenClaim.holds_of_cond 3 Tryz.f3 rfl rfl rfl rfl rfl rfl rfl ⟨rfl,rfl,rfl,rfl,rfl⟩ rfl rfl rfl rfl rfl (by kernel_rfl) Tryz.func3 Xa.v6a
  (of_decide_eq_true (by kernel_rfl)) (by unfold Func.isWrapper;first|(rw[if_pos (by decide +kernel)];kernel_rfl)|(rw[if_neg (by decide +kernel)];exact⟨rfl,rfl⟩))
  (fun os started H enc _ F=>by rw[OpenClaim.pre_eq_preRow];exact zQQ os started H enc F)
end Go.Ab.X
end
