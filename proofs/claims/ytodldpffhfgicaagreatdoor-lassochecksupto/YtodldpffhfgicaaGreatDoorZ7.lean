/- A part. -/
import Derived.Test.YtodldpffhfgicaaGreatDoorZ2
import Derived.Test.YtodldpffhfgicaaGreatDoorZ5
import Derived.Lay
import Derived.Carry
import Derived.Deep.DeepWitnessRowRef
set_option linter.all false
noncomputable section
namespace Go.Ab.X
open Go Go.Ab Go.Proofs Pl
open Go.ChangeShapes Go.WideShapes Go.ChangeAt Go.RowKit
open Go.Proofs.YtodldpffhfgicaaGreatDoor
set_option maxRecDepth 100000
theorem params3:Tryz.f3.params.toList=[40,43,3,46]:=by kernel_rfl
theorem results3:Tryz.f3.resultTypes=#[4]:=by kernel_rfl
theorem contract3 {H:Type}(enc:TypeId×Value→H)(W:World)(base:Nat)(args:Array Value)(ds gs:List (DataW H))(before:List MemPlace)
  (hval:∀(j:Nat) t v,Tryz.f3.params[j]?=some t→args[j]?=some v→Value.okWide Tryz.prog W .any base t v)
  (hW:DataW.Whole enc Tryz.prog Tryz.f3.params.toList Rows.lassoChecksSpec.vars false W args.toList ds gs before) (hb:Rows.uptoBulkAll (ds++gs)≤1048576) :
  Calls Tryz.prog 3 args W fun e W'=>∃v,e=.returned v∧Rows.lassoChecksSpec.post enc Tryz.prog Tryz.f3 false true false false W args v W':=by
 have hW':=hW
 have hlt:=hW.lt
 obtain⟨p,q,hA0,hV,rfl,hfz,hnd⟩:=hW
 obtain⟨rfl,rfl⟩:=trodVars_none hV
 have hA:DataW.TrodAll enc Tryz.prog W 0 (fun _=>true) true [40,43,3,46] args.toList ds p:=by rw[← params3];exact hA0
 obtain⟨v0,v1,v2,v3,d0,d1,d2,d3,p0,p1,p2,p3,rfl,rfl,rfl,h0,h1,h2,h3⟩:=trodAll_four hA
 have hp2:Tryz.f3.params[2]?=some 3:=by rw[← Array.getElem?_toList,params3];rfl
 obtain⟨n2,rfl,rfl,rfl,hwf2⟩:=open_int und3 (hval 2 3 v2 hp2 rfl) h2
 simp only[List.append_nil,List.cons_append,List.nil_append,Rows.uptoBulkAll] at hb
 have hC:∀b o v,W.cell? ⟨b,o,none⟩=some v→(gh0 W (OkC E1 Tryz.prog)).C b o=some v:=fun _ _ _ h=>h
 obtain⟨f0,h0'⟩:=h0
 obtain⟨sp,vl0,sz0⟩:=rd40 okE1.1 hC _ _ _ _ _ (Nat.le_refl _) h0'
 have hv0:VR (gh0 W (OkC E1 Tryz.prog)) (zAN sp) v0:=specV vl0
 obtain⟨f1,h1'⟩:=h1
 obtain⟨t,vl1,sz1⟩:=rd43 okE1.1 hC _ _ _ _ _ (Nat.le_refl _) h1'
 have hv1:VR (gh0 W (OkC E1 Tryz.prog)) (encT t) v1:=tempV vl1
 obtain⟨f3,h3'⟩:=h3
 obtain⟨a,vl3,sz3⟩:=rd46 okE1.1 hC _ _ _ _ _ (Nat.le_refl _) h3'
 have hv3:VR (gh0 W (OkC E1 Tryz.prog)) (zC8 a) v3:=lasV vl3
 have hargs:VRs (gh0 W (OkC E1 Tryz.prog)) [zAN sp,encT t,.int .i64 n2,zC8 a] #[v0,v1,.int .i64 n2,v3]:=by
  have:VL (gh0 W (OkC E1 Tryz.prog)) [zAN sp,encT t,.int .i64 n2,zC8 a] [v0,v1,.int .i64 n2,v3]:=⟨hv0,hv1,.int _ _,hv3,trivial⟩
  exact this.vrs
 have hmeet:C E1 3 [zAN sp,encT t,.int .i64 n2,zC8 a] .empty fun cr _=>cr=.ret (.bool true):=c3 (by omega) rfl
 have htop:tops [zAN sp,encT t,.int .i64 n2,zC8 a]=0:=by
  show Nat.max (top (zAN sp)) (Nat.max (top (encT t)) (Nat.max (top (.int .i64 n2)) (Nat.max (top (zC8 a)) 0)))=0
  rw[zST,top_T,zV3,zV5];rfl
 have hcall:=calls_of okE1.1 okE1.2 mixed hmeet (by rfl) (by rfl) (g:=gh0 W (OkC E1 Tryz.prog)) rfl (rel0 W _) hargs htop
 refine hcall.mono fun x W' ⟨g',s',v',he,hv,hr⟩=>?_
 subst he
 cases hv
 refine⟨_,rfl,[d0,d1,.lit (.int .i64 n2),d3],[],_,[],p0++p1++[]++p3,[],hW',?_,?_,?_,Rel.keptBut hr _,fun h=>by cases h⟩
 ·rw[results3]
  exact trodAll_mk1 (shut_bool und4 true)
 ·rw[params3]
  have hs0:∀p∈p0,p.block<W.heap.size:=fun p hp=>hlt p (by simp[hp])
  have t0:DataW.Trod enc Tryz.prog W' 0 (fun b=>decide (b<W.heap.size)) true 40 v0 d0 p0:=Go.WideElems.Trod_stays laidOut read40 rows40 ⟨f0,h0'⟩ (fun p hp=>Rel.sameAt hr (hs0 p hp)) (fun p hp=>by simpa using hs0 p hp)
  have hs1:∀p∈p1,p.block<W.heap.size:=fun p hp=>hlt p (by simp[hp])
  have t1:DataW.Trod enc Tryz.prog W' 0 (fun b=>decide (b<W.heap.size)) true 43 v1 d1 p1:=Go.WideElems.Trod_stays laidOut read43 rows43 ⟨f1,h1'⟩ (fun p hp=>Rel.sameAt hr (hs1 p hp)) (fun p hp=>by simpa using hs1 p hp)
  have hs3:∀p∈p3,p.block<W.heap.size:=fun p hp=>hlt p (by simp[hp])
  have t3:DataW.Trod enc Tryz.prog W' 0 (fun b=>decide (b<W.heap.size)) true 46 v3 d3 p3:=Go.WideElems.Trod_stays laidOut read46 rows46 ⟨f3,h3'⟩ (fun p hp=>Rel.sameAt hr (hs3 p hp)) (fun p hp=>by simpa using hs3 p hp)
  simp only[List.append_assoc]
  exact trodAll_mk4 t0 t1 (Go.ChangeShapes.shut_int und3 hwf2) t3
 ·rfl
def wArgs3:Array Value:=#[.agg wS0.toArray,.agg wT0.toArray,.int .i64 0,.agg wL0.toArray]
def zJW (os:Os):World:=World.laidAll Tryz.prog os Rows.lassoChecksUptoRow.laid
theorem zX8 (os:Os):laidMet Tryz.prog Rows.lassoChecksUptoRow.laid ((zJW os).forCall (fun _ _=>0) ⟨#[],wArgs3,[]⟩).memory:=
 laidMet_laidAll wArgs3 (by kernel_rfl) (by kernel_rfl)
theorem reads3 (os:Os){H:Type}(enc:TypeId×Value→H):∃places,DataW.whole enc Tryz.prog ((zJW os).forCall (fun _ _=>0) ⟨#[],wArgs3,[]⟩).memory Tryz.f3.params.toList Rows.lassoChecksSpec.vars false wArgs3.toList 8=some ([wdS0,wdT0,.lit (.int .i64 0),wdL0],[],places):=
 ⟨[],by kernel_rfl⟩
theorem zRJ (os:Os)(started:os.Started)(H:Type)(enc:TypeId×Value→H)(F:Stop.Interp) :
  ReturnsInHanded {} Tryz.checked os 3 .any ((Rows.OpenSpec.upto Rows.lassoChecksSpec).preRow enc Tryz.prog Tryz.f3 Rows.lassoChecksUptoRow.domain false Rows.lassoChecksUptoRow.laid) (((Rows.OpenSpec.upto Rows.lassoChecksSpec).at F).post enc Tryz.prog Tryz.f3 false true false false):=by
 obtain⟨places,hx⟩:=reads3 os enc
 refine returnsInHanded_of_row (C:=Tryz.checked) (s:=Rows.OpenSpec.upto Rows.lassoChecksSpec) own started (by kernel_rfl) Tryz.func3
  (witness_row_atRef (enc:=enc) (C:=Tryz.checked) false (zJW os) wArgs3 (World.laidAll_os _ _ _) (by kernel_rfl) (by kernel_rfl) (by kernel_rfl)
   (OpenSpec.preRow_of_cond 8 hx (by kernel_rfl) (fun k hk=>by cases hk;kernel_rfl) (by kernel_rfl) (zX8 os))) ?_
 intro W base args ds gs before hval hW _ hcond _ _ _ _
 have hk:=hcond _ rfl
 have hk:=of_decide_eq_true hk
 exact contract3 enc W base args ds gs before hval hW hk
theorem saidUpto3:Rows.LassoChecksUptoSaid:=
 OpenClaim.holds_of_cond 3 Tryz.f3 rfl rfl rfl rfl rfl rfl rfl ⟨rfl,rfl,rfl,rfl,rfl⟩ rfl rfl rfl rfl rfl (by kernel_rfl) Tryz.func3 Xa.v6a
  (of_decide_eq_true (by kernel_rfl)) (by unfold Func.isWrapper;first|(rw[if_pos (by decide +kernel)];kernel_rfl)|(rw[if_neg (by decide +kernel)];exact⟨rfl,rfl⟩))
  (fun os started H enc _ F=>by rw[OpenClaim.pre_eq_preRow];exact zRJ os started H enc F)
end Go.Ab.X
end
