/- A part. -/
import Derived.Test.YtoolminfelljcaaGreatDoorZ2
import Derived.Test.YtoolminfelljcaaGreatDoorZ5b
import Derived.Lay
import Derived.Carry
import Derived.Deep.DeepWitnessRowRef
set_option linter.all false
noncomputable section
namespace Go.Ab.X
open Go Go.Ab Go.Proofs Pl
open Go.ChangeShapes Go.WideShapes Go.ChangeAt Go.RowKit
open Go.Proofs.YtoolminfelljcaaGreatDoor
set_option maxRecDepth 100000
theorem params4:Tryz.f4.params.toList=[24,24,55]:=by kernel_rfl
theorem results4:Tryz.f4.resultTypes=#[4]:=by kernel_rfl
theorem read55:Tryz.prog.readableRec 55=true:=by kernel_rfl
theorem und55:Tryz.prog.underlying 55=some (.slice 96):=zF1 (okE1.1.ti 55 tyo55) tyd55
theorem rows55:55<Tryz.prog.types.size:=by decide +kernel
theorem contract4 {H:Type}(enc:TypeId×Value→H)(W:World)(base:Nat)(args:Array Value)(ds gs:List (DataW H))(before:List MemPlace)
  (hval:∀(j:Nat) t v,Tryz.f4.params[j]?=some t→args[j]?=some v→Value.okWide Tryz.prog W .any base t v)
  (hW:DataW.Whole enc Tryz.prog Tryz.f4.params.toList Rows.lassoNormalSpec.vars false W args.toList ds gs before) (hb:Rows.uptoBulkAll (ds++gs)≤1048576) :
  Calls Tryz.prog 4 args W fun e W'=>∃v,e=.returned v∧Rows.lassoNormalSpec.post enc Tryz.prog Tryz.f4 false true false false W args v W':=by
 have hW':=hW
 have hlt:=hW.lt
 obtain⟨p,q,hA0,hV,rfl,hfz,hnd⟩:=hW
 obtain⟨rfl,rfl⟩:=trodVars_none hV
 have hA:DataW.TrodAll enc Tryz.prog W 0 (fun _=>true) true [24,24,55] args.toList ds p:=by rw[← params4];exact hA0
 obtain⟨v0,v1,v2,d0,d1,d2,p0,p1,p2,rfl,rfl,rfl,h0,h1,h2⟩:=trodAll_three hA
 simp only[List.append_nil,List.cons_append,List.nil_append,Rows.uptoBulkAll] at hb
 have hC:∀b o v,W.cell? ⟨b,o,none⟩=some v→(gh0 W (OkC E1 Tryz.prog)).C b o=some v:=fun _ _ _ h=>h
 obtain⟨f0,h0'⟩:=h0
 obtain⟨a0,vl0,sz0⟩:=rd24 okE1.1 hC _ _ _ _ _ (Nat.le_refl _) h0'
 have hv0:VR (gh0 W (OkC E1 Tryz.prog)) (zAK a0) v0:=lasV vl0
 have ok0:okA a0:=zSM sz0 (by omega)
 obtain⟨f1,h1'⟩:=h1
 obtain⟨a1,vl1,sz1⟩:=rd24 okE1.1 hC _ _ _ _ _ (Nat.le_refl _) h1'
 have hv1:VR (gh0 W (OkC E1 Tryz.prog)) (zAK a1) v1:=lasV vl1
 have ok1:okA a1:=zSM sz1 (by omega)
 have hp2:Tryz.f4.params[2]?=some 55:=by rw[← Array.getElem?_toList,params4];rfl
 obtain⟨sa,sn,sc,rfl⟩:=okWide_slice und55 (hval 2 55 v2 hp2 rfl)
 obtain⟨f2,h2'⟩:=h2
 obtain⟨l2,vl2,sz2⟩:=rd55 okE1.1 hC (Rows.uptoBulk d2) _ _ _ _ (Nat.le_succ _) h2'
 have e2:l2.map (fun x=>zCL (x.1,x.2.1,x.2.2.1))=(l2.map fun x=>(x.1,x.2.1,x.2.2.1)).map zCL:=by rw[List.map_map];rfl
 have vl2:VL (gh0 W (OkC E1 Tryz.prog)) [.sl 0 (l2.map (fun x=>zCL (x.1,x.2.1,x.2.2.1))) .shut] (Value.slice sa sn sc).cells.toList:=vl2
 rw[e2] at vl2
 have sz2:l2.length+1≤Rows.uptoBulk d2:=sz2
 have hl2:(l2.map fun x=>(x.1,x.2.1,x.2.2.1)).length<1073741824:=by rw[List.length_map];omega
 have hx2:∀x∈(l2.map fun x=>(x.1,x.2.1,x.2.2.1)),-9223372036854775808≤x.2.2∧x.2.2<9223372036854775808:=fun x hx=>by
  obtain⟨y,_,rfl⟩:=List.mem_map.1 hx
  exact y.2.2.2
 generalize (l2.map fun x=>(x.1,x.2.1,x.2.2.1))=k2 at vl2 hl2 hx2
 have hv2:VR (gh0 W (OkC E1 Tryz.prog)) (.sl 0 (k2.map zCL) .shut) (.slice sa sn sc):=vl2.1
 have hargs:VRs (gh0 W (OkC E1 Tryz.prog)) [zAK a0,zAK a1,.sl 0 (k2.map zCL) .shut] #[v0,v1,.slice sa sn sc]:=by
  have:VL (gh0 W (OkC E1 Tryz.prog)) [zAK a0,zAK a1,.sl 0 (k2.map zCL) .shut] [v0,v1,.slice sa sn sc]:=⟨hv0,hv1,hv2,trivial⟩
  exact this.vrs
 have hmeet:C E1 4 [zAK a0,zAK a1,.sl 0 (k2.map zCL) .shut] .empty fun cr _=>cr=.ret (.bool true):=c4 ok0 ok1 hl2 hx2 rfl
 have htop:tops [zAK a0,zAK a1,.sl 0 (k2.map zCL) .shut]=0:=rfl
 have hcall:=zS7 okE1.1 okE1.2 mixed hmeet (by rfl) (by rfl) (g:=gh0 W (OkC E1 Tryz.prog)) rfl (rel0 W _) hargs htop
 refine hcall.mono fun x W' ⟨g',s',v',he,hv,hr⟩=>?_
 subst he
 cases hv
 refine⟨_,rfl,[d0,d1,d2],[],_,[],p0++p1++p2,[],hW',?_,?_,?_,Rel.keptBut hr _,fun h=>by cases h⟩
 ·rw[results4]
  exact trodAll_mk1 (shut_bool und4 true)
 ·rw[params4]
  have hs0:∀p∈p0,p.block<W.heap.size:=fun p hp=>hlt p (by simp[hp])
  have t0:DataW.Trod enc Tryz.prog W' 0 (fun b=>decide (b<W.heap.size)) true 24 v0 d0 p0:=Go.WideElems.Trod_stays laidOut read24 rows24 ⟨f0,h0'⟩ (fun p hp=>Rel.sameAt hr (hs0 p hp)) (fun p hp=>by simpa using hs0 p hp)
  have hs1:∀p∈p1,p.block<W.heap.size:=fun p hp=>hlt p (by simp[hp])
  have t1:DataW.Trod enc Tryz.prog W' 0 (fun b=>decide (b<W.heap.size)) true 24 v1 d1 p1:=Go.WideElems.Trod_stays laidOut read24 rows24 ⟨f1,h1'⟩ (fun p hp=>Rel.sameAt hr (hs1 p hp)) (fun p hp=>by simpa using hs1 p hp)
  have hs2:∀p∈p2,p.block<W.heap.size:=fun p hp=>hlt p (by simp[hp])
  have t2:DataW.Trod enc Tryz.prog W' 0 (fun b=>decide (b<W.heap.size)) true 55 (.slice sa sn sc) d2 p2:=Go.WideElems.Trod_stays laidOut read55 rows55 ⟨f2,h2'⟩ (fun p hp=>Rel.sameAt hr (hs2 p hp)) (fun p hp=>by simpa using hs2 p hp)
  simp only[List.append_assoc]
  exact trodAll_mk3 t0 t1 t2
 ·rfl
def wArgs4:Array Value:=#[.agg wL0.toArray,.agg wL0.toArray,.slice none 0 0]
def zIY (os:Os):World:=World.laidAll Tryz.prog os Rows.lassoNormalUptoRow.laid
theorem zX1 (os:Os):laidMet Tryz.prog Rows.lassoNormalUptoRow.laid ((zIY os).forCall (fun _ _=>0) ⟨#[],wArgs4,[]⟩).memory:=
 laidMet_laidAll wArgs4 (by kernel_rfl) (by kernel_rfl)
theorem reads4 (os:Os){H:Type}(enc:TypeId×Value→H):∃places,DataW.whole enc Tryz.prog ((zIY os).forCall (fun _ _=>0) ⟨#[],wArgs4,[]⟩).memory Tryz.f4.params.toList Rows.lassoNormalSpec.vars false wArgs4.toList 8=some ([wdL0,wdL0,.nil],[],places):=
 ⟨[],by kernel_rfl⟩
theorem zQP (os:Os)(started:os.Started)(H:Type)(enc:TypeId×Value→H)(F:Stop.Interp) :
  ReturnsInHanded {} Tryz.checked os 4 .any ((Rows.OpenSpec.upto Rows.lassoNormalSpec).preRow enc Tryz.prog Tryz.f4 Rows.lassoNormalUptoRow.domain false Rows.lassoNormalUptoRow.laid) (((Rows.OpenSpec.upto Rows.lassoNormalSpec).at F).post enc Tryz.prog Tryz.f4 false true false false):=by
 obtain⟨places,hx⟩:=reads4 os enc
 refine returnsInHanded_of_row (C:=Tryz.checked) (s:=Rows.OpenSpec.upto Rows.lassoNormalSpec) own started (by kernel_rfl) Tryz.func4
  (witness_row_atRef (enc:=enc) (C:=Tryz.checked) false (zIY os) wArgs4 (World.laidAll_os _ _ _) (by kernel_rfl) (by kernel_rfl) (by kernel_rfl)
   (OpenSpec.preRow_of_cond 8 hx (by kernel_rfl) (fun k hk=>by cases hk;kernel_rfl) (by kernel_rfl) (zX1 os))) ?_
 intro W base args ds gs before hval hW _ hcond _ _ _ _
 have hk:=hcond _ rfl
 have hk:=of_decide_eq_true hk
 exact contract4 enc W base args ds gs before hval hW hk
theorem saidUpto4:Rows.LassoNormalUptoSaid:=
 OpenClaim.holds_of_cond 4 Tryz.f4 rfl rfl rfl rfl rfl rfl rfl ⟨rfl,rfl,rfl,rfl,rfl⟩ rfl rfl rfl rfl rfl (by kernel_rfl) Tryz.func4 Xb.v6b
  (of_decide_eq_true (by kernel_rfl)) (by unfold Func.isWrapper;first|(rw[if_pos (by decide +kernel)];kernel_rfl)|(rw[if_neg (by decide +kernel)];exact⟨rfl,rfl⟩))
  (fun os started H enc _ F=>by rw[OpenClaim.pre_eq_preRow];exact zQP os started H enc F)
end Go.Ab.X
end
