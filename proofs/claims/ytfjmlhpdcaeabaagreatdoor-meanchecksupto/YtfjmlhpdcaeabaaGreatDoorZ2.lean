/- A part. -/
import Derived.Test.YtfjmlhpdcaeabaaGreatDoorMz
import Derived.Test.YtfjmlhpdcaeabaaGreatDoorK11
import Derived.Test.YtfjmlhpdcaeabaaGreatDoorZ1
import Derived.ProofKit
import Derived.WideKeyArgs
import Derived.Deep.DeepHandedRow
import Derived.Deep.DeepWitnessRowRef
set_option linter.all false
noncomputable section
namespace Go.Ab.X
open Go Go.Ab Go.Proofs Pl
set_option maxRecDepth 100000
theorem okE1:TysOk E1 Tryz.prog∧FuncsOk E1 Tryz.prog (OkC E1 Tryz.prog):=by
 refine wi_ok (E:=E) (i:=intr1) ok.1 ok.2 ?_
 intro f args v hv base w0 g s w args' hok hr ha hta
 unfold intr1 at hv
 split at hv
 ·rename_i u hu
  cases hv
  exact ok.2.intr (show E.intr f args=some _ from hu) hok hr ha hta
 ·rw[cond_eq_ite] at hv
  split at hv
  ·rename_i hc
   cases hv
   simp only[Bool.and_eq_true] at hc
   obtain⟨h1,h2⟩:=hc
   have:=Nat.eq_of_beq_eq_true h1
   subst this
   cases args with
   | cons a r=>simp at h2
   | nil=>
    have hM:OkC M4 Tryz.prog=OkC E Tryz.prog:=by simp only[M4,M3,M2,M1,M0,Env.memo,OkC_wi]
    exact zPB okM4.1 okM4.2 mixed m124 (hok.trans hM.symm) hr ha hta
  ·cases hv
theorem calls_of {P:Program}{E:Env}(hE:TysOk E P)(hF:FuncsOk E P (OkC E P))(hmix:P.follows .mixedOrders=true){f:FuncId}{args:List AV}{v:AV}(h:C E f args .empty fun cr _=>cr=.ret v)(hin:E.intr f args=none)
  {W:World} {g:Gh} {args':Array Value} (hok:g.ok=OkC E P) (hr:Rel W.heap.size W g .empty W) (ha:VRs g args args') (hta:tops args=0) :
  Calls P f args' W fun e w'=>∃g' s' v',e=.returned v'∧VR g' v v'∧Rel W.heap.size W g' s' w':=by
 unfold C at h
 obtain⟨n,cr,recd,s',h,rfl⟩:=h
 intro cs
 cases n with
 | zero=>simp[iter,Rec.bot] at h
 | succ n=>
  have hs:=sim hE hF hmix n
  have h:zH9 (iter E n) E f args none .empty=some (.ret v,recd,s'):=h
  unfold zH9 zJ7 at h
  rw[hin] at h
  dsimp only at h
  split at h
  ·rename_i fn hfn
   split at h
   ·rename_i body hb
    obtain⟨hP,hname,hbody,hres⟩:=hF.fn hfn hb
    have fin:∀{args1:List AV} {s1:Sto} {g1:Gh},enter (iter E n) E f fn body (E.mode f) args1 none s1=some (.ret v,recd,s')→g1.ok=OkC E P→Rel W.heap.size W g1 s1 W→VRs g1 args1 args'→tops args1≤s1.n→
      ∃e w' fr,(∃g' s' v',e=.returned v'∧VR g' v v'∧Rel W.heap.size W g' s' w')∧Comes P (lone (Frame.enter P f args' .normal) cs W) (lone fr cs w') e∧fr.fn=f∧fr.leaving P w' e:=by
     intro args1 s1 g1 he hok1 hr1 ha1 hta1
     have hrec:RecR g1 s1.n .normal none cs:=by
      intro f0 hk;cases cs<;>simp[tryRecover,hk]
     obtain⟨g',w',u,tm',todo,cs',h1,h2,h3,h4,h5,h6⟩:=zG8 hE hs.1 hs.2 hbody hres he hok1 hr1 ha1 hta1 (.inl rfl) hrec rfl
     have hcs:cs'=cs:=by
      rcases h4 with⟨_,e⟩|⟨_,e,_⟩
      ·exact e
      ·cases e
     subst hcs
     obtain⟨e1,v',e2,e3,e4⟩:=h6
     subst e1
     refine⟨.returned v',w',{ Ab.mk f .normal none tm' [] todo with mode:=.returning },⟨g',s',v',rfl,e3,h3⟩,?_,rfl,⟨rfl,rfl,rfl,fn,hP,e2⟩⟩
     rw[zHM hP hb args' .normal]
     exact h5
    rw[cond_eq_ite] at h
    split at h
    ·exact fin h hok hr ha (by rw[hta];exact Nat.zero_le _)
    ·split at h
     ·rename_i args1 s1 hsl
      have ha':VRs g args args'.toList.toArray:=by simpa using ha
      obtain⟨g1,hsr,ha1,hta1⟩:=sealVs_sim hr hsl ha' (by rw[hta];exact Nat.zero_le _)
      have ha1:VRs g1 args1 args':=by simpa using ha1
      exact fin h (hsr.grows.ok.trans hok) hsr.rel ha1 (by have:=hsr.n;omega)
     ·cases h
   ·cases h
  ·cases h
end Go.Ab.X
namespace Go.Ab.X
open Go Go.Ab Go.Proofs Pl
open Go.ChangeShapes Go.WideShapes Go.ChangeAt Go.RowKit
open Go.Proofs.YtfjmlhpdcaeabaaGreatDoor (Rows.uptoBulk Rows.uptoBulkAll Rows.meanChecksSpec)
set_option maxRecDepth 100000
theorem VL.agg {g:Gh}{l:List AV}{v:Value}(h:VL g l v.cells.toList)(hn:l.length≠1):VR g (.agg l) v:=by
 have hl:=h.len
 cases v with
 | agg vs=>
  have:=h.vrs
  simp only[Value.cells,Array.toArray_toList] at this
  exact .agg l vs this.1 this.2
 | _=>exact absurd (by simpa[Value.cells] using hl) hn
def gh0 (W:World)(OK:FuncId→Code→Prop):Gh:=⟨fun _=>0,fun _=>0,fun _=>0,fun _=>0,fun b o=>W.cell? ⟨b,o,none⟩,OK,fun b o=>W.cell? ⟨b,o,none⟩,fun _=>none⟩
theorem rel0 (W:World)(OK:FuncId→Code→Prop):Rel W.heap.size W (gh0 W OK) .empty W:=
 ⟨rfl,fun k hk=>absurd hk (Nat.not_lt_zero _),fun k hk=>absurd hk (Nat.not_lt_zero _),fun j k hj=>absurd hj (Nat.not_lt_zero _),fun k hk=>absurd hk (Nat.not_lt_zero _),fun k hk=>absurd hk (Nat.not_lt_zero _),
  fun _ _ _ h=>h,⟨rfl,Nat.le_refl _⟩,fun _ _=>rfl,fun _ _ _=>rfl,fun b o hz=>(by cases hz),⟨rfl,rfl⟩⟩
theorem Rel.keptBut {W W':World}{g:Gh}{s:Sto}(h:Rel W.heap.size W g s W')(may:MemPlace→Prop):W.keptBut W' may:=by
 refine⟨h.os.1,h.os.2,fun i hi=>?_⟩
 rw[h.old i hi]
 split<;>simp_all
theorem Rel.sameAt {W W':World}{g:Gh}{s:Sto}(h:Rel W.heap.size W g s W'){p:MemPlace}(hp:p.block<W.heap.size):W.sameAt W' p:=by
 cases p with
 | cell b o=>exact World.cell?_of_block (w:=W) (h.old b hp)
 | map b=>exact h.old b hp
theorem params3:Tryz.f3.params.toList=[40,34,3]:=by kernel_rfl
theorem results3:Tryz.f3.resultTypes=#[4]:=by kernel_rfl
theorem laidOut:laidOutB Tryz.prog=true:=by kernel_rfl
theorem read40:Tryz.prog.readableRec 40=true:=by kernel_rfl
theorem read34:Tryz.prog.readableRec 34=true:=by kernel_rfl
theorem und4:Tryz.prog.underlying 4=some .bool:=zSD (okE1.1.ti 4 tyo4) tyd4
theorem und3:Tryz.prog.underlying 3=some (.int .i64):=zVN (okE1.1.ti 3 tyo3) tyd3
theorem rows40:40<Tryz.prog.types.size:=by decide +kernel
theorem rows34:34<Tryz.prog.types.size:=by decide +kernel
theorem contract {H:Type}(enc:TypeId×Value→H)(W:World)(base:Nat)(args:Array Value)(ds gs:List (DataW H))(before:List MemPlace)
  (hval:∀(j:Nat) t v,Tryz.f3.params[j]?=some t→args[j]?=some v→Value.okWide Tryz.prog W .any base t v)
  (hW:DataW.Whole enc Tryz.prog Tryz.f3.params.toList Rows.meanChecksSpec.vars false W args.toList ds gs before) (hb:Rows.uptoBulkAll (ds++gs)≤1048576) :
  Calls Tryz.prog 3 args W fun e W'=>∃v,e=.returned v∧Rows.meanChecksSpec.post enc Tryz.prog Tryz.f3 false true false false W args v W':=by
 have hW':=hW
 have hlt:=hW.lt
 obtain⟨p,q,hA0,hV,rfl,hfz,hnd⟩:=hW
 obtain⟨rfl,rfl⟩:=trodVars_none hV
 have hA:DataW.TrodAll enc Tryz.prog W 0 (fun _=>true) true [40,34,3] args.toList ds p:=by rw[← params3];exact hA0
 obtain⟨v0,v1,v2,d0,d1,d2,p0,p1,p2,rfl,rfl,rfl,h0,h1,h2⟩:=trodAll_three hA
 have hp3:Tryz.f3.params[2]?=some 3:=by rw[← Array.getElem?_toList,params3];rfl
 obtain⟨n,rfl,rfl,rfl,hwf⟩:=open_int und3 (hval 2 3 v2 hp3 rfl) h2
 simp only[List.append_nil,List.cons_append,List.nil_append,Rows.uptoBulkAll] at hb
 have hC:∀b o v,W.cell? ⟨b,o,none⟩=some v→(gh0 W (OkC E1 Tryz.prog)).C b o=some v:=fun _ _ _ h=>h
 obtain⟨f0,h0'⟩:=h0
 obtain⟨f1,h1'⟩:=h1
 obtain⟨sp,vl0,sz0⟩:=rd40 okE1.1 hC _ _ _ _ _ (Nat.le_refl _) h0'
 obtain⟨e,vl1,sz1⟩:=rd34 okE1.1 hC _ _ _ _ _ (Nat.le_refl _) h1'
 rw[zA9] at vl1
 have hv0:VR (gh0 W (OkC E1 Tryz.prog)) (zAX sp) v0:=VL.agg vl0 (by simp[zAE,zAO])
 have hv1:VR (gh0 W (OkC E1 Tryz.prog)) (encX e) v1:=by rw[zBX];exact VL.agg vl1 (by simp[zAO])
 have hargs:VRs (gh0 W (OkC E1 Tryz.prog)) [zAX sp,encX e,.int .i64 n] #[v0,v1,.int .i64 n]:=by
  have:VL (gh0 W (OkC E1 Tryz.prog)) [zAX sp,encX e,.int .i64 n] [v0,v1,.int .i64 n]:=⟨hv0,hv1,.int _ _,trivial⟩
  exact this.vrs
 have hmeet:C E1 3 [zAX sp,encX e,.int .i64 n] .empty fun cr _=>cr=.ret (.bool true):=c3 (by omega) rfl
 have htop:tops [zAX sp,encX e,.int .i64 n]=0:=by
  show Nat.max (top (zAX sp)) (Nat.max (top (encX e)) (Nat.max (top (.int .i64 n)) 0))=0
  rw[zSF,zVQ,zVP];rfl
 have hcall:=calls_of okE1.1 okE1.2 mixed hmeet (by rfl) (g:=gh0 W (OkC E1 Tryz.prog)) rfl (rel0 W _) hargs htop
 refine hcall.mono fun x W' ⟨g',s',v',he,hv,hr⟩=>?_
 subst he
 cases hv
 refine⟨_,rfl,[d0,d1,.lit (.int .i64 n)],[],_,[],p0++p1++[],[],hW',?_,?_,?_,Rel.keptBut hr _,fun h=>by cases h⟩
 ·rw[results3]
  exact trodAll_mk1 (shut_bool und4 true)
 ·rw[params3]
  have hs0:∀p∈p0,p.block<W.heap.size:=fun p hp=>hlt p (by simp[hp])
  have hs1:∀p∈p1,p.block<W.heap.size:=fun p hp=>hlt p (by simp[hp])
  have t0:DataW.Trod enc Tryz.prog W' 0 (fun b=>decide (b<W.heap.size)) true 40 v0 d0 p0:=Go.WideElems.Trod_stays laidOut read40 rows40 ⟨f0,h0'⟩ (fun p hp=>Rel.sameAt hr (hs0 p hp)) (fun p hp=>by simpa using hs0 p hp)
  have t1:DataW.Trod enc Tryz.prog W' 0 (fun b=>decide (b<W.heap.size)) true 34 v1 d1 p1:=Go.WideElems.Trod_stays laidOut read34 rows34 ⟨f1,h1'⟩ (fun p hp=>Rel.sameAt hr (hs1 p hp)) (fun p hp=>by simpa using hs1 p hp)
  rw[List.append_assoc]
  exact trodAll_mk3 t0 t1 (shut_int und3 hwf)
 ·rfl
end Go.Ab.X
end
