/- A part. -/
import Derived.Test.YtodldpffhfgicaaGreatDoorMz
import Derived.Test.YtodldpffhfgicaaGreatDoorZ1
import Derived.Calls
import Derived.ProofKit
import Derived.WideKeyArgs
import Derived.Deep.DeepHandedRow
import Derived.Deep.DeepWitnessRowRef
set_option linter.all false
noncomputable section
namespace Go.Ab.X
open Go Go.Ab Go.Proofs Pl
set_option maxRecDepth 100000
theorem okE1:TysOk E1 Tryz.prog∧FuncsOk E1 Tryz.prog (OkC E1 Tryz.prog):=by
 refine wi_ok (E:=E) (i:=intr1) ok.1 ok.2 ?_
 intro f args v hv base w0 g s w args' hok hr ha hta
 unfold intr1 at hv
 split at hv
 ·rename_i u hu
  cases hv
  exact ok.2.intr (show E.intr f args=some _ from hu) hok hr ha hta
 ·rw[cond_eq_ite] at hv
  split at hv
  ·rename_i hc
   cases hv
   simp only[Bool.and_eq_true] at hc
   obtain⟨h1,h2⟩:=hc
   have:=Nat.eq_of_beq_eq_true h1
   subst this
   cases args with
   | cons a r=>simp at h2
   | nil=>
    have hM:OkC M5 Tryz.prog=OkC E Tryz.prog:=by simp only[M5,M4,M3,M2,M1,M0,Env.memo,OkC_wi]
    exact zPM okM5.1 okM5.2 mixed m132 (hok.trans hM.symm) hr ha hta
  ·cases hv
theorem calls_of {P:Program}{E:Env}(hE:TysOk E P)(hF:FuncsOk E P (OkC E P))(hmix:P.follows .mixedOrders=true){f:FuncId}{args:List AV}{v:AV}(h:C E f args .empty fun cr _=>cr=.ret v)(hin:E.intr f args=none)(hns:insM E f args .empty none=none)
  {W:World} {g:Gh} {args':Array Value} (hok:g.ok=OkC E P) (hr:Rel W.heap.size W g .empty W) (ha:VRs g args args') (hta:tops args=0) :
  Calls P f args' W fun e w'=>∃g' s' v',e=.returned v'∧VR g' v v'∧Rel W.heap.size W g' s' w':=by
 unfold C at h
 obtain⟨n,cr,recd,s',h,rfl⟩:=h
 intro cs
 cases n with
 | zero=>simp[iter,Rec.bot] at h
 | succ n=>
  have hs:=sim hE hF hmix n
  have h:zHR (iter E n) E f args none .empty=some (.ret v,recd,s'):=h
  unfold zHR zJY at h
  rw[hin,hns] at h
  dsimp only at h
  split at h
  ·rename_i fn hfn
   split at h
   ·rename_i body hb
    obtain⟨hP,hname,hbody,hres⟩:=hF.fn hfn hb
    have fin:∀{args1:List AV} {s1:Sto} {g1:Gh},enter (iter E n) E f fn body (E.mode f) args1 none s1=some (.ret v,recd,s')→g1.ok=OkC E P→Rel W.heap.size W g1 s1 W→VRs g1 args1 args'→tops args1≤s1.n→
      ∃e w' fr,(∃g' s' v',e=.returned v'∧VR g' v v'∧Rel W.heap.size W g' s' w')∧Comes P (lone (Frame.enter P f args' .normal) cs W) (lone fr cs w') e∧fr.fn=f∧fr.leaving P w' e:=by
     intro args1 s1 g1 he hok1 hr1 ha1 hta1
     have hrec:RecR g1 s1.n .normal none cs:=by
      intro f0 hk;cases cs<;>simp[tryRecover,hk]
     obtain⟨g',w',u,tm',todo,cs',h1,h2,h3,h4,h5,h6⟩:=zHP hE hs.1 hs.2 hbody hres he hok1 hr1 ha1 hta1 (.inl rfl) hrec rfl
     have hcs:cs'=cs:=by
      rcases h4 with⟨_,e⟩|⟨_,e,_⟩
      ·exact e
      ·cases e
     subst hcs
     obtain⟨e1,v',e2,e3,e4⟩:=h6
     subst e1
     refine⟨.returned v',w',{ Ab.mk f .normal none tm' [] todo with mode:=.returning },⟨g',s',v',rfl,e3,h3⟩,?_,rfl,⟨rfl,rfl,rfl,fn,hP,e2⟩⟩
     rw[zH1 hP hb args' .normal]
     exact h5
    rw[cond_eq_ite] at h
    split at h
    ·exact fin h hok hr ha (by rw[hta];exact Nat.zero_le _)
    ·split at h
     ·rename_i args1 s1 hsl
      have ha':VRs g args args'.toList.toArray:=by simpa using ha
      obtain⟨g1,hsr,ha1,hta1⟩:=sealVs_sim hr hsl ha' (by rw[hta];exact Nat.zero_le _)
      have ha1:VRs g1 args1 args':=by simpa using ha1
      exact fin h (hsr.grows.ok.trans hok) hsr.rel ha1 (by have:=hsr.n;omega)
     ·cases h
   ·cases h
  ·cases h
end Go.Ab.X
namespace Go.Ab.X
open Go Go.Ab Go.Proofs Pl
open Go.ChangeShapes Go.WideShapes Go.ChangeAt Go.RowKit
open Go.Proofs.YtodldpffhfgicaaGreatDoor (Rows.uptoBulk Rows.uptoBulkAll)
set_option maxRecDepth 100000
theorem VL.agg {g:Gh}{l:List AV}{v:Value}(h:VL g l v.cells.toList)(hn:l.length≠1):VR g (.agg l) v:=by
 have hl:=h.len
 cases v with
 | agg vs=>
  have:=h.vrs
  simp only[Value.cells,Array.toArray_toList] at this
  exact .agg l vs this.1 this.2
 | _=>exact absurd (by simpa[Value.cells] using hl) hn
def gh0 (W:World)(OK:FuncId→Code→Prop):Gh:=⟨fun _=>0,fun _=>0,fun _=>0,fun _=>0,fun b o=>W.cell? ⟨b,o,none⟩,OK,fun b o=>W.cell? ⟨b,o,none⟩,fun _=>none⟩
theorem rel0 (W:World)(OK:FuncId→Code→Prop):Rel W.heap.size W (gh0 W OK) .empty W:=
 ⟨rfl,fun k hk=>absurd hk (Nat.not_lt_zero _),fun k hk=>absurd hk (Nat.not_lt_zero _),fun j k hj=>absurd hj (Nat.not_lt_zero _),fun k hk=>absurd hk (Nat.not_lt_zero _),fun k hk=>absurd hk (Nat.not_lt_zero _),
  fun _ _ _ h=>h,⟨rfl,Nat.le_refl _⟩,fun _ _=>rfl,fun _ _ _=>rfl,fun b o hz=>(by cases hz),⟨rfl,rfl⟩⟩
theorem Rel.keptBut {W W':World}{g:Gh}{s:Sto}(h:Rel W.heap.size W g s W')(may:MemPlace→Prop):W.keptBut W' may:=by
 refine⟨h.os.1,h.os.2,fun i hi=>?_⟩
 rw[h.old i hi]
 split<;>simp_all
theorem Rel.sameAt {W W':World}{g:Gh}{s:Sto}(h:Rel W.heap.size W g s W'){p:MemPlace}(hp:p.block<W.heap.size):W.sameAt W' p:=by
 cases p with
 | cell b o=>exact World.cell?_of_block (w:=W) (h.old b hp)
 | map b=>exact h.old b hp
theorem laidOut:laidOutB Tryz.prog=true:=by kernel_rfl
theorem read40:Tryz.prog.readableRec 40=true:=by kernel_rfl
theorem read43:Tryz.prog.readableRec 43=true:=by kernel_rfl
theorem read46:Tryz.prog.readableRec 46=true:=by kernel_rfl
theorem und4:Tryz.prog.underlying 4=some .bool:=zSR (okE1.1.ti 4 tyo4) tyd4
theorem und3:Tryz.prog.underlying 3=some (.int .i64):=zV1 (okE1.1.ti 3 tyo3) tyd3
theorem rows40:40<Tryz.prog.types.size:=by decide +kernel
theorem rows43:43<Tryz.prog.types.size:=by decide +kernel
theorem rows46:46<Tryz.prog.types.size:=by decide +kernel
theorem own:ownKnob Tryz.prog.godebug=none:=by kernel_rfl
def wL0:List Value:=[.slice none 0 0,.int .i64 0]
def wdL0 {H:Type}:DataW H:=.agg [.nil,.lit (.int .i64 0)]
def wX0:List Value:=[.int .i64 0,.int .i64 0,.slice none 0 0,.int .i64 0,.int .i64 0,.bool false,.slice none 0 0,.string ByteArray.empty,.slice none 0 0,.slice none 0 0,.slice none 0 0]
def wS0:List Value:=[.slice none 0 0,.slice none 0 0,.slice none 0 0,.slice none 0 0,.slice none 0 0]++wX0++wX0++[.slice none 0 0,.slice none 0 0,.slice none 0 0,.slice none 0 0,.slice none 0 0,.slice none 0 0,.slice none 0 0,.bool false]
def wT0:List Value:=[.int .i64 0]++wX0++wX0++[.slice none 0 0]
def wdX0 {H:Type}:DataW H:=.agg [.lit (.int .i64 0),.lit (.int .i64 0),.nil,.agg [.lit (.int .i64 0),.lit (.int .i64 0),.agg [.lit (.bool false),.nil],.lit (.string []),.nil,.nil],.nil]
def wdS0 {H:Type}:DataW H:=.agg [.nil,.nil,.nil,.nil,.nil,wdX0,wdX0,.nil,.nil,.nil,.nil,.nil,.nil,.nil,.lit (.bool false)]
def wdT0 {H:Type}:DataW H:=.agg [.lit (.int .i64 0),wdX0,wdX0,.nil]
theorem lasV {g:Gh}{a:Las}{v:Value}(h:VL g (cellsOf (zC8 a)) v.cells.toList):VR g (zC8 a) v:=VL.agg (l:=zC1 a) h (by simp[zC1])
theorem specV {g:Gh}{a:Pl.Spec}{v:Value}(h:VL g (cellsOf (zAN a)) v.cells.toList):VR g (zAN a) v:=VL.agg (l:=zAC a) h (by simp[zAC,zAL])
theorem tempV {g:Gh}{a:T}{v:Value}(h:VL g (cellsOf (encT a)) v.cells.toList):VR g (encT a) v:=by
 rw[zA4] at h
 rw[zIJ];exact VL.agg h (by simp[zCH,zAL])
end Go.Ab.X
end
