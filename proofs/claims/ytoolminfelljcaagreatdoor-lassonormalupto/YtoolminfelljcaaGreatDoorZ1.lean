/- A part. -/
import Derived.Test.YtoolminfelljcaaGreatDoorK7
import Derived.Test.YtoolminfelljcaaGreatDoorRows
import Derived.ChangeArms
import Derived.Deep.Slices
set_option linter.all false
noncomputable section
namespace Pl
def sumN {α:Type}(f:α→Nat):List α→Nat
 | []=>0
 | x :: r=>f x+sumN f r
theorem zR1 {α:Type}{f:α→Nat}:∀{l:List α} {x:α},x∈l→f x≤sumN f l
 | a :: r,x,h=>by
  simp only[sumN]
  rcases List.mem_cons.1 h with rfl|h
  ·omega
  ·have:=zR1 (f:=f) h;omega
theorem zR2 {α:Type}{f:α→Nat}(h:∀x,1≤f x):∀l:List α,l.length≤sumN f l
 | []=>Nat.le_refl _
 | a :: r=>by have:=zR2 h r;have:=h a;simp only[sumN,List.length_cons];omega
end Pl
namespace Go.Ab.X
open Go Go.Ab Pl
open Go.Proofs.YtoolminfelljcaaGreatDoor (Rows.uptoBulk Rows.uptoBulkAll)
def VL (g:Gh):List AV→List Value→Prop
 | [],[]=>True
 | x :: l,v :: vs=>VR g x v∧VL g l vs
 | _,_=>False
theorem VL.len {g:Gh}:∀{l:List AV} {vs:List Value},VL g l vs→l.length=vs.length
 | [],[],_=>rfl
 | _ :: _,_ :: _,h=>by simp only[List.length_cons,VL.len h.2]
theorem VL.get {g:Gh}:∀{l:List AV} {vs:List Value},VL g l vs→∀{i:Nat} {x:AV} {v:Value},l[i]?=some x→vs[i]?=some v→VR g x v
 | _ :: _,_ :: _,h,0,_,_,hx,hv=>by cases hx;cases hv;exact h.1
 | _ :: _,_ :: _,h,i+1,_,_,hx,hv=>VL.get h.2 (by simpa using hx) (by simpa using hv)
theorem VL.append {g:Gh}:∀{l:List AV} {vs:List Value},VL g l vs→∀{l2:List AV} {vs2:List Value},VL g l2 vs2→VL g (l++l2) (vs++vs2)
 | [],[],_,_,_,h2=>h2
 | _ :: _,_ :: _,h,_,_,h2=>⟨h.1,VL.append h.2 h2⟩
theorem VL.vrs {g:Gh}{l:List AV}{vs:List Value}(h:VL g l vs):VRs g l vs.toArray:=⟨by simpa using h.len,fun i x v hx hv=>h.get hx (by simpa using hv)⟩
theorem VL.step {g:Gh}{a b:List AV}{cs:List Value}{o k:Nat}(h:VL g a ((cs.drop o).take k))(h2:VL g b (cs.drop (o+k))):VL g (a++b) (cs.drop o):=by
 have:=h.append h2
 rwa [← List.drop_drop,List.take_append_drop] at this
theorem VL.done {g:Gh}{cs:List Value}{o:Nat}(h:cs.length=o):VL g [] (cs.drop o):=by
 rw[List.drop_eq_nil_of_le (by omega)];trivial
theorem build {α:Type}{p:Nat→α→Prop}:∀{n:Nat},(∀i,i<n→∃x,p i x)→∃l:List α,l.length=n∧∀(i:Nat) (x:α),l[i]?=some x→p i x
 | 0,_=>⟨[],rfl,fun i x h=>by simp at h⟩
 | n+1,h=>by
  obtain⟨l,h1,h2⟩:=build (n:=n) fun i hi=>h i (by omega)
  obtain⟨x,hx⟩:=h n (by omega)
  refine⟨l++[x],by simp[h1],fun i y hy=>?_⟩
  by_cases hi:i<n
  ·rw[List.getElem?_append_left (by omega)] at hy;exact h2 i y hy
  ·have:i=n:=by have:=(List.getElem?_eq_some_iff.1 hy).1;simp[h1] at this;omega
   subst this
   rw[List.getElem?_append_right (by omega),h1,Nat.sub_self] at hy
   cases hy;exact hx
theorem zS8 {H α:Type}{f:α→Nat}:∀{l:List α} {ds:List (DataW H)},l.length=ds.length→(∀(i:Nat) (x:α)(d:DataW H),l[i]?=some x→ds[i]?=some d→f x≤Rows.uptoBulk d)→sumN f l≤Rows.uptoBulkAll ds
 | [],[],_,_=>Nat.le_refl _
 | x :: l,d :: ds,hl,h=>by
  have h1:=h 0 x d rfl rfl
  have h2:=zS8 (f:=f) (l:=l) (ds:=ds) (by simpa using hl) fun i x d hx hd=>h (i+1) x d (by simpa using hx) (by simpa using hd)
  simp only[sumN,Rows.uptoBulkAll];omega
theorem zS9 {H:Type}{d:DataW H}:∀{l:List (DataW H)},d∈l→Rows.uptoBulk d≤Rows.uptoBulkAll l
 | a :: r,h=>by
  simp only[Rows.uptoBulkAll]
  rcases List.mem_cons.1 h with rfl|h
  ·omega
  ·have:=zS9 h;omega
section
variable {H:Type}{enc:TypeId×Value→H}{P:Program}{w:World}{g:Gh}
def Rd (enc:TypeId×Value→H)(P:Program)(w:World)(g:Gh)(t:TypeId){α:Type}(e:α→AV)(sz:α→Nat)(N:Nat):Prop:=
 ∀(fuel:Nat) (cs:List Value) (d:DataW H) (ps:List MemPlace),Rows.uptoBulk d≤N→DataW.trod enc P w 0 (fun _=>true) true fuel t cs=some (d,ps)→∃x:α,VL g (cellsOf (e x)) cs∧sz x+1≤Rows.uptoBulk d
theorem Rd.int {t:TypeId}(hu:P.underlying t=some (.int .i64))(N:Nat):Rd enc P w g t iv (fun _=>0) N:=by
 intro fuel cs d ps hN h
 obtain⟨n,rfl,e,_⟩:=DataW.trod_int hu h
 cases e
 exact⟨n,⟨.int _ _,trivial⟩,by simp[Rows.uptoBulk]⟩
theorem Rd.bool {t:TypeId}(hu:P.underlying t=some .bool)(N:Nat):Rd enc P w g t AV.bool (fun _=>0) N:=by
 intro fuel cs d ps hN h
 obtain⟨n,rfl,e⟩:=DataW.trod_bool hu h
 cases e
 exact⟨n,⟨.bool _,trivial⟩,by simp[Rows.uptoBulk]⟩
theorem Rd.str {t:TypeId}(hu:P.underlying t=some .string)(N:Nat):Rd enc P w g t AV.str List.length N:=by
 intro fuel cs d ps hN h
 obtain⟨n,rfl,e,_⟩:=DataW.trod_string hu h
 cases e
 exact⟨n.data.toList,⟨.str _,trivial⟩,by simp[Rows.uptoBulk]⟩
theorem Rd.slice {t e:TypeId}{α:Type}{en:α→AV}{sz:α→Nat}{k N:Nat}(hu:P.underlying t=some (.slice e))(hk:P.cellsOf e=k)(hk0:0<k)(hlen:∀x,(cellsOf (en x)).length=k)(htop:∀x,top (en x)=0)
  (hC:∀b o v,w.cell? ⟨b,o,none⟩=some v→g.C b o=some v) (h:Rd enc P w g e en sz N):Rd enc P w g t (fun l:List α=>.sl 0 (l.map en) .shut) (fun l=>sumN (fun x=>1+sz x) l) (N+1):=by
 intro fuel cs d ps hN hr
 rcases Deep.open_slice hu hr with⟨rfl,e1⟩|⟨a,len,cap,m,n,D,Pl,rfl,_,hlc,_,hm,e1,hel⟩
 ·cases e1
  exact⟨[],⟨.slnil _ _,trivial⟩,by simp[Rows.uptoBulk,sumN]⟩
 ·cases e1
  rw[hk] at hel
  rw[if_pos rfl] at hm
  subst hm
  simp only[Rows.uptoBulk] at hN
  have hmem:∀i,i<len→Rows.uptoBulk (D i)≤N:=fun i hi=>by
   have:=zS9 (d:=D i) (l:=(List.range len).map D) (List.mem_map.2 ⟨i,List.mem_range.2 hi,rfl⟩)
   omega
  have hx:∀i,i<len→∃x:α,(∃cs',w.cells? 0 (a.add (i*k)) k=some cs'∧VL g (cellsOf (en x)) cs')∧sz x+1≤Rows.uptoBulk (D i):=fun i hi=>by
   obtain⟨cs',h1,h2⟩:=hel i (by omega)
   obtain⟨x,h3,h4⟩:=h _ _ _ _ (hmem i hi) h2
   exact⟨x,⟨cs',h1,h3⟩,h4⟩
  obtain⟨l,hl,hp⟩:=build hx
  refine⟨l,⟨?_,trivial⟩,?_⟩
  ·by_cases hc:m=0
   ·subst hc
    have:len=0:=by omega
    subst this
    cases l with
    | cons=>simp at hl
    | nil=>exact .slany _ _ _ (by simp)
   ·obtain⟨b,off,sp⟩:=a
    obtain⟨cs',h1,_⟩:=hel 0 (by omega)
    obtain⟨_,h2,h3⟩:=World.cells?_some h1
    have h4:=h3 0 hk0
    have h5:(Addr.add (Addr.add ⟨b,off,sp⟩ (0*k)) 0)=⟨b,off,sp⟩:=by simp[Addr.add]
    rw[h5,List.getElem?_eq_getElem (by omega)] at h4
    have hsp:sp=none:=by
     cases sp with
     | none=>rfl
     | some x=>simp only[World.cell?] at h4;split at h4<;>simp at h4
    subst hsp
    have key:∀(i:Nat) (x:AV) (j:Nat) (c:AV),(l.map en)[i]?=some x→(cellsOf x)[j]?=some c→∃v,w.cell? ⟨b,off+i*k+j,none⟩=some v∧VR g c v:=by
     intro i x j c hi hj
     rw[List.getElem?_map] at hi
     cases hli:l[i]? with
     | none=>rw[hli] at hi;cases hi
     | some y=>
      rw[hli] at hi
      cases hi
      obtain⟨⟨cs',q1,q2⟩,_⟩:=hp i y hli
      obtain⟨_,q3,q4⟩:=World.cells?_some q1
      have hjl:=(List.getElem?_eq_some_iff.1 hj).1
      rw[hlen] at hjl
      have q5:=q4 j hjl
      rw[zDI,zDI,List.getElem?_eq_getElem (by omega)] at q5
      exact⟨_,q5,q2.get hj (List.getElem?_eq_getElem (by omega))⟩
    have hll:(l.map en).length=len:=by rw[List.length_map,hl]
    rw[← hll]
    refine VR.sl 0 (l.map en) .shut b off m k (fun i j=>(w.cell? ⟨b,off+i*k+j,none⟩).getD .nilFunc) (fun i x hi=>?_) (fun i x j c hi hj=>?_) (fun i x j c hi hj=>?_) (by rw[zHS htop];exact Nat.le_refl _) (by omega) (fun h=>absurd rfl h) (by simp)
    ·rw[List.getElem?_map] at hi
     cases hli:l[i]? with
     | none=>rw[hli] at hi;cases hi
     | some y=>rw[hli] at hi;cases hi;exact hlen y
    ·obtain⟨v,h1,_⟩:=key i x j c hi hj
     rw[hC _ _ _ h1,h1];rfl
    ·obtain⟨v,h1,h2⟩:=key i x j c hi hj
     rw[h1];exact h2
  ·have:=zS8 (f:=fun x=>1+sz x) (l:=l) (ds:=(List.range len).map D) (by simpa using hl) (fun i x d hx hd=>by
    obtain⟨_,h2⟩:=hp i x hx
    rw[List.getElem?_map] at hd
    have hi:i<len:=by have:=(List.getElem?_eq_some_iff.1 hx).1;omega
    rw[List.getElem?_range hi] at hd
    cases hd
    omega)
   simp only[Rows.uptoBulk];omega
end
end Go.Ab.X
namespace Go.Ab.X
open Go Go.Ab Go.Proofs Pl
open Go.Proofs.YtoolminfelljcaaGreatDoor (Rows.uptoBulk Rows.uptoBulkAll)
section
variable {H:Type}{enc:TypeId×Value→H}{P:Program}{w:World}{g:Gh}{E:Env}
theorem Rd.mono {t:TypeId}{α:Type}{e:α→AV}{sz:α→Nat}{N M:Nat}(h:Rd enc P w g t e sz M)(hle:N≤M):Rd enc P w g t e sz N:=
 fun fuel cs d ps hN hr=>h fuel cs d ps (Nat.le_trans hN hle) hr
theorem Rd.szle {t:TypeId}{α:Type}{e:α→AV}{sz sz':α→Nat}{N:Nat}(h:Rd enc P w g t e sz N)(hle:∀x,sz' x≤sz x):Rd enc P w g t e sz' N:=
 fun fuel cs d ps hN hr=>by obtain⟨x,h1,h2⟩:=h fuel cs d ps hN hr;exact⟨x,h1,by have:=hle x;omega⟩
theorem zF1 {t e:TypeId}(hT:TIR E P t (E.types t))(hd:(E.types t).d=.slice e):P.underlying t=some (.slice e):=by
 obtain⟨d,h1,h2,_⟩:=hT.und
 rw[hd] at h2
 rw[h1]
 cases d<;>simp only[TDR] at h2
 subst h2;rfl
theorem zPY {t:TypeId}{k:IntKind}(hT:TIR E P t (E.types t))(hd:(E.types t).d=.int k):P.underlying t=some (.int k):=by
 obtain⟨d,h1,h2,_⟩:=hT.und
 rw[hd] at h2
 rw[h1]
 cases d<;>simp only[TDR] at h2
 subst h2;rfl
theorem zRX {t:TypeId}(hT:TIR E P t (E.types t))(hd:(E.types t).d=.bool):P.underlying t=some .bool:=by
 obtain⟨d,h1,h2,_⟩:=hT.und
 rw[hd] at h2
 rw[h1]
 cases d<;>simp only[TDR] at h2
 rfl
theorem und_str {t:TypeId}(hT:TIR E P t (E.types t))(hd:(E.types t).d=.str):P.underlying t=some .string:=by
 obtain⟨d,h1,h2,_⟩:=hT.und
 rw[hd] at h2
 rw[h1]
 cases d<;>simp only[TDR] at h2
 rfl
theorem zTF {t:TypeId}{fl:List (Nat×TypeId)}(hT:TIR E P t (E.types t))(hd:(E.types t).d=.struct fl):∃fs,P.underlying t=some (.struct fs)∧zDQ fs=fl:=by
 obtain⟨d,h1,h2,_⟩:=hT.und
 rw[hd] at h2
 cases d<;>simp only[TDR] at h2
 exact⟨_,h1,h2.symm⟩
theorem zCT {t:TypeId}(hT:TIR E P t (E.types t)):P.cellsOf t=(E.types t).size:=by
 obtain⟨i,z,h1,h2,_⟩:=hT.info
 simp[Program.cellsOf,h1,h2]
theorem zDS {t:TypeId}{fl:List (Nat×TypeId)}{fuel:Nat}{cs:List Value}{d:DataW H}{ps:List MemPlace}(hT:TIR E P t (E.types t))(hd:(E.types t).d=.struct fl)
  (h:DataW.trod enc P w 0 (fun _=>true) true fuel t cs=some (d,ps)):∃ds:List (DataW H),d=.agg ds∧ds.length=fl.length∧cs.length=(E.types t).size∧
   ∀(i o:Nat) (t':TypeId) (di:DataW H),fl[i]?=some (o,t')→ds[i]?=some di→∃n ps',DataW.trod enc P w 0 (fun _=>true) true n t' ((cs.drop o).take (P.cellsOf t'))=some (di,ps'):=by
 obtain⟨fs,hu,hf⟩:=zTF hT hd
 obtain⟨xs,n,_,e,hl,hlen,hp⟩:=DataW.trod_struct hu h
 cases e
 refine⟨xs.map (·.1),rfl,by rw[← hf];simp[zDQ,hlen],by rw[hl,zCT hT],fun i o t' di hi hdi=>?_⟩
 rw[← hf] at hi
 simp only[zDQ,List.getElem?_map,Array.getElem?_toList] at hi
 cases hfi:fs[i]? with
 | none=>rw[hfi] at hi;cases hi
 | some f=>
  rw[hfi] at hi
  cases hi
  have hx:=hp i f hfi
  rw[List.getElem?_map] at hdi
  cases hxi:xs[i]? with
  | none=>rw[hxi] at hdi;cases hdi
  | some x=>
   rw[hxi] at hdi hx
   cases hdi
   exact⟨n,x.2,hx⟩
end
theorem szVs_sumN:∀l:List V,szVs l=sumN (fun x=>1+szV x) l
 | []=>rfl
 | a :: r=>by simp only[szVs,szVs_sumN r,sumN]
theorem zMS {α:Type}:∀l:List α,sumN (fun _=>1+0) l=l.length
 | []=>rfl
 | a :: r=>by simp only[sumN,zMS r,List.length_cons];omega
theorem wf64 {n:Int}(h:(Lit.int .i64 n).wf=true):-9223372036854775808≤n∧n<9223372036854775808:=by
 simp only[Lit.wf,Bool.and_eq_true,decide_eq_true_eq] at h
 have h1:IntKind.i64.min=-9223372036854775808:=by decide
 have h2:IntKind.i64.max=9223372036854775807:=by decide
 omega
section
variable {H:Type}{enc:TypeId×Value→H}{P:Program}{w:World}{g:Gh}(hE:TysOk E1 P)(hC:∀b o v,w.cell? ⟨b,o,none⟩=some v→g.C b o=some v)
include hE
theorem rd3 (N:Nat):Rd enc P w g 3 iv (fun _=>0) N:=Rd.int (zPY (hE.ti 3 tyo3) tyd3) N
theorem rd3b (N:Nat):Rd enc P w g 3 (fun n:{n:Int // -9223372036854775808≤n∧n<9223372036854775808}=>iv n.1) (fun _=>0) N:=by
 intro fuel cs d ps hN h
 obtain⟨n,rfl,e,hw⟩:=DataW.trod_int (zPY (hE.ti 3 tyo3) tyd3) h
 cases e
 exact⟨⟨n,wf64 hw⟩,⟨.int _ _,trivial⟩,by simp[Rows.uptoBulk]⟩
theorem rd4 (N:Nat):Rd enc P w g 4 AV.bool (fun _=>0) N:=Rd.bool (zRX (hE.ti 4 tyo4) tyd4) N
theorem rd9 (N:Nat):Rd enc P w g 9 AV.str List.length N:=Rd.str (und_str (hE.ti 9 tyo9) tyd9) N
theorem co3:P.cellsOf 3=(E1.types 3).size:=zCT (hE.ti 3 tyo3)
theorem co4:P.cellsOf 4=(E1.types 4).size:=zCT (hE.ti 4 tyo4)
theorem co9:P.cellsOf 9=(E1.types 9).size:=zCT (hE.ti 9 tyo9)
theorem co22:P.cellsOf 22=(E1.types 22).size:=zCT (hE.ti 22 tyo22)
theorem co24:P.cellsOf 24=(E1.types 24).size:=zCT (hE.ti 24 tyo24)
theorem co32:P.cellsOf 32=(E1.types 32).size:=zCT (hE.ti 32 tyo32)
theorem co34:P.cellsOf 34=(E1.types 34).size:=zCT (hE.ti 34 tyo34)
theorem co35:P.cellsOf 35=(E1.types 35).size:=zCT (hE.ti 35 tyo35)
theorem co37:P.cellsOf 37=(E1.types 37).size:=zCT (hE.ti 37 tyo37)
theorem co55:P.cellsOf 55=(E1.types 55).size:=zCT (hE.ti 55 tyo55)
theorem co96:P.cellsOf 96=(E1.types 96).size:=zCT (hE.ti 96 tyo96)
include hC
theorem rd32 (N:Nat):Rd enc P w g 32 (fun l=>.sl 0 (l.map iv) .shut) List.length (N+1):=
 (Rd.slice (zF1 (hE.ti 32 tyo32) tyd32) ((co3 hE).trans tys3) (by decide) (fun x=>rfl) (fun x=>rfl) hC (rd3 hE N)).szle (fun l=>Nat.le_of_eq (zMS l).symm)
theorem rd34 (N:Nat):Rd enc P w g 34 (fun p:Bool×List Int=>.agg [.bool p.1,.sl 0 (p.2.map iv) .shut]) (fun p=>p.2.length) N:=by
 intro fuel cs d ps hN h
 obtain⟨ds,rfl,hl,hc,hp⟩:=zDS (hE.ti 34 tyo34) tyd34 h
 rw[tys34] at hc
 match ds,hl with
 | [d0,d1],_=>
  simp only[Rows.uptoBulk,Rows.uptoBulkAll] at hN
  obtain⟨_,_,h0⟩:=hp 0 0 4 d0 rfl rfl
  rw[co4 hE,tys4] at h0
  obtain⟨x0,v0,b0⟩:=rd4 hE N _ _ _ _ (by omega) h0
  obtain⟨_,_,h1⟩:=hp 1 1 32 d1 rfl rfl
  rw[co32 hE,tys32] at h1
  obtain⟨x1,v1,b1⟩:=rd32 hE hC N _ _ _ _ (by omega) h1
  have hv:=v0.step (v1.step (VL.done hc))
  refine⟨(x0,x1),?_,?_⟩
  ·simp only[zDF,List.append_nil] at hv
   try simp only[zDF]
   exact hv
  ·try dsimp only at b0 b1
   simp only[Rows.uptoBulk,Rows.uptoBulkAll];omega
theorem rd35 (N:Nat)(ih:Rd enc P w g 37 encV szV N):Rd enc P w g 35 (fun l=>.sl 0 (l.map encV) .shut) szVs (N+1):=
 (Rd.slice (zF1 (hE.ti 35 tyo35) tyd35) ((co37 hE).trans tys37) (by decide) (fun x=>(zDF x).symm ▸ rfl) (fun x=>top_V x) hC (ih)).szle (fun l=>Nat.le_of_eq (szVs_sumN l))
theorem rd37 (N:Nat):Rd enc P w g 37 encV szV N:=by
 induction N with
 | zero=>intro fuel cs d ps hN h;obtain⟨ds,rfl,_⟩:=zDS (hE.ti 37 tyo37) tyd37 h;simp[Rows.uptoBulk] at hN
 | succ N ih=>
  intro fuel cs d ps hN h
  obtain⟨ds,rfl,hl,hc,hp⟩:=zDS (hE.ti 37 tyo37) tyd37 h
  rw[tys37] at hc
  match ds,hl with
  | [d0,d1,d2,d3,d4,d5],_=>
   simp only[Rows.uptoBulk,Rows.uptoBulkAll] at hN
   obtain⟨_,_,h0⟩:=hp 0 0 3 d0 rfl rfl
   rw[co3 hE,tys3] at h0
   obtain⟨x0,v0,b0⟩:=rd3 hE N _ _ _ _ (by omega) h0
   obtain⟨_,_,h1⟩:=hp 1 1 3 d1 rfl rfl
   rw[co3 hE,tys3] at h1
   obtain⟨x1,v1,b1⟩:=rd3 hE N _ _ _ _ (by omega) h1
   obtain⟨_,_,h2⟩:=hp 2 2 34 d2 rfl rfl
   rw[co34 hE,tys34] at h2
   obtain⟨x2,v2,b2⟩:=rd34 hE hC N _ _ _ _ (by omega) h2
   obtain⟨_,_,h3⟩:=hp 3 4 9 d3 rfl rfl
   rw[co9 hE,tys9] at h3
   obtain⟨x3,v3,b3⟩:=rd9 hE N _ _ _ _ (by omega) h3
   obtain⟨_,_,h4⟩:=hp 4 5 35 d4 rfl rfl
   rw[co35 hE,tys35] at h4
   obtain⟨x4,v4,b4⟩:=rd35 hE hC N ih _ _ _ _ (by omega) h4
   obtain⟨_,_,h5⟩:=hp 5 6 35 d5 rfl rfl
   rw[co35 hE,tys35] at h5
   obtain⟨x5,v5,b5⟩:=rd35 hE hC N ih _ _ _ _ (by omega) h5
   have hv:=v0.step (v1.step (v2.step (v3.step (v4.step (v5.step (VL.done hc))))))
   refine⟨.mk x0 x1 x2.1 x2.2 x3 x4 x5,?_,?_⟩
   ·simp only[zDF,List.append_nil] at hv
    try simp only[zDF]
    exact hv
   ·try dsimp only at b0 b1 b2 b3 b4 b5
    simp only[Rows.uptoBulk,Rows.uptoBulkAll,szV];omega
theorem rd22 (N:Nat):Rd enc P w g 22 (fun l=>.sl 0 (l.map zAD) .shut) (sumN fun x=>1+szVs x) (N+2):=
 (Rd.slice (zF1 (hE.ti 22 tyo22) tyd22) ((co35 hE).trans tys35) (by decide) (fun x=>rfl) (fun x=>rfl) hC (rd35 hE hC N (rd37 hE hC N))).szle (fun l=>Nat.le_refl _)
theorem rd24 (N:Nat):Rd enc P w g 24 zAK (fun a=>sumN (fun x=>1+szVs x) a.st) N:=by
 intro fuel cs d ps hN h
 obtain⟨ds,rfl,hl,hc,hp⟩:=zDS (hE.ti 24 tyo24) tyd24 h
 rw[tys24] at hc
 match ds,hl with
 | [d0,d1],_=>
  simp only[Rows.uptoBulk,Rows.uptoBulkAll] at hN
  obtain⟨_,_,h0⟩:=hp 0 0 22 d0 rfl rfl
  rw[co22 hE,tys22] at h0
  obtain⟨x0,v0,b0⟩:=rd22 hE hC N _ _ _ _ (by omega) h0
  obtain⟨_,_,h1⟩:=hp 1 1 3 d1 rfl rfl
  rw[co3 hE,tys3] at h1
  obtain⟨x1,v1,b1⟩:=rd3 hE N _ _ _ _ (by omega) h1
  have hv:=v0.step (v1.step (VL.done hc))
  refine⟨⟨x0,x1⟩,?_,?_⟩
  ·simp only[zDF,List.append_nil] at hv
   try simp only[zDF]
   exact hv
  ·try dsimp only at b0 b1
   simp only[Rows.uptoBulk,Rows.uptoBulkAll];omega
theorem rd96 (N:Nat):Rd enc P w g 96 (fun x:Int×Int×{n:Int // -9223372036854775808≤n∧n<9223372036854775808}=>zCL (x.1,x.2.1,x.2.2.1)) (fun _=>0) N:=by
 intro fuel cs d ps hN h
 obtain⟨ds,rfl,hl,hc,hp⟩:=zDS (hE.ti 96 tyo96) tyd96 h
 rw[tys96] at hc
 match ds,hl with
 | [d0,d1,d2],_=>
  simp only[Rows.uptoBulk,Rows.uptoBulkAll] at hN
  obtain⟨_,_,h0⟩:=hp 0 0 3 d0 rfl rfl
  rw[co3 hE,tys3] at h0
  obtain⟨x0,v0,b0⟩:=rd3 (g:=g) hE N _ _ _ _ (by omega) h0
  obtain⟨_,_,h1⟩:=hp 1 1 3 d1 rfl rfl
  rw[co3 hE,tys3] at h1
  obtain⟨x1,v1,b1⟩:=rd3 (g:=g) hE N _ _ _ _ (by omega) h1
  obtain⟨_,_,h2⟩:=hp 2 2 3 d2 rfl rfl
  rw[co3 hE,tys3] at h2
  obtain⟨x2,v2,b2⟩:=rd3b (g:=g) hE N _ _ _ _ (by omega) h2
  have hv:=v0.step (v1.step (v2.step (VL.done hc)))
  refine⟨(x0,x1,x2),?_,?_⟩
  ·simp only[zDF,List.append_nil] at hv
   try simp only[zDF]
   exact hv
  ·try dsimp only at b0 b1 b2
   simp only[Rows.uptoBulk,Rows.uptoBulkAll];omega
theorem rd55 (N:Nat):Rd enc P w g 55 (fun l:List (Int×Int×{n:Int // -9223372036854775808≤n∧n<9223372036854775808})=>.sl 0 (l.map (fun x=>zCL (x.1,x.2.1,x.2.2.1))) .shut) List.length (N+1):=
 (Rd.slice (zF1 (hE.ti 55 tyo55) tyd55) ((co96 hE).trans tys96) (by decide) (fun x=>rfl) (fun x=>rfl) hC (rd96 hE hC N)).szle (fun l=>Nat.le_of_eq (zMS l).symm)
end
end Go.Ab.X
end
