/- A part. -/
import Derived.Test.YtodldpffhfgicaaGreatDoorK9
import Derived.Test.YtodldpffhfgicaaGreatDoorRows
import Derived.ChangeArms
import Derived.Deep.Slices
set_option linter.all false
noncomputable section
namespace Go.Ab.X
open Go Go.Ab Pl
open Go.Proofs.YtodldpffhfgicaaGreatDoor (Rows.uptoBulk Rows.uptoBulkAll)
def VL (g:Gh):List AV→List Value→Prop
 | [],[]=>True
 | x :: l,v :: vs=>VR g x v∧VL g l vs
 | _,_=>False
theorem VL.len {g:Gh}:∀{l:List AV} {vs:List Value},VL g l vs→l.length=vs.length
 | [],[],_=>rfl
 | _ :: _,_ :: _,h=>by simp only[List.length_cons,VL.len h.2]
theorem VL.get {g:Gh}:∀{l:List AV} {vs:List Value},VL g l vs→∀{i:Nat} {x:AV} {v:Value},l[i]?=some x→vs[i]?=some v→VR g x v
 | _ :: _,_ :: _,h,0,_,_,hx,hv=>by cases hx;cases hv;exact h.1
 | _ :: _,_ :: _,h,i+1,_,_,hx,hv=>VL.get h.2 (by simpa using hx) (by simpa using hv)
theorem VL.append {g:Gh}:∀{l:List AV} {vs:List Value},VL g l vs→∀{l2:List AV} {vs2:List Value},VL g l2 vs2→VL g (l++l2) (vs++vs2)
 | [],[],_,_,_,h2=>h2
 | _ :: _,_ :: _,h,_,_,h2=>⟨h.1,VL.append h.2 h2⟩
theorem VL.vrs {g:Gh}{l:List AV}{vs:List Value}(h:VL g l vs):VRs g l vs.toArray:=⟨by simpa using h.len,fun i x v hx hv=>h.get hx (by simpa using hv)⟩
theorem VL.step {g:Gh}{a b:List AV}{cs:List Value}{o k:Nat}(h:VL g a ((cs.drop o).take k))(h2:VL g b (cs.drop (o+k))):VL g (a++b) (cs.drop o):=by
 have:=h.append h2
 rwa [← List.drop_drop,List.take_append_drop] at this
theorem VL.done {g:Gh}{cs:List Value}{o:Nat}(h:cs.length=o):VL g [] (cs.drop o):=by
 rw[List.drop_eq_nil_of_le (by omega)];trivial
theorem build {α:Type}{p:Nat→α→Prop}:∀{n:Nat},(∀i,i<n→∃x,p i x)→∃l:List α,l.length=n∧∀(i:Nat) (x:α),l[i]?=some x→p i x
 | 0,_=>⟨[],rfl,fun i x h=>by simp at h⟩
 | n+1,h=>by
  obtain⟨l,h1,h2⟩:=build (n:=n) fun i hi=>h i (by omega)
  obtain⟨x,hx⟩:=h n (by omega)
  refine⟨l++[x],by simp[h1],fun i y hy=>?_⟩
  by_cases hi:i<n
  ·rw[List.getElem?_append_left (by omega)] at hy;exact h2 i y hy
  ·have:i=n:=by have:=(List.getElem?_eq_some_iff.1 hy).1;simp[h1] at this;omega
   subst this
   rw[List.getElem?_append_right (by omega),h1,Nat.sub_self] at hy
   cases hy;exact hx
theorem zTP {H α:Type}{f:α→Nat}:∀{l:List α} {ds:List (DataW H)},l.length=ds.length→(∀(i:Nat) (x:α)(d:DataW H),l[i]?=some x→ds[i]?=some d→f x≤Rows.uptoBulk d)→sumN f l≤Rows.uptoBulkAll ds
 | [],[],_,_=>Nat.le_refl _
 | x :: l,d :: ds,hl,h=>by
  have h1:=h 0 x d rfl rfl
  have h2:=zTP (f:=f) (l:=l) (ds:=ds) (by simpa using hl) fun i x d hx hd=>h (i+1) x d (by simpa using hx) (by simpa using hd)
  simp only[sumN,Rows.uptoBulkAll];omega
theorem zTQ {H:Type}{d:DataW H}:∀{l:List (DataW H)},d∈l→Rows.uptoBulk d≤Rows.uptoBulkAll l
 | a :: r,h=>by
  simp only[Rows.uptoBulkAll]
  rcases List.mem_cons.1 h with rfl|h
  ·omega
  ·have:=zTQ h;omega
section
variable {H:Type}{enc:TypeId×Value→H}{P:Program}{w:World}{g:Gh}
def Rd (enc:TypeId×Value→H)(P:Program)(w:World)(g:Gh)(t:TypeId){α:Type}(e:α→AV)(sz:α→Nat)(N:Nat):Prop:=
 ∀(fuel:Nat) (cs:List Value) (d:DataW H) (ps:List MemPlace),Rows.uptoBulk d≤N→DataW.trod enc P w 0 (fun _=>true) true fuel t cs=some (d,ps)→∃x:α,VL g (cellsOf (e x)) cs∧sz x+1≤Rows.uptoBulk d
theorem Rd.int {t:TypeId}(hu:P.underlying t=some (.int .i64))(N:Nat):Rd enc P w g t iv (fun _=>0) N:=by
 intro fuel cs d ps hN h
 obtain⟨n,rfl,e,_⟩:=DataW.trod_int hu h
 cases e
 exact⟨n,⟨.int _ _,trivial⟩,by simp[Rows.uptoBulk]⟩
theorem Rd.bool {t:TypeId}(hu:P.underlying t=some .bool)(N:Nat):Rd enc P w g t AV.bool (fun _=>0) N:=by
 intro fuel cs d ps hN h
 obtain⟨n,rfl,e⟩:=DataW.trod_bool hu h
 cases e
 exact⟨n,⟨.bool _,trivial⟩,by simp[Rows.uptoBulk]⟩
theorem Rd.str {t:TypeId}(hu:P.underlying t=some .string)(N:Nat):Rd enc P w g t AV.str List.length N:=by
 intro fuel cs d ps hN h
 obtain⟨n,rfl,e,_⟩:=DataW.trod_string hu h
 cases e
 exact⟨n.data.toList,⟨.str _,trivial⟩,by simp[Rows.uptoBulk]⟩
theorem Rd.slice {t e:TypeId}{α:Type}{en:α→AV}{sz:α→Nat}{k N:Nat}(hu:P.underlying t=some (.slice e))(hk:P.cellsOf e=k)(hk0:0<k)(hlen:∀x,(cellsOf (en x)).length=k)(htop:∀x,top (en x)=0)
  (hC:∀b o v,w.cell? ⟨b,o,none⟩=some v→g.C b o=some v) (h:Rd enc P w g e en sz N):Rd enc P w g t (fun l:List α=>.sl 0 (l.map en) .shut) (fun l=>sumN (fun x=>1+sz x) l) (N+1):=by
 intro fuel cs d ps hN hr
 rcases Deep.open_slice hu hr with⟨rfl,e1⟩|⟨a,len,cap,m,n,D,Pl,rfl,_,hlc,_,hm,e1,hel⟩
 ·cases e1
  exact⟨[],⟨.slnil _ _,trivial⟩,by simp[Rows.uptoBulk,sumN]⟩
 ·cases e1
  rw[hk] at hel
  rw[if_pos rfl] at hm
  subst hm
  simp only[Rows.uptoBulk] at hN
  have hmem:∀i,i<len→Rows.uptoBulk (D i)≤N:=fun i hi=>by
   have:=zTQ (d:=D i) (l:=(List.range len).map D) (List.mem_map.2 ⟨i,List.mem_range.2 hi,rfl⟩)
   omega
  have hx:∀i,i<len→∃x:α,(∃cs',w.cells? 0 (a.add (i*k)) k=some cs'∧VL g (cellsOf (en x)) cs')∧sz x+1≤Rows.uptoBulk (D i):=fun i hi=>by
   obtain⟨cs',h1,h2⟩:=hel i (by omega)
   obtain⟨x,h3,h4⟩:=h _ _ _ _ (hmem i hi) h2
   exact⟨x,⟨cs',h1,h3⟩,h4⟩
  obtain⟨l,hl,hp⟩:=build hx
  refine⟨l,⟨?_,trivial⟩,?_⟩
  ·by_cases hc:m=0
   ·subst hc
    have:len=0:=by omega
    subst this
    cases l with
    | cons=>simp at hl
    | nil=>exact .slany _ _ _ (by simp)
   ·obtain⟨b,off,sp⟩:=a
    obtain⟨cs',h1,_⟩:=hel 0 (by omega)
    obtain⟨_,h2,h3⟩:=World.cells?_some h1
    have h4:=h3 0 hk0
    have h5:(Addr.add (Addr.add ⟨b,off,sp⟩ (0*k)) 0)=⟨b,off,sp⟩:=by simp[Addr.add]
    rw[h5,List.getElem?_eq_getElem (by omega)] at h4
    have hsp:sp=none:=by
     cases sp with
     | none=>rfl
     | some x=>simp only[World.cell?] at h4;split at h4<;>simp at h4
    subst hsp
    have key:∀(i:Nat) (x:AV) (j:Nat) (c:AV),(l.map en)[i]?=some x→(cellsOf x)[j]?=some c→∃v,w.cell? ⟨b,off+i*k+j,none⟩=some v∧VR g c v:=by
     intro i x j c hi hj
     rw[List.getElem?_map] at hi
     cases hli:l[i]? with
     | none=>rw[hli] at hi;cases hi
     | some y=>
      rw[hli] at hi
      cases hi
      obtain⟨⟨cs',q1,q2⟩,_⟩:=hp i y hli
      obtain⟨_,q3,q4⟩:=World.cells?_some q1
      have hjl:=(List.getElem?_eq_some_iff.1 hj).1
      rw[hlen] at hjl
      have q5:=q4 j hjl
      rw[zD3,zD3,List.getElem?_eq_getElem (by omega)] at q5
      exact⟨_,q5,q2.get hj (List.getElem?_eq_getElem (by omega))⟩
    have hll:(l.map en).length=len:=by rw[List.length_map,hl]
    rw[← hll]
    refine VR.sl 0 (l.map en) .shut b off m k (fun i j=>(w.cell? ⟨b,off+i*k+j,none⟩).getD .nilFunc) (fun i x hi=>?_) (fun i x j c hi hj=>?_) (fun i x j c hi hj=>?_) (by rw[zO0 htop];exact Nat.le_refl _) (by omega) (fun h=>absurd rfl h) (by simp)
    ·rw[List.getElem?_map] at hi
     cases hli:l[i]? with
     | none=>rw[hli] at hi;cases hi
     | some y=>rw[hli] at hi;cases hi;exact hlen y
    ·obtain⟨v,h1,_⟩:=key i x j c hi hj
     rw[hC _ _ _ h1,h1];rfl
    ·obtain⟨v,h1,h2⟩:=key i x j c hi hj
     rw[h1];exact h2
  ·have:=zTP (f:=fun x=>1+sz x) (l:=l) (ds:=(List.range len).map D) (by simpa using hl) (fun i x d hx hd=>by
    obtain⟨_,h2⟩:=hp i x hx
    rw[List.getElem?_map] at hd
    have hi:i<len:=by have:=(List.getElem?_eq_some_iff.1 hx).1;omega
    rw[List.getElem?_range hi] at hd
    cases hd
    omega)
   simp only[Rows.uptoBulk];omega
end
end Go.Ab.X
namespace Go.Ab.X
open Go Go.Ab Go.Proofs Pl
open Go.Proofs.YtodldpffhfgicaaGreatDoor (Rows.uptoBulk Rows.uptoBulkAll)
section
variable {H:Type}{enc:TypeId×Value→H}{P:Program}{w:World}{g:Gh}{E:Env}
theorem Rd.mono {t:TypeId}{α:Type}{e:α→AV}{sz:α→Nat}{N M:Nat}(h:Rd enc P w g t e sz M)(hle:N≤M):Rd enc P w g t e sz N:=
 fun fuel cs d ps hN hr=>h fuel cs d ps (Nat.le_trans hN hle) hr
theorem Rd.szle {t:TypeId}{α:Type}{e:α→AV}{sz sz':α→Nat}{N:Nat}(h:Rd enc P w g t e sz N)(hle:∀x,sz' x≤sz x):Rd enc P w g t e sz' N:=
 fun fuel cs d ps hN hr=>by obtain⟨x,h1,h2⟩:=h fuel cs d ps hN hr;exact⟨x,h1,by have:=hle x;omega⟩
theorem zCB {t e:TypeId}(hT:TIR E P t (E.types t))(hd:(E.types t).d=.slice e):P.underlying t=some (.slice e):=by
 obtain⟨d,h1,h2,_⟩:=hT.und
 rw[hd] at h2
 rw[h1]
 cases d<;>simp only[TDR] at h2
 subst h2;rfl
theorem zV1 {t:TypeId}{k:IntKind}(hT:TIR E P t (E.types t))(hd:(E.types t).d=.int k):P.underlying t=some (.int k):=by
 obtain⟨d,h1,h2,_⟩:=hT.und
 rw[hd] at h2
 rw[h1]
 cases d<;>simp only[TDR] at h2
 subst h2;rfl
theorem zSR {t:TypeId}(hT:TIR E P t (E.types t))(hd:(E.types t).d=.bool):P.underlying t=some .bool:=by
 obtain⟨d,h1,h2,_⟩:=hT.und
 rw[hd] at h2
 rw[h1]
 cases d<;>simp only[TDR] at h2
 rfl
theorem und_str {t:TypeId}(hT:TIR E P t (E.types t))(hd:(E.types t).d=.str):P.underlying t=some .string:=by
 obtain⟨d,h1,h2,_⟩:=hT.und
 rw[hd] at h2
 rw[h1]
 cases d<;>simp only[TDR] at h2
 rfl
theorem zTX {t:TypeId}{fl:List (Nat×TypeId)}(hT:TIR E P t (E.types t))(hd:(E.types t).d=.struct fl):∃fs,P.underlying t=some (.struct fs)∧zED fs=fl:=by
 obtain⟨d,h1,h2,_⟩:=hT.und
 rw[hd] at h2
 cases d<;>simp only[TDR] at h2
 exact⟨_,h1,h2.symm⟩
theorem zAY {t:TypeId}(hT:TIR E P t (E.types t)):P.cellsOf t=(E.types t).size:=by
 obtain⟨i,z,h1,h2,_⟩:=hT.info
 simp[Program.cellsOf,h1,h2]
theorem zA0 {t:TypeId}{fl:List (Nat×TypeId)}{fuel:Nat}{cs:List Value}{d:DataW H}{ps:List MemPlace}(hT:TIR E P t (E.types t))(hd:(E.types t).d=.struct fl)
  (h:DataW.trod enc P w 0 (fun _=>true) true fuel t cs=some (d,ps)):∃ds:List (DataW H),d=.agg ds∧ds.length=fl.length∧cs.length=(E.types t).size∧
   ∀(i o:Nat) (t':TypeId) (di:DataW H),fl[i]?=some (o,t')→ds[i]?=some di→∃n ps',DataW.trod enc P w 0 (fun _=>true) true n t' ((cs.drop o).take (P.cellsOf t'))=some (di,ps'):=by
 obtain⟨fs,hu,hf⟩:=zTX hT hd
 obtain⟨xs,n,_,e,hl,hlen,hp⟩:=DataW.trod_struct hu h
 cases e
 refine⟨xs.map (·.1),rfl,by rw[← hf];simp[zED,hlen],by rw[hl,zAY hT],fun i o t' di hi hdi=>?_⟩
 rw[← hf] at hi
 simp only[zED,List.getElem?_map,Array.getElem?_toList] at hi
 cases hfi:fs[i]? with
 | none=>rw[hfi] at hi;cases hi
 | some f=>
  rw[hfi] at hi
  cases hi
  have hx:=hp i f hfi
  rw[List.getElem?_map] at hdi
  cases hxi:xs[i]? with
  | none=>rw[hxi] at hdi;cases hdi
  | some x=>
   rw[hxi] at hdi hx
   cases hdi
   exact⟨n,x.2,hx⟩
end
theorem szVs_sumN:∀l:List V,szVs l=sumN (fun x=>1+szV x) l
 | []=>rfl
 | a :: r=>by simp only[szVs,szVs_sumN r,sumN]
theorem szXs_sum:∀l:List X,szXs l=sumN (fun x=>1+szX x) l
 | []=>rfl
 | a :: r=>by simp only[szXs,szXs_sum r,sumN]
theorem szTs_sumN:∀l:List T,szTs l=sumN (fun x=>1+szT x) l
 | []=>rfl
 | a :: r=>by simp only[szTs,szTs_sumN r,sumN]
theorem lens_sum:∀l:List Str,lens l=sumN (fun x=>1+x.length) l
 | []=>rfl
 | a :: r=>by simp only[lens,lens_sum r,sumN]
theorem zSX {α:Type}:∀l:List α,sumN (fun _=>1+0) l=l.length
 | []=>rfl
 | a :: r=>by simp only[sumN,zSX r,List.length_cons];omega
section
variable {H:Type}{enc:TypeId×Value→H}{P:Program}{w:World}{g:Gh}(hE:TysOk E1 P)(hC:∀b o v,w.cell? ⟨b,o,none⟩=some v→g.C b o=some v)
include hE
theorem rd3 (N:Nat):Rd enc P w g 3 iv (fun _=>0) N:=Rd.int (zV1 (hE.ti 3 tyo3) tyd3) N
theorem rd4 (N:Nat):Rd enc P w g 4 AV.bool (fun _=>0) N:=Rd.bool (zSR (hE.ti 4 tyo4) tyd4) N
theorem rd9 (N:Nat):Rd enc P w g 9 AV.str List.length N:=Rd.str (und_str (hE.ti 9 tyo9) tyd9) N
theorem co3:P.cellsOf 3=(E1.types 3).size:=zAY (hE.ti 3 tyo3)
theorem co4:P.cellsOf 4=(E1.types 4).size:=zAY (hE.ti 4 tyo4)
theorem co9:P.cellsOf 9=(E1.types 9).size:=zAY (hE.ti 9 tyo9)
theorem co22:P.cellsOf 22=(E1.types 22).size:=zAY (hE.ti 22 tyo22)
theorem co23:P.cellsOf 23=(E1.types 23).size:=zAY (hE.ti 23 tyo23)
theorem co24:P.cellsOf 24=(E1.types 24).size:=zAY (hE.ti 24 tyo24)
theorem co25:P.cellsOf 25=(E1.types 25).size:=zAY (hE.ti 25 tyo25)
theorem co26:P.cellsOf 26=(E1.types 26).size:=zAY (hE.ti 26 tyo26)
theorem co27:P.cellsOf 27=(E1.types 27).size:=zAY (hE.ti 27 tyo27)
theorem co29:P.cellsOf 29=(E1.types 29).size:=zAY (hE.ti 29 tyo29)
theorem co30:P.cellsOf 30=(E1.types 30).size:=zAY (hE.ti 30 tyo30)
theorem co32:P.cellsOf 32=(E1.types 32).size:=zAY (hE.ti 32 tyo32)
theorem co34:P.cellsOf 34=(E1.types 34).size:=zAY (hE.ti 34 tyo34)
theorem co35:P.cellsOf 35=(E1.types 35).size:=zAY (hE.ti 35 tyo35)
theorem co36:P.cellsOf 36=(E1.types 36).size:=zAY (hE.ti 36 tyo36)
theorem co37:P.cellsOf 37=(E1.types 37).size:=zAY (hE.ti 37 tyo37)
theorem co38:P.cellsOf 38=(E1.types 38).size:=zAY (hE.ti 38 tyo38)
theorem co108:P.cellsOf 108=(E1.types 108).size:=zAY (hE.ti 108 tyo108)
theorem co126:P.cellsOf 126=(E1.types 126).size:=zAY (hE.ti 126 tyo126)
theorem co128:P.cellsOf 128=(E1.types 128).size:=zAY (hE.ti 128 tyo128)
theorem co110:P.cellsOf 110=(E1.types 110).size:=zAY (hE.ti 110 tyo110)
theorem co130:P.cellsOf 130=(E1.types 130).size:=zAY (hE.ti 130 tyo130)
theorem co41:P.cellsOf 41=(E1.types 41).size:=zAY (hE.ti 41 tyo41)
theorem co43:P.cellsOf 43=(E1.types 43).size:=zAY (hE.ti 43 tyo43)
theorem co89:P.cellsOf 89=(E1.types 89).size:=zAY (hE.ti 89 tyo89)
theorem co44:P.cellsOf 44=(E1.types 44).size:=zAY (hE.ti 44 tyo44)
include hC
theorem rd22 (N:Nat):Rd enc P w g 22 (fun l=>.sl 0 (l.map AV.str) .shut) lens (N+1):=
 (Rd.slice (zCB (hE.ti 22 tyo22) tyd22) ((co9 hE).trans tys9) (by decide) (fun x=>rfl) (fun x=>rfl) hC (rd9 hE N)).szle (fun l=>Nat.le_of_eq (lens_sum l))
theorem rd27 (N:Nat):Rd enc P w g 27 (fun l=>.sl 0 (l.map iv) .shut) List.length (N+1):=
 (Rd.slice (zCB (hE.ti 27 tyo27) tyd27) ((co3 hE).trans tys3) (by decide) (fun x=>rfl) (fun x=>rfl) hC (rd3 hE N)).szle (fun l=>Nat.le_of_eq (zSX l).symm)
theorem rd29 (N:Nat):Rd enc P w g 29 (fun p:Bool×List Int=>.agg [.bool p.1,.sl 0 (p.2.map iv) .shut]) (fun p=>p.2.length) N:=by
 intro fuel cs d ps hN h
 obtain⟨ds,rfl,hl,hc,hp⟩:=zA0 (hE.ti 29 tyo29) tyd29 h
 rw[tys29] at hc
 match ds,hl with
 | [d0,d1],_=>
  simp only[Rows.uptoBulk,Rows.uptoBulkAll] at hN
  obtain⟨_,_,h0⟩:=hp 0 0 4 d0 rfl rfl
  rw[co4 hE,tys4] at h0
  obtain⟨x0,v0,b0⟩:=rd4 hE N _ _ _ _ (by omega) h0
  obtain⟨_,_,h1⟩:=hp 1 1 27 d1 rfl rfl
  rw[co27 hE,tys27] at h1
  obtain⟨x1,v1,b1⟩:=rd27 hE hC N _ _ _ _ (by omega) h1
  have hv:=v0.step (v1.step (VL.done hc))
  refine⟨(x0,x1),?_,?_⟩
  ·simp only[zA3,zA2,zA4,List.append_nil] at hv
   try simp only[zA3,zA2,zA4]
   exact hv
  ·try dsimp only at b0 b1
   simp only[Rows.uptoBulk,Rows.uptoBulkAll];omega
theorem rd30 (N:Nat)(ih:Rd enc P w g 32 encV szV N):Rd enc P w g 30 (fun l=>.sl 0 (l.map encV) .shut) szVs (N+1):=
 (Rd.slice (zCB (hE.ti 30 tyo30) tyd30) ((co32 hE).trans tys32) (by decide) (fun x=>(zA3 x).symm ▸ rfl) (fun x=>top_V x) hC (ih)).szle (fun l=>Nat.le_of_eq (szVs_sumN l))
theorem rd32 (N:Nat):Rd enc P w g 32 encV szV N:=by
 induction N with
 | zero=>intro fuel cs d ps hN h;obtain⟨ds,rfl,_⟩:=zA0 (hE.ti 32 tyo32) tyd32 h;simp[Rows.uptoBulk] at hN
 | succ N ih=>
  intro fuel cs d ps hN h
  obtain⟨ds,rfl,hl,hc,hp⟩:=zA0 (hE.ti 32 tyo32) tyd32 h
  rw[tys32] at hc
  match ds,hl with
  | [d0,d1,d2,d3,d4,d5],_=>
   simp only[Rows.uptoBulk,Rows.uptoBulkAll] at hN
   obtain⟨_,_,h0⟩:=hp 0 0 3 d0 rfl rfl
   rw[co3 hE,tys3] at h0
   obtain⟨x0,v0,b0⟩:=rd3 hE N _ _ _ _ (by omega) h0
   obtain⟨_,_,h1⟩:=hp 1 1 3 d1 rfl rfl
   rw[co3 hE,tys3] at h1
   obtain⟨x1,v1,b1⟩:=rd3 hE N _ _ _ _ (by omega) h1
   obtain⟨_,_,h2⟩:=hp 2 2 29 d2 rfl rfl
   rw[co29 hE,tys29] at h2
   obtain⟨x2,v2,b2⟩:=rd29 hE hC N _ _ _ _ (by omega) h2
   obtain⟨_,_,h3⟩:=hp 3 4 9 d3 rfl rfl
   rw[co9 hE,tys9] at h3
   obtain⟨x3,v3,b3⟩:=rd9 hE N _ _ _ _ (by omega) h3
   obtain⟨_,_,h4⟩:=hp 4 5 30 d4 rfl rfl
   rw[co30 hE,tys30] at h4
   obtain⟨x4,v4,b4⟩:=rd30 hE hC N ih _ _ _ _ (by omega) h4
   obtain⟨_,_,h5⟩:=hp 5 6 30 d5 rfl rfl
   rw[co30 hE,tys30] at h5
   obtain⟨x5,v5,b5⟩:=rd30 hE hC N ih _ _ _ _ (by omega) h5
   have hv:=v0.step (v1.step (v2.step (v3.step (v4.step (v5.step (VL.done hc))))))
   refine⟨.mk x0 x1 x2.1 x2.2 x3 x4 x5,?_,?_⟩
   ·simp only[zA3,zA2,zA4,List.append_nil] at hv
    try simp only[zA3,zA2,zA4]
    exact hv
   ·try dsimp only at b0 b1 b2 b3 b4 b5
    simp only[Rows.uptoBulk,Rows.uptoBulkAll,szV];omega
theorem rd26 (N:Nat)(ih:Rd enc P w g 34 encX szX N):Rd enc P w g 26 (fun l=>.sl 0 (l.map encX) .shut) szXs (N+1):=
 (Rd.slice (zCB (hE.ti 26 tyo26) tyd26) ((co34 hE).trans tys34) (by decide) (fun x=>(zA2 x).symm ▸ rfl) (fun x=>top_X x) hC (ih)).szle (fun l=>Nat.le_of_eq (szXs_sum l))
theorem rd34 (N:Nat):Rd enc P w g 34 encX szX N:=by
 induction N with
 | zero=>intro fuel cs d ps hN h;obtain⟨ds,rfl,_⟩:=zA0 (hE.ti 34 tyo34) tyd34 h;simp[Rows.uptoBulk] at hN
 | succ N ih=>
  intro fuel cs d ps hN h
  obtain⟨ds,rfl,hl,hc,hp⟩:=zA0 (hE.ti 34 tyo34) tyd34 h
  rw[tys34] at hc
  match ds,hl with
  | [d0,d1,d2,d3,d4],_=>
   simp only[Rows.uptoBulk,Rows.uptoBulkAll] at hN
   obtain⟨_,_,h0⟩:=hp 0 0 3 d0 rfl rfl
   rw[co3 hE,tys3] at h0
   obtain⟨x0,v0,b0⟩:=rd3 hE N _ _ _ _ (by omega) h0
   obtain⟨_,_,h1⟩:=hp 1 1 3 d1 rfl rfl
   rw[co3 hE,tys3] at h1
   obtain⟨x1,v1,b1⟩:=rd3 hE N _ _ _ _ (by omega) h1
   obtain⟨_,_,h2⟩:=hp 2 2 22 d2 rfl rfl
   rw[co22 hE,tys22] at h2
   obtain⟨x2,v2,b2⟩:=rd22 hE hC N _ _ _ _ (by omega) h2
   obtain⟨_,_,h3⟩:=hp 3 3 32 d3 rfl rfl
   rw[co32 hE,tys32] at h3
   obtain⟨x3,v3,b3⟩:=rd32 hE hC N _ _ _ _ (by omega) h3
   obtain⟨_,_,h4⟩:=hp 4 10 26 d4 rfl rfl
   rw[co26 hE,tys26] at h4
   obtain⟨x4,v4,b4⟩:=rd26 hE hC N ih _ _ _ _ (by omega) h4
   have hv:=v0.step (v1.step (v2.step (v3.step (v4.step (VL.done hc)))))
   refine⟨.mk x0 x1 x2 x3 x4,?_,?_⟩
   ·simp only[zA3,zA2,zA4,List.append_nil] at hv
    try simp only[zA3,zA2,zA4]
    exact hv
   ·try dsimp only at b0 b1 b2 b3 b4
    simp only[Rows.uptoBulk,Rows.uptoBulkAll,szX];omega
theorem rd41 (N:Nat)(ih:Rd enc P w g 43 encT szT N):Rd enc P w g 41 (fun l=>.sl 0 (l.map encT) .shut) szTs (N+1):=
 (Rd.slice (zCB (hE.ti 41 tyo41) tyd41) ((co43 hE).trans tys43) (by decide) (fun x=>(zA4 x).symm ▸ rfl) (fun x=>top_T x) hC (ih)).szle (fun l=>Nat.le_of_eq (szTs_sumN l))
theorem rd43 (N:Nat):Rd enc P w g 43 encT szT N:=by
 induction N with
 | zero=>intro fuel cs d ps hN h;obtain⟨ds,rfl,_⟩:=zA0 (hE.ti 43 tyo43) tyd43 h;simp[Rows.uptoBulk] at hN
 | succ N ih=>
  intro fuel cs d ps hN h
  obtain⟨ds,rfl,hl,hc,hp⟩:=zA0 (hE.ti 43 tyo43) tyd43 h
  rw[tys43] at hc
  match ds,hl with
  | [d0,d1,d2,d3],_=>
   simp only[Rows.uptoBulk,Rows.uptoBulkAll] at hN
   obtain⟨_,_,h0⟩:=hp 0 0 3 d0 rfl rfl
   rw[co3 hE,tys3] at h0
   obtain⟨x0,v0,b0⟩:=rd3 hE N _ _ _ _ (by omega) h0
   obtain⟨_,_,h1⟩:=hp 1 1 34 d1 rfl rfl
   rw[co34 hE,tys34] at h1
   obtain⟨x1,v1,b1⟩:=rd34 hE hC N _ _ _ _ (by omega) h1
   obtain⟨_,_,h2⟩:=hp 2 12 34 d2 rfl rfl
   rw[co34 hE,tys34] at h2
   obtain⟨x2,v2,b2⟩:=rd34 hE hC N _ _ _ _ (by omega) h2
   obtain⟨_,_,h3⟩:=hp 3 23 41 d3 rfl rfl
   rw[co41 hE,tys41] at h3
   obtain⟨x3,v3,b3⟩:=rd41 hE hC N ih _ _ _ _ (by omega) h3
   have hv:=v0.step (v1.step (v2.step (v3.step (VL.done hc))))
   refine⟨.mk x0 x1 x2 x3,?_,?_⟩
   ·simp only[zA3,zA2,zA4,List.append_nil] at hv
    try simp only[zA3,zA2,zA4]
    exact hv
   ·try dsimp only at b0 b1 b2 b3
    simp only[Rows.uptoBulk,Rows.uptoBulkAll,szT];omega
theorem rd126 (N:Nat):Rd enc P w g 126 zBF (fun c=>c.name.length+szV c.v) N:=by
 intro fuel cs d ps hN h
 obtain⟨ds,rfl,hl,hc,hp⟩:=zA0 (hE.ti 126 tyo126) tyd126 h
 rw[tys126] at hc
 match ds,hl with
 | [d0,d1],_=>
  simp only[Rows.uptoBulk,Rows.uptoBulkAll] at hN
  obtain⟨_,_,h0⟩:=hp 0 0 9 d0 rfl rfl
  rw[co9 hE,tys9] at h0
  obtain⟨x0,v0,b0⟩:=rd9 hE N _ _ _ _ (by omega) h0
  obtain⟨_,_,h1⟩:=hp 1 1 32 d1 rfl rfl
  rw[co32 hE,tys32] at h1
  obtain⟨x1,v1,b1⟩:=rd32 hE hC N _ _ _ _ (by omega) h1
  have hv:=v0.step (v1.step (VL.done hc))
  refine⟨⟨x0,x1⟩,?_,?_⟩
  ·simp only[zA3,zA2,zA4,List.append_nil] at hv
   try simp only[zA3,zA2,zA4]
   exact hv
  ·try dsimp only at b0 b1
   simp only[Rows.uptoBulk,Rows.uptoBulkAll];omega
theorem rd108 (N:Nat):Rd enc P w g 108 zDX (fun c=>c.name.length+szX c.typ) N:=by
 intro fuel cs d ps hN h
 obtain⟨ds,rfl,hl,hc,hp⟩:=zA0 (hE.ti 108 tyo108) tyd108 h
 rw[tys108] at hc
 match ds,hl with
 | [d0,d1],_=>
  simp only[Rows.uptoBulk,Rows.uptoBulkAll] at hN
  obtain⟨_,_,h0⟩:=hp 0 0 9 d0 rfl rfl
  rw[co9 hE,tys9] at h0
  obtain⟨x0,v0,b0⟩:=rd9 hE N _ _ _ _ (by omega) h0
  obtain⟨_,_,h1⟩:=hp 1 1 34 d1 rfl rfl
  rw[co34 hE,tys34] at h1
  obtain⟨x1,v1,b1⟩:=rd34 hE hC N _ _ _ _ (by omega) h1
  have hv:=v0.step (v1.step (VL.done hc))
  refine⟨⟨x0,x1⟩,?_,?_⟩
  ·simp only[zA3,zA2,zA4,List.append_nil] at hv
   try simp only[zA3,zA2,zA4]
   exact hv
  ·try dsimp only at b0 b1
   simp only[Rows.uptoBulk,Rows.uptoBulkAll];omega
theorem rd128 (N:Nat):Rd enc P w g 128 zCO (fun c=>c.name.length+c.params.length+szX c.body) N:=by
 intro fuel cs d ps hN h
 obtain⟨ds,rfl,hl,hc,hp⟩:=zA0 (hE.ti 128 tyo128) tyd128 h
 rw[tys128] at hc
 match ds,hl with
 | [d0,d1,d2,d3],_=>
  simp only[Rows.uptoBulk,Rows.uptoBulkAll] at hN
  obtain⟨_,_,h0⟩:=hp 0 0 9 d0 rfl rfl
  rw[co9 hE,tys9] at h0
  obtain⟨x0,v0,b0⟩:=rd9 hE N _ _ _ _ (by omega) h0
  obtain⟨_,_,h1⟩:=hp 1 1 27 d1 rfl rfl
  rw[co27 hE,tys27] at h1
  obtain⟨x1,v1,b1⟩:=rd27 hE hC N _ _ _ _ (by omega) h1
  obtain⟨_,_,h2⟩:=hp 2 2 4 d2 rfl rfl
  rw[co4 hE,tys4] at h2
  obtain⟨x2,v2,b2⟩:=rd4 hE N _ _ _ _ (by omega) h2
  obtain⟨_,_,h3⟩:=hp 3 3 34 d3 rfl rfl
  rw[co34 hE,tys34] at h3
  obtain⟨x3,v3,b3⟩:=rd34 hE hC N _ _ _ _ (by omega) h3
  have hv:=v0.step (v1.step (v2.step (v3.step (VL.done hc))))
  refine⟨⟨x0,x1,x2,x3⟩,?_,?_⟩
  ·simp only[zA3,zA2,zA4,List.append_nil] at hv
   try simp only[zA3,zA2,zA4]
   exact hv
  ·try dsimp only at b0 b1 b2 b3
   simp only[Rows.uptoBulk,Rows.uptoBulkAll];omega
theorem rd110 (N:Nat):Rd enc P w g 110 zEO (fun c=>szX c.a+szX c.sub) N:=by
 intro fuel cs d ps hN h
 obtain⟨ds,rfl,hl,hc,hp⟩:=zA0 (hE.ti 110 tyo110) tyd110 h
 rw[tys110] at hc
 match ds,hl with
 | [d0,d1,d2],_=>
  simp only[Rows.uptoBulk,Rows.uptoBulkAll] at hN
  obtain⟨_,_,h0⟩:=hp 0 0 4 d0 rfl rfl
  rw[co4 hE,tys4] at h0
  obtain⟨x0,v0,b0⟩:=rd4 hE N _ _ _ _ (by omega) h0
  obtain⟨_,_,h1⟩:=hp 1 1 34 d1 rfl rfl
  rw[co34 hE,tys34] at h1
  obtain⟨x1,v1,b1⟩:=rd34 hE hC N _ _ _ _ (by omega) h1
  obtain⟨_,_,h2⟩:=hp 2 12 34 d2 rfl rfl
  rw[co34 hE,tys34] at h2
  obtain⟨x2,v2,b2⟩:=rd34 hE hC N _ _ _ _ (by omega) h2
  have hv:=v0.step (v1.step (v2.step (VL.done hc)))
  refine⟨⟨x0,x1,x2⟩,?_,?_⟩
  ·simp only[zA3,zA2,zA4,List.append_nil] at hv
   try simp only[zA3,zA2,zA4]
   exact hv
  ·try dsimp only at b0 b1 b2
   simp only[Rows.uptoBulk,Rows.uptoBulkAll];omega
theorem rd130 (N:Nat):Rd enc P w g 130 zBU (fun c=>c.name.length+szX c.e) N:=by
 intro fuel cs d ps hN h
 obtain⟨ds,rfl,hl,hc,hp⟩:=zA0 (hE.ti 130 tyo130) tyd130 h
 rw[tys130] at hc
 match ds,hl with
 | [d0,d1],_=>
  simp only[Rows.uptoBulk,Rows.uptoBulkAll] at hN
  obtain⟨_,_,h0⟩:=hp 0 0 9 d0 rfl rfl
  rw[co9 hE,tys9] at h0
  obtain⟨x0,v0,b0⟩:=rd9 hE N _ _ _ _ (by omega) h0
  obtain⟨_,_,h1⟩:=hp 1 1 34 d1 rfl rfl
  rw[co34 hE,tys34] at h1
  obtain⟨x1,v1,b1⟩:=rd34 hE hC N _ _ _ _ (by omega) h1
  have hv:=v0.step (v1.step (VL.done hc))
  refine⟨⟨x0,x1⟩,?_,?_⟩
  ·simp only[zA3,zA2,zA4,List.append_nil] at hv
   try simp only[zA3,zA2,zA4]
   exact hv
  ·try dsimp only at b0 b1
   simp only[Rows.uptoBulk,Rows.uptoBulkAll];omega
theorem rd89 (N:Nat):Rd enc P w g 89 zDB (fun c=>c.name.length+szT c.t) N:=by
 intro fuel cs d ps hN h
 obtain⟨ds,rfl,hl,hc,hp⟩:=zA0 (hE.ti 89 tyo89) tyd89 h
 rw[tys89] at hc
 match ds,hl with
 | [d0,d1],_=>
  simp only[Rows.uptoBulk,Rows.uptoBulkAll] at hN
  obtain⟨_,_,h0⟩:=hp 0 0 9 d0 rfl rfl
  rw[co9 hE,tys9] at h0
  obtain⟨x0,v0,b0⟩:=rd9 hE N _ _ _ _ (by omega) h0
  obtain⟨_,_,h1⟩:=hp 1 1 43 d1 rfl rfl
  rw[co43 hE,tys43] at h1
  obtain⟨x1,v1,b1⟩:=rd43 hE hC N _ _ _ _ (by omega) h1
  have hv:=v0.step (v1.step (VL.done hc))
  refine⟨⟨x0,x1⟩,?_,?_⟩
  ·simp only[zA3,zA2,zA4,List.append_nil] at hv
   try simp only[zA3,zA2,zA4]
   exact hv
  ·try dsimp only at b0 b1
   simp only[Rows.uptoBulk,Rows.uptoBulkAll];omega
theorem rd23 (N:Nat):Rd enc P w g 23 (fun l=>.sl 0 (l.map zBF) .shut) (sumN zJD) (N+1):=
 (Rd.slice (zCB (hE.ti 23 tyo23) tyd23) ((co126 hE).trans tys126) (by decide) (fun x=>rfl) (fun x=>rfl) hC (rd126 hE hC N)).szle (fun l=>zCW (fun x=>by simp only[zJD];omega) l)
theorem rd24 (N:Nat):Rd enc P w g 24 (fun l=>.sl 0 (l.map zDX) .shut) (sumN fVar) (N+1):=
 (Rd.slice (zCB (hE.ti 24 tyo24) tyd24) ((co108 hE).trans tys108) (by decide) (fun x=>rfl) (fun x=>rfl) hC (rd108 hE hC N)).szle (fun l=>zCW (fun x=>by simp only[fVar];omega) l)
theorem rd25 (N:Nat):Rd enc P w g 25 (fun l=>.sl 0 (l.map zCO) .shut) (sumN fDef) (N+1):=
 (Rd.slice (zCB (hE.ti 25 tyo25) tyd25) ((co128 hE).trans tys128) (by decide) (fun x=>rfl) (fun x=>rfl) hC (rd128 hE hC N)).szle (fun l=>zCW (fun x=>by simp only[fDef];omega) l)
theorem rd35 (N:Nat):Rd enc P w g 35 (fun l=>.sl 0 (l.map zEO) .shut) (sumN zMZ) (N+1):=
 (Rd.slice (zCB (hE.ti 35 tyo35) tyd35) ((co110 hE).trans tys110) (by decide) (fun x=>rfl) (fun x=>rfl) hC (rd110 hE hC N)).szle (fun l=>zCW (fun x=>by simp only[zMZ];omega) l)
theorem rd36 (N:Nat):Rd enc P w g 36 (fun l=>.sl 0 (l.map zBU) .shut) (sumN zHM) (N+1):=
 (Rd.slice (zCB (hE.ti 36 tyo36) tyd36) ((co130 hE).trans tys130) (by decide) (fun x=>rfl) (fun x=>rfl) hC (rd130 hE hC N)).szle (fun l=>zCW (fun x=>by simp only[zHM];omega) l)
theorem rd37 (N:Nat):Rd enc P w g 37 (fun l=>.sl 0 (l.map zDB) .shut) (sumN fPrp) (N+1):=
 (Rd.slice (zCB (hE.ti 37 tyo37) tyd37) ((co89 hE).trans tys89) (by decide) (fun x=>rfl) (fun x=>rfl) hC (rd89 hE hC N)).szle (fun l=>zCW (fun x=>by simp only[fPrp];omega) l)
theorem rd38 (N:Nat):Rd enc P w g 38 (fun l=>.sl 0 (l.map slS) .shut) (sumN fGrp) (N+2):=
 (Rd.slice (zCB (hE.ti 38 tyo38) tyd38) ((co22 hE).trans tys22) (by decide) (fun x=>rfl) (fun x=>rfl) hC (rd22 hE hC N)).szle (fun l=>zCW (fun x=>by simp only[fGrp];omega) l)
theorem rd40 (N:Nat):Rd enc P w g 40 zAN zK2 N:=by
 intro fuel cs d ps hN h
 obtain⟨ds,rfl,hl,hc,hp⟩:=zA0 (hE.ti 40 tyo40) tyd40 h
 rw[tys40] at hc
 match ds,hl with
 | [d0,d1,d2,d3,d4,d5,d6,d7,d8,d9,d10,d11,d12,d13,d14],_=>
  simp only[Rows.uptoBulk,Rows.uptoBulkAll] at hN
  obtain⟨_,_,h0⟩:=hp 0 0 22 d0 rfl rfl
  rw[co22 hE,tys22] at h0
  obtain⟨x0,v0,b0⟩:=rd22 hE hC N _ _ _ _ (by omega) h0
  obtain⟨_,_,h1⟩:=hp 1 1 23 d1 rfl rfl
  rw[co23 hE,tys23] at h1
  obtain⟨x1,v1,b1⟩:=rd23 hE hC N _ _ _ _ (by omega) h1
  obtain⟨_,_,h2⟩:=hp 2 2 24 d2 rfl rfl
  rw[co24 hE,tys24] at h2
  obtain⟨x2,v2,b2⟩:=rd24 hE hC N _ _ _ _ (by omega) h2
  obtain⟨_,_,h3⟩:=hp 3 3 25 d3 rfl rfl
  rw[co25 hE,tys25] at h3
  obtain⟨x3,v3,b3⟩:=rd25 hE hC N _ _ _ _ (by omega) h3
  obtain⟨_,_,h4⟩:=hp 4 4 26 d4 rfl rfl
  rw[co26 hE,tys26] at h4
  obtain⟨x4,v4,b4⟩:=rd26 hE hC N (rd34 hE hC N) _ _ _ _ (by omega) h4
  obtain⟨_,_,h5⟩:=hp 5 5 34 d5 rfl rfl
  rw[co34 hE,tys34] at h5
  obtain⟨x5,v5,b5⟩:=rd34 hE hC N _ _ _ _ (by omega) h5
  obtain⟨_,_,h6⟩:=hp 6 16 34 d6 rfl rfl
  rw[co34 hE,tys34] at h6
  obtain⟨x6,v6,b6⟩:=rd34 hE hC N _ _ _ _ (by omega) h6
  obtain⟨_,_,h7⟩:=hp 7 27 35 d7 rfl rfl
  rw[co35 hE,tys35] at h7
  obtain⟨x7,v7,b7⟩:=rd35 hE hC N _ _ _ _ (by omega) h7
  obtain⟨_,_,h8⟩:=hp 8 28 36 d8 rfl rfl
  rw[co36 hE,tys36] at h8
  obtain⟨x8,v8,b8⟩:=rd36 hE hC N _ _ _ _ (by omega) h8
  obtain⟨_,_,h9⟩:=hp 9 29 37 d9 rfl rfl
  rw[co37 hE,tys37] at h9
  obtain⟨x9,v9,b9⟩:=rd37 hE hC N _ _ _ _ (by omega) h9
  obtain⟨_,_,h10⟩:=hp 10 30 26 d10 rfl rfl
  rw[co26 hE,tys26] at h10
  obtain⟨x10,v10,b10⟩:=rd26 hE hC N (rd34 hE hC N) _ _ _ _ (by omega) h10
  obtain⟨_,_,h11⟩:=hp 11 31 26 d11 rfl rfl
  rw[co26 hE,tys26] at h11
  obtain⟨x11,v11,b11⟩:=rd26 hE hC N (rd34 hE hC N) _ _ _ _ (by omega) h11
  obtain⟨_,_,h12⟩:=hp 12 32 38 d12 rfl rfl
  rw[co38 hE,tys38] at h12
  obtain⟨x12,v12,b12⟩:=rd38 hE hC N _ _ _ _ (by omega) h12
  obtain⟨_,_,h13⟩:=hp 13 33 26 d13 rfl rfl
  rw[co26 hE,tys26] at h13
  obtain⟨x13,v13,b13⟩:=rd26 hE hC N (rd34 hE hC N) _ _ _ _ (by omega) h13
  obtain⟨_,_,h14⟩:=hp 14 34 4 d14 rfl rfl
  rw[co4 hE,tys4] at h14
  obtain⟨x14,v14,b14⟩:=rd4 hE N _ _ _ _ (by omega) h14
  have hv:=v0.step (v1.step (v2.step (v3.step (v4.step (v5.step (v6.step (v7.step (v8.step (v9.step (v10.step (v11.step (v12.step (v13.step (v14.step (VL.done hc)))))))))))))))
  refine⟨⟨x0,x1,x2,x3,x4,x5,x6,x7,x8,x9,x10,x11,x12,x13,x14⟩,?_,?_⟩
  ·simp only[zA3,zA2,zA4,List.append_nil] at hv
   try simp only[zA3,zA2,zA4]
   exact hv
  ·try dsimp only at b0 b1 b2 b3 b4 b5 b6 b7 b8 b9 b10 b11 b12 b13 b14
   simp only[Rows.uptoBulk,Rows.uptoBulkAll,zK2];omega
theorem rd44 (N:Nat):Rd enc P w g 44 (fun l=>.sl 0 (l.map zD8) .shut) (sumN (fun s=>1+szVs s)) (N+2):=
 (Rd.slice (zCB (hE.ti 44 tyo44) tyd44) ((co30 hE).trans tys30) (by decide) (fun x=>rfl) (fun x=>rfl) hC (rd30 hE hC N (rd32 hE hC N))).szle (fun l=>zCW (fun x=>by omega) l)
theorem rd46 (N:Nat):Rd enc P w g 46 zC8 szL N:=by
 intro fuel cs d ps hN h
 obtain⟨ds,rfl,hl,hc,hp⟩:=zA0 (hE.ti 46 tyo46) tyd46 h
 rw[tys46] at hc
 match ds,hl with
 | [d0,d1],_=>
  simp only[Rows.uptoBulk,Rows.uptoBulkAll] at hN
  obtain⟨_,_,h0⟩:=hp 0 0 44 d0 rfl rfl
  rw[co44 hE,tys44] at h0
  obtain⟨x0,v0,b0⟩:=rd44 hE hC N _ _ _ _ (by omega) h0
  obtain⟨_,_,h1⟩:=hp 1 1 3 d1 rfl rfl
  rw[co3 hE,tys3] at h1
  obtain⟨x1,v1,b1⟩:=rd3 hE N _ _ _ _ (by omega) h1
  have hv:=v0.step (v1.step (VL.done hc))
  refine⟨⟨x0,x1⟩,?_,?_⟩
  ·simp only[zA3,zA2,zA4,List.append_nil] at hv
   try simp only[zA3,zA2,zA4]
   exact hv
  ·try dsimp only at b0 b1
   simp only[Rows.uptoBulk,Rows.uptoBulkAll,szL];omega
end
end Go.Ab.X
end
