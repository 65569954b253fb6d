/- A part. -/
import Derived.Test.YtodldpffhfgicaaGreatDoorF1
import Derived.IntWalk
import Derived.Stop.AnyFormat
set_option linter.all false
noncomputable section
namespace Go.Ab
open Go
section
variable {E:Env}{P:Program}{t:TypeId}{ti:TI}
theorem TIR.typeInfo (h:TIR E P t ti)(w:World):∃i z,(typeInfo t).run P w=.ok i w∧i.size=ti.size∧i.bytes=ti.bytes∧i.zero=some z∧ofValues z.cells.toList=some ti.zero∧
  (ti.agg=true→z=.agg z.cells)∧(ti.agg=false→z.cells=#[z])∧ti.zero.length=ti.size:=by
 obtain⟨i,z,hi,h1,h2,h3,h4,h5,h6,h7⟩:=h.info
 exact⟨i,z,by simp[Go.typeInfo,hi],h1,h2,h3,h4,h5,h6,h7⟩
theorem TIR.sizeOf (h:TIR E P t ti)(w:World):(Go.sizeOf t).run P w=.ok ti.size w:=by
 obtain⟨i,z,hi,h1,_⟩:=h.typeInfo w
 simp[Go.sizeOf,hi,h1]
theorem TIR.isAgg (h:TIR E P t ti)(w:World):(Go.isAgg t).run P w=.ok ti.agg w:=by
 obtain⟨d,hd,_,ha⟩:=h.und
 rw[← ha]
 cases d<;>simp[Go.isAgg,run_underlying hd,aggDesc]
theorem TIR.zeroValue (h:TIR E P t ti)(w:World):∃z,(Go.zeroValue t).run P w=.ok z w∧ofValues z.cells.toList=some ti.zero∧
  (ti.agg=true→z=.agg z.cells)∧(ti.agg=false→z.cells=#[z])∧ti.zero.length=ti.size:=by
 obtain⟨i,z,hi,_,_,h3,h4,h5,h6,h7⟩:=h.typeInfo w
 exact⟨z,by simp[Go.zeroValue,hi,h3],h4,h5,h6,h7⟩
theorem TIR.underlying (h:TIR E P t ti)(w:World):∃d,(Go.underlying t).run P w=.ok d w∧TDR ti.d d∧aggDesc d=ti.agg:=by
 obtain⟨d,hd,h1,h2⟩:=h.und
 exact⟨d,run_underlying hd w,h1,h2⟩
theorem TIR.zero (h:TIR E P t ti)(g:Gh)(w:World):∃z,(Go.zeroValue t).run P w=.ok z w∧VR g (zAK ti) z∧top (zAK ti)=0∧VRs g ti.zero z.cells∧cellsOf (zAK ti)=ti.zero∧z.cells.size=ti.size:=by
 obtain⟨z,hz,h1,h2,h3,h4⟩:=h.zeroValue w
 have hv:=VRs.ofValues (g:=g) h1
 have ht:=zGH h1
 have hs:z.cells.size=ti.size:=by rw[← h4];have:=hv.1;simp at this;exact this.symm
 simp only[Array.toArray_toList] at hv
 cases ha:ti.agg with
 | true=>
  refine⟨z,hz,?_,?_,hv,?_,hs⟩
  ·simp only[zAK,ha,cond_true];rw[h2 ha];exact .agg _ _ hv.1 hv.2
  ·simp only[zAK,ha,cond_true];rw[zDQ];exact ht
  ·simp only[zAK,ha,cond_true];rfl
 | false=>
  have hc:=h3 ha
  have hl:ti.zero.length=1:=by rw[hv.1,hc];rfl
  match hzz:ti.zero,hl with
  | [x],_=>
   rw[hzz] at hv ht h1
   have hx:VR g x z:=hv.2 0 x z (by simp) (by rw[hc];rfl)
   have hx0:top x=0:=by simpa[zAU,tops_nil] using ht
   refine⟨z,hz,?_,?_,?_,?_,hs⟩
   ·simp only[zAK,ha,cond_false,hzz];exact hx
   ·simp only[zAK,ha,cond_false,hzz];exact hx0
   ·exact hv
   ·have hof:ofValue z=some x:=by
     rw[hc] at h1
     simp only[ofValues] at h1
     cases h9:ofValue z with
     | none=>rw[h9] at h1;cases h1
     | some y=>rw[h9] at h1;cases h1;rfl
    simp only[zAK,ha,cond_false,hzz]
    cases x<;>first|rfl|(cases z<;>simp[ofValue] at hof<;>(split at hof<;>simp at hof))
end
def Lies (g:Gh)(w:World)(b o:Nat)(cs:List AV):Prop:=
 ∀(i:Nat) (c:AV),cs[i]?=some c→∃v,w.cell? ⟨b,o+i,none⟩=some v∧VR g c v
theorem Lies.drop {g:Gh}{w:World}{b o:Nat}{cs:List AV}(h:Lies g w b o cs)(n:Nat):Lies g w b (o+n) (cs.drop n):=by
 intro i c hc
 rw[List.getElem?_drop] at hc
 obtain⟨v,h1,h2⟩:=h _ c hc
 exact⟨v,by rw[← h1];congr 2;omega,h2⟩
theorem Lies.take {g:Gh}{w:World}{b o:Nat}{cs:List AV}(h:Lies g w b o cs)(n:Nat):Lies g w b o (cs.take n):=by
 intro i c hc
 refine h i c ?_
 rw[List.getElem?_take] at hc
 split at hc
 ·exact hc
 ·cases hc
theorem zIV {g:Gh}{w:World}{b o:Nat}{cs:List AV}(P:Program)(h:Lies g w b o cs) :
  ∃vs:Array Value,(loadCells ⟨b,o,none⟩ cs.length).run P w=.ok vs w∧VRs g cs vs:=by
 have hex:∀j,∃v,j<cs.length→w.cell? ⟨b,o+j,none⟩=some v∧∀c,cs[j]?=some c→VR g c v:=by
  intro j
  by_cases hj:j<cs.length
  ·obtain⟨v,h1,h2⟩:=h j _ (List.getElem?_eq_getElem hj)
   exact⟨v,fun _=>⟨h1,fun c hc=>by rw[List.getElem?_eq_getElem hj] at hc;cases hc;exact h2⟩⟩
  ·exact⟨Go.undef,fun hh=>absurd hh hj⟩
 obtain⟨f,hf⟩:=Classical.axiomOfChoice hex
 refine⟨((List.range cs.length).map f).toArray,?_,by simp,fun i x v hx hv=>?_⟩
 ·exact run_loadCells w _ _ f (fun j hj=>by rw[zD3];exact(hf j hj).1)
 ·have hlt:i<cs.length:=(List.getElem?_eq_some_iff.1 hx).1
  simp[hlt] at hv
  rw[← hv]
  exact(hf i hlt).2 x hx
theorem zLH {ti:TI}{cs:List AV}{off:Nat}{v:AV}(h:pick1 ti cs off=some v) :
  off+ti.size≤cs.length∧(ti.agg=true→v=.agg ((cs.drop off).take ti.size))∧(ti.agg=false→cs[off]?=some v):=by
 simp only[pick1,zAH,zCA,zCZ,zE6] at h
 cases hb:Nat.ble (off+ti.size) cs.length with
 | false=>rw[hb] at h;cases h
 | true=>
  rw[hb,cond_true] at h
  refine⟨Nat.le_of_ble_eq_true hb,fun ha=>?_,fun ha=>?_⟩
  ·rw[ha] at h;cases h;rfl
  ·rw[ha] at h;exact h
theorem zHA {ti:TI}{cs:List AV}{off n:Nat}{v:AV}(h:pick1 ti cs off=some v)(ht:tops cs≤n):top v≤n:=by
 obtain⟨h1,h2,h3⟩:=zLH h
 cases ha:ti.agg with
 | true=>
  rw[h2 ha,zDQ]
  refine zAP.2 fun x hx=>zAP.1 ht x ?_
  exact List.mem_of_mem_drop (List.mem_of_mem_take hx)
 | false=>exact zCV ht (h3 ha)
theorem zEN {E:Env}{P:Program}{t:TypeId}{ti:TI}(hti:TIR E P t ti){g:Gh}{w:World}{b o:Nat}{cs:List AV}{off:Nat}{v:AV}
  (hl:Lies g w b o cs) (h:pick1 ti cs off=some v):∃v',(loadVar t ⟨b,o+off,none⟩).run P w=.ok v' w∧VR g v v':=by
 obtain⟨h1,h2,h3⟩:=zLH h
 have hs:=hti.sizeOf w
 have hag:=hti.isAgg w
 cases ha:ti.agg with
 | true=>
  have hl2:=(hl.drop off).take ti.size
  obtain⟨vs,hv,hvr⟩:=zIV P hl2
  have hlen:((cs.drop off).take ti.size).length=ti.size:=by simp;omega
  rw[hlen] at hv
  refine⟨.agg vs,?_,?_⟩
  ·simp[loadVar,hag,ha,hs,hv]
  ·rw[h2 ha];exact .agg _ _ hvr.1 hvr.2
 | false=>
  obtain⟨u,hu,hvr⟩:=hl off v (h3 ha)
  exact⟨u,by simp[loadVar,hag,ha,hu],hvr⟩
theorem zHL {fs:Array Field}{i:Nat}{off:Nat}{ft:TypeId}(h:(zED fs)[i]?=some (off,ft)) :
  ∃f,fs[i]?=some f∧f.offset=off∧f.type=ft:=by
 simp only[zED,List.getElem?_map,Option.map_eq_some_iff,Prod.mk.injEq] at h
 obtain⟨f,hf,h1,h2⟩:=h
 exact⟨f,by simpa using hf,h1,h2⟩
theorem zKE (s:Sto)(k:Nat):s.get k=if k<s.n then(s.boxes[s.n-1-k]?).getD .dead else .dead:=by
 unfold Sto.get
 rw[zDC]
 by_cases h:k<s.n
 ·have:Nat.blt k s.n=true:=by simpa using h
  rw[this,if_pos h,cond_true]
  cases s.boxes[s.n-1-k]?<;>rfl
 ·have:Nat.blt k s.n=false:=by rw[Bool.eq_false_iff];intro hh;exact h (by simpa using hh)
  rw[this,if_neg h,cond_false]
theorem zEQ {s:Sto}{k:Nat}{b:Box}(h:s.get k=b)(hb:b≠.dead):k<s.n:=by
 rw[zKE] at h
 by_cases hk:k<s.n
 ·exact hk
 ·rw[if_neg hk] at h;exact absurd h.symm hb
section
variable {base:Nat}{w0:World}{g:Gh}{s:Sto}{w:World}
theorem Rel.cells {ty:TypeId}(h:Rel base w0 g s w){k:Nat}{cs:List AV}(hk:s.get k=.cells ty cs) :
  k<s.n∧Lies g w (g.mu k) 0 cs∧tops cs≤s.n:=by
 have hlt:=zEQ hk (by simp)
 have hb:=h.box k hlt
 have ht:=h.top k hlt
 rw[hk] at hb ht
 obtain⟨arr,h1,h2,h3⟩:=hb
 refine⟨hlt,fun i c hc=>?_,ht⟩
 have hi:i<arr.size:=by rw[← h2.1];exact(List.getElem?_eq_some_iff.1 hc).1
 exact⟨arr[i],by rw[zD0 h1,Nat.zero_add,Array.getElem?_eq_getElem hi],h2.2 i c _ hc (Array.getElem?_eq_getElem hi)⟩
theorem Rel.row {ty:TypeId}(h:Rel base w0 g s w){k:Nat}{es:Nat}{xs:List AV}{sl:Bool}(hk:s.get k=.row ty es xs sl) :
  k<s.n∧g.es k=es∧g.rl k=xs.length∧0<es∧(∀(i:Nat) (x:AV),xs[i]?=some x→(cellsOf x).length=es∧Lies g w (g.mu k) (i*es) (cellsOf x))∧tops xs≤s.n:=by
 have hlt:=zEQ hk (by simp)
 have hb:=h.box k hlt
 have ht:=h.top k hlt
 rw[hk] at hb ht
 obtain⟨arr,h1,h2,h3,h4,h5,h6,h7,h8,h9⟩:=hb
 refine⟨hlt,h3,h4,h2,fun i x hx=>⟨h7 i x hx,fun j c hc=>?_⟩,ht⟩
 obtain⟨v,hv,hr⟩:=h8 i x j c hx hc
 exact⟨v,by rw[zD0 h1];exact hv,hr⟩
theorem zX3 {t:Nat}{cells:List AV}{b o:Nat}(h:Rel base w0 g s w)(hv:VR g (.rptr t cells) (.pointer (some ⟨b,o,none⟩))):Lies g w b o cells:=by
 cases hv with
 | rptr _ _ _ _ vs hc hvr ht=>
  intro i c hi
  exact⟨vs i,h.C _ _ _ (hc i c hi),hvr i c hi⟩
theorem zPO {E:Env}{P:Program}{t:TypeId}(hti:TIR E P t (E.types t))(h:Rel base w0 g s w){a v:AV}{a':Value}
  (hl:zI6 s (E.types t) a=some v) (ha:VR g a a') (hta:top a≤s.n):∃v',(Instr.loadAt t a').run P w=.ok v' w∧VR g v v'∧top v≤s.n:=by
 cases ha with
 | ptr k off=>
  simp only[zI6] at hl
  split at hl
  ·rename_i cs hk
   obtain⟨h1,h2,h3⟩:=h.cells hk
   obtain⟨v',hv,hr⟩:=zEN hti h2 hl
   rw[Nat.zero_add] at hv
   exact⟨v',by simp[Instr.loadAt,Instr.sureAddr,hv],hr,zHA hl h3⟩
  ·cases hl
 | eptr k i off=>
  simp only[zI6,zE6] at hl
  split at hl
  ·rename_i es xs sl hk
   obtain⟨h1,h2,h3,h4,h5,h6⟩:=h.row hk
   split at hl
   ·rename_i x hx
    obtain⟨v',hv,hr⟩:=zEN hti (h5 i x hx).2 hl
    rw[← h2] at hv
    exact⟨v',by simp[Instr.loadAt,Instr.sureAddr,hv],hr,zHA hl (by rw[zCC];exact zCV h6 hx)⟩
   ·cases hl
  ·cases hl
 | rptr t' cells b o vs hc hv h1=>
  simp only[zI6] at hl
  have hL:Lies g w b o cells:=zX3 h (.rptr t' cells b o vs hc hv h1)
  obtain⟨v',hv',hr⟩:=zEN hti hL hl
  rw[Nat.add_zero] at hv'
  exact⟨v',by simp[Instr.loadAt,Instr.sureAddr,hv'],hr,zHA hl (Nat.le_trans h1 hta)⟩
 | _=>cases hl
end
theorem TDR.struct_inv {fs:List (Nat×TypeId)}{d:TypeDesc}(h:TDR (.struct fs) d):∃fs',d=.struct fs'∧fs=zED fs':=by
 cases d<;>simp only[TDR] at h<;>first|exact h.elim|exact⟨_,rfl,h⟩
theorem TDR.slice_inv {e:TypeId}{d:TypeDesc}(h:TDR (.slice e) d):d=.slice e:=by
 cases d<;>simp only[TDR] at h<;>first|exact h.elim|rw[h]
theorem TDR.array_inv {n:Nat}{e:TypeId}{d:TypeDesc}(h:TDR (.array n e) d):d=.array n e:=by
 cases d<;>simp only[TDR] at h<;>first|exact h.elim|rw[h.1,h.2]
theorem TDR.map_inv {k e:TypeId}{d:TypeDesc}(h:TDR (.map k e) d):d=.map k e:=by
 cases d<;>simp only[TDR] at h<;>first|exact h.elim|rw[h.1,h.2]
theorem TDR.int_inv {k:IntKind}{d:TypeDesc}(h:TDR (.int k) d):d=.int k:=by
 cases d<;>simp only[TDR] at h<;>first|exact h.elim|rw[h]
theorem TDR.str_inv {d:TypeDesc}(h:TDR .str d):d=.string:=by
 cases d<;>simp only[TDR] at h<;>first|exact h.elim|rfl
theorem TDR.ptr_inv {e:TypeId}{d:TypeDesc}(h:TDR (.ptr e) d):d=.pointer e:=by
 cases d<;>simp only[TDR] at h<;>first|exact h.elim|rw[h]
theorem zMS {E:Env}{P:Program}{f:Field}(hf:TIR E P f.type (E.types f.type))(hz:0<(E.types f.type).size)(b o:Nat)(w:World) :
  (fieldPlace ⟨b,o,none⟩ f).run P w=.ok ⟨b,o+f.offset,none⟩ w:=by
 simp only[fieldPlace,Sem.run_bind,hf.sizeOf w,Result.andThen_ok,Sem.run_ite]
 rw[if_neg (by omega),Sem.run_pure,zD3]
theorem zMW {E:Env}{P:Program}{t:TypeId}(hti:TIR E P t (E.types t))(hsz:∀fs,(E.types t).d=.struct fs→∀f∈fs,TIR E P f.2 (E.types f.2)∧0<(E.types f.2).size)
  {g:Gh} {s s':Sto} {w:World} {x v:AV} {x':Value} {i:Nat}
  (h:zB4 (E.types t).d (some x) i s=.val v s') (hx:VR g x x') (hn:top x≤s.n) :
  s'=s∧∃v',(Instr.fieldAt t x' i).run P w=.ok v' w∧VR g v v'∧top v≤s.n:=by
 unfold zB4 at h
 split at h
 ·rename_i fs hd
  rw[zDC] at h
  split at h
  ·rename_i off ft hf
   obtain⟨d,hu,hdr,_⟩:=hti.underlying w
   rw[hd] at hdr
   obtain⟨fs',rfl,hfs⟩:=hdr.struct_inv
   rw[hfs] at hf
   obtain⟨f,hf1,hf2,hf3⟩:=zHL hf
   have hmem:(off,ft)∈fs:=by rw[hfs];exact List.mem_of_getElem? hf
   obtain⟨htf,hsf⟩:=hsz fs hd _ hmem
   simp only[← hf3] at htf hsf
   have place:=fun(b o:Nat)=>zMS htf hsf b o w
   cases hx with
   | ptr k o=>
    cases h
    refine⟨rfl,_,?_,.ptr k (o+off),hn⟩
    simp[Instr.fieldAt,hu,hf1,Instr.sureAddr,place,hf2]
   | eptr k j o=>
    cases h
    refine⟨rfl,_,?_,.eptr k j (o+off),hn⟩
    simp[Instr.fieldAt,hu,hf1,Instr.sureAddr,place,hf2,Nat.add_assoc]
   | rptr tp cs b o vs hc hv ht=>
    simp only at h
    cases hle:Nat.ble off (llen cs) with
    | false=>rw[hle] at h;cases h
    | true=>
     rw[hle,cond_true] at h
     cases h
     refine⟨rfl,.pointer (some ⟨b,o+off,none⟩),?_,?_,hn⟩
     ·simp[Instr.fieldAt,hu,hf1,Instr.sureAddr,place,hf2]
     ·rw[zCZ]
      refine .rptr tp _ b (o+off) (fun i=>vs (off+i)) (fun i c hi=>?_) (fun i c hi=>?_) ?_
      ·rw[List.getElem?_drop] at hi
       rw[← hc _ _ hi];congr 1;omega
      ·rw[List.getElem?_drop] at hi
       exact hv _ _ hi
      ·exact zAP.2 fun y hy=>zAP.1 ht y (List.mem_of_mem_drop hy)
   | _=>cases h
  ·cases h
 ·cases h
def zBM (P:Program)(g:Gh)(n:Nat)(w:World)(sem:Sem Value)(v:AV):Prop:=∃v',sem.run P w=.ok v' w∧VR g v v'∧top v≤n
theorem zIU {E:Env}{P:Program}{t:TypeId}{ti:TI}(hti:TIR E P t ti){g:Gh}{w:World}{cs:List AV}{arr:Array Value}(hr:VRs g cs arr){off:Nat}{v:AV}
  (h:pick1 ti cs off=some v):∃v',(part t arr off).run P w=.ok v' w∧VR g v v':=by
 obtain⟨h1,h2,h3⟩:=zLH h
 have hag:=hti.isAgg w
 have hs:=hti.sizeOf w
 cases ha:ti.agg with
 | true=>
  refine⟨.agg (arr.extract off (off+ti.size)),by simp[part,hag,ha,hs],?_⟩
  rw[h2 ha]
  have hsz:=hr.1
  refine .agg _ _ (by simp;omega) (fun i x u hx hu=>?_)
  rw[List.getElem?_take] at hx
  split at hx
  ·rw[List.getElem?_drop] at hx
   have:(arr.extract off (off+ti.size))[i]?=arr[off+i]?:=by
    rw[Array.getElem?_extract];rw[if_pos (by omega)]
   rw[this] at hu
   exact hr.2 _ _ _ hx hu
  ·cases hx
 | false=>
  have hx:=h3 ha
  have hlt:off<arr.size:=by rw[← hr.1];exact(List.getElem?_eq_some_iff.1 hx).1
  exact⟨arr[off],by simp[part,hag,ha,Array.getElem?_eq_getElem hlt],hr.2 off v _ hx (Array.getElem?_eq_getElem hlt)⟩
theorem zHE {s s':Sto}{x:Option AV}{v:AV}(h:nv s x=.val v s'):x=some v∧s'=s:=by
 cases x with
 | none=>cases h
 | some y=>cases h;exact⟨rfl,rfl⟩
section
variable {E:Env}{P:Program}{t:TypeId}{g:Gh}{s s':Sto}{w:World}{v:AV}
theorem zUV (hti:TIR E P t (E.types t))(hsz:∀fs,(E.types t).d=.struct fs→∀f∈fs,TIR E P f.2 (E.types f.2)){x:AV}{x':Value}{i:Nat}
  (h:zH7 E t (some x) i s=.val v s') (hx:VR g x x') (hn:top x≤s.n):s'=s∧zBM P g s.n w (Instr.field t x' i) v:=by
 unfold zH7 at h
 split at h
 ·rename_i fs hd
  rw[zDC] at h
  split at h
  ·rename_i off ft hf
   obtain⟨d,hu,hdr,_⟩:=hti.underlying w
   rw[hd] at hdr
   obtain⟨fs',rfl,hfs⟩:=hdr.struct_inv
   rw[hfs] at hf
   obtain⟨f,hf1,hf2,hf3⟩:=zHL hf
   have htf:=hsz fs hd _ (by rw[hfs];exact List.mem_of_getElem? hf)
   cases hx with
   | agg cs vs l hh=>
    obtain⟨h1,rfl⟩:=zHE h
    obtain⟨v',h2,h3⟩:=zIU (w:=w) htf ⟨l,hh⟩ h1
    refine⟨rfl,v',?_,h3,zHA h1 (by rw[zDQ] at hn;exact hn)⟩
    simp only[← hf2,← hf3] at h2
    simp[Instr.field,hu,hf1,asAgg,h2]
   | _=>cases h
  ·cases h
 ·cases h
theorem zGE {x:AV}{x':Value}{n:Nat}(h:asNat x=some n)(hx:VR g x x'):∃k,x'=.int k (n:Int):=by
 cases hx with
 | int k m=>
  cases m with
  | ofNat m=>cases h;exact⟨k,rfl⟩
  | negSucc m=>cases h
 | _=>cases h
theorem zMV {base:Nat}{w0:World}(hr:Rel base w0 g s w)(hti:TIR E P t (E.types t))(hel:∀e,((E.types t).d=.slice e∨∃n,(E.types t).d=.array n e)→TIR E P e (E.types e))
  {x i:AV} {x' i':Value} (h:zCP E t (some x) (some i) s=.val v s') (hx:VR g x x') (hi:VR g i i') (hn:top x≤s.n) :
  s'=s∧zBM P g s.n w (Instr.indexAt t x' i') v:=by
 unfold zCP at h
 dsimp only at h
 cases hin:asNat i with
 | none=>rw[hin] at h;cases h
 | some n=>
  rw[hin] at h
  obtain⟨k,rfl⟩:=zGE hin hi
  obtain⟨d,hu,hdr,_⟩:=hti.underlying w
  simp only at h
  split at h
  ·rename_i e hd
   rw[hd] at hdr
   have:=hdr.slice_inv;subst this
   have hsz:=(hel e (.inl hd)).sizeOf w
   cases hx with
   | sl tp xs own b off cap es vs hl hc hv ht hcap hown hnil=>
    simp only[ixSl,zE6,zAH] at h
    split at h
    ·rename_i x hx
     cases hb:Nat.beq (cellsOf x).length (E.types e).size with
     | false=>rw[hb] at h;cases h
     | true=>
      rw[hb] at h
      cases h
      have hes:es=(E.types e).size:=by rw[← hl n x hx];exact Nat.eq_of_beq_eq_true hb
      have hlt:n<xs.length:=(List.getElem?_eq_some_iff.1 hx).1
      refine⟨rfl,.pointer (some ⟨b,off+n*es,none⟩),?_,?_,hn⟩
      ·have h0:(0:Int)≤(n:Int)∧(n:Int)<(xs.length:Int):=by omega
       simp[Instr.indexAt,asIntOf,hu,hsz,h0,hes,zD3]
       intro hh;omega
      ·exact .rptr tp _ b _ (fun j=>vs n j) (fun j c hj=>hc n x j c hx hj) (fun j c hj=>hv n x j c hx hj)
        (by rw[zCC];exact zCV ht hx)
    ·cases h
   | slnil tp own=>
    simp[ixSl,zE6] at h
   | slany tp own a hnil=>
    simp[ixSl,zE6] at h
   | osl kk off len cap hlen hb hrl=>
    simp only[zRM] at h
    split at h
    ·rename_i es xs sl hk
     cases hb2:(Nat.blt n len&&Nat.beq (E.types e).size es) with
     | false=>rw[hb2] at h;cases h
     | true=>
      rw[hb2] at h
      cases h
      simp at hb2
      obtain⟨h1,h2,h3,h4,h5,h6⟩:=hr.row hk
      refine⟨rfl,.pointer (some ⟨g.mu kk,(off+n)*g.es kk+0,none⟩),?_,.eptr kk (off+n) 0,hn⟩
      have h0:(0:Int)≤(n:Int)∧(n:Int)<(len:Int):=by omega
      have he:g.es kk=(E.types e).size:=by rw[h2,hb2.2]
      simp[Instr.indexAt,asIntOf,hu,hsz,h0,he,zD3,Nat.add_mul]
      intro hh;omega
    ·cases h
   | oslE kk off b o hrl=>
    simp only[zRM] at h
    split at h
    ·rw[cond_eq_ite] at h
     split at h
     ·rename_i hq;simp at hq
     ·cases h
    ·cases h
   | _=>cases h
  ·rename_i m e hd
   rw[hd] at hdr
   have:=hdr.array_inv;subst this
   have hsz:=(hel e (.inr ⟨m,hd⟩)).sizeOf w
   simp only[ixArr] at h
   cases hb2:(Nat.blt n m&&Nat.blt 1 m) with
   | false=>rw[hb2] at h;cases h
   | true=>
    rw[hb2,cond_true] at h
    simp at hb2
    have h0:(0:Int)≤(n:Int)∧(n:Int)<(m:Int):=by omega
    cases hx with
    | ptr kk o=>
     cases h
     refine⟨rfl,_,?_,.ptr kk _,hn⟩
     simp[Instr.indexAt,asIntOf,hu,hsz,h0,Instr.sureAddr,zD3]
     intro hh;omega
    | rptr tp cs b o vs hc hv ht=>
     simp only[zAH] at h
     cases hle:Nat.ble (n*(E.types e).size) cs.length with
     | false=>rw[hle] at h;cases h
     | true=>
      rw[hle,cond_true] at h
      cases h
      refine⟨rfl,.pointer (some ⟨b,o+n*(E.types e).size,none⟩),?_,?_,hn⟩
      ·simp[Instr.indexAt,asIntOf,hu,hsz,h0,Instr.sureAddr,zD3]
       intro hh;omega
      ·rw[zCZ]
       refine .rptr tp _ b _ (fun i=>vs (n*(E.types e).size+i)) (fun i c hi=>?_) (fun i c hi=>?_) ?_
       ·rw[List.getElem?_drop] at hi;rw[← hc _ _ hi];congr 1;omega
       ·rw[List.getElem?_drop] at hi;exact hv _ _ hi
       ·exact zAP.2 fun y hy=>zAP.1 ht y (List.mem_of_mem_drop hy)
    | _=>cases h
  ·cases h
end
theorem zFX (s:ByteArray):s.toList=s.data.toList:=by
 have key:∀(n i:Nat) (r:List UInt8),i+n=s.size→ByteArray.toList.loop s i r=r.reverse++s.data.toList.drop i:=by
  intro n
  induction n with
  | zero=>
   intro i r h
   rw[ByteArray.toList.loop]
   have:¬ i<s.size:=by omega
   rw[if_neg this]
   have hl:s.data.toList.length=s.size:=by simp
   rw[List.drop_eq_nil_of_le (by omega),List.append_nil]
  | succ n ih=>
   intro i r h
   rw[ByteArray.toList.loop]
   have hi:i<s.size:=by omega
   rw[if_pos hi,ih (i+1) _ (by omega)]
   have hl:i<s.data.toList.length:=by simp;exact hi
   rw[List.drop_eq_getElem_cons hl]
   simp
   have:s.get! i=s.data[i]:=by
    unfold ByteArray.get!
    exact getElem!_pos s.data i hi
   exact this
 have:=key s.size 0 [] (by omega)
 simpa[ByteArray.toList] using this
section
variable {E:Env}{P:Program}{t:TypeId}{g:Gh}{s s':Sto}{w:World}{v:AV}
theorem eqOp_val {op:BinOp}{b:Bool}(h:eqOp op b=some v):(op=.eql∧v=.bool b)∨(op=.neq∧v=.bool (!b)):=by
 cases op<;>simp[eqOp] at h<;>simp[h]
theorem zBM.mk {n:Nat}{sem:Sem Value}{v:AV}{v':Value}(h:sem.run P w=.ok v' w)(hv:VR g v v')(ht:top v=0):zBM P g n w sem v:=
 ⟨v',h,hv,by rw[ht];exact Nat.zero_le _⟩
theorem zWX {op:BinOp}{k:IntKind}{a b:Int}(h:arith op k a b=some v)(hs:isShift op=false) :
  zBM P g s.n w (binOp op t (.int k a) (.int k b)) v:=by
 cases op<;>simp only[isShift,reduceCtorEq] at hs<;>simp only[arith,wr_eq,zJC,zHH,Option.some.injEq,reduceCtorEq] at h
 case add=>subst h;exact .mk (by simp[binOp,Op.intArith]) (.int _ _) rfl
 case sub=>subst h;exact .mk (by simp[binOp,Op.intArith]) (.int _ _) rfl
 case mul=>subst h;exact .mk (by simp[binOp,Op.intArith]) (.int _ _) rfl
 case quo=>
  by_cases hb:b=0
  ·simp[hb] at h
  ·simp[hb] at h;subst h;exact .mk (by simp[binOp,Op.intDiv,hb]) (.int _ _) rfl
 case rem=>
  by_cases hb:b=0
  ·simp[hb] at h
  ·simp[hb] at h;subst h;exact .mk (by simp[binOp,Op.intDiv,hb]) (.int _ _) rfl
 case and=>subst h;exact .mk (by simp[binOp,Op.intBits]) (.int _ _) rfl
 case or=>subst h;exact .mk (by simp[binOp,Op.intBits]) (.int _ _) rfl
 case xor=>subst h;exact .mk (by simp[binOp,Op.intBits]) (.int _ _) rfl
 case eql=>subst h;exact .mk (by simp[binOp,Op.intCmp];rfl) (.bool _) rfl
 case neq=>subst h;exact .mk (by simp[binOp,Op.intCmp];rfl) (.bool _) rfl
 case lss=>subst h;exact .mk (by simp[binOp,Op.intCmp]) (.bool _) rfl
 case leq=>subst h;exact .mk (by simp[binOp,Op.intCmp,← decide_not,Int.not_lt]) (.bool _) rfl
 case gtr=>subst h;exact .mk (by simp[binOp,Op.intCmp]) (.bool _) rfl
 case geq=>subst h;exact .mk (by simp[binOp,Op.intCmp,← decide_not,Int.not_lt]) (.bool _) rfl
theorem zQ3 {op:BinOp}{k k':IntKind}{a b:Int}(h:zWJ op k a b=some v)(hs:isShift op=true) :
  zBM P g s.n w (binOp op t (.int k a) (.int k' b)) v:=by
 unfold zWJ at h
 rw[zHH] at h
 by_cases hb:b<0
 ·simp[hb] at h
 ·simp only[hb,decide_false,cond_false] at h
  cases op<;>simp only[isShift,Bool.false_eq_true] at hs<;>simp only[Option.some.injEq,reduceCtorEq] at h
  ·subst h;exact .mk (by simp[binOp,Op.shift,hb]) (.int _ _) rfl
  ·subst h;exact .mk (by simp[binOp,Op.shift,hb]) (.int _ _) rfl
theorem bytesLess_asymm:∀(a b:List UInt8),(Op.bytesLess a b||decide (a=b))=!Op.bytesLess b a:=by
 intro a
 induction a with
 | nil=>intro b;cases b<;>simp[Op.bytesLess]
 | cons x a ih=>
  intro b
  cases b with
  | nil=>simp[Op.bytesLess]
  | cons y b=>
   simp only[Op.bytesLess]
   have:=ih b
   by_cases h1:x<y
   ·have h2:¬ y<x:=by simp[UInt8.lt_iff_toNat_lt] at h1 ⊢;omega
    have h3:y≠x:=by intro e;subst e;simp[UInt8.lt_iff_toNat_lt] at h1
    simp[h1,h2,h3]
   ·by_cases h2:y<x
    ·have h3:x≠y:=by intro e;subst e;simp[UInt8.lt_iff_toNat_lt] at h2
     simp[h1,h2,h3]
    ·have h3:x=y:=by
      apply UInt8.toNat_inj.1
      simp[UInt8.lt_iff_toNat_lt] at h1 h2;omega
     subst h3
     simp[h1] at this ⊢
     exact this
theorem zWW {op:BinOp}{a b:ByteArray}(h:zO3 op a.data.toList b.data.toList=some v) :
  zBM P g s.n w (binOp op t (.string a) (.string b)) v:=by
 have e:(a.toList == b.toList)=decide (a.data.toList=b.data.toList):=by rw[zFX,zFX,Bool.eq_iff_iff];simp
 have hasym:=bytesLess_asymm a.data.toList b.data.toList
 have hasym2:=bytesLess_asymm b.data.toList a.data.toList
 have hsymm:decide (b.data.toList=a.data.toList)=decide (a.data.toList=b.data.toList):=by rw[decide_eq_decide];exact eq_comm
 cases op<;>simp only[zO3,zD9,zGD,zAH,Option.some.injEq,reduceCtorEq] at h
 case add=>
  cases hb:Nat.ble (a.data.toList.length+b.data.toList.length) 140737488355328 with
  | false=>rw[hb] at h;cases h
  | true=>
   rw[hb,cond_true] at h
   cases h
   have hle:=Nat.le_of_ble_eq_true hb
   simp only[Array.length_toList,ByteArray.size_data] at hle
   have hno:¬ ((a.size+b.size:Nat):Int)>IntKind.i64.max:=by simp[IntKind.max,IntKind.signed,IntKind.bits];omega
   refine⟨.string (a++b),?_,?_,Nat.zero_le _⟩
   ·simp only[binOp,Op.stringOp]
    rw[if_neg hno];rfl
   ·have:(a++b).data.toList=a.data.toList++b.data.toList:=by simp
    rw[← this];exact .str _
 case eql=>subst h;exact .mk (by simp[binOp,Op.stringOp,e]) (.bool _) rfl
 case neq=>subst h;exact .mk (by simp[binOp,Op.stringOp,e]) (.bool _) rfl
 case lss=>subst h;exact .mk (by simp[binOp,Op.stringOp,zFX]) (.bool _) rfl
 case leq=>subst h;exact .mk (by simp only[binOp,Op.stringOp,e];simp only[zFX,hasym];rfl) (.bool _) rfl
 case gtr=>subst h;exact .mk (by simp only[binOp,Op.stringOp,e];simp only[zFX,hasym,Bool.not_not];rfl) (.bool _) rfl
 case geq=>subst h;exact .mk (by simp[binOp,Op.stringOp,zFX]) (.bool _) rfl
theorem zIE {op:BinOp}{x y:Operand}{a b:Value}(h1:a=.nilIface→b=.nilIface→(constO x||constO y)=true)(h2:∀cs ds,a=.agg cs→b=.agg ds→False) :
  (eqGuard op t x y a b).run P w=.ok () w:=by
 unfold eqGuard
 cases hop:(!(op matches .eql|.neq):Bool) with
 | true=>
  cases op<;>simp at hop<;>rfl
 | false=>
  have hc:∀z:Operand,(z matches .const _:Bool)=constO z:=by intro z;cases z<;>rfl
  cases a<;>cases b<;>first
   | (exact(h2 _ _ rfl rfl).elim)
   | (cases op<;>simp at hop<;>rfl)
   | skip
  have:=h1 rfl rfl
  cases op<;>simp at hop<;>(cases x<;>cases y<;>simp[constO] at this<;>rfl)
theorem mkBool {n:Nat}{sem:Sem Bool}{op:BinOp}{b:Bool}{v:AV}(hs:sem.run P w=.ok b w)(h:eqOp op b=some v){x y:Value}
  (he:binOp .eql t x y=do pure (.bool (← sem))) (hne:binOp .neq t x y=do pure (.bool (!(← sem)))):zBM P g n w (binOp op t x y) v:=by
 rcases eqOp_val h with⟨rfl,rfl⟩|⟨rfl,rfl⟩
 ·exact .mk (by rw[he];simp[hs]) (.bool _) rfl
 ·exact .mk (by rw[hne];simp[hs]) (.bool _) rfl
end
section
variable {E:Env}{P:Program}{t:TypeId}{g:Gh}{base:Nat}{w0:World}{s s':Sto}{w:World}{v:AV}
theorem zSC (a b:Bool):(bif a then b else !b)=(a == b):=by cases a<;>cases b<;>rfl
theorem zDH {n:Nat}{op:BinOp}{b:Bool}{v:AV}{x y:Value}(hs:(Op.equal t x y).run P w=.ok b w)(h:eqOp op b=some v)
  (he:binOp .eql t x y=do pure (.bool (← Op.equal t x y))) (hne:binOp .neq t x y=do pure (.bool (!(← Op.equal t x y)))):zBM P g n w (binOp op t x y) v:=
 mkBool hs h he hne
theorem zY0 (d:Nat){e:TypeId}(hu:P.underlying t=some (.slice e))(a b c f:Nat):(Op.equalIn (d+1) t (.slice none a b) (.slice none c f)).run P w=.ok true w:=by
 simp[Op.equalIn,run_underlying hu]
theorem zMA (d:Nat){e:TypeId}(hu:P.underlying t=some (.slice e))(p:Addr)(a b c f:Nat):(Op.equalIn (d+1) t (.slice (some p) a b) (.slice none c f)).run P w=.ok false w:=by
 simp[Op.equalIn,run_underlying hu]
theorem ei_func1 (d:Nat){ps rs:Array TypeId}{vd:Bool}(hu:P.underlying t=some (.func ps rs vd)):(Op.equalIn (d+1) t .nilFunc .nilFunc).run P w=.ok true w:=by
 simp[Op.equalIn,run_underlying hu]
theorem ei_func2 (d:Nat){ps rs:Array TypeId}{vd:Bool}(hu:P.underlying t=some (.func ps rs vd))(f:Fn)(a b:Array Value):(Op.equalIn (d+1) t .nilFunc (.func f a b)).run P w=.ok false w:=by
 simp[Op.equalIn,run_underlying hu]
theorem ei_func3 (d:Nat){ps rs:Array TypeId}{vd:Bool}(hu:P.underlying t=some (.func ps rs vd))(f:Fn)(a b:Array Value):(Op.equalIn (d+1) t (.func f a b) .nilFunc).run P w=.ok false w:=by
 simp[Op.equalIn,run_underlying hu]
theorem zY5 (d:Nat){ms:Array (String×TypeId)}(hu:P.underlying t=some (.interface ms)):(Op.equalIn (d+1) t .nilIface .nilIface).run P w=.ok true w:=by
 simp[Op.equalIn,run_underlying hu]
theorem zY4 (d:Nat){ms:Array (String×TypeId)}(hu:P.underlying t=some (.interface ms))(u:TypeId)(x:Value):(Op.equalIn (d+1) t .nilIface (.iface u x)).run P w=.ok false w:=by
 simp[Op.equalIn,run_underlying hu]
theorem zY3 (d:Nat){ms:Array (String×TypeId)}(hu:P.underlying t=some (.interface ms))(u:TypeId)(x:Value):(Op.equalIn (d+1) t (.iface u x) .nilIface).run P w=.ok false w:=by
 simp[Op.equalIn,run_underlying hu]
theorem zY2 (d:Nat){ms:Array (String×TypeId)}(hu:P.underlying t=some (.interface ms))(u u':TypeId)(x x':Value)(h:u≠u'):(Op.equalIn (d+1) t (.iface u x) (.iface u' x')).run P w=.ok false w:=by
 simp[Op.equalIn,run_underlying hu,h]
theorem zY1 (d:Nat){e:TypeId}(hu:P.underlying t=some (.pointer e))(b:Option Addr):(Op.equalIn (d+1) t (.pointer none) (.pointer b)).run P w=.ok b.isNone w:=by
 simp[Op.equalIn,run_underlying hu]
theorem ei_ptr2 (d:Nat){e:TypeId}(hu:P.underlying t=some (.pointer e))(a:Addr):(Op.equalIn (d+1) t (.pointer (some a)) (.pointer none)).run P w=.ok false w:=by
 simp[Op.equalIn,run_underlying hu]
theorem ei_ptr3 (d:Nat){e:TypeId}(hu:P.underlying t=some (.pointer e))(a b:Addr){n:Nat}(hn:n≠0)(hs:(sizeOf e).run P w=.ok n w) :
  (Op.equalIn (d+1) t (.pointer (some a)) (.pointer (some b))).run P w=(sameAddr a b).run P w:=by
 simp[Op.equalIn,run_underlying hu,hs,hn]
theorem zU0 {e:TypeId}{op:BinOp}{x y:AV}{x' y':Value}(hu:P.underlying t=some (.slice e))(h:zND op x y=some v)(hx:VR g x x')(hy:VR g y y') :
  zBM P g s.n w (binOp op t x' y') v:=by
 unfold zND at h
 split at h
 ·cases hy with
  | sl _ _ _ b off cap es vs hl hc hv ht hcap hown hnil=>exact absurd rfl hnil
  | slany _ _ _ hnil=>exact absurd rfl hnil
  | slnil=>
   split at h
   ·cases hx with
    | sl _ _ _ b off cap es vs hl hc hv ht hcap hown hnil=>exact absurd rfl hnil
    | slnil=>exact zDH (b:=true) (zY0 9999 hu _ _ _ _) h rfl rfl
    | slany _ _ _ hnil=>exact absurd rfl hnil
   ·cases hx with
    | sl t' xs own b off cap es vs hl hc hv ht hcap hown hnil=>exact zDH (b:=false) (zMA 9999 hu _ _ _ _ _) h rfl rfl
   ·cases hx<;>exact zDH (b:=false) (zMA 9999 hu _ _ _ _ _) h rfl rfl
   ·cases h
 ·cases h
theorem zVH {ps rs:Array TypeId}{vd:Bool}{op:BinOp}{x y:AV}{x' y':Value}(hu:P.underlying t=some (.func ps rs vd))(h:zNP op x y=some v)(hx:VR g x x')(hy:VR g y y') :
  zBM P g s.n w (binOp op t x' y') v:=by
 unfold zNP at h
 split at h
 ·cases hx
  split at h
  ·cases hy
   exact zDH (b:=true) (ei_func1 9999 hu) h rfl rfl
  ·cases hy
   exact zDH (b:=false) (ei_func2 9999 hu _ _ _) h rfl rfl
  ·cases h
 ·split at h
  ·cases hy
   cases hx
   exact zDH (b:=false) (ei_func3 9999 hu _ _ _) h rfl rfl
  ·cases h
 ·cases h
theorem zR0 {ms:Array (String×TypeId)}{op:BinOp}{c:Bool}{x y:AV}{x' y':Value}(hu:P.underlying t=some (.interface ms))(h:zL8 op c x y=some v)(hx:VR g x x')(hy:VR g y y') :
  zBM P g s.n w (binOp op t x' y') v∧(x'=.nilIface→y'=.nilIface→c=true):=by
 unfold zL8 at h
 split at h
 ·cases hx
  split at h
  ·cases hy
   cases c with
   | false=>cases h
   | true=>exact⟨zDH (b:=true) (zY5 9999 hu) h rfl rfl,fun _ _=>rfl⟩
  ·cases hy
   exact⟨zDH (b:=false) (zY4 9999 hu _ _) h rfl rfl,fun _ hh=>by cases hh⟩
  ·cases h
 ·split at h
  ·cases hy
   cases hx
   exact⟨zDH (b:=false) (zY3 9999 hu _ _) h rfl rfl,fun hh=>by cases hh⟩
  ·cases hy
   cases hx
   rw[cond_eq_ite] at h
   split at h
   ·cases h
   ·rename_i hn
    exact⟨zDH (b:=false) (zY2 9999 hu _ _ _ _ (fun e=>hn (by rw[e];simp))) h rfl rfl,fun hh=>by cases hh⟩
  ·cases h
 ·cases h
theorem Rel.block {ty:TypeId}(h:Rel base w0 g s w){k:Nat}{cs:List AV}(hk:s.get k=.cells ty cs) :
  k<s.n∧∃arr,w.heap[g.mu k]?=some (.cells arr ty (0,0)):=by
 have hlt:=zEQ hk (by simp)
 have hb:=h.box k hlt
 rw[hk] at hb
 obtain⟨arr,h1,_⟩:=hb
 exact⟨hlt,arr,h1⟩
theorem zLY {b:Box}(h:isCells b=true):∃ty cs,b=.cells ty cs:=by
 cases b with
 | cells ty cs=>exact⟨ty,cs,rfl⟩
 | _=>cases h
theorem zKT {w:World}{b:Nat}{arr:Array Value}{ty:TypeId}{fr:Nat×Nat}(h:w.heap[b]?=some (.cells arr ty fr)):w.shape? b=some (ty,arr.size):=by
 simp[World.shape?,h]
theorem zYX (hr:Rel base w0 g s w){e:TypeId}{op:BinOp}{x y:AV}{x' y':Value}(hu:P.underlying t=some (.pointer e)){pos:Bool}(hpos:pos=true→∃n,0<n∧(sizeOf e).run P w=.ok n w)
  (h:zVG op s pos x y=some v) (hx:VR g x x') (hy:VR g y y'):zBM P g s.n w (binOp op t x' y') v:=by
 have no1:∀(a:Addr),eqOp op false=some v→zBM P g s.n w (binOp op t (.pointer none) (.pointer (some a))) v:=
  fun a hb=>zDH (b:=false) (zY1 9999 hu _) hb rfl rfl
 have no2:∀(a:Addr),eqOp op false=some v→zBM P g s.n w (binOp op t (.pointer (some a)) (.pointer none)) v:=
  fun a hb=>zDH (b:=false) (ei_ptr2 9999 hu _) hb rfl rfl
 unfold zVG at h
 split at h
 ·cases hx
  split at h
  ·cases hy;exact zDH (b:=true) (zY1 9999 hu _) h rfl rfl
  ·cases hy;exact no1 _ h
  ·cases hy;exact no1 _ h
  ·cases hy;exact no1 _ h
  ·cases h
 ·rename_i k o
  cases hx
  split at h
  ·cases hy;exact no2 _ h
  ·rename_i k' o'
   cases hy
   cases hc:(pos&&(isCells (s.get k)&&isCells (s.get k'))) with
   | false=>rw[hc] at h;cases h
   | true=>
    rw[hc,cond_true] at h
    simp only[Bool.and_eq_true] at hc
    obtain⟨hp,hk1,hk2⟩:=hc
    obtain⟨n,hn0,hsz⟩:=hpos hp
    obtain⟨t1,cs1,h1⟩:=zLY hk1
    obtain⟨t2,cs2,h2⟩:=zLY hk2
    obtain⟨hl1,a1,hb1⟩:=hr.block h1
    obtain⟨hl2,a2,hb2⟩:=hr.block h2
    have hsame:(sameAddr ⟨g.mu k,o,none⟩ ⟨g.mu k',o',none⟩).run P w=.ok (Nat.beq k k'&&Nat.beq o o') w:=by
     by_cases hkk:k=k'
     ·subst hkk
      by_cases ho:o=o'
      ·subst ho;simp[sameAddr]
      ·have ho':Nat.beq o o'=false:=by rw[Bool.eq_false_iff];intro e;exact ho (Nat.eq_of_beq_eq_true e)
       simp[sameAddr,ho,ho']
     ·have hkk':Nat.beq k k'=false:=by rw[Bool.eq_false_iff];intro e;exact hkk (Nat.eq_of_beq_eq_true e)
      have hmu:g.mu k≠g.mu k':=fun e=>hkk (hr.inj k k' hl1 hl2 (by rw[h1];rfl) (by rw[h2];rfl) e)
      simp[sameAddr,hmu,hkk',zL2 hb1,zL2 hb2,noView,viewAt,zKT hb1,zKT hb2,mayBeOne,stringish]
    exact zDH ((ei_ptr3 9999 hu _ _ (by omega) hsz).trans hsame) h rfl rfl
  ·cases h
 ·split at h
  ·cases hy
   cases hx
   exact no2 _ h
  ·cases h
 ·split at h
  ·cases hy
   cases hx
   exact no2 _ h
  ·cases h
 ·cases h
end
section
variable {E:Env}{P:Program}{t:TypeId}{g:Gh}{base:Nat}{w0:World}{s s':Sto}{w:World}{v:AV}
theorem TDR.bool_inv {d:TypeDesc}(h:TDR .bool d):d=.bool:=by
 cases d<;>simp only[TDR] at h<;>first|exact h.elim|rfl
theorem TDR.func_inv {d:TypeDesc}(h:TDR .func d):∃a b c,d=.func a b c:=by
 cases d<;>simp only[TDR] at h<;>first|exact h.elim|exact⟨_,_,_,rfl⟩
theorem TDR.iface_inv {d:TypeDesc}(h:TDR .iface d):∃ms,d=.interface ms:=by
 cases d<;>simp only[TDR] at h<;>first|exact h.elim|exact⟨_,rfl⟩
theorem ei_bool (d:Nat)(hu:P.underlying t=some .bool)(a b:Bool):(Op.equalIn (d+1) t (.bool a) (.bool b)).run P w=.ok (a == b) w:=by
 simp[Op.equalIn,run_underlying hu]
theorem eqTy_sim (hE:TysOk E P)(hr:Rel base w0 g s w)(ht:(E.types t).ok=true){op:BinOp}{c:Bool}{x y:AV}{x' y':Value}
  (h:eqTy E op (E.types t).d c x y s=some v) (hx:VR g x x') (hy:VR g y y'):zBM P g s.n w (binOp op t x' y') v∧(x'=.nilIface→y'=.nilIface→c=true)∧∀cs ds,x'=.agg cs→y'=.agg ds→False:=by
 obtain⟨d,hu,hdr,_⟩:=(hE.ti t ht).und
 unfold eqTy at h
 split at h
 ·rename_i hd
  rw[hd] at hdr
  have:=hdr.bool_inv;subst this
  split at h
  ·cases hx
   split at h
   ·cases hy
    rw[zSC] at h
    exact⟨zDH (ei_bool 9999 hu _ _) h rfl rfl,(fun hh=>by cases hh),(fun _ _ hh=>by cases hh)⟩
   ·cases h
  ·cases h
 ·rename_i hd
  rw[hd] at hdr
  obtain⟨ms,rfl⟩:=hdr.iface_inv
  obtain⟨h1,h2⟩:=zR0 (s:=s) (w:=w) hu h hx hy
  refine⟨h1,h2,fun cs ds ha hb=>?_⟩
  subst ha
  cases hx
  simp[zL8] at h
 ·rename_i e hd
  rw[hd] at hdr
  have:=hdr.ptr_inv;subst this
  have hpos:(bif (E.types e).ok then Nat.blt 0 (E.types e).size else false)=true→∃n,0<n∧(sizeOf e).run P w=.ok n w:=fun hh=>by
   cases ho:(E.types e).ok with
   | false=>rw[ho] at hh;cases hh
   | true=>rw[ho,cond_true] at hh;exact⟨_,by simpa using hh,(hE.ti e ho).sizeOf w⟩
  refine⟨zYX hr hu hpos h hx hy,fun ha hb=>?_,fun cs ds ha hb=>?_⟩
  ·subst ha;cases hx;simp[zVG] at h
  ·subst ha;cases hx;simp[zVG] at h
 ·rename_i hd
  rw[hd] at hdr
  obtain⟨a,b,c',rfl⟩:=hdr.func_inv
  refine⟨zVH hu h hx hy,fun ha hb=>?_,fun cs ds ha hb=>?_⟩
  ·subst ha;cases hx;simp[zNP] at h
  ·subst ha;cases hx;simp[zNP] at h
 ·rename_i e hd
  rw[hd] at hdr
  have:=hdr.slice_inv;subst this
  refine⟨zU0 hu h hx hy,fun ha hb=>?_,fun cs ds ha hb=>?_⟩
  ·subst hb;cases hy;simp[zND] at h
  ·subst hb;cases hy;simp[zND] at h
 ·cases h
theorem binA_sim (hE:TysOk E P)(hr:Rel base w0 g s w)(ht:(E.types t).ok=true){op:BinOp}{ox oy:Operand}{x y:AV}{x' y':Value}
  (h:binA E op t (constO ox||constO oy) x y s=some v) (hx:VR g x x') (hy:VR g y y'):zBM P g s.n w (do eqGuard op t ox oy x' y';binOp op t x' y') v:=by
 have fin:∀{sem:Sem Value},zBM P g s.n w sem v→(eqGuard op t ox oy x' y').run P w=.ok () w→zBM P g s.n w (do eqGuard op t ox oy x' y';sem) v:=by
  intro sem hp hg
  obtain⟨v',h1,h2⟩:=hp
  exact⟨v',by simp[hg,h1],h2⟩
 unfold binA at h
 split at h
 ·cases hx
  split at h
  ·cases hy
   refine fin ?_ (zIE (fun hh=>by cases hh) (fun _ _ hh=>by cases hh))
   cases hs:isShift op with
   | true=>rw[hs] at h;exact zQ3 h hs
   | false=>
    rw[hs,cond_false,zPS,cond_eq_ite] at h
    split at h
    ·rename_i hk
     simp at hk
     subst hk
     exact zWX h hs
    ·cases h
  ·cases h
 ·cases hx
  split at h
  ·cases hy
   exact fin (zWW h) (zIE (fun hh=>by cases hh) (fun _ _ hh=>by cases hh))
  ·cases h
 ·obtain⟨h1,h2,h3⟩:=eqTy_sim hE hr ht h hx hy
  exact fin h1 (zIE h2 h3)
theorem oBin_sim (hE:TysOk E P)(hr:Rel base w0 g s w)(ht:(E.types t).ok=true){op:BinOp}{ox oy:Operand}{x y:AV}{x' y':Value}
  (h:oBin E op t (constO ox||constO oy) (some x) (some y) s=.val v s') (hx:VR g x x') (hy:VR g y y'):s'=s∧zBM P g s.n w (do eqGuard op t ox oy x' y';binOp op t x' y') v:=by
 obtain⟨h1,h2⟩:=zHE h
 exact⟨h2,binA_sim hE hr ht h1 hx hy⟩
theorem oUn_sim {op:UnOp}{x:AV}{x':Value}(h:oUn op (some x) s=.val v s')(hx:VR g x x'):s'=s∧zBM P g s.n w (Op.unary op x') v:=by
 cases hx with
 | bool b=>cases op<;>simp[oUn] at h;obtain⟨rfl,rfl⟩:=h;exact⟨rfl,.mk (by simp[Op.unary]) (.bool _) rfl⟩
 | int k n=>
  cases op<;>simp only[oUn,Nx.val.injEq,reduceCtorEq] at h
  ·obtain⟨rfl,rfl⟩:=h
   exact⟨rfl,.mk (by simp[Op.unary,Op.intArith,wr_eq]) (.int _ _) rfl⟩
  ·obtain⟨h1,rfl⟩:=zHE h
   simp[arith] at h1
   subst h1
   refine⟨rfl,.mk (v':=.int k _) ?_ (.int _ _) rfl⟩
   simp[Op.unary,Op.intBits,cond_eq_ite]
 | _=>simp[oUn] at h
theorem zPJ {x:AV}{x':Value}{i:Nat}(h:zEA (some x) i s=.val v s')(hx:VR g x x')(hn:top x≤s.n):s'=s∧zBM P g s.n w (Instr.extract x' i) v:=by
 cases hx with
 | tuple cs vs l hh=>
  obtain⟨h1,rfl⟩:=zHE h
  rw[zE6] at h1
  have hlt:i<vs.size:=by rw[← l];exact(List.getElem?_eq_some_iff.1 h1).1
  refine⟨rfl,vs[i],by simp[Instr.extract,Array.getElem?_eq_getElem hlt],hh i v _ h1 (Array.getElem?_eq_getElem hlt),?_⟩
  rw[zCU] at hn;exact zCV hn h1
 | _=>simp[zEA] at h
end
section
variable {E:Env}{P:Program}{t:TypeId}{g:Gh}{base:Nat}{w0:World}{s s':Sto}{w:World}{v:AV}
theorem oNil_sim {x:AV}{x':Value}(h:oNil (some x) s=.val v s')(hx:VR g x x'):s'=s∧v=x∧
  (∀a,x'≠.pointer none∧x'≠.nilIface∧x'≠.nilFunc∧∀n c,x'≠.func (.method n) a c):=by
 unfold oNil at h
 split at h<;>rename_i he<;>first
  | (cases h;cases he;refine⟨rfl,rfl,fun a=>?_⟩;cases hx<;>simp[zON])
  | cases h
theorem zUU (hE:TysOk E P)(ht:(E.types t).ok=true){x:AV}{x':Value}(h:zI2 (E.types t).d t (some x) s=.val v s')(hx:VR g x x')(hn:top x≤s.n) :
  s'=s∧zBM P g s.n w (Instr.makeInterface t x') v:=by
 obtain⟨d,hu,hdr,_⟩:=(hE.ti t ht).und
 unfold zI2 at h
 simp only at h
 have key:(∀ms,d≠.interface ms)→zBM P g s.n w (Instr.makeInterface t x') (.iface t x):=by
  intro hd
  refine⟨.iface t x',?_,.iface t x x' hx,hn⟩
  cases d<;>first|(exact absurd rfl (hd _))|simp[Instr.makeInterface,run_underlying hu]
 split at h
 ·cases h
 ·cases h
 ·rename_i h1 h2
  cases h
  refine⟨rfl,key fun ms e=>?_⟩
  subst e
  cases hd:(E.types t).d<;>rw[hd] at hdr h1 h2<;>simp[TDR] at hdr
  ·exact h1 rfl
  ·exact h2 rfl
theorem zII {fr:Fr}{tmps:Array Value}(h:VRs g fr.tmps tmps):∀{l:List Operand} {xs:List AV},zBR fr l=some xs→VRs g xs (l.map (zAE tmps)).toArray:=by
 intro l
 induction l with
 | nil=>intro xs he;cases he;exact⟨rfl,fun i x v hx _=>by simp at hx⟩
 | cons o r ih=>
  intro xs he
  simp only[zBR] at he
  split at he
  ·rename_i x hx
   split at he
   ·rename_i ys hy
    cases he
    have h1:=zA9 h hx
    have h2:=ih hy
    refine⟨by have:=h2.1;simp at this ⊢;exact this,fun i y u hi hu=>?_⟩
    cases i with
    | zero=>simp at hi hu;subst hi;subst hu;exact h1
    | succ i=>simp at hi hu;exact h2.2 i y u hi (by simpa using hu)
   ·cases he
  ·cases he
theorem zH0 {fr:Fr}{n:Nat}(h:tops fr.tmps≤n):∀{l:List Operand} {xs:List AV},zBR fr l=some xs→tops xs≤n:=by
 intro l
 induction l with
 | nil=>intro xs he;cases he;exact Nat.zero_le _
 | cons o r ih=>
  intro xs he
  simp only[zBR] at he
  split at he
  ·rename_i x hx
   split at he
   ·rename_i ys hy
    cases he
    rw[zAU]
    exact Nat.max_le.2 ⟨zCX h hx,ih hy⟩
   ·cases he
  ·cases he
theorem zOD {fr:Fr}{tmps:Array Value}(hf:VRs g fr.tmps tmps)(hn:tops fr.tmps≤s.n){fn:Fn}{a b:List Operand}(h:zCN fr fn a b s=.val v s') :
  s'=s∧zBM P g s.n w (Instr.makeFunc fn (a.map (zAE tmps)).toArray (b.map (zAE tmps)).toArray) v:=by
 unfold zCN at h
 split at h
 ·rename_i f
  split at h
  ·rename_i xs hx
   split at h
   ·rename_i ys hy
    cases h
    have h1:=zII hf hx
    have h2:=zII hf hy
    have h3:=zH0 hn hx
    have h4:=zH0 hn hy
    exact⟨rfl,_,rfl,.func _ (.func f) xs ys _ _ (fun l e=>by cases e) h1.1 h1.2 h2.1 h2.2 (Nat.le_max_left _ _) (Nat.le_max_right _ _),Nat.max_le.2 ⟨h3,h4⟩⟩
   ·cases h
  ·cases h
 ·cases h
theorem zUT (hE:TysOk E P)(ht:(E.types t).ok=true){x i:AV}{x' i':Value}(h:zHD E t (some x) (some i) s=.val v s')(hx:VR g x x')(hi:VR g i i')(hn:top x≤s.n) :
  s'=s∧zBM P g s.n w (Instr.index t x' i') v:=by
 obtain⟨d,hu,hdr,_⟩:=(hE.ti t ht).und
 have hsub:=(hE.ti t ht).sub
 unfold zHD at h
 dsimp only at h
 cases hin:asNat i with
 | none=>rw[hin] at h;cases h
 | some n=>
  rw[hin] at h
  obtain⟨k,rfl⟩:=zGE hin hi
  dsimp only at h
  split at h
  ·rename_i hd
   rw[hd] at hdr
   have:=hdr.str_inv;subst this
   split at h
   ·cases hx with
    | str b=>
     simp only[zDC] at h
     split at h
     ·rename_i c hc
      cases h
      refine⟨rfl,.mk (v':=.int .u8 (c.toNat:Int)) ?_ (.int _ _) rfl⟩
      have hlt:n<b.size:=by have:=(List.getElem?_eq_some_iff.1 hc).1;simpa using this
      have hb:b[n]?=some c:=by
       have h1:b.data[n]?=some c:=by simpa using hc
       have hlt':n<b.data.size:=hlt
       rw[Array.getElem?_eq_getElem hlt'] at h1
       rw[getElem?_pos b n hlt]
       exact h1
      simp[Instr.index,asIntOf,run_underlying hu,hb]
     ·cases h
   ·cases h
  ·rename_i m e hdd
   rw[hdd] at hdr hsub
   have:=hdr.array_inv;subst this
   split at h
   ·cases hx with
    | agg cs vs l hh=>
     cases hlt:Nat.blt n m with
     | false=>rw[hlt] at h;cases h
     | true=>
      rw[hlt,cond_true] at h
      obtain⟨h1,rfl⟩:=zHE h
      have hte:=hE.ti e hsub.1
      obtain⟨v',h2,h3⟩:=zIU (w:=w) hte ⟨l,hh⟩ h1
      have hlt':n<m:=by simpa using hlt
      refine⟨rfl,v',?_,h3,zHA h1 (by rw[zDQ] at hn;exact hn)⟩
      have h0:(0:Int)≤(n:Int)∧(n:Int)<(m:Int):=by omega
      simp only[Instr.index,asIntOf,Sem.run_bind,Sem.run_pure,Result.andThen_ok,run_underlying hu,Sem.run_ite]
      rw[if_pos h0]
      simp[hte.sizeOf w,h2]
   ·cases h
  ·cases h
end
section
variable {E:Env}{P:Program}{t:TypeId}{g:Gh}{base:Nat}{w0:World}{s s':Sto}{w:World}{v:AV}
theorem lenA_sim (hE:TysOk E P)(hr:Rel base w0 g s w)(ht:(E.types t).ok=true){x:AV}{x':Value}{n:Nat}{ty:TypeId}(h:lenA (E.types t).d x s=some n)(hx:VR g x x') :
  (Builtin.len_ #[t] ty #[x']).run P w=.ok (.int .i64 (n:Int)) w:=by
 obtain⟨d,hu,hdr,_⟩:=(hE.ti t ht).und
 unfold lenA at h
 split at h
 ·rename_i e hd
  rw[hd] at hdr
  have:=hdr.slice_inv;subst this
  split at h
  ·cases hx with
   | sl t' xs own b off cap es vs hl hc hv ht hcap hown hnil=>cases h;simp[Builtin.len_,run_underlying hu,goInt,zAH]
   | slnil=>cases h;simp[Builtin.len_,run_underlying hu,goInt,zAH]
   | slany=>cases h;simp[Builtin.len_,run_underlying hu,goInt,zAH]
  ·cases hx<;>cases h<;>simp[Builtin.len_,run_underlying hu,goInt]
  ·cases h
 ·rename_i m e hd
  rw[hd] at hdr
  have:=hdr.array_inv;subst this
  cases h
  simp[Builtin.len_,run_underlying hu,goInt]
 ·rename_i hd
  rw[hd] at hdr
  have:=hdr.str_inv;subst this
  split at h
  ·cases hx;cases h;simp[Builtin.len_,run_underlying hu,goInt,zAH]
  ·cases h
 ·rename_i k e hd
  rw[hd] at hdr
  have:=hdr.map_inv;subst this
  split at h
  ·cases hx;cases h;simp[Builtin.len_,run_underlying hu,goInt]
  ·rename_i kk
   cases hx
   split at h
   ·rename_i es hk
    cases h
    have hlt:=zEQ hk (by simp)
    have hb:=hr.box kk hlt
    rw[hk] at hb
    obtain⟨ents,clock,h1,h2,_⟩:=hb
    simp[Builtin.len_,run_underlying hu,goInt,zAH,getObj,Sem.run,h1,h2]
   ·cases h
  ·cases h
 ·cases h
theorem zRV {k:IntKind}:∀{l:List AV} {m x:Int} {l':List Value},foldMin x l=some m→(∀(i:Nat) (a:AV) (u:Value),l[i]?=some a→l'[i]?=some u→VR g a u)→l.length=l'.length→
  (l'.foldlM Builtin.min2 (.int k x)).run P w=.ok (.int k m) w:=by
 intro l
 induction l with
 | nil=>intro m x l' h _ hl;cases h;cases l' with
  | nil=>rfl
  | cons=>simp at hl
 | cons a r ih=>
  intro m x l' h hv hl
  cases l' with
  | nil=>simp at hl
  | cons u r'=>
   have ha:=hv 0 a u rfl rfl
   cases ha with
   | int j y=>
    simp only[foldMin,zHH] at h
    have:=ih h (fun i b z hb hz=>hv (i+1) b z hb hz) (by simpa using hl)
    rw[List.foldlM_cons,Sem.run_bind]
    have e:(Builtin.min2 (.int k x) (.int j y)).run P w=.ok (.int k (bif decide (y<x) then y else x)) w:=by
     simp[Builtin.min2,cond_eq_ite]
    rw[e,Result.andThen_ok]
    exact this
   | _=>cases h
theorem zRW {k:IntKind}:∀{l:List AV} {m x:Int} {l':List Value},foldMax x l=some m→(∀(i:Nat) (a:AV) (u:Value),l[i]?=some a→l'[i]?=some u→VR g a u)→l.length=l'.length→
  (l'.foldlM Builtin.max2 (.int k x)).run P w=.ok (.int k m) w:=by
 intro l
 induction l with
 | nil=>intro m x l' h _ hl;cases h;cases l' with
  | nil=>rfl
  | cons=>simp at hl
 | cons a r ih=>
  intro m x l' h hv hl
  cases l' with
  | nil=>simp at hl
  | cons u r'=>
   have ha:=hv 0 a u rfl rfl
   cases ha with
   | int j y=>
    simp only[foldMax,zHH] at h
    have:=ih h (fun i b z hb hz=>hv (i+1) b z hb hz) (by simpa using hl)
    rw[List.foldlM_cons,Sem.run_bind]
    have e:(Builtin.max2 (.int k x) (.int j y)).run P w=.ok (.int k (bif decide (x<y) then y else x)) w:=by
     simp[Builtin.max2,cond_eq_ite]
    rw[e,Result.andThen_ok]
    exact this
   | _=>cases h
theorem bMin_sim {args:List AV}{args':Array Value}{ats:Array TypeId}{ty:TypeId}(h:bMin args s=.val v s')(ha:VRs g args args'):s'=s∧zBM P g s.n w (Builtin.min_ ats ty args') v:=by
 unfold bMin at h
 split at h
 ·rename_i k x r
  split at h
  ·rename_i m hm
   cases h
   obtain⟨l⟩:=args'
   cases l with
   | nil=>have:=ha.1;simp at this
   | cons u r'=>
    have h0:=ha.2 0 _ u rfl rfl
    cases h0
    refine⟨rfl,.mk (v':=.int k m) ?_ (.int _ _) rfl⟩
    have:=zRV (P:=P) (w:=w) (g:=g) (k:=k) hm (fun i a z hi hz=>ha.2 (i+1) a z hi (by simpa using hz)) (by have:=ha.1;simpa using this)
    simpa[Builtin.min_] using this
  ·cases h
 ·cases h
theorem bMax_sim {args:List AV}{args':Array Value}{ats:Array TypeId}{ty:TypeId}(h:bMax args s=.val v s')(ha:VRs g args args'):s'=s∧zBM P g s.n w (Builtin.max_ ats ty args') v:=by
 unfold bMax at h
 split at h
 ·rename_i k x r
  split at h
  ·rename_i m hm
   cases h
   obtain⟨l⟩:=args'
   cases l with
   | nil=>have:=ha.1;simp at this
   | cons u r'=>
    have h0:=ha.2 0 _ u rfl rfl
    cases h0
    refine⟨rfl,.mk (v':=.int k m) ?_ (.int _ _) rfl⟩
    have:=zRW (P:=P) (w:=w) (g:=g) (k:=k) hm (fun i a z hi hz=>ha.2 (i+1) a z hi (by simpa using hz)) (by have:=ha.1;simpa using this)
    simpa[Builtin.max_] using this
  ·cases h
 ·cases h
end
section
variable {E:Env}{P:Program}{t:TypeId}{g:Gh}{base:Nat}{w0:World}{s s':Sto}{w:World}{v:AV}
def zD4 (x:Option Nat)(v:Option Value):Prop:=
 match x,v with
 | none,none=>True
 | some n,some v=>∃k,v=.int k (n:Int)
 | _,_=>False
theorem zJT {fr:Fr}{tmps:Array Value}(hf:VRs g fr.tmps tmps){o:Option Operand}{x:Option Nat}(h:zG1 fr o=some x):zD4 x (o.map (zAE tmps)):=by
 cases o with
 | none=>cases h;trivial
 | some o=>
  simp only[zG1] at h
  split at h
  ·rename_i y hy
   split at h
   ·rename_i n hn
    cases h
    obtain⟨k,hk⟩:=zGE hn (zA9 hf hy)
    exact⟨k,hk⟩
   ·cases h
  ·cases h
theorem zEE {len:Nat}{lo hi mx:Option Nat}{l h:Nat}(hc:zDY len lo hi mx=some (l,h)) :
  l≤h∧h≤len∧lo.getD 0=l∧hi.getD len=h∧∀m,mx=some m→m=h:=by
 have key:∀(a b:Nat) (q:Bool),(bif Nat.ble a b&&Nat.ble b len&&q then some (a,b) else none)=some (l,h)→l≤h∧h≤len∧a=l∧b=h∧q=true:=by
  intro a b q hq
  rw[cond_eq_ite] at hq
  split at hq
  ·rename_i hb
   simp only[Option.some.injEq,Prod.mk.injEq] at hq
   simp only[Bool.and_eq_true,Nat.ble_eq] at hb
   obtain⟨rfl,rfl⟩:=hq
   exact⟨hb.1.1,hb.1.2,rfl,rfl,hb.2⟩
  ·cases hq
 unfold zDY at hc
 cases lo<;>cases hi<;>cases mx<;>dsimp only at hc<;>obtain⟨a1,a2,a3,a4,a5⟩:=key _ _ _ hc <;>
  refine⟨a1,a2,a3,a4,fun m hm=>?_⟩<;>first
   | (cases hm;rw[← a4];exact Nat.eq_of_beq_eq_true a5)
   | cases hm
theorem zBE {k:IntKind}{n y:Nat}{code:BoundsCode}(h:n≤y):(Instr.sliceBound (.int k (n:Int)) y code).run P w=.ok n w:=by
 have:(0:Int)≤(n:Int)∧(n:Int)≤(y:Int):=by omega
 simp[Instr.sliceBound,asIntOf,this]
theorem zBI {isS:Bool}{len cap:Nat}{lo hi mx:Option Nat}{lo' hi' mx':Option Value}{l h:Nat}(hc:zDY len lo hi mx=some (l,h))(hcap:len≤cap)
  (h1:zD4 lo lo') (h2:zD4 hi hi') (h3:zD4 mx mx') (hm:mx.isSome=true→hi.isSome=true) :
  (Instr.sliceBounds isS len cap lo' hi' mx').run P w=.ok (l,h,mx.getD cap) w:=by
 obtain⟨a1,a2,a3,a4,a5⟩:=zEE hc
 clear hc
 cases lo with
 | none=>
  cases lo' with
  | some v=>exact h1.elim
  | none=>
   simp only[Option.getD_none] at a3
   subst a3
   cases hi with
   | none=>
    cases hi' with
    | some v=>exact h2.elim
    | none=>
     cases mx with
     | some m=>simp at hm
     | none=>cases mx' with
      | some v=>exact h3.elim
      | none=>
       simp only[Option.getD_none] at a4
       subst a4
       simp[Instr.sliceBounds]
   | some n=>
    cases hi' with
    | none=>exact h2.elim
    | some v=>
     obtain⟨k,rfl⟩:=h2
     simp only[Option.getD_some] at a4
     subst a4
     cases mx with
     | none=>cases mx' with
      | some v=>exact h3.elim
      | none=>simp[Instr.sliceBounds,zBE (P:=P) (w:=w) (Nat.le_trans a2 hcap)]
     | some m=>cases mx' with
      | none=>exact h3.elim
      | some v=>
       obtain⟨k',rfl⟩:=h3
       have:=a5 m rfl
       subst this
       simp[Instr.sliceBounds,zBE (P:=P) (w:=w) (Nat.le_trans a2 hcap),zBE (P:=P) (w:=w) (Nat.le_refl m)]
 | some q=>
  cases lo' with
  | none=>exact h1.elim
  | some u=>
   obtain⟨kq,rfl⟩:=h1
   simp only[Option.getD_some] at a3
   subst a3
   cases hi with
   | none=>
    cases hi' with
    | some v=>exact h2.elim
    | none=>
     cases mx with
     | some m=>simp at hm
     | none=>cases mx' with
      | some v=>exact h3.elim
      | none=>
       simp only[Option.getD_none] at a4
       subst a4
       simp[Instr.sliceBounds,zBE (P:=P) (w:=w) a1]
   | some n=>
    cases hi' with
    | none=>exact h2.elim
    | some v=>
     obtain⟨k,rfl⟩:=h2
     simp only[Option.getD_some] at a4
     subst a4
     cases mx with
     | none=>cases mx' with
      | some v=>exact h3.elim
      | none=>simp[Instr.sliceBounds,zBE (P:=P) (w:=w) (Nat.le_trans a2 hcap),zBE (P:=P) (w:=w) a1]
     | some m=>cases mx' with
      | none=>exact h3.elim
      | some v=>
       obtain⟨k',rfl⟩:=h3
       have:=a5 m rfl
       subst this
       simp[Instr.sliceBounds,zBE (P:=P) (w:=w) (Nat.le_trans a2 hcap),zBE (P:=P) (w:=w) (Nat.le_refl m),zBE (P:=P) (w:=w) a1]
theorem zO8 {s:Sto}{b:ByteArray}{lo hi mx:Option Nat}{lo' hi' mx':Option Value}(hu:P.underlying t=some .string)
  (h:zKS b.data.toList lo hi mx s=some (v,s')) (h1:zD4 lo lo') (h2:zD4 hi hi') (h3:zD4 mx mx') :
  s'=s∧zBM P g s.n w (Instr.slice t (.string b) lo' hi' mx') v:=by
 unfold zKS at h
 cases mx with
 | some m=>cases h
 | none=>
  cases mx' with
  | some v=>exact h3.elim
  | none=>
   dsimp only at h
   split at h
   ·rename_i l hh hc
    simp only[Option.some.injEq,Prod.mk.injEq] at h
    obtain⟨rfl,rfl⟩:=h
    have hlen:llen b.data.toList=b.size:=by rw[zAH];simp
    rw[hlen] at hc
    have:=zBI (P:=P) (w:=w) (isS:=false) hc (Nat.le_refl _) h1 h2 (by trivial:zD4 none none) (by simp)
    refine⟨rfl,.string (b.extract l hh),?_,?_,Nat.zero_le _⟩
    ·simp[Instr.slice,run_underlying hu,this]
    ·have e:(b.extract l hh).data.toList=(b.data.toList.drop l).take (hh-l):=by
      rw[ByteArray.data_extract,Array.toList_extract]
     rw[← e];exact .str _
   ·cases h
theorem zT1 (xs:List AV)(l h:Nat)(hh:h≤xs.length):zJP xs l h xs.length=(xs.drop l).take (h-l):=by
 unfold zJP
 rw[cond_eq_ite,zCA,zCZ]
 split
 ·rename_i hb
  simp at hb
  obtain⟨rfl,rfl⟩:=hb
  simp
 ·rfl
theorem tops_sub (xs:List AV)(l n:Nat):tops ((xs.drop l).take n)≤tops xs:=
 zAP.2 fun x hx=>zAP.1 (Nat.le_refl _) x (List.mem_of_mem_drop (List.mem_of_mem_take hx))
theorem zQZ {s:Sto}{e:TypeId}(hE:TIR E P e (E.types e))(hu:P.underlying t=some (.slice e)){tp:Nat}{xs:List AV}{own:Own}{x':Value}{lo hi mx:Option Nat}{lo' hi' mx':Option Value}
  (h:zJQ (E.types e).size tp xs own lo hi mx s=some (v,s')) (hx:VR g (.sl tp xs own) x') (hn:tp≤s.n) (h1:zD4 lo lo') (h2:zD4 hi hi') (h3:zD4 mx mx') (hm:mx.isSome=true→hi.isSome=true) :
  s'=s∧zBM P g s.n w (Instr.slice t x' lo' hi' mx') v:=by
 unfold zJQ at h
 rw[zAH] at h
 split at h
 ·rename_i l hh hc
  obtain⟨a1,a2,a3,a4,a5⟩:=zEE hc
  rw[cond_eq_ite] at h
  split at h
  ·rename_i hes
   simp only[Option.some.injEq,Prod.mk.injEq] at h
   obtain⟨hv,rfl⟩:=h
   subst hv
   rw[zT1 _ _ _ a2]
   cases hx with
   | slnil=>
    have hb:=zBI (P:=P) (w:=w) (isS:=true) (cap:=0) hc (Nat.le_refl _) h1 h2 h3 hm
    simp at a2
    subst a2
    simp at a1
    subst a1
    have hmx:mx.getD 0=0:=by cases mx with
     | none=>rfl
     | some m=>exact a5 m rfl
    simp only[hmx,List.length_nil] at hb
    refine⟨rfl,.slice none 0 0,?_,?_,hn⟩
    ·simp[Instr.slice,run_underlying hu,hb,hE.sizeOf w]
    ·simp;exact .slnil _ _
   | slany _ _ a0 hnil=>
    have hb:=zBI (P:=P) (w:=w) (isS:=true) (cap:=0) hc (Nat.le_refl _) h1 h2 h3 hm
    simp at a2
    subst a2
    simp at a1
    subst a1
    have hmx:mx.getD 0=0:=by cases mx with
     | none=>rfl
     | some m=>exact a5 m rfl
    simp only[hmx,List.length_nil] at hb
    refine⟨rfl,.slice (some a0) 0 0,?_,?_,hn⟩
    ·simp[Instr.slice,run_underlying hu,hb,hE.sizeOf w,Addr.add]
    ·simp only[List.drop_nil,List.take_nil]
     refine .slany _ _ _ ?_
     cases mx with
     | some m=>simp
     | none=>
      simp only[cond_eq_ite]
      split
      ·exact hnil
      ·simp
   | sl _ _ _ b off cap es vs hl hcc hvr ht hcap hown hnil=>
    have hb:=zBI (P:=P) (w:=w) (isS:=true) (cap:=cap) hc hcap h1 h2 h3 hm
    have hlen:((xs.drop l).take (hh-l)).length=hh-l:=by simp;omega
    have hesz:xs≠[]→es=(E.types e).size:=by
     intro hne
     cases xs with
     | nil=>exact absurd rfl hne
     | cons a r=>
      simp only[zKL,zAH] at hes
      rw[← hl 0 a rfl];exact Nat.eq_of_beq_eq_true hes
    have hmx:hh≤mx.getD cap:=by cases mx with
     | none=>simp;omega
     | some m=>simp[a5 m rfl]
    have hclip:∀m,mx=some m→mx.getD cap=hh:=fun m hmm=>by subst hmm;simp[a5 m rfl]
    refine⟨rfl,.slice (if mx.getD cap=l then some ⟨b,off,none⟩ else some ⟨b,off+l*(E.types e).size,none⟩) (hh-l) (mx.getD cap-l),?_,?_,hn⟩
    ·simp only[Instr.slice,Sem.run_bind,run_underlying hu,Result.andThen_ok,hb,hE.sizeOf w,Sem.run_pure,Option.map_some,zD3]
    ·have hown':∀own',(own'=(match mx with|some _=>Own.clip|none=>bif Nat.beq hh xs.length then own else .shut))→(own'≠.shut→mx.getD cap-l=hh-l)∧own'≠.nil:=by
      intro own' ho
      cases mx with
      | some m=>subst ho;exact⟨fun _=>by rw[hclip m rfl],by simp⟩
      | none=>
       simp only[cond_eq_ite] at ho
       split at ho
       ·rename_i hq
        have hq':=Nat.eq_of_beq_eq_true hq
        subst ho
        exact⟨fun hs=>by simp;rw[hown hs,hq'],hnil⟩
       ·subst ho;exact⟨fun hs=>absurd rfl hs,by simp⟩
     obtain⟨ho1,ho2⟩:=hown' _ rfl
     by_cases hml:mx.getD cap=l
     ·rw[if_pos hml]
      have:hh=l:=by omega
      subst this
      simp only[Nat.sub_self,List.take_zero]
      exact VR.sl (g:=g) tp [] _ b off (mx.getD cap-hh) es vs (by simp) (by simp) (by simp) (Nat.zero_le _) (by simp) (fun hs=>by simpa using ho1 hs) ho2
     ·rw[if_neg hml]
      have hget:∀(i:Nat) (x:AV),((xs.drop l).take (hh-l))[i]?=some x→xs[l+i]?=some x:=by
       intro i x hi
       rw[List.getElem?_take] at hi
       split at hi
       ·rwa [List.getElem?_drop] at hi
       ·cases hi
      have:=VR.sl (g:=g) tp ((xs.drop l).take (hh-l)) _ b (off+l*(E.types e).size) (mx.getD cap-l) es (fun i j=>vs (l+i) j)
       (fun i x hi=>hl _ x (hget i x hi))
       (fun i x j c hi hj=>by
        have hne:xs≠[]:=by intro e0;subst e0;have:=hget i x hi;simp at this
        rw[← hesz hne,← hcc _ x j c (hget i x hi) hj];congr 1;rw[Nat.add_mul];omega)
       (fun i x j c hi hj=>hvr _ x j c (hget i x hi) hj)
       (Nat.le_trans (tops_sub _ _ _) ht) (by rw[hlen];omega) (fun hs=>by rw[hlen];exact ho1 hs) ho2
      rw[hlen] at this
      exact this
  ·cases h
 ·cases h
end
section
variable {E:Env}{P:Program}{t:TypeId}{g:Gh}{base:Nat}{w0:World}{s s':Sto}{w:World}{v:AV}
theorem zO9 (hr:Rel base w0 g s w){e:TypeId}(hE:TIR E P e (E.types e))(hu:P.underlying t=some (.slice e)){k off len:Nat}{x':Value}{lo hi:Option Nat}{lo' hi':Option Value}
  (h:zFF (E.types e).size k off len lo hi none s=some (v,s')) (hx:VR g (.osl k off len) x') (hn:k+1≤s.n) (h1:zD4 lo lo') (h2:zD4 hi hi') :
  s'=s∧zBM P g s.n w (Instr.slice t x' lo' hi' none) v:=by
 unfold zFF at h
 split at h
 ·rename_i es xs sl hk
  obtain⟨b1,b2,b3,b4,b5,b6⟩:=hr.row hk
  rw[cond_eq_ite] at h
  split at h
  ·rename_i hes
   have hes':=Nat.eq_of_beq_eq_true hes
   split at h
   ·rename_i l hh hc
    simp only[Option.some.injEq,Prod.mk.injEq] at h
    obtain⟨rfl,rfl⟩:=h
    obtain⟨a1,a2,a3,a4,a5⟩:=zEE hc
    cases hx with
    | oslE _ _ b o hrl=>
     have hb:=zBI (P:=P) (w:=w) (isS:=true) (cap:=0) hc (Nat.le_refl _) h1 h2 (by trivial:zD4 none none) (by simp)
     have hh0:hh=0:=by omega
     have hl0:l=0:=by omega
     subst hh0;subst hl0
     refine⟨rfl,.slice (some ⟨b,o,none⟩) 0 0,?_,.oslE k _ b o (by omega),hn⟩
     simp[Instr.slice,run_underlying hu,hb,hE.sizeOf w]
    | osl _ _ _ cap hlen hbs hrl=>
     have hb:=zBI (P:=P) (w:=w) (isS:=true) (cap:=cap) hc hlen h1 h2 (by trivial:zD4 none none) (by simp)
     simp only[Option.getD_none] at hb
     have hmu:g.es k=(E.types e).size:=by rw[b2,← hes']
     refine⟨rfl,.slice (if cap=l then some ⟨g.mu k,off*g.es k,none⟩ else some ⟨g.mu k,off*g.es k+l*(E.types e).size,none⟩) (hh-l) (cap-l),?_,?_,hn⟩
     ·simp only[Instr.slice,Sem.run_bind,run_underlying hu,Result.andThen_ok,hb,hE.sizeOf w,Sem.run_pure,Option.map_some,zD3]
     ·have e2:(off+l+(cap-l))=off+cap:=by omega
      by_cases hcl:cap=l
      ·
       rw[if_pos hcl]
       have:hh=l:=by omega
       subst this
       subst hcl
       simp only[Nat.sub_self]
       exact .oslE k _ _ _ (by omega)
      ·rw[if_neg hcl]
       have e3:off*g.es k+l*(E.types e).size=(off+l)*g.es k:=by rw[hmu,Nat.add_mul]
       rw[e3]
       exact .osl k (off+l) (hh-l) (cap-l) (by omega) (by rw[e2];exact hbs) (by omega)
   ·cases h
  ·cases h
 ·cases h
end
section
variable {E:Env}{P:Program}{t:TypeId}{g:Gh}{base:Nat}{w0:World}{s s':Sto}{w:World}{v:AV}
theorem bCap_sim (hE:TysOk E P)(ht:(E.types t).ok=true){x:AV}{x':Value}{ty:TypeId}(h:bCap E t [x] s=.val v s')(hx:VR g x x'):s'=s∧zBM P g s.n w (Builtin.cap_ #[t] ty #[x']) v:=by
 obtain⟨d,hu,hdr,_⟩:=(hE.ti t ht).und
 unfold bCap at h
 split at h
 ·rename_i e hd
  rw[hd] at hdr
  have:=hdr.slice_inv;subst this
  split at h
  ·rename_i heq
   cases heq
   cases h
   cases hx with
   | sl _ _ _ b off cap es vs hl hc hv ht' hcap hown hnil=>exact absurd rfl hnil
   | slnil=>exact⟨rfl,.mk (by simp[Builtin.cap_,run_underlying hu,goInt]) (.int .i64 0) rfl⟩
   | slany _ _ _ hnil=>exact absurd rfl hnil
  ·rename_i heq
   cases heq
   cases h
   cases hx with
   | sl _ xs _ b off cap es vs hl hc hv ht' hcap hown hnil=>
    have:=hown (by simp)
    subst this
    exact⟨rfl,.mk (by simp[Builtin.cap_,run_underlying hu,goInt,zAH]) (.int .i64 _) rfl⟩
   | slnil=>exact⟨rfl,.mk (by simp[Builtin.cap_,run_underlying hu,goInt,zAH]) (.int .i64 _) rfl⟩
   | slany=>exact⟨rfl,.mk (by simp[Builtin.cap_,run_underlying hu,goInt,zAH]) (.int .i64 _) rfl⟩
  ·cases h
 ·cases h
theorem zPR {kt:TypeId}(hE:TIR E P kt (E.types kt)){k:AV}{k':Value}(h:zH6 (E.types kt).d k=true)(hk:VR g k k')(b:Bool)(n:Nat) :
  (Instr.checkKey b (n+1) kt k').run P w=.ok () w:=by
 obtain⟨d,hu,hdr,_⟩:=hE.und
 unfold zH6 at h
 split at h
 ·rename_i kk hd
  rw[hd] at hdr
  have:=hdr.int_inv;subst this
  split at h
  ·cases hk;simp[Instr.checkKey,run_underlying hu]
  ·cases h
 ·rename_i hd
  rw[hd] at hdr
  have:=hdr.str_inv;subst this
  split at h
  ·cases hk;simp[Instr.checkKey,run_underlying hu]
  ·cases h
 ·cases h
theorem zTM (a b:ByteArray):decide (a.data.toList=b.data.toList)=(a == b):=by
 cases a with|mk x=>cases b with|mk y=>
 show _=(x == y)
 rw[Bool.eq_iff_iff];simp
theorem zLA {kt:TypeId}(hE:TIR E P kt (E.types kt)){k k2:AV}{k' k2':Value}{b:Bool}(h:zH6 (E.types kt).d k=true)(hk:VR g k k')(hk2:VR g k2 k2')(hq:zKJ k k2=some b)
  {d:TypeDesc} (hu:P.underlying kt=some d):Instr.sameNow d k' k2'=some b:=by
 obtain⟨d',hu',hdr,_⟩:=hE.und
 rw[hu] at hu'
 cases hu'
 unfold zH6 at h
 split at h
 ·rename_i kk hd
  rw[hd] at hdr
  have:=hdr.int_inv;subst this
  split at h
  ·cases hk
   simp only[zKJ] at hq
   split at hq
   ·cases hk2
    rw[zPS,cond_eq_ite,zJC] at hq
    split at hq
    ·rename_i he
     simp at he
     subst he
     cases hq
     simp[Instr.sameNow]
     rfl
    ·cases hq
   ·cases hq
  ·cases h
 ·rename_i hd
  rw[hd] at hdr
  have:=hdr.str_inv;subst this
  split at h
  ·cases hk
   simp only[zKJ] at hq
   split at hq
   ·cases hk2
    rw[zD9,zTM] at hq
    cases hq
    rfl
   ·cases hq
  ·cases h
 ·cases h
def zSN (g:Gh)(es:List (AV×AV))(ents:List MapEntry):Prop:=
 es.length=ents.length∧∀(i:Nat) (x:AV×AV) (e:MapEntry),es[i]?=some x→ents[i]?=some e→VR g x.1 e.key∧VR g x.2 e.val
theorem zRZ {kt:TypeId}(hE:TIR E P kt (E.types kt)){k:AV}{k':Value}(h:zH6 (E.types kt).d k=true)(hk:VR g k k'){d:TypeDesc}(hu:P.underlying kt=some d) :
  ∀{es:List (AV×AV)} {ents:List MapEntry} {r:Option AV} (i:Nat),zSN g es ents→zE5 k es=some r→
   match r with
   | none=>Instr.findNow d k' ents i=some none
   | some x=>∃(j:Nat) (e:MapEntry),Instr.findNow d k' ents i=some (some (i+j,e.val))∧ents[j]?=some e∧VR g x e.val∧∃y,es[j]?=some y∧y.2=x:=by
 intro es
 induction es with
 | nil=>
  intro ents r i hr hf
  cases hf
  cases ents with
  | nil=>rfl
  | cons=>have:=hr.1;simp at this
 | cons e es ih=>
  intro ents r i hr hf
  cases ents with
  | nil=>have:=hr.1;simp at this
  | cons m ents=>
   obtain⟨ek,ev⟩:=e
   have h0:=hr.2 0 _ _ rfl rfl
   simp only[zE5] at hf
   split at hf
   ·rename_i b hq
    have hs:=zLA hE h hk h0.1 hq hu
    cases b with
    | true=>
     simp at hf
     subst hf
     exact⟨0,m,by simp[Instr.findNow,hs],rfl,h0.2,_,rfl,rfl⟩
    | false=>
     simp only[cond_false] at hf
     have hr':zSN g es ents:=⟨by have:=hr.1;simpa using this,fun i x e hi he=>hr.2 (i+1) x e hi he⟩
     have:=ih (i+1) hr' hf
     cases r with
     | none=>simpa[Instr.findNow,hs] using this
     | some x=>
      obtain⟨j,e,h1,h2,h3,y,h4,h5⟩:=this
      exact⟨j+1,e,by simp[Instr.findNow,hs,h1];omega,h2,h3,y,h4,h5⟩
   ·cases hf
theorem zRA (hE:TysOk E P)(hr:Rel base w0 g s w)(ht:(E.types t).ok=true){x i:AV}{x' i':Value}{ok:Bool}(h:zDT E t (some x) (some i) ok s=.val v s')(hx:VR g x x')(hi:VR g i i')(hn:top x≤s.n) :
  s'=s∧zBM P g s.n w (Instr.lookup t x' i' ok) v:=by
 obtain⟨d,hu,hdr,_⟩:=(hE.ti t ht).und
 have hsub:=(hE.ti t ht).sub
 unfold zDT at h
 dsimp only at h
 split at h
 ·rename_i kt e hd
  rw[hd] at hdr hsub
  have:=hdr.map_inv;subst this
  have hk:=hE.ti kt hsub.1
  have he:=hE.ti e hsub.2
  obtain⟨dk,huk,_⟩:=hk.und
  rw[cond_eq_ite] at h
  split at h
  ·rename_i hok
   obtain⟨z,hz,hzr,hz0,_⟩:=he.zero g w
   have fin:∀(es:List (AV×AV)) (ents:Array MapEntry),zSN g es ents.toList→(∀y∈es,top y.2≤s.n)→
     (∀r,(Instr.checkKey ents.isEmpty 10000 kt i').run P w=.ok () w→(Instr.findKey kt i' ents.toList).run P w=.ok r w→
      (Instr.lookup t x' i' ok).run P w=match r with
       | some (_,u)=>.ok (if ok then .tuple #[u,.bool true] else u) w
       | none=>.ok (if ok then .tuple #[z,.bool false] else z) w)→
     found (E.types e) ok s (zE5 i es)=.val v s'→s'=s∧zBM P g s.n w (Instr.lookup t x' i' ok) v:=by
    intro es ents hents htop hM hf
    have hck:=zPR (w:=w) hk hok hi ents.isEmpty 9999
    cases hmf:zE5 i es with
    | none=>rw[hmf] at hf;cases hf
    | some r=>
     rw[hmf] at hf
     have hfn:=zRZ hk hok hi huk 0 hents hmf
     cases r with
     | none=>
      simp only at hfn
      have hfk:(Instr.findKey kt i' ents.toList).run P w=.ok none w:=by simp[Instr.findKey,run_underlying huk,hfn]
      cases ok with
      | true=>
       cases hf
       refine⟨rfl,.tuple #[z,.bool false],?_,?_,?_⟩
       ·rw[hM _ hck hfk];rfl
       ·refine .tuple _ _ rfl (fun j y u hy hu'=>?_)
        cases j with
        | zero=>simp at hy hu';subst hy;subst hu';exact hzr
        | succ j=>cases j with
         | zero=>simp at hy hu';subst hy;subst hu';exact .bool false
         | succ j=>simp at hy
       ·simp only[cond_true];rw[zCU,zAU,hz0];exact Nat.zero_le _
      | false=>
       cases hf
       exact⟨rfl,z,by rw[hM _ hck hfk];rfl,hzr,by simp only[cond_false];rw[hz0];exact Nat.zero_le _⟩
     | some y=>
      simp only at hfn
      obtain⟨j,en,h1,h2,h3,y2,h4,h5⟩:=hfn
      have hfk:(Instr.findKey kt i' ents.toList).run P w=.ok (some (0+j,en.val)) w:=by simp[Instr.findKey,run_underlying huk,h1]
      have hty:top y≤s.n:=by rw[← h5];exact htop _ (List.mem_of_getElem? h4)
      cases ok with
      | true=>
       cases hf
       refine⟨rfl,.tuple #[en.val,.bool true],?_,?_,?_⟩
       ·rw[hM _ hck hfk];rfl
       ·refine .tuple _ _ rfl (fun j y u hy hu'=>?_)
        cases j with
        | zero=>simp at hy hu';subst hy;subst hu';exact h3
        | succ j=>cases j with
         | zero=>simp at hy hu';subst hy;subst hu';exact .bool true
         | succ j=>simp at hy
       ·simp only[cond_true];rw[zCU,zAU];exact Nat.max_le.2 ⟨hty,Nat.zero_le _⟩
      | false=>
       cases hf
       exact⟨rfl,en.val,by rw[hM _ hck hfk];rfl,h3,hty⟩
   split at h
   ·rename_i heq
    cases heq
    cases hx
    refine fin [] #[] ⟨rfl,fun i x e hx _=>by simp at hx⟩ (fun y hy=>by simp at hy) (fun r hc hf=>?_) (by simpa[zE5] using h)
    have hc':(Instr.checkKey true 10000 kt i').run P w=.ok () w:=hc
    have hf':(Instr.findKey kt i' []).run P w=.ok r w:=hf
    cases r<;>simp[Instr.lookup,run_underlying hu,hc',hf',hz]
   ·rename_i kk heq
    cases heq
    cases hx
    split at h
    ·rename_i es hkk
     have hlt:=zEQ hkk (by simp)
     have hb:=hr.box kk hlt
     have htp:=hr.top kk hlt
     rw[hkk] at hb htp
     obtain⟨ents,clock,h1,h2,h3,_⟩:=hb
     refine fin es ents ⟨by simpa using h2,fun i x e hi he=>h3 i x e hi (by simpa using he)⟩ (fun y hy=>?_) (fun r hc hf=>?_) h
     ·have key:∀(l:List (AV×AV)),y∈l→top y.2≤l.foldr (fun e m=>Nat.max (Nat.max (top e.1) (top e.2)) m) 0:=by
       intro l
       induction l with
       | nil=>intro hy;cases hy
       | cons a l ih=>
        intro hy
        simp only[List.foldr_cons]
        cases hy with
        | head=>exact Nat.le_trans (Nat.le_max_right _ _) (Nat.le_max_left _ _)
        | tail _ hy=>exact Nat.le_trans (ih hy) (Nat.le_max_right _ _)
      exact Nat.le_trans (key es hy) htp
     ·have hg:(getObj (g.mu kk)).run P w=.ok (.map ents clock) w:=by simp[getObj,Sem.run,h1]
      cases r<;>simp[Instr.lookup,run_underlying hu,hg,hc,hf,hz]
    ·cases h
   ·cases h
  ·cases h
 ·cases h
end
section
variable {E:Env}{P:Program}{t:TypeId}{g:Gh}{base:Nat}{w0:World}{s s':Sto}{w:World}{v:AV}
theorem zRE (hE:TysOk E P)(ht:(E.types t).ok=true){x:AV}{x':Value}{xt:TypeId}{ok:Bool}(h:zE3 E (some x) t ok s=.val v s')(hx:VR g x x')(hn:top x≤s.n) :
  s'=s∧zBM P g s.n w (Instr.typeAssert x' xt t ok) v:=by
 obtain⟨d,hu,hdr,_⟩:=(hE.ti t ht).und
 obtain⟨z,hz,hzr,hz0,_⟩:=(hE.ti t ht).zero g w
 have hni:∀ms,d≠.interface ms:=by
  intro ms e
  subst e
  unfold zE3 at h
  split at h
  ·cases h
  ·cases h
  ·rename_i hq1 hq2
   cases hdd:(E.types t).d<;>rw[hdd] at hdr hq1 hq2<;>simp[TDR] at hdr
   ·exact hq1 rfl
   ·exact hq2 rfl
 have two:∀(a:AV) (a':Value) (b:Bool),VR g a a'→VR g (.tuple [a,.bool b]) (.tuple #[a',.bool b]):=by
  intro a a' b ha
  refine .tuple _ _ rfl (fun j y u hy hu'=>?_)
  cases j with
  | zero=>simp at hy hu';subst hy;subst hu';exact ha
  | succ j=>cases j with
   | zero=>simp at hy hu';subst hy;subst hu';exact .bool b
   | succ j=>simp at hy
 have fails : ok = true → ∀ (st dy : Option TypeId), (if ok = true then (do let a ← Go.zeroValue t; pure (Value.tuple #[a, .bool false])) else (runtimePanic (.typeAssertion st dy t "") : Sem Value)).run P w = .ok (.tuple #[z, .bool false]) w := by
  intro hok st dy
  subst hok
  simp[hz]
 unfold zE3 at h
 split at h
 ·cases h
 ·cases h
 ·split at h
  ·rename_i u y heq
   cases heq
   cases hx with
   | iface _ _ y' hy=>
    rw[cond_eq_ite] at h
    split at h
    ·rename_i hq
     have:=Nat.eq_of_beq_eq_true hq
     subst this
     cases ok with
     | true=>
      cases h
      refine⟨rfl,.tuple #[y',.bool true],?_,two _ _ _ hy,?_⟩
      ·cases d<;>first|exact absurd rfl (hni _)|simp[Instr.typeAssert,run_underlying hu]
      ·simp only[cond_true];rw[zCU,zAU];exact Nat.max_le.2 ⟨hn,Nat.zero_le _⟩
     | false=>
      cases h
      refine⟨rfl,y',?_,hy,hn⟩
      cases d<;>first|exact absurd rfl (hni _)|simp[Instr.typeAssert,run_underlying hu]
    ·rename_i hq
     have hne:u≠t:=fun e=>hq (by rw[e];simp)
     cases ok with
     | true=>
      cases h
      refine⟨rfl,.tuple #[z,.bool false],?_,two _ _ _ hzr,?_⟩
      ·cases d<;>first|exact absurd rfl (hni _)|simp[Instr.typeAssert,run_underlying hu,hne,hz]
      ·rw[zCU,zAU,hz0];exact Nat.zero_le _
     | false=>cases h
  ·rename_i heq
   cases heq
   cases hx
   cases ok with
   | true=>
    cases h
    refine⟨rfl,.tuple #[z,.bool false],?_,two _ _ _ hzr,?_⟩
    ·cases d<;>first|exact absurd rfl (hni _)|simp[Instr.typeAssert,run_underlying hu,hz]
    ·rw[zCU,zAU,hz0];exact Nat.zero_le _
   | false=>cases h
  ·cases h
theorem zE0 (cs:List AV)(off:Nat)(vs:List AV):splice cs off vs=cs.take off++(vs++cs.drop (off+vs.length)):=by
 unfold splice;rw[zBP,zBP,zCA,zCZ,zAH]
theorem zFZ {cs vs:List AV}{off:Nat}(h:off+vs.length≤cs.length):(splice cs off vs).length=cs.length:=by
 rw[zE0];simp;omega
theorem zHW {cs vs:List AV}{off:Nat}(h:off+vs.length≤cs.length)(i:Nat) :
  (splice cs off vs)[i]?=if off≤i∧i<off+vs.length then vs[i-off]? else cs[i]?:=by
 rw[zE0]
 have hl:(cs.take off).length=off:=by simp;omega
 by_cases h1:i<off
 ·rw[if_neg (by omega),List.getElem?_append_left (by omega),List.getElem?_take,if_pos h1]
 ·rw[List.getElem?_append_right (by omega),hl]
  by_cases h2:i<off+vs.length
  ·rw[if_pos ⟨by omega,h2⟩,List.getElem?_append_left (by omega)]
  ·rw[if_neg (by omega),List.getElem?_append_right (by omega),List.getElem?_drop]
   congr 1;omega
theorem VRs.splice {cs vs:List AV}{arr:Array Value}{us:List Value}{off:Nat}(h1:VRs g cs arr)(h2:VRs g vs us.toArray)(h:off+vs.length≤cs.length):VRs g (splice cs off vs) (blit arr off us):=by
 have hl2:us.length=vs.length:=by have:=h2.1;simp at this;exact this.symm
 refine⟨by rw[zFZ h,zEM];exact h1.1,fun i x u hx hu=>?_⟩
 rw[zHW h] at hx
 rw[zH3 _ _ _ _ (by rw[hl2,← h1.1];exact h),hl2] at hu
 split at hx
 ·rename_i hc;rw[if_pos hc] at hu;exact h2.2 _ _ _ hx (by simpa using hu)
 ·rename_i hc;rw[if_neg hc] at hu;exact h1.2 _ _ _ hx hu
theorem zK1 {cs vs:List AV}{off n:Nat}(h1:tops cs≤n)(h2:tops vs≤n):tops (Ab.splice cs off vs)≤n:=by
 refine zAP.2 fun x hx=>?_
 rw[zE0] at hx
 simp only[List.mem_append] at hx
 rcases hx with hx|hx|hx
 ·exact zAP.1 h1 x (List.mem_of_mem_take hx)
 ·exact zAP.1 h2 x hx
 ·exact zAP.1 h1 x (List.mem_of_mem_drop hx)
theorem zU9 (us:List Value):∀(cells:Array Value) (off k:Nat),(us.zipIdx k).foldl (fun cs (x:Value×Nat)=>cs.setIfInBounds (off+x.2) x.1) cells=blit cells (off+k) us:=by
 induction us with
 | nil=>intro cells off k;rfl
 | cons u r ih=>intro cells off k;simp only[List.zipIdx_cons,List.foldl_cons,blit];rw[ih,Nat.add_assoc]
theorem zL4 (place:Nat→Option (Nat×Nat))(cells:Array Value)(i:Nat)(v:Value)(rest:List (Nat×Value))(off size:Nat)(h:place i=some (off,size))(h1:v.cells.size=size)(h2:off+v.cells.size≤cells.size) :
  Instr.fill place cells ((i,v) :: rest)=Instr.fill place (blit cells off v.cells.toList) rest:=by
 rw[Instr.fill,h]
 simp only
 rw[if_neg (by simp;omega)]
 congr 1
 have:=zU9 v.cells.toList cells off 0
 rw[Nat.add_zero] at this
 rw[← this,← Array.foldl_toList,Array.toList_zipIdx]
end
section
variable {E:Env}{P:Program}{t:TypeId}{g:Gh}{base:Nat}{w0:World}{s s':Sto}{w:World}{v:AV}
theorem zUL (P:Program)(w:World)(sz:TypeId→Nat):∀(l:List Field),(∀f∈l,(sizeOf f.type).run P w=.ok (sz f.type) w)→
  (l.mapM (fun f=>do pure (f.offset,← sizeOf f.type):Field→Sem (Nat×Nat))).run P w=.ok (l.map fun f=>(f.offset,sz f.type)) w:=by
 intro l
 induction l with
 | nil=>intro _;rfl
 | cons f r ih=>
  intro h
  have h0:=ih (fun f hf=>h f (by simp[hf]))
  rw[List.mapM_cons]
  simp only[Sem.run_bind,Sem.run_pure,Result.andThen_ok,h f (by simp),List.map_cons]
  rw[h0]
  rfl
theorem zL7 {fr:Fr}{tmps:Array Value}(h:VRs g fr.tmps tmps):∀{l:List (Nat×Operand)} {xs:List (Nat×AV)},zBW fr l=some xs→
  xs.length=l.length∧∀(i:Nat) (x:Nat×AV) (o:Nat×Operand),xs[i]?=some x→l[i]?=some o→x.1=o.1∧VR g x.2 (zAE tmps o.2):=by
 intro l
 induction l with
 | nil=>intro xs he;cases he;exact⟨rfl,fun i x o hx _=>by simp at hx⟩
 | cons o r ih=>
  intro xs he
  obtain⟨j,o⟩:=o
  simp only[zBW] at he
  split at he
  ·rename_i x hx
   split at he
   ·rename_i ys hy
    cases he
    obtain⟨h1,h2⟩:=ih hy
    refine⟨by simp[h1],fun i y q hi hq=>?_⟩
    cases i with
    | zero=>simp at hi hq;subst hi;subst hq;exact⟨rfl,zA9 h hx⟩
    | succ i=>simp at hi hq;exact h2 i y q hi hq
   ·cases he
  ·cases he
theorem zNN {fr:Fr}{n:Nat}(h:tops fr.tmps≤n):∀{l:List (Nat×Operand)} {xs:List (Nat×AV)},zBW fr l=some xs→∀x∈xs,top x.2≤n:=by
 intro l
 induction l with
 | nil=>intro xs he;cases he;intro x hx;cases hx
 | cons o r ih=>
  intro xs he
  obtain⟨j,o⟩:=o
  simp only[zBW] at he
  split at he
  ·rename_i x hx
   split at he
   ·rename_i ys hy
    cases he
    intro y hy'
    cases hy' with
    | head=>exact zCX h hx
    | tail _ hy'=>exact ih hy y hy'
   ·cases he
  ·cases he
theorem zOW {a b:Bool}{α:Type}{x y:α}:(bif a&&b then x else y)=if a=true∧b=true then x else y:=by
 cases a<;>cases b<;>rfl
theorem zVQ {fs':Array Field}(sz:TypeId→Nat)(hsz:∀f∈zED fs',(E.types f.2).size=sz f.2)(place:Nat→Option (Nat×Nat))(hpl:∀i,place i=(fs'.toList.map fun f=>(f.offset,sz f.type))[i]?) :
  ∀{ps:List (Nat×AV)} {ps':List (Nat×Value)} {cells:List AV} {arr:Array Value} {cs:List AV},zKG E (zED fs') cells ps=some cs→VRs g cells arr→ps.length=ps'.length→
   (∀(i:Nat) (x:Nat×AV) (y:Nat×Value),ps[i]?=some x→ps'[i]?=some y→x.1=y.1∧VR g x.2 y.2)→
   ∃arr',Instr.fill place arr ps'=some arr'∧VRs g cs arr':=by
 intro ps
 induction ps with
 | nil=>
  intro ps' cells arr cs h hv hl _
  cases h
  cases ps' with
  | nil=>exact⟨arr,rfl,hv⟩
  | cons=>simp at hl
 | cons p r ih=>
  intro ps' cells arr cs h hv hl hp
  cases ps' with
  | nil=>simp at hl
  | cons q r'=>
   obtain⟨i,x⟩:=p
   obtain⟨i',x'⟩:=q
   obtain⟨he,hx⟩:=hp 0 _ _ rfl rfl
   simp only at he hx
   subst he
   simp only[zKG,zDC,zAH] at h
   split at h
   ·rename_i off ft hf
    rw[zOW] at h
    split at h
    ·rename_i hc
     obtain⟨hc1,hc2⟩:=hc
     have hc1':=Nat.eq_of_beq_eq_true hc1
     have hc2':=Nat.le_of_ble_eq_true hc2
     obtain⟨f,hf1,hf2,hf3⟩:=zHL hf
     have hcx:=hx.cells
     have hpi:place i=some (off,sz ft):=by
      rw[hpl]
      simp only[List.getElem?_map,Array.getElem?_toList,hf1,Option.map_some,hf2,hf3]
     have hs:=hsz _ (List.mem_of_getElem? hf)
     simp only at hs
     rw[zL4 place arr i x' r' off (sz ft) hpi (by rw[← hcx.1,hc1',hs]) (by rw[← hcx.1,← hv.1];exact hc2')]
     have hcx':VRs g (cellsOf x) x'.cells.toList.toArray:=by simpa using hcx
     exact ih h (hv.splice hcx' hc2') (by simpa using hl) (fun j a b ha hb=>hp (j+1) a b ha hb)
    ·cases h
   ·cases h
theorem zVP {fs:List (Nat×TypeId)}{n:Nat}:∀{ps:List (Nat×AV)} {cells cs:List AV},zKG E fs cells ps=some cs→tops cells≤n→(∀x∈ps,top x.2≤n)→tops cs≤n:=by
 intro ps
 induction ps with
 | nil=>intro cells cs h hc _;cases h;exact hc
 | cons p r ih=>
  intro cells cs h hc hp
  obtain⟨i,x⟩:=p
  simp only[zKG] at h
  split at h
  ·rw[zOW] at h
   split at h
   ·exact ih h (zK1 hc (by rw[zCC];exact hp (i,x) (by simp))) (fun y hy=>hp y (by simp[hy]))
   ·cases h
  ·cases h
theorem zVS {size:Nat}:∀{ps:List (Nat×AV)} {ps':List (Nat×Value)} {cells:List AV} {arr:Array Value} {cs:List AV},zKH size cells ps=some cs→VRs g cells arr→ps.length=ps'.length→
   (∀(i:Nat) (x:Nat×AV) (y:Nat×Value),ps[i]?=some x→ps'[i]?=some y→x.1=y.1∧VR g x.2 y.2)→
   ∃arr',Instr.fill (fun i=>some (i*size,size)) arr ps'=some arr'∧VRs g cs arr':=by
 intro ps
 induction ps with
 | nil=>
  intro ps' cells arr cs h hv hl _
  cases h
  cases ps' with
  | nil=>exact⟨arr,rfl,hv⟩
  | cons=>simp at hl
 | cons p r ih=>
  intro ps' cells arr cs h hv hl hp
  cases ps' with
  | nil=>simp at hl
  | cons q r'=>
   obtain⟨i,x⟩:=p
   obtain⟨i',x'⟩:=q
   obtain⟨he,hx⟩:=hp 0 _ _ rfl rfl
   simp only at he hx
   subst he
   simp only[zKH,zAH] at h
   rw[zOW] at h
   split at h
   ·rename_i hc
    obtain⟨hc1,hc2⟩:=hc
    have hc1':=Nat.eq_of_beq_eq_true hc1
    have hc2':=Nat.le_of_ble_eq_true hc2
    have hcx:=hx.cells
    rw[zL4 _ arr i x' r' (i*size) size rfl (by rw[← hcx.1,hc1']) (by rw[← hcx.1,← hv.1];exact hc2')]
    have hcx':VRs g (cellsOf x) x'.cells.toList.toArray:=by simpa using hcx
    exact ih h (hv.splice hcx' hc2') (by simpa using hl) (fun j a b ha hb=>hp (j+1) a b ha hb)
   ·cases h
theorem zVR {size n:Nat}:∀{ps:List (Nat×AV)} {cells cs:List AV},zKH size cells ps=some cs→tops cells≤n→(∀x∈ps,top x.2≤n)→tops cs≤n:=by
 intro ps
 induction ps with
 | nil=>intro cells cs h hc _;cases h;exact hc
 | cons p r ih=>
  intro cells cs h hc hp
  obtain⟨i,x⟩:=p
  simp only[zKH] at h
  rw[zOW] at h
  split at h
  ·exact ih h (zK1 hc (by rw[zCC];exact hp (i,x) (by simp))) (fun y hy=>hp y (by simp[hy]))
  ·cases h
theorem zUW (hE:TysOk E P)(ht:(E.types t).ok=true){fr:Fr}{tmps:Array Value}(hf:VRs g fr.tmps tmps)(hn:tops fr.tmps≤s.n){ps:List (Nat×Operand)}(h:zDL E fr t ps s=.val v s') :
  s'=s∧zBM P g s.n w (Instr.build t (ps.map fun x=>(x.1,zAE tmps x.2)).toArray) v:=by
 obtain⟨d,hu,hdr,_⟩:=(hE.ti t ht).und
 have hsub:=(hE.ti t ht).sub
 obtain⟨z,hz,_,_,hzc,_,_⟩:=(hE.ti t ht).zero g w
 have hz0:tops (E.types t).zero=0:=by
  obtain⟨_,_,h4,_⟩:=(hE.ti t ht).zeroValue w
  exact zGH h4
 unfold zDL at h
 split at h
 ·rename_i xs hxs
  obtain⟨hl,hxs1⟩:=zL7 hf hxs
  have hxs2:=zNN hn hxs
  have hpair:∀(i:Nat) (x:Nat×AV) (y:Nat×Value),xs[i]?=some x→(ps.map fun x=>(x.1,zAE tmps x.2))[i]?=some y→x.1=y.1∧VR g x.2 y.2:=by
   intro i x y hx hy
   rw[List.getElem?_map,Option.map_eq_some_iff] at hy
   obtain⟨o,ho,rfl⟩:=hy
   exact hxs1 i x o hx ho
  dsimp only at h
  split at h
  ·rename_i fs hd
   rw[hd] at hdr hsub
   obtain⟨fs',rfl,hfs⟩:=hdr.struct_inv
   subst hfs
   split at h
   ·rename_i cs hcs
    cases h
    have hsz:∀f∈fs'.toList,(sizeOf f.type).run P w=.ok ((fun t=>(E.types t).size) f.type) w:=fun f hf'=>by
     have:=hsub (f.offset,f.type) (by simp only[zED,List.mem_map];exact⟨f,hf',rfl⟩)
     exact(hE.ti _ this.1).sizeOf w
    have hpl:=zUL P w (fun t=>(E.types t).size) fs'.toList hsz
    obtain⟨arr',ha1,ha2⟩:=zVQ (E:=E) (g:=g) (fun t=>(E.types t).size) (fun _ _=>rfl) (fun i=>(fs'.map fun f=>(f.offset,(E.types f.type).size))[i]?) (fun i=>by rw[← Array.getElem?_toList,Array.toList_map]) hcs hzc (by simpa using hl) hpair
    refine⟨rfl,.agg arr',?_,.agg _ _ ha2.1 ha2.2,?_⟩
    ·have hmap:(fs'.mapM (fun f=>do pure (f.offset,← sizeOf f.type):Field→Sem (Nat×Nat))).run P w=.ok (fs'.map fun f=>(f.offset,(E.types f.type).size)) w:=by
      rw[Array.mapM_eq_mapM_toList,Sem.run_map,hpl]
      simp
      apply Array.ext'
      simp
     simp only[Instr.build,Sem.run_bind,hz,run_underlying hu,Result.andThen_ok,hmap,ha1,Sem.run_pure]
    ·rw[zDQ];exact zVP hcs (by rw[hz0];exact Nat.zero_le _) hxs2
   ·cases h
  ·rename_i n e hd
   rw[hd] at hdr hsub
   have:=hdr.array_inv;subst this
   split at h
   ·rename_i cs hcs
    cases h
    obtain⟨arr',ha1,ha2⟩:=zVS (g:=g) hcs hzc (by simpa using hl) hpair
    refine⟨rfl,.agg arr',?_,.agg _ _ ha2.1 ha2.2,?_⟩
    ·simp only[Instr.build,Sem.run_bind,hz,run_underlying hu,Result.andThen_ok,(hE.ti e hsub.1).sizeOf w,ha1,Sem.run_pure]
    ·rw[zDQ];exact zVR hcs (by rw[hz0];exact Nat.zero_le _) hxs2
   ·cases h
  ·cases h
 ·cases h
end
end Go.Ab
end
