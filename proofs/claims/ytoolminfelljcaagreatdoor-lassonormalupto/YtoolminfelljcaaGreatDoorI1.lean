/- A part. -/
import Derived.Test.YtoolminfelljcaaGreatDoorF10
import Derived.Test.YtoolminfelljcaaGreatDoorProg
import Derived.Shelf.RegionOpenPlain
import Derived.WalkKit
import Derived.Lib.Walk
import Derived.Lib.SliceRun
import Derived.Lib.JoinLaws
import Derived.Lib.AppendZeros
import Derived.Lib.AppendZerosOnto
import Derived.Lib.Overlaps
import Derived.Laws.Externs
import Derived.Laws.IdiomCopy
import Derived.Laws.NewBlocks
set_option linter.all false
noncomputable section
set_option linter.unusedVariables false
set_option linter.unusedSimpArgs false
namespace Go.Ab.X
open Go Go.Proofs Go.Shelf Go.RowKit Go.Lib
section
variable {P:Program}
theorem zNX (w:World){o:Oper}{a:Act}{K:Act→World→Prop}{Q:Exit→Act→World→Prop}(d s:Operand)(t t':TypeId)
  (ho:o.op=.call { callee:=.builtin .copy,args:=#[d,s],argTypes:=#[t,t'] }) (v u:Value) (hd:a.eval d=v) (hs:a.eval s=u) {v':Value} {w':World}
  (hr:(Builtin.copy_ #[t,t'] o.type #[v,u]).run P w=.ok v' w') (h:K (a.put o.dst v') w'):o.wp P a w K Q:=by
 unfold Oper.wp execOp
 simp only[ho,resolve,invoke,builtin,Sem.run_bind,Sem.run_pure,Result.andThen_ok,List.map_toArray,List.map_cons,List.map_nil,hd,hs,hr]
 exact h
theorem zDZ (w:World){ops:Array Oper}{rest:List Oper}{o:Oper}{a:Act}{Q:Exit→Act→World→Prop}(hgd:o.guard=none)(d s:Operand)(t t':TypeId)
  (ho:o.op=.call { callee:=.builtin .copy,args:=#[d,s],argTypes:=#[t,t'] }) (v u:Value) (hd:a.eval d=v) (hs:a.eval s=u) {v':Value} {w':World}
  (hr:(Builtin.copy_ #[t,t'] o.type #[v,u]).run P w=.ok v' w') (h:wpList P ops Q rest (a.put o.dst v') w'):wpList P ops Q (o :: rest) a w:=
 wpList_plain hgd fun _ hK=>zNX w d s t t' ho v u hd hs hr (hK _ _ h)
theorem zGX {ops:Array Oper}{o:Oper}{a:Act}{w:World}{K:Act→World→Prop}{Q:Exit→Act→World→Prop}{E:Prop}
  (hg:o.guard=none) (d x:Operand) (dT sT:TypeId) (hop:o.op=Op.call { callee:=Callee.builtin Builtin.copy,args:=#[d,x],argTypes:=#[dT,sT] })
  (v u:Value) (hd:a.eval d=v) (hx:a.eval x=u) {v':Value} {w':World} (hr:(Builtin.copy_ #[dT,sT] o.type #[v,u]).run P w=.ok v' w') (hK:K (a.put o.dst v') w') :
  if Region.wanted o (yielded ops a.tmps)=true then Oper.wp P o a w K Q else E:=by
 have hw:Region.wanted o (yielded ops a.tmps)=true:=by simp[Region.wanted,hg]
 rw[if_pos hw]
 unfold Oper.wp
 simp[execOp,hop,resolve,invoke,builtin,hd,hx,hr,Result.andThen]
 exact hK
theorem zNM (b:Nat):∀(vs:List Value) (o:Nat) (w:World),(w.setCells b o vs).drew=w.drew.setCells b o vs
 | [],_,_=>rfl
 | v :: r,o,w=>by rw[World.setCells,World.setCells,zNM b r];rfl
theorem zGC (b:Nat)(vs:List Value)(o:Nat)(w:World)(h:∀j,j<vs.length→(w.cell? ⟨b,o+j,none⟩).isSome=true)(k:Nat)(hk:(w.cell? ⟨b,k,none⟩).isSome=true):((w.setCells b o vs).cell? ⟨b,k,none⟩).isSome=true:=by
 by_cases hin:o≤k∧k<o+vs.length
 ·have:=World.cell?_setCells_in b vs o w h (k-o) (by omega)
  rw[show o+(k-o)=k by omega] at this
  rw[this];rfl
 ·rw[World.cell?_setCells_out b vs o w ⟨b,k,none⟩ (fun _ _=>by show k<o∨o+vs.length≤k;omega)]
  exact hk
structure InsL (P:Program):Prop where
 mixed:P.follows .mixedOrders=true
 f46:P.funcs[46]?=some Tryz.f46
 f84:P.funcs[84]?=some Tryz.f84
 t3:P.underlying 3=some (TypeDesc.int IntKind.i64)
 a3:∀w,(isAgg 3).run P w=.ok false w
 z3:∀w,(Go.sizeOf 3).run P w=.ok 1 w
 v3:∀w,(zeroValue 3).run P w=.ok (Value.int IntKind.i64 0) w
 t4:P.underlying 4=some (TypeDesc.bool)
 a4:∀w,(isAgg 4).run P w=.ok false w
 z4:∀w,(Go.sizeOf 4).run P w=.ok 1 w
 v4:∀w,(zeroValue 4).run P w=.ok (Value.bool false) w
 t35:P.underlying 35=some (TypeDesc.slice 37)
 a35:∀w,(isAgg 35).run P w=.ok false w
 z35:∀w,(Go.sizeOf 35).run P w=.ok 1 w
 v35:∀w,(zeroValue 35).run P w=.ok (Value.slice none 0 0) w
 t22:P.underlying 22=some (TypeDesc.slice 35)
 a22:∀w,(isAgg 22).run P w=.ok false w
 z22:∀w,(Go.sizeOf 22).run P w=.ok 1 w
 v22:∀w,(zeroValue 22).run P w=.ok (Value.slice none 0 0) w
 i35:(P.info? 35).map (fun i=>(i.zero,i.size,i.bytes))=some (some (Value.slice none 0 0),1,24)
theorem insNt:Tryz.f46.ntmps=95:=rfl
set_option maxHeartbeats 4000000 in
set_option maxRecDepth 100000 in
theorem zYC (L:InsL P)(b off n c i vb voff m vc:Nat)(cs vs:List Value)(w:World)(hi:i<n)(hm:0<m)(hroom:n+m≤c)(hc63:n+m≤9223372036854775807)(hvb:vb≠b)
  (hcl:cs.length=n) (hvl:vs.length=m)
  (hcs:∀j v,cs[j]?=some v→w.cell? ⟨b,off+j,none⟩=some v) (hsp:∀j,j<n+m→(w.cell? ⟨b,off+j,none⟩).isSome=true) (hfz:∀j,j<n+m→w.frozen? ⟨b,off+j,none⟩=false)
  (hvs:∀j v,vs[j]?=some v→w.cell? ⟨vb,voff+j,none⟩=some v) (h1c:∀v∈cs,v.oneCell'=true) (h1v:∀v∈vs,v.oneCell'=true)
  (tA tB:TypeId) (kA kB:Nat) (hsa:w.shape? vb=some (tA,kA)) (hsb:w.shape? b=some (tB,kB)) (hkB:kB≠0) (hfa:w.frozen? ⟨vb,voff,none⟩=false) (hfe:w.frozen? ⟨vb,kA,none⟩=false) :
  Calls P (46) #[.slice (some ⟨b,off,none⟩) n c,.int .i64 i,.slice (some ⟨vb,voff,none⟩) m vc] w fun e w'=>
   e=.returned (.slice (some ⟨b,off,none⟩) (n+m) c)∧w'=(w.drew.setCells b (off+(i+m)) (cs.drop i)).setCells b (off+i) vs:=by
 have t3:=L.t3;have a3:=L.a3;have z3:=L.z3;have v3:=L.v3;have t4:=L.t4;have a4:=L.a4;have z4:=L.z4;have v4:=L.v4;have t35:=L.t35;have a35:=L.a35;have z35:=L.z35;have v35:=L.v35;have t22:=L.t22;have a22:=L.a22;have z22:=L.z22;have v22:=L.v22
 have u3:=run_underlying L.t3;have u4:=run_underlying L.t4;have u35:=run_underlying L.t35;have u22:=run_underlying L.t22
 have hz1:¬ ((m:Int)=0):=by omega
 have hz2:¬ ((i:Int)=(n:Int)):=by omega
 have hsz:(P.info? 35).map (·.size)=some 1:=by
  obtain⟨i0,hi0,h0,h1,h2⟩:=info_parts L.i35
  rw[hi0];simp[h1]
 have hov:∀lb cb,(callFunc (84) #[.slice (some ⟨vb,voff,none⟩) m vc,.slice (some ⟨b,off+(i+m),none⟩) lb cb]).run P w=.ok (.value (.bool false)) w:=fun lb cb=>by
  rw[run_callFunc_extern L.f84 (by kernel_rfl) (by kernel_rfl) (by kernel_rfl) (e:=Extern.SlicesOverlaps.overlaps #[22,22] #[4]) (by kernel_rfl),
   Lib.run_overlaps_apart w 22 4 35 L.t22 1 L.z35 ⟨vb,voff,none⟩ ⟨b,off+(i+m),none⟩ m vc lb cb hvb tA tB kA kB hsa hsb hkB hfa hfe]
  rfl
 have hdl:(cs.drop i).length=n-i:=by rw[List.length_drop,hcl]
 have mixed:=L.mixed
 have hw1:IntKind.i64.wrap ((i:Int)+(m:Int))=(i:Int)+(m:Int):=by rw[IntKind.wrap_i64];omega
 have hb1:(0:Int)≤(i:Int)+(m:Int):=by omega
 have hin:i≤n:=by omega
 have htn:((i:Int)+(m:Int)).toNat=i+m:=by omega
 have hb2:¬ (c=i+m):=by omega
 have hb3:(i:Int)≤(n:Int)+(m:Int):=by omega
 have hb4:¬ (c=i):=by omega
 have hcp1:∀ty dc sc,(Builtin.copy_ #[22,22] ty #[.slice (some ⟨b,off+(i+m),none⟩) (n+m-(i+m)) dc,.slice (some ⟨b,off+i,none⟩) (n+m-i) sc]).run P w.drew=.ok (goInt (cs.drop i).length) (w.drew.setCells b (off+(i+m)) (cs.drop i)):=fun ty dc sc=>
  run_copy_cells w.drew _ _ ty 35 b (off+(i+m)) (n+m-(i+m)) dc ⟨b,off+i,none⟩ (n+m-i) sc (cs.drop i) L.t22 hsz (by rw[hdl];simp only[Nat.min_def];split<;>omega)
   (fun j v hj=>by rw[Addr.add_lit,Nat.add_assoc];exact hcs (i+j) v (by rwa [List.getElem?_drop] at hj))
   (fun j hj=>by rw[Nat.add_assoc];exact hsp _ (by omega)) (fun j hj=>by rw[Nat.add_assoc];exact hfz _ (by omega)) (fun v hv=>h1c v (List.mem_of_mem_drop hv))
 obtain⟨W1,hW1⟩:∃W1,W1=w.drew.setCells b (off+(i+m)) (cs.drop i):=⟨_,rfl⟩
 have hsp1:∀k,k<n+m→(W1.cell? ⟨b,off+k,none⟩).isSome=true:=fun k hk=>by
  rw[hW1]
  exact zGC b _ _ _ (fun j hj=>by rw[Nat.add_assoc];exact hsp _ (by omega)) _ (hsp k hk)
 have hcp2:∀(W:World),(∀x,W.cell? x=W1.cell? x)→(∀x,W.frozen? x=W1.frozen? x)→∀ty dc,(Builtin.copy_ #[22,22] ty #[.slice (some ⟨b,off+i,none⟩) (n+m-i) dc,.slice (some ⟨vb,voff,none⟩) m vc]).run P W=.ok (goInt vs.length) (W.setCells b (off+i) vs):=fun W hWc hWf ty dc=>
  run_copy_cells W _ _ ty 35 b (off+i) (n+m-i) dc ⟨vb,voff,none⟩ m vc vs L.t22 hsz (by rw[hvl];simp only[Nat.min_def];split<;>omega)
   (fun j v hj=>by
    rw[Addr.add_lit,hWc,hW1,World.cell?_setCells_out b _ _ _ _ (fun h _=>absurd h hvb)]
    exact hvs j v hj)
   (fun j hj=>by rw[hWc,Nat.add_assoc];exact hsp1 _ (by omega)) (fun j hj=>by rw[hWf,hW1,World.frozen?_setCells,Nat.add_assoc];exact hfz _ (by omega)) h1v
 rw[← hW1] at hcp1
 go_enter L.f46,insNt
 go_wp2_with (simp only[hov])
 go_region_law_o (refine zGX rfl _ _ 22 22 rfl _ _ (by simp[Act.eval,Act.put]) (by simp[Act.eval,Act.put]) (hcp1 _ _ _) ?_)
 go_wp2_with (at_builtin;refine zDZ _ rfl _ _ 22 22 rfl _ _ rfl rfl (hcp2 _ (fun _=>rfl) (fun _=>rfl) _ _) ?_)
 go_ret
 first|exact⟨rfl,rfl⟩|exact⟨rfl,by rw[hW1]⟩
set_option maxHeartbeats 4000000 in
set_option maxRecDepth 100000 in
theorem ins_grow (L:InsL P)(b off n c i vb voff m vc:Nat)(cs vs:List Value)(w:World)(hi:i<n)(hm:0<m)(hnc:n≤c)(hroom:c<n+m)(hbig:(n+m)*24≤140737488355328)
  (hcl:cs.length=n) (hvl:vs.length=m)
  (hcs:∀j v,cs[j]?=some v→w.cell? ⟨b,off+j,none⟩=some v)
  (hvs:∀j v,vs[j]?=some v→w.cell? ⟨vb,voff+j,none⟩=some v) (h1c:∀v∈cs,v.oneCell'=true) (h1v:∀v∈vs,v.oneCell'=true) :
  Calls P (46) #[.slice (some ⟨b,off,none⟩) n c,.int .i64 i,.slice (some ⟨vb,voff,none⟩) m vc] w fun e w'=>
   e=.returned (.slice (some ⟨w.heap.size,0,none⟩) (n+m) (grownCap w (n+m) c 35))∧
   w'=(((w.alloc (.cells ((cs.take i).toArray++Builtin.zeroCells (Value.slice none 0 0).cells (n+m-i)++Builtin.zeroCells (Value.slice none 0 0).cells (grownCap w (n+m) c 35-(n+m))) 35)).drew.setCells w.heap.size i vs).drew).setCells w.heap.size (i+m) (cs.drop i):=by
 have t3:=L.t3;have a3:=L.a3;have z3:=L.z3;have v3:=L.v3;have t4:=L.t4;have a4:=L.a4;have z4:=L.z4;have v4:=L.v4;have t35:=L.t35;have a35:=L.a35;have z35:=L.z35;have v35:=L.v35;have t22:=L.t22;have a22:=L.a22;have z22:=L.z22;have v22:=L.v22
 have u3:=run_underlying L.t3;have u4:=run_underlying L.t4;have u35:=run_underlying L.t35;have u22:=run_underlying L.t22
 have mixed:=L.mixed
 obtain⟨i0,hi0,hz0,hzs,hzb⟩:=info_parts L.i35
 have hz1:¬ ((m:Int)=0):=by omega
 have hz2:¬ ((i:Int)=(n:Int)):=by omega
 have hz3:(c:Int)<(n:Int)+(m:Int):=by omega
 have hsz:(P.info? 35).map (·.size)=some 1:=by rw[hi0];simp[hzs]
 have hbw:b<w.heap.size:=block_lt_of_cell (hcs 0 _ (List.getElem?_eq_getElem (by omega)))
 have hvw:vb<w.heap.size:=block_lt_of_cell (hvs 0 _ (List.getElem?_eq_getElem (by omega)))
 have hkk:(n:Int)+(m:Int)-(i:Int)=((n+m-i:Nat):Int):=by omega
 have hik:i+(n+m-i)=n+m:=by omega
 have hold:(Builtin.firstCells i0.size i (.slice (some ⟨b,off,none⟩) i c)).run P w.drew=.ok (cs.take i).toArray w.drew:=by
  rw[hzs]
  exact run_firstCells_some w.drew 1 i ⟨b,off,none⟩ i c (cs.take i) (by rw[List.length_take];omega) (fun j v hj=>by
   rw[Addr.add_lit]
   rw[List.getElem?_take] at hj
   split at hj
   ·exact hcs j v hj
   ·cases hj)
 have hrz:∀ty,(Builtin.append_ #[22,3] ty #[.slice (some ⟨b,off,none⟩) i c,.int .i64 ((n:Int)+(m:Int)-(i:Int))]).run P w =
   .ok (.slice (some ⟨w.heap.size,0,none⟩) (n+m) (grownCap w (n+m) c 35)) (w.drew.alloc (.cells ((cs.take i).toArray++Builtin.zeroCells (Value.slice none 0 0).cells (n+m-i)++Builtin.zeroCells (Value.slice none 0 0).cells (grownCap w (n+m) c 35-(n+m))) 35)):=fun ty=>by
  have h:=Lib.run_append_grow_zeros w 22 3 ty 35 i0 _ .i64 .i64 L.t22 L.t3 hi0 hz0 (some ⟨b,off,none⟩) i c (cs.take i) hold (n+m-i) (by omega) (by omega) (by omega) (by omega) (by rw[hzb];omega) (by rw[hzb,hik];exact growslice_fits hroom hbig)
  rw[hik] at h
  rw[hkk]
  exact h
 obtain⟨G,hG⟩:∃G,G=grownCap w (n+m) c 35:=⟨_,rfl⟩
 obtain⟨ROW,hROW⟩:∃ROW:Array Value,ROW=(cs.take i).toArray++Builtin.zeroCells (Value.slice none 0 0).cells (n+m-i)++Builtin.zeroCells (Value.slice none 0 0).cells (G-(n+m)):=⟨_,rfl⟩
 rw[← hG] at hrz ⊢
 rw[← hROW] at hrz ⊢
 have hRl:n+m≤ROW.size:=by
  rw[hROW]
  simp[Builtin.zeroCells,Value.cells]
  omega
 obtain⟨W1,hW1⟩:∃W1,W1=w.drew.alloc (.cells ROW 35):=⟨_,rfl⟩
 rw[← hW1] at hrz
 have hN:∀j,j<n+m→(W1.cell? ⟨w.heap.size,j,none⟩).isSome=true:=fun j hj=>by
  rw[hW1,World.cell?_alloc_at (w:=w.drew) ROW _ w.heap.size j rfl,Array.getElem?_eq_getElem (by omega)];rfl
 have hNf:∀j,W1.frozen? ⟨w.heap.size,j,none⟩=false:=fun j=>by rw[hW1];exact World.frozen?_alloc_at (w:=w.drew) ROW _ w.heap.size j rfl
 have hOb:∀j v,w.cell? ⟨b,j,none⟩=some v→W1.cell? ⟨b,j,none⟩=some v:=fun j v h=>by rw[hW1,World.cell?_alloc_past (w:=w.drew) _ b j hbw];exact h
 have hOv:∀j v,w.cell? ⟨vb,j,none⟩=some v→W1.cell? ⟨vb,j,none⟩=some v:=fun j v h=>by rw[hW1,World.cell?_alloc_past (w:=w.drew) _ vb j hvw];exact h
 have hcpA:∀(W:World),(∀x,W.cell? x=W1.cell? x)→(∀x,W.frozen? x=W1.frozen? x)→∀ty dc,(Builtin.copy_ #[22,22] ty #[.slice (some ⟨w.heap.size,i,none⟩) (n+m-i) dc,.slice (some ⟨vb,voff,none⟩) m vc]).run P W=.ok (goInt vs.length) (W.setCells w.heap.size i vs):=fun W hWc hWf ty dc=>
  run_copy_cells W _ _ ty 35 w.heap.size i (n+m-i) dc ⟨vb,voff,none⟩ m vc vs L.t22 hsz (by rw[hvl];simp only[Nat.min_def];split<;>omega)
   (fun j v hj=>by rw[Addr.add_lit,hWc];exact hOv _ v (hvs j v hj))
   (fun j hj=>by rw[hWc];exact hN _ (by omega)) (fun j hj=>by rw[hWf];exact hNf _) h1v
 have hGn:n+m≤G:=by rw[hG];exact grownCap_ge w _ _ _
 have hG63:G≤9223372036854775807:=by
  have:=grownCap_le_maxLen w (n+m) c 35 (by unfold maxLen;omega)
  rw[← hG] at this
  unfold maxLen at this
  omega
 have hGi:¬ (G=i):=by omega
 have hGim:¬ (G=i+m):=by omega
 have hci:¬ (c=i):=by omega
 have hbN:b≠w.heap.size:=by omega
 have hdl:(cs.drop i).length=n-i:=by rw[List.length_drop,hcl]
 have hcpB:∀(W:World),(∀x,W.cell? x=(W1.setCells w.heap.size i vs).cell? x)→(∀x,W.frozen? x=(W1.setCells w.heap.size i vs).frozen? x)→∀ty dc sc,(Builtin.copy_ #[22,22] ty #[.slice (some ⟨w.heap.size,i+m,none⟩) (n+m-(i+m)) dc,.slice (some ⟨b,off+i,none⟩) (n-i) sc]).run P W=.ok (goInt (cs.drop i).length) (W.setCells w.heap.size (i+m) (cs.drop i)):=fun W hWc hWf ty dc sc=>
  run_copy_cells W _ _ ty 35 w.heap.size (i+m) (n+m-(i+m)) dc ⟨b,off+i,none⟩ (n-i) sc (cs.drop i) L.t22 hsz (by rw[hdl];simp only[Nat.min_def];split<;>omega)
   (fun j v hj=>by
    rw[Addr.add_lit,hWc,World.cell?_setCells_out _ _ _ _ _ (fun h _=>absurd h hbN),Nat.add_assoc]
    exact hOb _ v (hcs (i+j) v (by rwa [List.getElem?_drop] at hj)))
   (fun j hj=>by rw[hWc];exact zGC _ _ _ _ (fun t ht=>hN _ (by omega)) _ (hN _ (by omega)))
   (fun j hj=>by rw[hWf,World.frozen?_setCells];exact hNf _) (fun v hv=>h1c v (List.mem_of_mem_drop hv))
 subst hW1
 have hE1:∀x,((w.alloc (.cells ROW 35)).drew).cell? x=(w.drew.alloc (.cells ROW 35)).cell? x:=fun x=>rfl
 have hE2:∀x,((w.alloc (.cells ROW 35)).drew).frozen? x=(w.drew.alloc (.cells ROW 35)).frozen? x:=fun x=>rfl
 have hF1:∀x,(((w.alloc (.cells ROW 35)).drew.setCells w.heap.size i vs).drew).cell? x=((w.drew.alloc (.cells ROW 35)).setCells w.heap.size i vs).cell? x:=fun x=>rfl
 have hF2:∀x,(((w.alloc (.cells ROW 35)).drew.setCells w.heap.size i vs).drew).frozen? x=((w.drew.alloc (.cells ROW 35)).setCells w.heap.size i vs).frozen? x:=fun x=>rfl
 have hw1:IntKind.i64.wrap ((i:Int)+(m:Int))=(i:Int)+(m:Int):=by rw[IntKind.wrap_i64];omega
 have hb1:(0:Int)≤(i:Int)+(m:Int):=by omega
 have hin:i≤n:=by omega
 have htn:((i:Int)+(m:Int)).toNat=i+m:=by omega
 have hb3:(i:Int)≤(n:Int):=by omega
 clear hkk hik hold hROW hG hRl
 go_enter L.f46,insNt
 go_wp2_with (first
  | (at_builtin;refine Lib.wpList_append_run _ rfl _ _ _ _ rfl _ _ rfl rfl _ _ (hrz _) ?_)
  | (at_builtin;refine zDZ _ rfl _ _ 22 22 rfl _ _ rfl rfl (hcpA _ hE1 hE2 _ _) ?_)
  | (at_builtin;refine zDZ _ rfl _ _ 22 22 rfl _ _ rfl rfl (hcpB _ (fun _=>rfl) (fun _=>rfl) _ _ _) ?_))
 go_region_law_o (refine zGX rfl _ _ 22 22 rfl (.slice (some ⟨w.heap.size,i+m,none⟩) (n+m-(i+m)) (G-(i+m))) (.slice (some ⟨b,off+i,none⟩) (n-i) (c-i)) (by simp[Act.eval,Act.put]) (by simp[Act.eval,Act.put]) (hcpB _ hF1 hF2 3 (G-(i+m)) (c-i)) ?_)
 go_wp2
 go_ret
 exact⟨rfl,rfl⟩
end
end Go.Ab.X
namespace Go.Ab.X
open Go Go.Ab Go.Proofs
theorem zFO (b:Nat)(ty:TypeId):∀(vs:List Value) (o:Nat) (w:World) (arr:Array Value),w.heap[b]?=some (.cells arr ty (0,0))→o+vs.length≤arr.size→
  (w.setCells b o vs).heap[b]?=some (.cells (blit arr o vs) ty (0,0))∧(w.setCells b o vs).heap.size=w.heap.size∧(∀j,j≠b→(w.setCells b o vs).heap[j]?=w.heap[j]?)∧(w.setCells b o vs).os=w.os∧(w.setCells b o vs).output=w.output:=by
 intro vs
 induction vs with
 | nil=>intro o w arr h _;exact⟨h,rfl,fun _ _=>rfl,rfl,rfl⟩
 | cons v r ih=>
  intro o w arr h hl
  simp only[List.length_cons] at hl
  rw[World.setCells,zLW v h]
  have h1:(putB w b (.cells (arr.setIfInBounds o v) ty (0,0))).heap[b]?=some (.cells (arr.setIfInBounds o v) ty (0,0)):=zF3 h
  obtain⟨e1,e2,e3,e4,e5⟩:=ih (o+1) _ _ h1 (by simp;omega)
  exact⟨e1,by rw[e2,zFA],fun j hj=>by rw[e3 j hj,zCD hj],by rw[e4];rfl,by rw[e5];rfl⟩
theorem zSZ {w w':World}{b:Nat}(h:w.heap[b]?=w'.heap[b]?)(ho:∀j,j≠b→w.heap[j]?=w'.heap[j]?):w.heap=w'.heap:=by
 apply Array.ext_getElem?
 intro j
 by_cases e:j=b
 ·subst e;exact h
 ·exact ho j e
theorem ins_norm {P:Program}(L:InsL P){base:Nat}{w0:World}{g:Gh}{s s':Sto}{w:World}{args:List AV}{args':Array Value}{v:AV}(h:insA 35 args s=some (v,s'))(hr:Rel base w0 g s w)(ha:VRs g args args') :
  zB8 P base w0 g s w 46 args' (.ret v) s':=by
 unfold insA at h
 split at h
 ·rename_i k n i k2 m
  unfold zME at h
  split at h
  ·rename_i ty es xs hk
   split at h
   ·rename_i ty2 es2 ys hk2
    rw[cond_eq_ite] at h
    split at h
    ·rename_i hc
     simp only[Bool.and_eq_true,zAG,Bool.not_eq_true'] at hc
     obtain⟨c1,c2,c2',c3,c4,c5,c6,c7,c8,c9,c10,c11⟩:=hc
     have c1:k≠k2:=fun e=>by subst e;simp at c1
     have c2:=Nat.eq_of_beq_eq_true c2
     have c2':=Nat.eq_of_beq_eq_true c2'
     have c3:=Nat.eq_of_beq_eq_true c3
     have c4:=Nat.eq_of_beq_eq_true c4
     have c5:=Nat.eq_of_beq_eq_true c5
     have c6:=Nat.eq_of_beq_eq_true c6
     have c7:i<n:=by rw[Nat.blt_eq] at c7;exact c7
     have c8:0<m:=by rw[Nat.blt_eq] at c8;exact c8
     have c11:=Nat.le_of_ble_eq_true c11
     subst c2;subst c2';subst c3;subst c4
     cases h
     rw[zBB,zBB,zA6,zBI]
     obtain⟨hlt,arr,hh,_,hges,hrl,hbs,hR,htop,hC⟩:=hr.rowBlock hk
     obtain⟨hlt2,arr2,hh2,_,hges2,hrl2,hbs2,hR2,htop2,hC2⟩:=hr.rowBlock hk2
     have hsz:=hR.1
     have hsz2:=hR2.1
     rw[Nat.mul_one] at hsz hsz2
     have hlive:liveBox (s.get k)=true:=by rw[hk];rfl
     have hlive2:liveBox (s.get k2)=true:=by rw[hk2];rfl
     have hvb:g.mu k2≠g.mu k:=fun e=>c1 (hr.inj k k2 hlt hlt2 hlive hlive2 e.symm)
     have fx:∀x∈xs,flatC (cellsOf x)=true:=fun x hx=>(zC0 c9 x hx).2
     have fy:∀x∈ys,flatC (cellsOf x)=true:=fun x hx=>(zC0 c10 x hx).2
     have hlen:args'.size=3:=by rw[← ha.1];rfl
     obtain⟨a',hva⟩:∃a',args'[0]?=some a':=⟨_,Array.getElem?_eq_getElem (by omega)⟩
     obtain⟨i',hvi⟩:∃a',args'[1]?=some a':=⟨_,Array.getElem?_eq_getElem (by omega)⟩
     obtain⟨b',hvb'⟩:∃a',args'[2]?=some a':=⟨_,Array.getElem?_eq_getElem (by omega)⟩
     have ra:=ha.2 0 _ _ rfl hva
     have ri:=ha.2 1 _ _ rfl hvi
     have rb:=ha.2 2 _ _ rfl hvb'
     have he:args'=#[a',i',b']:=by
      apply Array.ext_getElem?
      intro j
      match j with
      | 0=>exact hva
      | 1=>exact hvi
      | 2=>exact hvb'
      | j+3=>rw[Array.getElem?_eq_none (by omega)];rfl
     subst he
     cases ri with
     | int _ _=>
     have hnn:n=0→False:=fun e=>by omega
     have hmm:m=0→False:=fun e=>by omega
     cases ra with
     | oslE _ _ _ _ h0=>exact absurd c7 (Nat.not_lt_zero _)
     | osl _ _ _ cap h1 h2 h3=>
     cases rb with
     | oslE _ _ _ _ h0=>exact absurd c8 (Nat.lt_irrefl 0)
     | osl _ _ _ cap2 k1 k2' k3=>
     rw[Nat.zero_mul,Nat.zero_mul]
     rw[hges,hbs,Nat.zero_add,Nat.mul_one] at h2
     have hcsl:(arr.toList.take n).length=n:=by rw[List.length_take,Array.length_toList];omega
     have hvsl:(arr2.toList.take m).length=m:=by rw[List.length_take,Array.length_toList];omega
     have rx:RowL g 1 xs (arr.toList.take n):=by
      have:=hR.firstL xs.length (Nat.le_refl _)
      rw[List.take_length,Nat.mul_one,← c5] at this;exact this
     have ry:RowL g 1 ys (arr2.toList.take m):=by
      have:=hR2.firstL ys.length (Nat.le_refl _)
      rw[List.take_length,Nat.mul_one,← c6] at this;exact this
     have rd:RowL g 1 (xs.drop i) ((arr.toList.take n).drop i):=by
      have:=hR.midL i (n-i) (by omega)
      rw[Nat.mul_one,Nat.mul_one,List.take_of_length_le (by rw[List.length_drop];omega)] at this
      rw[List.drop_take];exact this
     have ri:RowL g 1 (xs.take i) ((arr.toList.take n).take i):=by
      have:=hR.firstL i (by omega)
      rw[Nat.mul_one] at this
      rw[List.take_take,Nat.min_eq_left (by omega)];exact this
     have o1:=rx.flat fx
     have o2:=ry.flat fy
     have gcs:∀j v,(arr.toList.take n)[j]?=some v→w.cell? ⟨g.mu k,0+j,none⟩=some v:=by
      intro j v hj
      rw[Nat.zero_add,zCN hh]
      rw[List.getElem?_take] at hj
      split at hj
      ·rw[Array.getElem?_toList] at hj;exact hj
      ·cases hj
     have gvs:∀j v,(arr2.toList.take m)[j]?=some v→w.cell? ⟨g.mu k2,0+j,none⟩=some v:=by
      intro j v hj
      rw[Nat.zero_add,zCN hh2]
      rw[List.getElem?_take] at hj
      split at hj
      ·rw[Array.getElem?_toList] at hj;exact hj
      ·cases hj
     have ht1:tops (ys++xs.drop i)≤s.n:=zGJ htop2 (zAR.2 fun y hy=>zAR.1 htop y (List.mem_of_mem_drop hy))
     have htz:tops (xs.take i++(ys++xs.drop i))≤s.n:=zGJ (zHR htop) ht1
     rw[zEG (by omega)]
     have hdl:((arr.toList.take n).drop i).length=n-i:=by rw[List.length_drop,hcsl]
     have hzl:(xs.take i++(ys++xs.drop i)).length=n+m:=by simp only[List.length_append,List.length_take,List.length_drop];omega
     have fin:∀{g':Gh} {w' w2:World} {u:Value},Calls P 46 #[.slice (some ⟨g.mu k,0,none⟩) n cap,.int .i64 (Int.ofNat i),.slice (some ⟨g.mu k2,0,none⟩) m cap2] w (fun e w1=>e=.returned u∧w1=w2)→
       Rel base w0 g' ((s.put k .dead).alloc (.row 35 1 (xs.take i++(ys++xs.drop i)) false)) w'→w2.heap=w'.heap→w2.os=w'.os∧w2.output=w'.output→Grows s.n g g'→VR g' (.osl s.n 0 (n+m)) u→
       zB8 P base w0 g s w 46 #[.slice (some ⟨g.mu k,0,none⟩) n cap,.int .i64 (Int.ofNat i),.slice (some ⟨g.mu k2,0,none⟩) m cap2] (.ret (.osl s.n 0 (n+m))) ((s.put k .dead).alloc (.row 35 1 (xs.take i++(ys++xs.drop i)) false)):=by
      intro g' w' w2 u hcall hrel hheap hos hg hv c cs
      obtain⟨e,w1,fr,⟨he,hw1⟩,hcm,hfn,hlv⟩:=hcall (c :: cs)
      subst he;subst hw1
      refine⟨g',w1,hg,hrel.same hheap hos,by rw[zBP,zD1];omega,u,hv,by rw[zBP,zD1];exact Nat.le_refl _,.inr ⟨zCJ L.f46 (by decide) (body:=_) rfl _ w,?_⟩⟩
      exact Steps.trans hcm (.one (Go.step_leave_returned hlv))
     by_cases hroom:n+m≤cap
     ·obtain⟨w',g',hw',hR',hg,hv⟩:=zWP (P:=P) (len:=i) (cap:=cap) hr hk (ry.app rd) (fun x hx=>by
        rcases List.mem_append.1 hx with h|h
        ·exact fy x h
        ·exact fx x (List.mem_of_mem_drop h)) (by omega) (by simp only[List.length_append,List.length_drop];omega) (by simp) (by simp only[List.length_append,List.length_drop];omega) (by rw[Nat.mul_one,hbs];omega) ht1
      have hl2:i+(ys++xs.drop i).length=n+m:=by simp only[List.length_append,List.length_drop];omega
      rw[hl2] at hv
      have hcall:=zYC L (g.mu k) 0 n cap i (g.mu k2) 0 m cap2 (arr.toList.take n) (arr2.toList.take m) w c7 c8 hroom (by omega) hvb hcsl hvsl gcs
       (fun j hj=>by rw[Nat.zero_add,zCN hh,Array.getElem?_eq_getElem (by omega)];rfl) (fun j _=>by rw[zFD hh]) gvs o1 o2
       35 35 arr2.size arr.size (by simp[World.shape?,hh2]) (by simp[World.shape?,hh]) (by omega) (by rw[zFD hh2]) (by rw[zFD hh2])
      rw[Nat.zero_add,Nat.zero_add] at hcall
      have hd:w.drew.heap=w.heap:=rfl
      obtain⟨e1,e2,e3,e4,e5⟩:=zFO (g.mu k) 35 ((arr.toList.take n).drop i) (i+m) w.drew arr (by rw[hd];exact hh) (by rw[hdl];omega)
      obtain⟨f1,f2,f3,f4,f5⟩:=zFO (g.mu k) 35 (arr2.toList.take m) i _ _ e1 (by rw[zCC,hvsl];omega)
      obtain⟨w'',hw'',q1,q2,q3,q4,q5,q6⟩:=zA4 P (g.mu k) (i*1) 35 (arr2.toList.take m++(arr.toList.take n).drop i) 0 w arr hh (by rw[List.length_append,hvsl,hdl];omega) (fun v hv=>by
       rcases List.mem_append.1 hv with h|h
       ·exact o2 v h
       ·exact o1 v (List.mem_of_mem_drop h))
      have hw:=hw''
      rw[hw'] at hw
      cases hw
      refine fin hcall hR' (zSZ (b:=g.mu k) ?_ fun j hj=>?_) ⟨by rw[f4,e4,q5];rfl,by rw[f5,e5,q6];rfl⟩ hg hv
      ·rw[f1,q2]
       congr 2
       apply Array.ext_getElem?
       intro j
       rw[zDG _ _ _ _ (by rw[zCC,hvsl];omega),zDG _ _ _ _ (by rw[hdl];omega),zDG _ _ _ _ (by rw[List.length_append,hvsl,hdl];omega)]
       rw[Nat.mul_one,Nat.add_zero,List.length_append,hvsl,hdl]
       by_cases j1:i≤j∧j<i+m
       ·rw[if_pos j1,if_pos (by omega),List.getElem?_append_left (by omega)]
       ·by_cases j2:i+m≤j∧j<i+m+(n-i)
        ·rw[if_neg j1,if_pos j2,if_pos (by omega),List.getElem?_append_right (by omega),hvsl]
         congr 1;omega
        ·rw[if_neg j1,if_neg j2,if_neg (by omega)]
      ·rw[f3 j hj,e3 j hj,q3 j hj];rfl
     ·have hcall:=ins_grow L (g.mu k) 0 n cap i (g.mu k2) 0 m cap2 (arr.toList.take n) (arr2.toList.take m) w c7 c8 h1 (by omega) (by omega) hcsl hvsl gcs gvs o1 o2
      have hgc:=grownCap_ge w (n+m) cap 35
      obtain⟨g',hR',hg,hv⟩:=zQZ (z:=(Value.slice none 0 0).cells) (cap:=grownCap w (n+m) cap 35) 35 (hr.kill hlt hlive) (Nat.zero_lt_one) rfl (ri.app (ry.app rd)) (by rw[zD1];exact htz) (by rw[hzl];exact hgc) false
      rw[hzl] at hR' hv
      rw[zD1] at hg
      have hG:n+m≤grownCap w (n+m) cap 35:=hgc
      generalize hGe:grownCap w (n+m) cap 35=G at *
      have hzz:∀q,(Builtin.zeroCells (Value.slice none 0 0).cells q).size=q:=fun q=>by rw[zBC];show q*1=q;omega
      have hcil:((arr.toList.take n).take i).length=i:=by rw[List.length_take,hcsl];omega
      have hcl0:(((arr.toList.take n).take i).toArray++Builtin.zeroCells (Value.slice none 0 0).cells (n+m-i)++Builtin.zeroCells (Value.slice none 0 0).cells (G-(n+m))).size=G:=by
       rw[Array.size_append,Array.size_append,hzz,hzz,List.size_toArray,hcil];omega
      generalize hROW:((arr.toList.take n).take i).toArray++Builtin.zeroCells (Value.slice none 0 0).cells (n+m-i)++Builtin.zeroCells (Value.slice none 0 0).cells (G-(n+m))=ROW at hcall hcl0
      have hal:(w.alloc (.cells ROW 35)).heap[w.heap.size]?=some (.cells ROW 35 (0,0)):=zDN w _
      obtain⟨e1,e2,e3,e4,e5⟩:=zFO w.heap.size 35 (arr2.toList.take m) i (w.alloc (.cells ROW 35)).drew ROW hal (by rw[hvsl];omega)
      obtain⟨f1,f2,f3,f4,f5⟩:=zFO w.heap.size 35 ((arr.toList.take n).drop i) (i+m) (((w.alloc (.cells ROW 35)).drew.setCells w.heap.size i (arr2.toList.take m))).drew _ e1 (by rw[zCC,hdl];omega)
      refine fin hcall hR' (zSZ (b:=w.heap.size) ?_ fun j hj=>?_) ⟨by rw[f4];exact e4,by rw[f5];exact e5⟩ hg hv
      ·rw[f1]
       have:(push w.drew (.cells ((arr.toList.take n).take i++(arr2.toList.take m++(arr.toList.take n).drop i)++(Builtin.zeroCells (Value.slice none 0 0).cells (G-(n+m))).toList).toArray 35)).heap[w.heap.size]?=some (.cells ((arr.toList.take n).take i++(arr2.toList.take m++(arr.toList.take n).drop i)++(Builtin.zeroCells (Value.slice none 0 0).cells (G-(n+m))).toList).toArray 35 (0,0)):=zDN w _
       rw[this]
       congr 2
       apply Array.ext_getElem?
       intro j
       rw[zDG _ _ _ _ (by rw[zCC,hdl];omega),zDG _ _ _ _ (by rw[hvsl];omega),hdl,hvsl]
       have eL:∀L:List Value,L.toArray[j]?=L[j]?:=fun L=>by simp
       rw[eL ((arr.toList.take n).take i++(arr2.toList.take m++(arr.toList.take n).drop i)++(Builtin.zeroCells (Value.slice none 0 0).cells (G-(n+m))).toList)]
       by_cases j1:j<i
       ·rw[if_neg (by omega),if_neg (by omega),← hROW,Array.getElem?_append_left (by rw[Array.size_append,List.size_toArray,hcil];omega),Array.getElem?_append_left (by rw[List.size_toArray,hcil];omega),eL,
         List.getElem?_append_left (by simp only[List.length_append,hcil];omega),List.getElem?_append_left (by omega)]
       ·by_cases j2:j<i+m
        ·rw[if_neg (by omega),if_pos (by omega),List.getElem?_append_left (by simp only[List.length_append,hcil,hvsl];omega),List.getElem?_append_right (by omega),hcil,List.getElem?_append_left (by omega)]
        ·by_cases j3:j<n+m
         ·rw[if_pos (by omega),List.getElem?_append_left (by simp only[List.length_append,hcil,hvsl,hdl];omega),List.getElem?_append_right (by omega),hcil,List.getElem?_append_right (by omega),hvsl]
          congr 1;omega
         ·rw[if_neg (by omega),if_neg (by omega),← hROW,Array.getElem?_append_right (by rw[Array.size_append,List.size_toArray,hcil,hzz];omega),List.getElem?_append_right (by simp only[List.length_append,hcil,hvsl,hdl];omega)]
          rw[Array.size_append,List.size_toArray,hcil,hzz,Array.getElem?_toList]
          simp only[List.length_append,hcil,hvsl,hdl]
          congr 1;omega
      ·rw[f3 j hj]
       show((w.alloc (.cells ROW 35)).drew.setCells w.heap.size i (arr2.toList.take m)).heap[j]?=_
       rw[e3 j hj]
       show(w.heap.push _)[j]?=(w.heap.push _)[j]?
       rw[Array.getElem?_push,Array.getElem?_push,if_neg hj,if_neg hj]
    ·cases h
   ·cases h
  ·cases h
 ·cases h
end Go.Ab.X
end
