/- A part. -/
import Derived.Test.YtfjmlhpdcaeabaaGreatDoorK5
set_option linter.all false
noncomputable section
namespace Pl
mutual
theorem nodesV_len:∀(v:V)(d:Int),(nodesV v d).length=cntV v
 | .mk k n ng dd s l m,d=>by simp only[nodesV,cntV,List.length_cons,List.length_append,nodesVs_len l,nodesVs_len m];omega
theorem nodesVs_len:∀(l:List V) (d:Int),(nodesVs l d).length=cntVs l
 | [],_=>rfl
 | v :: r,d=>by simp only[nodesVs,cntVs,List.length_append,nodesV_len v,nodesVs_len r]
end
mutual
theorem nodesV_dep:∀(v:V)(d D:Int),(∀y∈nodesV v d,y.2≤D)↔d+depV v-1≤D
 | .mk k n ng dd s l m,d,D=>by
  have h1:=nodesVs_dep l (d+1) D
  have h2:=nodesVs_dep m (d+1) D
  simp only[nodesV,depV,List.forall_mem_cons,List.forall_mem_append,h1,h2]
  omega
theorem nodesVs_dep:∀(l:List V) (d D:Int),(∀y∈nodesVs l d,y.2≤D)↔(depVs l=0∨d+depVs l-1≤D)
 | [],_,_=>by simp[nodesVs,depVs]
 | v :: r,d,D=>by
  have h1:=nodesV_dep v d D
  have h2:=nodesVs_dep r d D
  have hp:1≤depV v:=by cases v;simp only[depV];omega
  simp only[nodesVs,depVs,List.forall_mem_append,h1,h2]
  omega
end
mutual
theorem nodes_formed:∀(v:V)(d:Int),((nodesV v d).all fun y=>node y.1)=formed v
 | .mk k n ng dd s l m,d=>by simp only[nodesV,List.all_cons,List.all_append,formed,nodess_formed l,nodess_formed m,Bool.and_assoc]
theorem nodess_formed:∀(l:List V) (d:Int),((nodesVs l d).all fun y=>node y.1)=formedL l
 | [],_=>rfl
 | v :: r,d=>by simp only[nodesVs,List.all_append,formedL,nodes_formed v,nodess_formed r]
end
mutual
theorem nodesV_sz:∀(v:V)(d:Int),∀y∈nodesV v d,szV y.1≤szV v
 | .mk k n ng dd s l m,d,y,hy=>by
  simp only[nodesV,List.mem_cons,List.mem_append] at hy
  rcases hy with rfl|hy|hy
  ·exact Nat.le_refl _
  ·have:=nodesVs_sz l (d+1) y hy;simp only[szV];omega
  ·have:=nodesVs_sz m (d+1) y hy;simp only[szV];omega
theorem nodesVs_sz:∀(l:List V) (d:Int),∀y∈nodesVs l d,szV y.1≤szVs l
 | [],_,y,hy=>by simp only[nodesVs] at hy;cases hy
 | v :: r,d,y,hy=>by
  simp only[nodesVs,List.mem_append] at hy
  rcases hy with hy|hy
  ·have:=nodesV_sz v d y hy;simp only[szVs];omega
  ·have:=nodesVs_sz r d y hy;simp only[szVs];omega
end
theorem zSR {α:Type}(q:α→Bool):∀l:List α,runS (fun(_:Bool) y=>(q y,!q y)) false l=(l.all q,!l.all q)
 | []=>rfl
 | x :: l=>by
  rw[runS,List.all_cons]
  cases h:q x with
  | true=>exact zSR q l
  | false=>rfl
end Pl
namespace Go.Ab.X
open Go Go.Ab Go.Proofs Pl
set_option maxRecDepth 100000
set_option maxHeartbeats 1000000
theorem szRun {most deepest:Int}:∀(l:List (V×Int)) (k gr:Int),k≤most→gr≤deepest→
  (((runS (zCU most deepest) (k,gr,false) l).2.1≤most∧(runS (zCU most deepest) (k,gr,false) l).2.2.1≤deepest)↔(k+l.length≤most∧∀y∈l,y.2≤deepest))
 | [],k,gr,h1,h2=>by simp[runS,h1,h2]
 | y :: l,k,gr,h1,h2=>by
  rw[runS]
  by_cases hc:most<k+1∨deepest<y.2
  ·have hst:zCU most deepest (k,gr,false) y=(false,k+1,max gr y.2,true):=by unfold zCU;rw[if_pos hc]
   rw[hst]
   simp only[List.length_cons,List.forall_mem_cons]
   constructor
   ·rintro⟨a,b⟩;omega
   ·rintro⟨a,b,c⟩;omega
  ·have hst:zCU most deepest (k,gr,false) y=(true,k+1,max gr y.2,false):=by unfold zCU;rw[if_neg hc]
   rw[hst]
   dsimp only
   rw[szRun l (k+1) (max gr y.2) (by omega) (by omega)]
   simp only[List.length_cons,List.forall_mem_cons]
   exact⟨fun⟨a,b⟩=>⟨by omega,by omega,b⟩,fun⟨a,b,c⟩=>⟨by omega,c⟩⟩
theorem c309 {v:V}{s:Sto}(hsz:szV v<1073741824){Q:CR→Sto→Prop}(h:Q (.ret (.bool (decide (cntV v≤8000)&&decide (depV v≤50)))) s):C E1 309 [encV v] s Q:=by
 have e:(decide (cntV v≤8000)&&decide (depV v≤50))=(decide ((runS (zCU 8000 50) (0,0,false) (nodesV v 1)).2.1≤8000)&&decide ((runS (zCU 8000 50) (0,0,false) (nodesV v 1)).2.2.1≤50)):=by
  have:=szRun (most:=8000) (deepest:=50) (nodesV v 1) 0 0 (by omega) (by omega)
  rw[nodesV_len,nodesV_dep] at this
  rw[Bool.eq_iff_iff]
  simp only[Bool.and_eq_true,decide_eq_true_eq]
  rw[this]
  omega
 rw[e] at h
 clear e
 refine zAF (md:=⟨true,false,false,false⟩) (fn:=Tryz.f309) (n:=16) (rs:=[.tmp 2]) rfl rfl rfl rfl rfl rfl rfl (by simp only[go_sem, *];try rfl) (by rfl) (by simp only[go_sem]) ?_
 repeat' (first|refine c352 (by omega) hsz ?_|simp (disch:=first|assumption|omega) only[go_sem, *]|((first|apply gw_m|apply gw_q);focus (intro hs;(try simp only[nbs] at hs);simp (disch:=first|assumption|omega) only[go_sem, *];rfl))|((first|refine zAB ?_ ?_|refine zAA ?_ ?_|refine sp_C ?_ ?_|refine sp_G ?_ ?_)<;>(intro hs;try simp only[nbs] at hs)))
def isG (lb:LoopB)(bk:Bool)(g:Nat→Box):Prop:=
 g 1=.cells 4 [.bool false]∧g 3=.mark∧g 4=.loop ⟨if bk=true then 2 else 0,if bk=true then some .ret else none,lb.fn,lb.tmps,lb.params,lb.assign,lb.body⟩
theorem c239 {v:V}{s:Sto}(hsz:szV v<1073741824){Q:CR→Sto→Prop}(h:Q (.ret (.bool (zCA v))) s):C E1 239 [encV v] s Q:=by
 unfold zCA at h
 have hfit:∀(s:Sto) (Q:CR→Sto→Prop),Q (.ret (.bool (decide (cntV v≤8000)&&decide (depV v≤50)))) s→C E1 309 [encV v] s Q:=fun s Q=>c309 hsz
 generalize (decide (cntV v≤8000)&&decide (depV v≤50))=ft at *
 rw[← nodes_formed v 1] at h
 refine zPZ (md:=⟨true,false,false,false⟩) (fn:=Tryz.f239) (n:=14) (rs:=[.cell 2 4]) rfl rfl rfl rfl rfl rfl rfl (by simp only[go_sem, *];try rfl) (by rfl) (by simp only[go_sem]) ?_
 repeat' (first|refine hfit _ _ ?_|apply c310|refine fM_ret0 ?_|simp (disch:=first|assumption|omega) only[go_sem, *]|((first|apply gw_m|apply gw_q);focus (intro hs;(try simp only[nbs] at hs);simp (disch:=first|assumption|omega) only[go_sem, *];rfl))|((first|refine zAB ?_ ?_|refine zAA ?_ ?_|refine sp_C ?_ ?_|refine sp_G ?_ ?_)<;>(intro hs;try simp only[nbs] at hs)))
 ·rw[hs,Bool.false_and] at h;exact h
 rw[hs,Bool.true_and] at h
 clear hs
 refine LO_rng (by simp only[go_sem];rfl) ?_
 intro lb hlb
 have hR:∀(a:Bool) (x:V)(d:Int) (m:Nat) (g:Nat→Box),a=false→szV x<1073741824→isG lb a g→5≤m→∀Q:CR→Sto→Prop,(∀g',isG lb (!node x) g'→(∀k,5≤k→k<m→g' k=g k)→Q (.ret (.bool (node x))) (S m g' []))→R E1 4 [encV x,.int .i64 d] (S m g []) Q:=by
  clear h hfit
  rintro bk x d m g hbk hx ⟨g1,g2,g3⟩ hm8 Q hQ
  subst hlb
  subst hbk
  dsimp only at g3
  have hub:zAS m []=true:=rfl
  have hub2:zAK m []=[]:=rfl
  have hmm:m≤m+1:=by omega
  refine zZR (by omega) g3 (by simp only[go_sem];rfl) (by simp only[bindF,bindN];rfl) ?_
  repeat' (first|refine c311 hx ?_|refine AQ_n (by omega) ?_|refine AQb_l ?_|refine BQ_i (by omega) ?_|simp (disch:=first|assumption|omega) only[go_sem, *]|((first|apply gw_m|apply gw_q);focus (intro hs;(try simp only[nbs] at hs);simp (disch:=first|assumption|omega) only[go_sem, *];rfl))|((first|refine zAB ?_ ?_|refine zAA ?_ ?_|refine sp_C ?_ ?_|refine sp_G ?_ ?_)<;>(intro hs;try simp only[nbs] at hs)))
  ·rw[hs] at hQ
   exact hQ _ ⟨(by(repeat (first|rw[zAD]|rw[zAC (by omega)]));try assumption;try rfl),(by(repeat (first|rw[zAD]|rw[zAC (by omega)]));try assumption;try rfl),(by rw[Bool.not_false,if_pos rfl,if_pos rfl,zAD])⟩ (fun k h1 h2=>by(repeat rw[zAC (by omega)]))
  ·rw[hs] at hQ
   exact hQ _ ⟨(by(repeat (first|rw[zAD]|rw[zAC (by omega)]));try assumption;try rfl),(by(repeat (first|rw[zAD]|rw[zAC (by omega)]));try assumption;try rfl),(by rw[Bool.not_true,if_neg Bool.false_ne_true,if_neg Bool.false_ne_true,zAD])⟩ (fun k h1 h2=>by(repeat rw[zAC (by omega)]))
 have hI:∀(a:Bool) (y:V×Int),a=false→node y.1=true→(!node y.1)=false:=fun a y _ h=>by rw[h];rfl
 have hG:∀a g g',isG lb a g→(∀k,k<5→g' k=g k)→isG lb a g':=by
  rintro a g g' ⟨g1,g2,g3⟩ hk
  exact⟨by rw[hk 1 (by omega),g1],by rw[hk 3 (by omega),g2],by rw[hk 4 (by omega),g3]⟩
 have h0:isG lb false (updB (updB (updB (updB (updB g0 0 (Box.cells 32 (zAZ v))) 1 (Box.cells 4 [AV.bool false])) 2 (Box.cells 32 (zAZ v))) 3 Box.mark) 4 (Box.loop lb)):=by
  refine⟨(by(repeat (first|rw[zAD]|rw[zAC (by omega)]));try assumption;try rfl),(by(repeat (first|rw[zAD]|rw[zAC (by omega)]));try assumption;try rfl),?_⟩
  rw[zAD,hlb,if_neg Bool.false_ne_true,if_neg Bool.false_ne_true]
 refine c353 (l:=4) (b0:=5) (step:=fun(_:Bool) (y:V×Int)=>(node y.1,!node y.1)) (P:=fun x _=>szV x<1073741824) (I:=fun a=>a=false) hI hG hR hsz (fun y hy=>Nat.lt_of_le_of_lt (nodesV_sz v 1 y hy) hsz) (a:=false) (mv:=2) rfl h0 (Nat.le_refl _) (by decide) (by decide) (by(repeat (first|rw[zAD]|rw[zAC (by omega)]));try assumption;try rfl) ?_
 intro g2 hG2 hl2
 rw[zSR (fun y:V×Int=>node y.1)] at hG2
 generalize ((nodesV v 1).all fun y=>node y.fst)=R at *
 obtain⟨g1,g3,g4⟩:=hG2
 have hmk:updB g2 4 .dead 3=.mark:=by rw[zAC (by decide)];exact g3
 refine RQ_i (by decide) ?_
 rw[g4]
 cases R with
 | false=>
  rw[Bool.not_false,if_pos rfl,if_pos rfl]
  refine RQb_r ?_
  repeat' (first|refine zS8 (by omega) hmk ?_|simp (disch:=first|assumption|omega) only[go_sem, *]|((first|apply gw_m|apply gw_q);focus (intro hs;(try simp only[nbs] at hs);simp (disch:=first|assumption|omega) only[go_sem, *];rfl))|((first|refine zAB ?_ ?_|refine zAA ?_ ?_|refine sp_C ?_ ?_|refine sp_G ?_ ?_)<;>(intro hs;try simp only[nbs] at hs)))
 | true=>
  rw[Bool.not_true,if_neg Bool.false_ne_true,if_neg Bool.false_ne_true]
  refine RQb_n ?_
  have hmk2:updB (updB g2 4 .dead) 1 (.cells 4 [.bool true]) 3=.mark:=by rw[zAC (by decide)];exact hmk
  repeat' (first|refine zS8 (by omega) hmk2 ?_|simp (disch:=first|assumption|omega) only[go_sem, *]|((first|apply gw_m|apply gw_q);focus (intro hs;(try simp only[nbs] at hs);simp (disch:=first|assumption|omega) only[go_sem, *];rfl))|((first|refine zAB ?_ ?_|refine zAA ?_ ?_|refine sp_C ?_ ?_|refine sp_G ?_ ?_)<;>(intro hs;try simp only[nbs] at hs)))
theorem c155 {v:V}{s:Sto}(hsz:szV v<1073741824){Q:CR→Sto→Prop}(h:Q (.ret (.int .i64 (if zCA v=true then 0 else 4))) s):C E1 155 [encV v] s Q:=by
 refine zAF (md:=⟨true,false,false,false⟩) (fn:=Tryz.f155) (n:=6) (rs:=[.tmp 2]) rfl rfl rfl rfl rfl rfl rfl (by simp only[go_sem, *];try rfl) (by rfl) (by simp only[go_sem]) ?_
 repeat' (first|refine c239 hsz ?_|simp (disch:=first|assumption|omega) only[go_sem, *]|((first|apply gw_m|apply gw_q);focus (intro hs;(try simp only[nbs] at hs);simp (disch:=first|assumption|omega) only[go_sem, *];rfl))|((first|refine zAB ?_ ?_|refine zAA ?_ ?_|refine sp_C ?_ ?_|refine sp_G ?_ ?_)<;>(intro hs;try simp only[nbs] at hs)))
 all_goals (rw[hs] at h;exact h)
end Go.Ab.X
namespace Go.Ab.X
open Go Go.Ab Go.Proofs Pl
set_option maxRecDepth 100000
set_option maxHeartbeats 1000000
def bldT (t:TypeId)(ps:List (Nat×AV))(s:Sto):Nx:=match(E1.types t).d with
 | .struct fs=>match zJ1 E1 fs (E1.types t).zero ps with|some cs=>.val (.agg cs) s|none=>.no
 | .array _ e=>match zJ2 (E1.types e).size (E1.types t).zero ps with|some cs=>.val (.agg cs) s|none=>.no
 | _=>.no
theorem build_32 (fr:Fr)(ps:List (Nat×Operand))(s:Sto):zEH E1 fr 32 ps s=(match zB5 fr ps with|some ps=>bldT 32 ps s|none=>.no):=rfl
theorem bld_mdl (x:Str)(s:Sto):bldT 32 [(0,.int .i64 4),(3,.str x)] s=.val (.agg [.int .i64 4,.int .i64 0,.bool false,.sl 0 [] .nil,.str x,.sl 0 [] .nil,.sl 0 [] .nil]) s:=rfl
theorem pk_l7 (a b c d e f g:AV):pick1 (E1.types 32) [a,b,c,d,e,f,g] 0=some (.agg [a,b,c,d,e,f,g]):=rfl
theorem seal_mdl (x:Str)(s:Sto):zA0 s (.agg [.int .i64 4,.int .i64 0,.bool false,.sl 0 [] .nil,.str x,.sl 0 [] .nil,.sl 0 [] .nil])=some (.agg [.int .i64 4,.int .i64 0,.bool false,.sl 0 [] .shut,.str x,.sl 0 [] .shut,.sl 0 [] .shut],s):=rfl
attribute [go_sem] build_32 bld_mdl pk_l7 seal_mdl
theorem S_hi {m k:Nat}{g:Nat→Box}{u:List (Nat×Nat)}{b:Box}(h:m≤k):S m (updB g k b) u=S m g u:=zMC fun j hj=>zAC (by omega)
attribute [go_sem] S_hi
theorem sl_cut {α:Type}{h:α→AV}{l:List α}{es:Nat}{s:Sto}:zIG es (.sl 0 (l.map h) .shut) none (some l.length) (some l.length) s=bif zJ8 es (l.map h) then some (.sl 0 (l.map h) .clip,s) else none:=by
 simp only[zIG,zJD,zDM,zN9,zCD,Nat.zero_le,decide_true,Nat.le_refl,Bool.true_and,Nat.beq_refl,cond_true]
 cases zJ8 es (l.map h) with
 | false=>rfl
 | true=>
  simp only[cond_true]
  unfold zJB
  rw[show Nat.beq 0 0=true from rfl,Nat.beq_refl];rfl
attribute [go_sem] sl_cut
def mdl (x:Str):V:=.mk 4 0 false [] x [] []
theorem mdl_sz (x:Str):szV (mdl x)=1+x.length:=by simp[mdl,szV,szVs]
theorem mdl_val (x:Str):zCA (mdl x)=zCW x:=by
 simp[mdl,zCA,cntV,cntVs,depV,depVs,formed,formedL,node,V.kind,V.n,V.neg,V.d,V.s,V.l,V.m,zEG]
theorem mdl_enc (x:Str):AV.agg [.int .i64 4,.int .i64 0,.bool false,.sl 0 [] .shut,.str x,.sl 0 [] .shut,.sl 0 [] .shut]=encV (mdl x):=by rw[zGD];rfl
theorem c237 {x:Str}{s:Sto}{Q:CR→Sto→Prop}(h:Q (.ret (encV (mdl x))) s):C E1 237 [.str x] s Q:=by
 rw[← mdl_enc] at h
 refine zAF (md:=⟨true,false,false,false⟩) (fn:=Tryz.f237) (n:=5) (rs:=[.cell 2 32]) rfl rfl rfl rfl rfl rfl rfl (by simp only[go_sem, *];try rfl) (by rfl) (by simp only[go_sem]) ?_
 repeat' (first|simp (disch:=first|assumption|omega) only[go_sem, *]|((first|apply gw_m|apply gw_q);focus (intro hs;(try simp only[nbs] at hs);simp (disch:=first|assumption|omega) only[go_sem, *];rfl))|((first|refine zAB ?_ ?_|refine zAA ?_ ?_|refine sp_C ?_ ?_|refine sp_G ?_ ?_)<;>(intro hs;try simp only[nbs] at hs)))
theorem c152 {x:Str}{s:Sto}(hl:x.length<1073741000){Q:CR→Sto→Prop}(h:Q (.ret (.bool (zCW x))) s):C E1 152 [.str x] s Q:=by
 have hsz:szV (mdl x)<1073741824:=by rw[mdl_sz];omega
 rw[← mdl_val] at h
 refine zAF (md:=⟨true,false,false,false⟩) (fn:=Tryz.f152) (n:=7) (rs:=[.tmp 2]) rfl rfl rfl rfl rfl rfl rfl (by simp only[go_sem, *];try rfl) (by rfl) (by simp only[go_sem]) ?_
 repeat' (first|refine c237 ?_|refine c155 hsz ?_|simp (disch:=first|assumption|omega) only[go_sem, *]|((first|apply gw_m|apply gw_q);focus (intro hs;(try simp only[nbs] at hs);simp (disch:=first|assumption|omega) only[go_sem, *];rfl))|((first|refine zAB ?_ ?_|refine zAA ?_ ?_|refine sp_C ?_ ?_|refine sp_G ?_ ?_)<;>(intro hs;try simp only[nbs] at hs)))
 exact zA1 h (by(try clear hrec);(try clear h);by_cases hv:zCA (mdl x)=true<;>simp[hv])
theorem c64 {l:List Str}{s:Sto}(hl:lens l<1073741000){Q:CR→Sto→Prop}(h:Q (.ret (.bool (Pl.distinct [] l))) s):C E1 64 [.sl 0 (l.map AV.str) .shut] s Q:=by
 have h1:=lens_len l
 have hsz:∀x∈l,x.length<1073741000:=fun x hx=>by have:=lens_mem hx;omega
 refine zAF (md:=⟨true,false,false,false⟩) (fn:=Tryz.f64) (n:=23) (rs:=[.tmp 2]) rfl rfl rfl rfl rfl rfl rfl (by simp only[go_sem, *];try rfl) (by rfl) (by simp only[go_sem]) ?_
 repeat' (first|simp (disch:=first|assumption|omega) only[go_sem, *]|((first|apply gw_m|apply gw_q);focus (intro hs;(try simp only[nbs] at hs);simp (disch:=first|assumption|omega) only[go_sem, *];rfl))|((first|refine zAB ?_ ?_|refine zAA ?_ ?_|refine sp_C ?_ ?_|refine sp_G ?_ ?_)<;>(intro hs;try simp only[nbs] at hs)))
 refine zAL (ι:=Nat) (fun i=>[(0,.sl 0 (l.map AV.str) .shut),(5,.sl 0 (l.map AV.str) .shut),(6,.int .i64 l.length),(7,.int .i64 i)]) (fun _=>S 0 g0 []) (fun i=>i≤(l).length∧Pl.distinct [] l=Pl.distinct (l.take i) (l.drop i)) (fun i=>(l).length-i) ?_ 0 ⟨Nat.zero_le _,by first|rfl|trivial|simp⟩ ⟨rfl,rfl,rfl,rfl,trivial⟩ rfl;rintro i b ⟨hi,he⟩ hrec;rcases Nat.lt_or_ge i (l).length with hlt|hge
 ·have htk:(l.take i).length<4611686018427387904:=by rw[List.length_take];omega
  have hi2:i≤l.length:=hi
  obtain⟨hx,hmem,hcnd⟩:=zFR hlt;rw[List.drop_eq_getElem_cons hlt] at he
  rw[Pl.distinct,← List.take_succ_eq_append_getElem hlt] at he
  repeat' (first|refine c152 (hsz _ hmem) ?_|refine c153 htk ?_|simp (disch:=first|assumption|omega) only[go_sem, *]|((first|apply gw_m|apply gw_q);focus (intro hs;(try simp only[nbs] at hs);simp (disch:=first|assumption|omega) only[go_sem, *];rfl))|((first|refine zAB ?_ ?_|refine zAA ?_ ?_|refine sp_C ?_ ?_|refine sp_G ?_ ?_)<;>(intro hs;try simp only[nbs] at hs)))
  all_goals first|exact zA1 h (by(try clear hrec);(try clear h);rw[he];grind)|exact hrec (i+1) _ _ _ ⟨hlt,by rw[he];clear h hrec;grind⟩ (by omega) ⟨rfl,rfl,rfl,rfl,trivial⟩ rfl
 ·have hcnd:=zDB hge;rw[List.drop_eq_nil_of_le hge] at he
  rw[Pl.distinct] at he
  repeat' (first|simp (disch:=first|assumption|omega) only[go_sem, *]|((first|apply gw_m|apply gw_q);focus (intro hs;(try simp only[nbs] at hs);simp (disch:=first|assumption|omega) only[go_sem, *];rfl))|((first|refine zAB ?_ ?_|refine zAA ?_ ?_|refine sp_C ?_ ?_|refine sp_G ?_ ?_)<;>(intro hs;try simp only[nbs] at hs)))
  exact zA1 h (by(try clear hrec);(try clear h);rw[he])
theorem c63 {s:Sto}{n:Int}{Q:CR→Sto→Prop}(h:Q (.ret (.bool true)) s):C E1 63 [.int .i64 n] s Q:=by
 refine zAF (md:=⟨true,false,false,false⟩) (fn:=Tryz.f63) (n:=3) (rs:=[.tmp 2]) rfl rfl rfl rfl rfl rfl rfl (by simp only[go_sem, *];try rfl) (by rfl) (by simp only[go_sem]) ?_
 repeat' (first|simp (disch:=first|assumption|omega) only[go_sem, *]|((first|apply gw_m|apply gw_q);focus (intro hs;(try simp only[nbs] at hs);simp (disch:=first|assumption|omega) only[go_sem, *];rfl))|((first|refine zAB ?_ ?_|refine zAA ?_ ?_|refine sp_C ?_ ?_|refine sp_G ?_ ?_)<;>(intro hs;try simp only[nbs] at hs)))
theorem c249 {l:List Int}{m:Nat}{g:Nat→Box}{u:List (Nat×Nat)}(hu:zAS m u=true)(hu2:zAK m u=u){Q:CR→Sto→Prop}(h:Q (.ret (.sl 0 (l.map iv) .clip)) (S m g u)):C E1 249 [.sl 0 (l.map iv) .shut] (S m g u) Q:=by
 refine zAG (md:=⟨false,false,true,false⟩) (fn:=Tryz.f249) (n:=9) (rs:=[.tmp 2]) rfl rfl rfl rfl rfl rfl rfl (by simp only[go_sem, *];try rfl) (by rfl) ?_
 repeat' (first|simp (disch:=first|assumption|omega) only[go_sem, *]|((first|apply gw_m|apply gw_q);focus (intro hs;(try simp only[nbs] at hs);simp (disch:=first|assumption|omega) only[go_sem, *];rfl))|((first|refine zAB ?_ ?_|refine zAA ?_ ?_|refine sp_C ?_ ?_|refine sp_G ?_ ?_)<;>(intro hs;try simp only[nbs] at hs)))
def primL:List Int:=[0,2,2,1,2,2,2,2,2,2,2,1,1,1,2,2,3,1,2,2]
theorem prim_enc:AV.sl 0 (primL.map iv) .shut=.sl 0 [.int .i64 0,.int .i64 2,.int .i64 2,.int .i64 1,.int .i64 2,.int .i64 2,.int .i64 2,.int .i64 2,.int .i64 2,.int .i64 2,.int .i64 2,.int .i64 1,.int .i64 1,.int .i64 1,.int .i64 2,.int .i64 2,.int .i64 3,.int .i64 1,.int .i64 2,.int .i64 2] .shut:=rfl
theorem c246 {s:Sto}{Q:CR→Sto→Prop}(h:Q (.ret (.sl 0 (primL.map iv) .shut)) s):C E1 246 [] s Q:=by
 rw[prim_enc] at h
 refine zAF (md:=⟨true,false,false,false⟩) (fn:=Tryz.f246) (n:=2) (rs:=[.tmp 0]) rfl rfl rfl rfl rfl rfl rfl (by simp only[go_sem, *];try rfl) (by rfl) (by simp only[go_sem]) ?_
 repeat' (first|simp (disch:=first|assumption|omega) only[go_sem, *]|((first|apply gw_m|apply gw_q);focus (intro hs;(try simp only[nbs] at hs);simp (disch:=first|assumption|omega) only[go_sem, *];rfl))|((first|refine zAB ?_ ?_|refine zAA ?_ ?_|refine sp_C ?_ ?_|refine sp_G ?_ ?_)<;>(intro hs;try simp only[nbs] at hs)))
def zAJ (sp:Pl.Spec)(j:Nat)(nd:Int)(may:AV):List AV:=zAE sp++[.map j,.int .i64 nd,may]
theorem nCk0 {a:Pl.Spec}{j:Nat}{nd:Int}{may:AV}:lnth (zAJ a j nd may) 0=some (.sl 0 (a.models.map AV.str) .shut):=(rfl)
theorem nCk1 {a:Pl.Spec}{j:Nat}{nd:Int}{may:AV}:lnth (zAJ a j nd may) 1=some (.sl 0 (a.consts.map zBE) .shut):=(rfl)
theorem nCk2 {a:Pl.Spec}{j:Nat}{nd:Int}{may:AV}:lnth (zAJ a j nd may) 2=some (.sl 0 (a.vars.map zDL) .shut):=(rfl)
theorem nCk3 {a:Pl.Spec}{j:Nat}{nd:Int}{may:AV}:lnth (zAJ a j nd may) 3=some (.sl 0 (a.defs.map zCH) .shut):=(rfl)
theorem nCk4 {a:Pl.Spec}{j:Nat}{nd:Int}{may:AV}:lnth (zAJ a j nd may) 4=some (.sl 0 (a.assume.map encX) .shut):=(rfl)
theorem nCk27 {a:Pl.Spec}{j:Nat}{nd:Int}{may:AV}:lnth (zAJ a j nd may) 27=some (.sl 0 (a.fair.map zEF) .shut):=(rfl)
theorem nCk28 {a:Pl.Spec}{j:Nat}{nd:Int}{may:AV}:lnth (zAJ a j nd may) 28=some (.sl 0 (a.invs.map zBQ) .shut):=(rfl)
theorem nCk29 {a:Pl.Spec}{j:Nat}{nd:Int}{may:AV}:lnth (zAJ a j nd may) 29=some (.sl 0 (a.props.map zD9) .shut):=(rfl)
theorem nCk30 {a:Pl.Spec}{j:Nat}{nd:Int}{may:AV}:lnth (zAJ a j nd may) 30=some (.sl 0 (a.cons.map encX) .shut):=(rfl)
theorem nCk31 {a:Pl.Spec}{j:Nat}{nd:Int}{may:AV}:lnth (zAJ a j nd may) 31=some (.sl 0 (a.acons.map encX) .shut):=(rfl)
theorem nCk32 {a:Pl.Spec}{j:Nat}{nd:Int}{may:AV}:lnth (zAJ a j nd may) 32=some (.sl 0 (a.groups.map slS) .shut):=(rfl)
theorem nCk33 {a:Pl.Spec}{j:Nat}{nd:Int}{may:AV}:lnth (zAJ a j nd may) 33=some (.sl 0 (a.view.map encX) .shut):=(rfl)
theorem nCk34 {a:Pl.Spec}{j:Nat}{nd:Int}{may:AV}:lnth (zAJ a j nd may) 34=some (.bool a.dead):=(rfl)
theorem nCk35 {a:Pl.Spec}{j:Nat}{nd:Int}{may:AV}:lnth (zAJ a j nd may) 35=some (.map j):=(rfl)
theorem nCk36 {a:Pl.Spec}{j:Nat}{nd:Int}{may:AV}:lnth (zAJ a j nd may) 36=some (.int .i64 nd):=(rfl)
theorem nCk37 {a:Pl.Spec}{j:Nat}{nd:Int}{may:AV}:lnth (zAJ a j nd may) 37=some (may):=(rfl)
attribute [go_sem] nCk0 nCk1 nCk2 nCk3 nCk4 nCk27 nCk28 nCk29 nCk30 nCk31 nCk32 nCk33 nCk34 nCk35 nCk36 nCk37
theorem llen_Ck {a:Pl.Spec}{j:Nat}{nd:Int}{may:AV}:llen (zAJ a j nd may)=38:=(rfl)
theorem pk_CkS {a:Pl.Spec}{j:Nat}{nd:Int}{may:AV}:pick1 (E1.types 40) (zAJ a j nd may) 0=some (zAX a):=by kernel_rfl
theorem Ck_36 {a:Pl.Spec}{j:Nat}{nd n:Int}{may:AV}:List.take 36 (zAJ a j nd may)++(AV.int .i64 n :: List.drop 37 (zAJ a j nd may))=zAJ a j n may:=(rfl)
theorem Ck_37 {a:Pl.Spec}{j:Nat}{nd:Int}{may w:AV}:List.take 37 (zAJ a j nd may)++(w :: List.drop 38 (zAJ a j nd may))=zAJ a j nd w:=(rfl)
attribute [go_sem] llen_Ck pk_CkS Ck_36 Ck_37 oNil
theorem c169 {sp:Pl.Spec}{j:Nat}{nd deep:Int}{may:AV}{k m:Nat}{g:Nat→Box}{u:List (Nat×Nat)}(hu:zAS m u=true)(hu2:zAK m u=u)(hk:k<m)(hg:g k=.cells 121 (zAJ sp j nd may))(hnd:0≤nd∧nd<1073741824)
  {Q:CR→Sto→Prop} (h:Q (.ret (.bool (decide (nd+1≤3000)&&decide (deep≤100)))) (S m (updB g k (.cells 121 (zAJ sp j (nd+1) may))) u)):C E1 169 [.ptr k 0,.int .i64 deep] (S m g u) Q:=by
 refine zAG (md:=⟨false,false,false,false⟩) (fn:=Tryz.f169) (n:=21) (rs:=[.tmp 4]) rfl rfl rfl rfl rfl rfl rfl (by simp only[go_sem, *];try rfl) (by rfl) ?_
 repeat' (first|simp (disch:=first|assumption|omega) only[go_sem, *]|((first|apply gw_m|apply gw_q);focus (intro hs;(try simp only[nbs] at hs);simp (disch:=first|assumption|omega) only[go_sem, *];rfl))|((first|refine zAB ?_ ?_|refine zAA ?_ ?_|refine sp_C ?_ ?_|refine sp_G ?_ ?_)<;>(intro hs;try simp only[nbs] at hs)))
theorem zX8 (n:Nat):zBN 1 (zs n)=true:=by
 induction n with
 | zero=>rfl
 | succ n ih=>exact ih
theorem c172 {l:List Int}{n:Int}{s:Sto}(hn:0≤n∧n<1073741824)(hl:l.length<1073741824){Q:CR→Sto→Prop}(h:Q (.ret (.sl 0 ((l++zeros n).map iv) .shut)) s):C E1 172 [.sl 0 (l.map iv) .shut,.int .i64 n] s Q:=by
 have hu:zAS 0 []=true:=rfl
 have hu2:zAK 0 []=[]:=rfl
 rw[List.map_append,zSA] at h
 refine zAF (md:=⟨true,false,false,false⟩) (fn:=Tryz.f172) (n:=9) (rs:=[.tmp 4]) rfl rfl rfl rfl rfl rfl rfl (by simp only[go_sem, *];try rfl) (by rfl) (by simp only[go_sem]) ?_
 have hn1:0≤n:=hn.1
 obtain⟨t,ht⟩:∃t,n.toNat=t:=⟨_,rfl⟩
 have ht2:t<1073741824:=by omega
 have hl1:decide (t*8≤limit)=true:=decide_eq_true (by rw[limit_eq];omega)
 have hl2:decide (t≤limit)=true:=decide_eq_true (by rw[limit_eq];omega)
 have hz:zAP (E1.types 3)=.int .i64 0:=rfl
 rw[ht] at h
 rcases Nat.eq_zero_or_pos t with h0|h0
 ·have ha:∀s,zAT 3 1 8 (.sl 0 (l.map iv) .clip) (lrep (.int .i64 0) t) s=some (.sl 0 (l.map iv) .clip,s):=fun s=>by rw[h0];rfl
  rw[show zs t=[] from by rw[h0];rfl,List.append_nil] at h
  clear h0
  repeat' (first|refine c249 hu hu2 ?_|simp (disch:=first|assumption|omega) only[go_sem, *]|((first|apply gw_m|apply gw_q);focus (intro hs;(try simp only[nbs] at hs);simp (disch:=first|assumption|omega) only[go_sem, *];rfl))|((first|refine zAB ?_ ?_|refine zAA ?_ ?_|refine sp_C ?_ ?_|refine sp_G ?_ ?_)<;>(intro hs;try simp only[nbs] at hs)))
 ·have ha:zAT 3 1 8 (.sl 0 (l.map iv) .clip) (lrep (.int .i64 0) t) (S 0 g0 [])=some (.osl 0 0 (l.length+t),S 1 (updB g0 0 (.row 3 1 (l.map iv++zs t) false)) []):=by
   rw[zDS]
   rw[show List.replicate t (AV.int .i64 0)=zs t from rfl]
   rw[zTG (zPR l) (zX8 _) (by rw[zJQ];omega) (by rw[List.length_map,zJQ];omega) (by rw[zA6,zFB,zHV];rfl),List.length_map,zJQ]
  have hse:=zE5 (m:=1) (k:=0) (g:=updB g0 0 (.row 3 1 (l.map iv++zs t) false)) (u:=[]) (n:=l.length+t) (Nat.zero_lt_one) zAD (by rw[List.length_append,List.length_map,zJQ]) (by rw[zA6,zFB,zHV];rfl)
  repeat' (first|refine c249 hu hu2 ?_|simp (disch:=first|assumption|omega) only[go_sem, *]|((first|apply gw_m|apply gw_q);focus (intro hs;(try simp only[nbs] at hs);simp (disch:=first|assumption|omega) only[go_sem, *];rfl))|((first|refine zAB ?_ ?_|refine zAA ?_ ?_|refine sp_C ?_ ?_|refine sp_G ?_ ?_)<;>(intro hs;try simp only[nbs] at hs)))
theorem c247 {l:List Str}{k m:Nat}{g:Nat→Box}{u:List (Nat×Nat)}(hu:zAS m u=true)(hu2:zAK m u=u)(hl:lens l<1073741000){Q:CR→Sto→Prop}(h:Q (.ret (.bool (rise l))) (S m g u)):C E1 247 [.ptr k 0,.sl 0 (l.map AV.str) .shut] (S m g u) Q:=by
 have h1:=lens_len l
 have hsz:∀x∈l,x.length<1073741000:=fun x hx=>by have:=lens_mem hx;omega
 refine zAG (md:=⟨false,false,false,false⟩) (fn:=Tryz.f247) (n:=31) (rs:=[.tmp 4]) rfl rfl rfl rfl rfl rfl rfl (by simp only[go_sem, *];try rfl) (by rfl) ?_
 repeat' (first|simp (disch:=first|assumption|omega) only[go_sem, *]|((first|apply gw_m|apply gw_q);focus (intro hs;(try simp only[nbs] at hs);simp (disch:=first|assumption|omega) only[go_sem, *];rfl))|((first|refine zAB ?_ ?_|refine zAA ?_ ?_|refine sp_C ?_ ?_|refine sp_G ?_ ?_)<;>(intro hs;try simp only[nbs] at hs)))
 refine zAL (ι:=Nat) (fun i=>[(1,.sl 0 (l.map AV.str) .shut),(7,.sl 0 (l.map AV.str) .shut),(8,.int .i64 l.length),(9,.int .i64 i)]) (fun _=>S m g u) (fun i=>i≤l.length∧rise l=riseT (if i=0 then none else l[i-1]?) (l.drop i)) (fun i=>l.length-i) ?_ 0 ⟨Nat.zero_le _,rise_T l⟩ ⟨rfl,rfl,rfl,rfl,trivial⟩ rfl
 rintro i b ⟨hi,he⟩ hrec
 rcases Nat.lt_or_ge i l.length with hlt|hge
 ·obtain⟨hx,hmem,hcnd⟩:=zFR hlt;rw[List.drop_eq_getElem_cons hlt] at he
  simp only[riseT] at he
  cases i with
  | zero=>
   have hz0:decide ((0:Int)<((0:Nat):Int))=false:=rfl
   repeat' (first|refine c152 (hsz _ hmem) ?_|simp (disch:=first|assumption|omega) only[go_sem, *]|((first|apply gw_m|apply gw_q);focus (intro hs;(try simp only[nbs] at hs);simp (disch:=first|assumption|omega) only[go_sem, *];rfl))|((first|refine zAB ?_ ?_|refine zAA ?_ ?_|refine sp_C ?_ ?_|refine sp_G ?_ ?_)<;>(intro hs;try simp only[nbs] at hs)))
   all_goals first|exact zA1 h (by(try clear hrec);(try clear h);rw[he];grind)|exact hrec 1 _ _ _ ⟨hlt,by rw[he];clear h hrec;simp_all⟩ (by omega) ⟨rfl,rfl,rfl,rfl,trivial⟩ rfl
  | succ i=>
   have hy:l[i]?=some l[i]:=List.getElem?_eq_getElem (by omega)
   have hz:((i+1:Nat):Int)-1=i:=by omega
   have hz0:decide ((0:Int)<((i+1:Nat):Int))=true:=decide_eq_true (by omega)
   have hif:(if i+1=0 then none else l[i+1-1]?)=some l[i]:=by rw[if_neg (by omega)];exact hy
   rw[hif] at he
   repeat' (first|refine c152 (hsz _ hmem) ?_|simp (disch:=first|assumption|omega) only[go_sem, *]|((first|apply gw_m|apply gw_q);focus (intro hs;(try simp only[nbs] at hs);simp (disch:=first|assumption|omega) only[go_sem, *];rfl))|((first|refine zAB ?_ ?_|refine zAA ?_ ?_|refine sp_C ?_ ?_|refine sp_G ?_ ?_)<;>(intro hs;try simp only[nbs] at hs)))
   all_goals first|exact zA1 h (by(try clear hrec);(try clear h);rw[he];grind)|exact hrec (i+2) _ _ _ ⟨hlt,by rw[he,if_neg (by omega),show i+2-1=i+1 by omega,hx];clear h hrec;simp_all⟩ (by omega) ⟨rfl,rfl,rfl,rfl,trivial⟩ rfl
 ·have hcnd:=zDB hge;rw[List.drop_eq_nil_of_le hge] at he
  simp only[riseT] at he
  repeat' (first|simp (disch:=first|assumption|omega) only[go_sem, *]|((first|apply gw_m|apply gw_q);focus (intro hs;(try simp only[nbs] at hs);simp (disch:=first|assumption|omega) only[go_sem, *];rfl))|((first|refine zAB ?_ ?_|refine zAA ?_ ?_|refine sp_C ?_ ?_|refine sp_G ?_ ?_)<;>(intro hs;try simp only[nbs] at hs)))
  exact zA1 h (by(try clear hrec);(try clear h);rw[he])
theorem zXQ (ms:List Str)(v:V):zDJ ms v=if v.kind=4 then decide (v.s∈ms) else zFI ms v.l&&zFI ms v.m:=by cases v;rfl
theorem zLH (ms:List Str):∀l:List V,zFI ms l=!(l.any fun x=>!zDJ ms x)
 | []=>rfl
 | v :: r=>by rw[zFI,List.any_cons,zLH ms r];cases zDJ ms v<;>rfl
theorem c156 {sp:Pl.Spec}{j:Nat}{nd:Int}{may:AV}{k:Nat}(hml:sp.models.length<1073741824):∀(N:Nat) (v:V),szV v<N→szV v<1073741824→∀(m:Nat) (g:Nat→Box) (u:List (Nat×Nat)),zAS m u=true→zAK m u=u→k<m→g k=.cells 121 (zAJ sp j nd may)→
  ∀Q:CR→Sto→Prop,Q (.ret (.bool (zDJ sp.models v))) (S m g u)→C E1 156 [.ptr k 0,encV v] (S m g u) Q:=by
 intro N
 induction N with
 | zero=>intro v h;exact absurd h (Nat.not_lt_zero _)
 | succ N ih=>
  intro v hN hsz m g u hu hu2 hk hg Q h
  have hml2:sp.models.length<4611686018427387904:=by omega
  have h240:∀(x:V)(M b:Nat) (G:Nat→Box),szV x<N→szV x<1073741824→m≤M→zAS M u=true→zAK M u=u→b<M→G b=.cells 79 [.ptr k 0]→G k=.cells 121 (zAJ sp j nd may)→∀Q:CR→Sto→Prop,Q (.ret (.bool (!zDJ sp.models x))) (S M G u)→C E1 240 [encV x,.ptr b 0] (S M G u) Q:=by
   intro x M b G hx hx2 hM hU hU2 hb hGb hGk Q h
   have hU3:=zCT hU hU2 (Nat.le_succ M)
   have hr:=ih x hx hx2 (M+1) (updB G M (.cells 32 (zAZ x))) u hU3.1 hU3.2 (by omega) (by rw[zAC (by omega)];exact hGk)
   refine zAG (md:=⟨false,false,false,false⟩) (fn:=Tryz.f240) (n:=8) (rs:=[.tmp 3]) rfl rfl rfl rfl rfl rfl rfl (by simp only[go_sem, *];try rfl) (by rfl) ?_
   repeat' (first|refine hr _ ?_|simp (disch:=first|assumption|omega) only[go_sem, *]|((first|apply gw_m|apply gw_q);focus (intro hs;(try simp only[nbs] at hs);simp (disch:=first|assumption|omega) only[go_sem, *];rfl))|((first|refine zAB ?_ ?_|refine zAA ?_ ?_|refine sp_C ?_ ?_|refine sp_G ?_ ?_)<;>(intro hs;try simp only[nbs] at hs)))
  rw[zXQ] at h
  have hU3:=zCT hu hu2 (show m≤m+1+1 by omega)
  have hVl:=zD3 v
  generalize hG:updB (updB g m (.cells 79 [.ptr k 0])) (m+1) (.cells 32 (zAZ v))=G at *
  have hGm:G m=.cells 79 [.ptr k 0]:=by rw[← hG,zAC (by omega),zAD]
  have hGm1:G (m+1)=.cells 32 (zAZ v):=by rw[← hG,zAD]
  have hGk:G k=.cells 121 (zAJ sp j nd may):=by rw[← hG,zAC (by omega),zAC (by omega)];exact hg
  have hGS:S m G u=S m g u:=by rw[← hG,S_hi (by omega),S_hi (by omega)]
  have hany:∀l:List V,(∀x∈l,szV x<szV v)→l.length<4611686018427387904→∀Q:CR→Sto→Prop,Q (.ret (.bool (!zFI sp.models l))) (S (m+1+1) G u)→C E1 60 [.sl 0 (l.map encV) .shut,.func (m+1) (.func 240) [] [.ptr m 0]] (S (m+1+1) G u) Q:=fun l hl hn Q hQ=>
   c60p (q:=fun x=>!zDJ sp.models x) hn hU3.1 hU3.2 (by intro x;rw[zA7];rfl) (by intro x;rw[zA7];exact pk_V) rfl (fun x hx Q hQ=>zDT rfl (h240 x (m+1+1) m G (by have:=hl x hx;omega) (by have:=hl x hx;omega) (by omega) hU3.1 hU3.2 (by omega) hGm hGk Q hQ)) (by rw[zLH,Bool.not_not] at hQ;exact hQ)
  have hl1:=hany v.l (fun x hx=>by have:=szVs_mem hx;omega) (by have:=szVs_len v.l;omega)
  have hl2:=hany v.m (fun x hx=>by have:=szVs_mem hx;omega) (by have:=szVs_len v.m;omega)
  clear hany h240 ih
  refine zAG (md:=⟨false,false,false,false⟩) (fn:=Tryz.f156) (n:=30) (rs:=[.tmp 4]) rfl rfl rfl rfl rfl rfl rfl (by simp only[go_sem, *];try rfl) (by rfl) ?_
  repeat' (first|refine c153 hml2 ?_|refine hl1 _ ?_|refine hl2 _ ?_|simp (disch:=first|assumption|omega) only[go_sem, *]|((first|apply gw_m|apply gw_q);focus (intro hs;(try simp only[nbs] at hs);simp (disch:=first|assumption|omega) only[go_sem, *];rfl))|((first|refine zAB ?_ ?_|refine zAA ?_ ?_|refine sp_C ?_ ?_|refine sp_G ?_ ?_)<;>(intro hs;try simp only[nbs] at hs)))
  all_goals exact zA1 h (by(try clear hrec);(try clear h);clear hl1 hl2 hG hGS hGk hGm hGm1;simp_all)
theorem c71 {sp:Pl.Spec}{j:Nat}{nd:Int}{may:AV}{k:Nat}(hml:sp.models.length<1073741824){v:V}(hsz:szV v<1073741824){m:Nat}{g:Nat→Box}{u:List (Nat×Nat)}(hu:zAS m u=true)(hu2:zAK m u=u)(hk:k<m)(hg:g k=.cells 121 (zAJ sp j nd may))
  {Q:CR→Sto→Prop} (h:Q (.ret (.bool (zCA v&&zDJ sp.models v))) (S m g u)):C E1 71 [.ptr k 0,encV v] (S m g u) Q:=by
 have hU3:=zCT hu hu2 (show m≤m+1 by omega)
 have hr:∀Q:CR→Sto→Prop,Q (.ret (.bool (zDJ sp.models v))) (S (m+1) (updB g m (.cells 32 (zAZ v))) u)→C E1 156 [.ptr k 0,encV v] (S (m+1) (updB g m (.cells 32 (zAZ v))) u) Q:=fun Q hQ=>c156 hml (szV v+1) v (by omega) hsz (m+1) _ u hU3.1 hU3.2 (by omega) (by rw[zAC (by omega)];exact hg) Q hQ
 refine zAG (md:=⟨false,false,false,false⟩) (fn:=Tryz.f71) (n:=13) (rs:=[.tmp 4]) rfl rfl rfl rfl rfl rfl rfl (by simp only[go_sem, *];try rfl) (by rfl) ?_
 repeat' (first|refine c155 hsz ?_|refine hr _ ?_|simp (disch:=first|assumption|omega) only[go_sem, *]|((first|apply gw_m|apply gw_q);focus (intro hs;(try simp only[nbs] at hs);simp (disch:=first|assumption|omega) only[go_sem, *];rfl))|((first|refine zAB ?_ ?_|refine zAA ?_ ?_|refine sp_C ?_ ?_|refine sp_G ?_ ?_)<;>(intro hs;try simp only[nbs] at hs)))
 all_goals exact zA1 h (by(try clear hrec);(try clear h);clear hr;by_cases hv:zCA v=true<;>simp_all)
end Go.Ab.X
namespace Go.Ab
open Go
attribute [local semireducible] GW SV in
theorem zEN {E:Env}{f:FuncId}{k:Rest}{d:Tmp}{op:Op}{fr:Fr}{s:Sto}{Q:Out→Fr→Sto→Prop}{b0:Bool}{v:AV}{g:FuncId}{args:List AV}(hc:∀Q:CR→Sto→Prop,Q (.ret v) s→C E g args s Q)(h1:b0=true→opA E f fr op s=.call g args s)(h2:RW E f k (fr.put (some d) (mg b0 v)) s Q):GW E f 0 k (some d) op fr s Q b0:=by
 cases b0 with
 | true=>show SV E f k (some d) fr (opA E f fr op s) Q;rw[h1 rfl,zZP];refine hc _ ?_;rw[KR_ret];exact h2
 | false=>exact h2
theorem S_hi2 {m k j:Nat}{g:Nat→Box}{u:List (Nat×Nat)}{b c:Box}(h:m≤j):S m (updB (updB g j c) k b) u=S m (updB g k b) u:=zMC fun i hi=>by
 unfold updB
 split
 ·rfl
 ·rw[if_neg (by omega)]
attribute [go_sem] S_hi2
end Go.Ab
namespace Pl
def shp (k:Int):Bool×Int×Bool×Bool×Bool:=
 if k=1 then(true,0,false,false,true)
 else if k=47∨k=46∨k=41∨k=6∨k=7 then(true,-1,true,false,false)
 else if k=35∨k=36 then(true,-1,false,true,false)
 else if k=37 then(true,1,false,true,false)
 else if k=2∨k=3∨k=4 then(true,0,true,false,false)
 else if k=16∨k=17∨k=24∨k=30 then(true,-1,true,false,false)
 else if k=11∨k=12∨k=22∨k=38∨k=39 then(true,-1,false,false,false)
 else if k=5∨k=13∨k=25∨k=26∨k=32∨k=43∨k=45 then(true,1,false,false,false)
 else if k=14∨k=15∨k=18∨k=19∨k=20∨k=21∨k=23∨k=27∨k=28∨k=29∨k=31∨k=33∨k=42∨k=44 then(true,2,false,false,false)
 else if k=34∨k=40 then(true,3,false,false,false)
 else(false,0,false,false,false)
def shL:List (Int×Int×Bool×Bool×Bool):=
 [(1,0,false,false,true),(47,-1,true,false,false),(46,-1,true,false,false),(41,-1,true,false,false),(6,-1,true,false,false),(7,-1,true,false,false),(35,-1,false,true,false),(36,-1,false,true,false),(37,1,false,true,false)] ++
 [2,3,4].map (fun k=>(k,0,true,false,false))++[16,17,24,30].map (fun k=>(k,-1,true,false,false))++[11,12,22,38,39].map (fun k=>(k,-1,false,false,false)) ++
 [5,13,25,26,32,43,45].map (fun k=>(k,1,false,false,false))++[14,15,18,19,20,21,23,27,28,29,31,33,42,44].map (fun k=>(k,2,false,false,false))++[34,40].map (fun k=>(k,3,false,false,false))
def look (k:Int):List (Int×Int×Bool×Bool×Bool)→Bool×Int×Bool×Bool×Bool
 | []=>(false,0,false,false,false)
 | (j,x) :: r=>if k=j then(true,x) else look k r
theorem zS2 (k:Int):look k shL=shp k:=by
 by_cases h1:k=1
 ·subst h1;rfl
 by_cases h47:k=47
 ·subst h47;rfl
 by_cases h46:k=46
 ·subst h46;rfl
 by_cases h41:k=41
 ·subst h41;rfl
 by_cases h6:k=6
 ·subst h6;rfl
 by_cases h7:k=7
 ·subst h7;rfl
 by_cases h35:k=35
 ·subst h35;rfl
 by_cases h36:k=36
 ·subst h36;rfl
 by_cases h37:k=37
 ·subst h37;rfl
 by_cases h2:k=2
 ·subst h2;rfl
 by_cases h3:k=3
 ·subst h3;rfl
 by_cases h4:k=4
 ·subst h4;rfl
 by_cases h16:k=16
 ·subst h16;rfl
 by_cases h17:k=17
 ·subst h17;rfl
 by_cases h24:k=24
 ·subst h24;rfl
 by_cases h30:k=30
 ·subst h30;rfl
 by_cases h11:k=11
 ·subst h11;rfl
 by_cases h12:k=12
 ·subst h12;rfl
 by_cases h22:k=22
 ·subst h22;rfl
 by_cases h38:k=38
 ·subst h38;rfl
 by_cases h39:k=39
 ·subst h39;rfl
 by_cases h5:k=5
 ·subst h5;rfl
 by_cases h13:k=13
 ·subst h13;rfl
 by_cases h25:k=25
 ·subst h25;rfl
 by_cases h26:k=26
 ·subst h26;rfl
 by_cases h32:k=32
 ·subst h32;rfl
 by_cases h43:k=43
 ·subst h43;rfl
 by_cases h45:k=45
 ·subst h45;rfl
 by_cases h14:k=14
 ·subst h14;rfl
 by_cases h15:k=15
 ·subst h15;rfl
 by_cases h18:k=18
 ·subst h18;rfl
 by_cases h19:k=19
 ·subst h19;rfl
 by_cases h20:k=20
 ·subst h20;rfl
 by_cases h21:k=21
 ·subst h21;rfl
 by_cases h23:k=23
 ·subst h23;rfl
 by_cases h27:k=27
 ·subst h27;rfl
 by_cases h28:k=28
 ·subst h28;rfl
 by_cases h29:k=29
 ·subst h29;rfl
 by_cases h31:k=31
 ·subst h31;rfl
 by_cases h33:k=33
 ·subst h33;rfl
 by_cases h42:k=42
 ·subst h42;rfl
 by_cases h44:k=44
 ·subst h44;rfl
 by_cases h34:k=34
 ·subst h34;rfl
 by_cases h40:k=40
 ·subst h40;rfl
 simp only[shL,look,List.map_cons,List.map_nil,List.cons_append,List.nil_append,shp, *,if_false,or_self]
def zJI (sp:Spec)(mp:Int→Bool)(sc:List Int)(e:X):Bool:=
 !(!(shp e.kind).1||(!(shp e.kind).2.2.1&&!decide (e.n=0))||(!(shp e.kind).2.2.2.1&&decide ((0:Int)<e.s.length))||(!(shp e.kind).2.2.2.2&&!zFS e.v)||(decide (0≤(shp e.kind).2.1)&&!decide ((e.l.length:Int)=(shp e.kind).2.1))) &&
 (if e.kind=1 then zCA e.v&&zDJ sp.models e.v
  else if e.kind=2 then decide (0≤e.n)&&decide (e.n<sp.vars.length)
  else if e.kind=3 then decide (0≤e.n)&&decide (e.n<sp.consts.length)
  else if e.kind=4 then decide (0≤e.n)&&decide (e.n<sc.length)&&decide (sc.getD e.n.toNat 0=0)
  else if e.kind=6 then decide (0≤e.n)&&decide (e.n<sp.defs.length)&&mp e.n&&decide ((e.l.length:Int)=(params sp e.n).length)
  else if e.kind=7 then decide (0≤e.n)&&decide (e.n<sc.length)&&decide (0<sc.getD e.n.toNat 0)&&decide ((e.l.length:Int)=sc.getD e.n.toNat 0)
  else if e.kind=16∨e.kind=17∨e.kind=24∨e.kind=30 then decide (1≤e.n)&&decide (e.n≤8)&&decide ((e.l.length:Int)=e.n+1)&&decide ((sc.length:Int)+e.n≤40)
  else if e.kind=39 then decide (2≤(e.l.length:Int))
  else if e.kind=41 then(decide (e.n=0)||decide (e.n=1))&&decide (2+e.n≤(e.l.length:Int))&&decide ((e.l.length:Int) % 2=e.n)
  else if e.kind=46 then decide (1≤e.n)&&decide (e.n≤19)&&decide ((e.l.length:Int)=prims e.n)
  else if e.kind=47 then decide (1≤e.n)&&decide (e.n≤4)&&decide (decide ((e.l.length:Int)=1)=decide (e.n=4))&&decide ((e.l.length:Int)≤1)
  else if e.kind=35∨e.kind=36∨e.kind=37 then decide (1≤(e.s.length:Int))&&(!decide (e.kind=37)||decide ((e.s.length:Int)=1))&&(decide (e.kind=37)||decide ((e.s.length:Int)=e.l.length))&&rise e.s
  else if e.kind=18∨e.kind=23∨e.kind=34∨e.kind=42 then decide ((sc.length:Int)<40)
  else true)
end Pl
namespace Go.Ab.X
open Go Go.Ab Go.Proofs Pl
set_option maxRecDepth 100000
set_option maxHeartbeats 16000000
def zMO (x:Int×Bool×Bool×Bool):AV:=.agg [.int .i64 x.1,.bool x.2.1,.bool x.2.2.1,.bool x.2.2.2]
def zB6 (l:List (Int×Int×Bool×Bool×Bool)):List (AV×AV):=l.map fun p=>(.int .i64 p.1,zMO p.2)
theorem zX9 (k:Int):∀l:List (Int×Int×Bool×Bool×Bool),zFF (.int .i64 k) (zB6 l)=some (bif (Pl.look k l).1 then some (zMO (Pl.look k l).2) else none)
 | []=>rfl
 | (j,x) :: r=>by
  show(match zJ5 (.int .i64 k) (.int .i64 j) with|some b=>bif b then some (some (zMO x)) else zFF (.int .i64 k) (zB6 r)|none=>none)=_
  rw[zX9 k r]
  simp only[zJ5,zC1,cond_true,zHU]
  by_cases h:k=j
  ·rw[decide_eq_true h,show Pl.look k ((j,x) :: r)=(true,x) from if_pos h];rfl
  ·rw[decide_eq_false h,show Pl.look k ((j,x) :: r)=Pl.look k r from if_neg h];rfl
theorem zS3 (k:Int):∀l:List (Int×Int×Bool×Bool×Bool),(Pl.look k l).1=false→Pl.look k l=(false,0,false,false,false)
 | [],_=>rfl
 | (j,x) :: r,h=>by
  unfold Pl.look at h ⊢
  split at h
  ·cases h
  ·rename_i hn;rw[if_neg hn];exact zS3 k r h
def lkB (b:Box)(k:Int)(s:Sto):Nx:=match b with
 | .mapb es=>found (E1.types 168) true s (zFF (.int .i64 k) es)
 | _=>.no
theorem lk_sh {m j:Nat}{g:Nat→Box}{u:List (Nat×Nat)}{k:Int}(hj:j<m):zEE E1 117 (some (.map j)) (some (.int .i64 k)) true (S m g u)=lkB (g j) k (S m g u):=by
 unfold zEE
 rw[tyd117]
 simp only
 rw[zE1 hj]
 unfold lkB
 cases g j<;>rfl
theorem lkB_sh {s:Sto}{k:Int}:lkB (.mapb (zB6 shL)) k s=.val (.tuple [zMO (shp k).2,.bool (shp k).1]) s:=by
 unfold lkB
 simp only
 rw[zX9,zS2]
 have:=zS3 k shL
 rw[zS2] at this
 cases h:(shp k).1 with
 | true=>rfl
 | false=>rw[this h];rfl
attribute [go_sem] lk_sh lkB_sh
attribute [go_sem] zMO
def MayOk (may:AV)(mp:Int→Bool)(len m0 k:Nat)(g0:Nat→Box)(u:List (Nat×Nat)):Prop:=
 ∀(M:Nat) (G:Nat→Box),m0≤M→(∀i,i<m0→i≠k→G i=g0 i)→∀(n:Int),0≤n→n<len→∀Q:CR→Sto→Prop,Q (.ret (.bool (mp n))) (S M G u)→CV E1 may [.int .i64 n] (S M G u) Q
theorem c170 {sp:Pl.Spec}{j:Nat}{nd:Int}{may:AV}{mp:Int→Bool}{k m0:Nat}{g0:Nat→Box}{sc:List Int}{e:X}(hml:sp.models.length<1073741824)(hdl:sp.defs.length<1073741824)(hvl:sp.vars.length<1073741824)(hcl:sp.consts.length<1073741824)(hsl:sc.length<1073741824)(hpl:(params sp e.n).length<1073741824)(hl:szX e<1073741000)
  {m:Nat} {g:Nat→Box} {u:List (Nat×Nat)} (hu:zAS m u=true) (hu2:zAK m u=u) (hk:k<m) (hj:j<m) (hg:g k=.cells 121 (zAJ sp j nd may)) (hgj:g j=.mapb (zB6 shL)) (hm0:m0≤m) (hg0:∀i,i<m0→i≠k→g i=g0 i) (hmay:MayOk may mp sp.defs.length m0 k g0 u)
  {Q:CR→Sto→Prop} (h:Q (.ret (.bool (zJI sp mp sc e))) (S m g u)):C E1 170 [.ptr k 0,encX e,.sl 0 (sc.map iv) .shut] (S m g u) Q:=by
 have hlv:=zIE e
 have hle:=szXs_len e.l
 have hls:=lens_len e.s
 have hvz:szV e.v<4611686018427387904:=by omega
 have hvz2:szV e.v<1073741824:=by omega
 have hlz:lens e.s<1073741000:=by omega
 have hU3:=zCT hu hu2 (show m≤m+1+1 by omega)
 have hx:=@zL7 sp e.n
 have hy:=@at_sc sc e.n
 have hpl2:(sp.defs.getD e.n.toNat default).params.length<1073741824:=hpl
 have hmy:=fun(b:Box)=>hmay (m+1+1) (updB (updB g m (.cells 34 (zAO e))) (m+1) b) (by omega) (fun i h1 h2=>by rw[zAC (by omega),zAC (by omega)];exact hg0 i h1 h2) e.n
 have hv71:=fun(b:Box) (Q:CR→Sto→Prop) hQ=>c71 (sp:=sp) (j:=j) (nd:=nd) (may:=may) (k:=k) (v:=e.v) (m:=m+1+1) (g:=updB (updB g m (.cells 34 (zAO e))) (m+1) b) (u:=u) (Q:=Q) hml hvz2 hU3.1 hU3.2 (by omega) (by rw[zAC (by omega),zAC (by omega)];exact hg) hQ
 have hpr:1≤e.n→e.n≤19→primL[e.n.toNat]?=some (prims e.n):=fun h1 h2=>by
  have:e.n=1∨e.n=2∨e.n=3∨e.n=4∨e.n=5∨e.n=6∨e.n=7∨e.n=8∨e.n=9∨e.n=10∨e.n=11∨e.n=12∨e.n=13∨e.n=14∨e.n=15∨e.n=16∨e.n=17∨e.n=18∨e.n=19:=by omega
  rcases this with h|h|h|h|h|h|h|h|h|h|h|h|h|h|h|h|h|h|h<;>(rw[h];rfl)
 clear hmay hg0
 have hrem:(e.l.length:Int).tmod 2=(e.l.length:Int) % 2:=Int.tmod_eq_emod_of_nonneg (by omega)
 have hw2:e.n=0∨e.n=1→wr .i64 (2+e.n)=2+e.n:=fun h=>wr_id (by omega)
 refine zAG (md:=⟨false,false,false,false⟩) (fn:=Tryz.f170) (n:=315) (rs:=[.tmp 6]) rfl rfl rfl rfl rfl rfl rfl (by simp only[go_sem, *];try rfl) (by rfl) ?_
 repeat' (first|(refine zEN (fun Q h=>c245 (v:=e.v) hvz h) ?_ ?_;focus (intro hs;(try simp only[nbs] at hs);simp (disch:=first|assumption|omega) only[go_sem, *];first|done|rfl))|refine hv71 _ _ ?_|refine zJ4 ?_|refine hmy _ (by omega) (by omega) _ ?_|refine c246 ?_|refine c247 hU3.1 hU3.2 hlz ?_|simp (disch:=first|assumption|omega) only[go_sem, *]|((first|apply gw_m|apply gw_q);focus (intro hs;(try simp only[nbs] at hs);simp (disch:=first|assumption|omega) only[go_sem, *];rfl))|((first|refine zAB ?_ ?_|refine zAA ?_ ?_|refine sp_C ?_ ?_|refine sp_G ?_ ?_)<;>(intro hs;try simp only[nbs] at hs)))
 all_goals try (have hsl1:(1:Int)≤e.l.length:=(by omega);repeat' (first|(refine zEN (fun Q h=>c245 (v:=e.v) hvz h) ?_ ?_;focus (intro hs;(try simp only[nbs] at hs);simp (disch:=first|assumption|omega) only[go_sem, *];first|done|rfl))|refine hv71 _ _ ?_|refine zJ4 ?_|refine hmy _ (by omega) (by omega) _ ?_|refine c246 ?_|refine c247 hU3.1 hU3.2 hlz ?_|simp (disch:=first|assumption|omega) only[go_sem, *]|((first|apply gw_m|apply gw_q);focus (intro hs;(try simp only[nbs] at hs);simp (disch:=first|assumption|omega) only[go_sem, *];rfl))|((first|refine zAB ?_ ?_|refine zAA ?_ ?_|refine sp_C ?_ ?_|refine sp_G ?_ ?_)<;>(intro hs;try simp only[nbs] at hs))))
 all_goals clear hmy hv71 hx hy hpr hg hgj hu hu2 hU3 hrem
 all_goals try exact zA1 h (by(try clear hrec);(try clear h);simp only[zJI,params];grind)
 all_goals try exact zA1 h (by(try clear hrec);(try clear h);rcases Decidable.em (e.n=0∨e.n=1) with hn|hn;· (rw[hw2 hn];simp only[zJI,params];grind);· (simp only[zJI];grind))
end Go.Ab.X
end
