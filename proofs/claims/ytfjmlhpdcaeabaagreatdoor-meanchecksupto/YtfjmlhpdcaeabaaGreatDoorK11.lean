/- A part. -/
import Derived.Test.YtfjmlhpdcaeabaaGreatDoorK10
set_option linter.all false
noncomputable section
namespace Pl
theorem zHK (x:X)(deep left:Int)(h:(exprsM [x] deep left).1=true):0≤(exprsM [x] deep left).2∧(exprsM [x] deep left).2≤left:=by
 have i1:=nodeM_le x deep left
 unfold exprsM exprsM at h ⊢
 generalize nodeM x deep left=st at *
 obtain⟨b,a⟩:=st
 cases b with
 | true=>exact i1 rfl
 | false=>cases h
theorem zNA (x y:X)(deep left:Int)(h:(exprsM [x,y] deep left).1=true):0≤(exprsM [x,y] deep left).2∧(exprsM [x,y] deep left).2≤left:=by
 have i1:=nodeM_le x deep left
 have i2:=fun a=>zHK y deep a
 rw[exprsM] at h ⊢
 generalize nodeM x deep left=st at *
 obtain⟨b,a⟩:=st
 cases b with
 | true=>have j1:=i1 rfl;have j2:=i2 a h;dsimp only at j1 j2 ⊢;omega
 | false=>cases h
end Pl
namespace Go.Ab.X
open Go Go.Ab Go.Proofs Pl
set_option maxRecDepth 100000
set_option maxHeartbeats 16000000
theorem c35o {k:Nat}{l:List X}{o:Own}(hsz:szXs l<1073741824){left:Int}{m:Nat}{g:Nat→Box}{u:List (Nat×Nat)}(hu:zAS m u=true)(hu2:zAK m u=u)(hk:k<m)(hg:g k=mt left)(h0:-549755813888≤left)(h1:left≤12000)
  {Q:CR→Sto→Prop} (h:Q (.ret (.bool (exprsM l 1 left).1)) (S m (updB g k (mt (exprsM l 1 left).2)) u)):C E1 35 [.ptr k 0,.int .i64 1,.sl 0 (l.map encX) o] (S m g u) Q:=
 zHB (args1:=[.ptr k 0,.int .i64 1,.sl 0 (l.map encX) .shut]) (s1:=S m g u) rfl rfl rfl (by simp only[zBT,zEQ,zEM,zDF]) (by simp only[zBT,zEQ,zEM,zDF]) (c35 (szXs l+1) l (by omega) hsz 1 left m g u hu hu2 hk hg (by omega) (by omega) h0 h1 Q h)
structure Mt (sp:Pl.Spec):Prop where
 ml:sp.models.length<1073741824
 gl:sp.groups.length<1073741824
 pl:sp.props.length<1073741824
 fl:sp.groups.flatten.length<1073741824
 cl:sp.consts.length<1073741824
 vl:sp.vars.length<1073741824
 dl:sp.defs.length<1073741824
 fal:sp.fair.length<1073741824
 il:sp.invs.length<1073741824
 cv:∀c∈sp.consts,szV c.v<1073741824
 vt:∀x∈sp.vars,szX x.typ<1000000000
 db:∀x∈sp.defs,szX x.body<1000000000∧x.params.length<2000000
 ff:∀x∈sp.fair,szX x.a<500000000∧szX x.sub<500000000
 ie:∀x∈sp.invs,szX x.e<1000000000
 ini:szX sp.init<500000000∧szX sp.next<500000000
 asm:szXs sp.assume<1073741824
 con:szXs sp.cons<1073741824
 aco:szXs sp.acons<1073741824
 vie:szXs sp.view<1073741824
theorem c33 {sp:Pl.Spec}(hz:Mt sp){k m:Nat}{g:Nat→Box}{u:List (Nat×Nat)}(hu:zAS m u=true)(hu2:zAK m u=u)(hk:k<m)(hg:g k=mt 12000)
  {Q:CR→Sto→Prop} (h:∀(b:Bool) (g':Nat→Box) (left':Int),g' k=mt left'→(b=true→-549755813888≤left'∧left'≤12000)→Q (.ret (.bool b)) (S m g' u)):C E1 33 [.ptr k 0,zAX sp] (S m g u) Q:=by
 have z1:=hz.ml
 have z2:=hz.gl
 have z3:=hz.pl
 have hfalse:∀(G:Nat→Box) (a:Int),Q (.ret (.bool false)) (S m (updB G k (mt a)) u):=fun G a=>h false _ a zAD (fun h=>nomatch h)
 obtain⟨L1,hL1⟩:∃L1:Int,(12000:Int)-((sp.models.length:Int)+sp.groups.length+sp.props.length)=L1:=⟨_,rfl⟩
 have hL1r:-4294967296≤L1∧L1≤12000:=by omega
 have hkm0:k≠m:=by omega
 refine zAG (md:=⟨false,false,false,false⟩) (fn:=Tryz.f33) (n:=164) (rs:=[.tmp 4]) rfl rfl rfl rfl rfl rfl rfl (by simp only[go_sem, *];try rfl) (by rfl) ?_
 repeat' (first|simp (disch:=first|assumption|omega) only[go_sem, *]|((first|apply gw_m|apply gw_q);focus (intro hs;(try simp only[nbs] at hs);simp (disch:=first|assumption|omega) only[go_sem, *];rfl))|((first|refine zAB ?_ ?_|refine zAA ?_ ?_|refine sp_C ?_ ?_|refine sp_G ?_ ?_)<;>(intro hs;try simp only[nbs] at hs)))
 refine zAL (ι:=Nat×Int×(Nat→Box)) (fun p=>[(0,.ptr k 0),(3,.ptr m 0),(36,.sl 0 (sp.groups.map slS) .shut),(37,.int .i64 sp.groups.length),(38,.int .i64 p.1)]) (fun p=>S (m+1) p.2.2 u)
  (fun p=>p.1≤sp.groups.length∧p.2.2 k=mt p.2.1∧p.2.2 m=.cells 40 (zAE sp)∧-4294967296-((sp.groups.take p.1).flatten.length:Int)≤p.2.1∧p.2.1≤12000) (fun p=>sp.groups.length-p.1) ?_ (0,L1,updB (updB g m (.cells 40 (zAE sp))) k (mt L1)) ⟨Nat.zero_le _,zAD,by dsimp only;rw[zAC (by omega),zAD],by dsimp only;simp;omega,hL1r.2⟩ ⟨rfl,rfl,rfl,rfl,rfl,trivial⟩ rfl
 clear hL1 hL1r
 clear L1
 rintro⟨i,left,G⟩ b ⟨hi,hGk,hGm,hl0,hl1⟩ hrec
 dsimp only at hi hGk hGm hl0 hl1 hrec ⊢
 have hflt:∀i,(sp.groups.take i).flatten.length≤sp.groups.flatten.length:=fun i=>by
  have:=congrArg (fun l=>(List.flatten l).length) (List.take_append_drop i sp.groups)
  simp only[List.flatten_append,List.length_append] at this
  omega
 have z4:=hz.fl
 have hfi:=hflt i
 rcases Nat.lt_or_ge i sp.groups.length with hlt|hge
 ·have hc:decide ((i:Int)<sp.groups.length)=true:=decide_eq_true (by omega)
  have hx:sp.groups[i]?=some sp.groups[i]:=List.getElem?_eq_getElem hlt
  have hsn:(sp.groups.take (i+1)).flatten.length=(sp.groups.take i).flatten.length+sp.groups[i].length:=by
   rw[List.take_succ_eq_append_getElem hlt,List.flatten_append];simp
  have hfi2:=hflt (i+1)
  generalize sp.groups[i]=l at *
  repeat' (first|simp (disch:=first|assumption|omega) only[go_sem, *]|((first|apply gw_m|apply gw_q);focus (intro hs;(try simp only[nbs] at hs);simp (disch:=first|assumption|omega) only[go_sem, *];rfl))|((first|refine zAB ?_ ?_|refine zAA ?_ ?_|refine sp_C ?_ ?_|refine sp_G ?_ ?_)<;>(intro hs;try simp only[nbs] at hs)))
  exact hrec (i+1,left-l.length,updB G k (mt (left-l.length))) _ _ _ ⟨hlt,zAD,by dsimp only;rw[zAC (by omega)];exact hGm,by dsimp only;omega,by dsimp only;omega⟩ (by dsimp only;omega) ⟨rfl,rfl,rfl,rfl,congrArg (fun z=>some (AV.int .i64 z)) (by dsimp only;omega),trivial⟩ rfl
 have hc:decide ((i:Int)<sp.groups.length)=false:=decide_eq_false (by omega)
 clear hrec
 have hl2:-8589934592≤left:=by omega
 clear hl0 hi hge hflt hfi
 repeat' (first|simp (disch:=first|assumption|omega) only[go_sem, *]|((first|apply gw_m|apply gw_q);focus (intro hs;(try simp only[nbs] at hs);simp (disch:=first|assumption|omega) only[go_sem, *];rfl))|((first|refine zAB ?_ ?_|refine zAA ?_ ?_|refine sp_C ?_ ?_|refine sp_G ?_ ?_)<;>(intro hs;try simp only[nbs] at hs)))
 clear hc
 obtain⟨M,hM⟩:∃M,m+1=M:=⟨_,rfl⟩
 have hmM:m+1≤M:=by omega
 rw[hM]
 have w0:=hz.cl
 refine zAL (ι:=Nat×Int×Nat×(Nat→Box)) (fun p=>[(0,.ptr k 0),(3,.ptr m 0),(53,.sl 0 (sp.consts.map zBE) .shut),(54,.int .i64 sp.consts.length),(55,.int .i64 p.1)]) (fun p=>S p.2.2.1 p.2.2.2 u)
  (fun p=>p.1≤sp.consts.length∧m+1≤p.2.2.1∧p.2.2.2 k=mt p.2.1∧p.2.2.2 m=.cells 40 (zAE sp)∧-8589934592≤p.2.1∧p.2.1≤12000) (fun p=>sp.consts.length-p.1) ?_ (0,left,M,G) ⟨Nat.zero_le _,hmM,hGk,hGm,hl2,hl1⟩ ⟨rfl,rfl,rfl,rfl,rfl,trivial⟩ rfl
 clear hGk hGm hl1 hl2 hmM hM
 clear M G left
 rintro⟨i,left,M,G⟩ b ⟨hi,hmM,hGk,hGm,hl2,hl1⟩ hrec
 dsimp only at hi hmM hGk hGm hl2 hl1 hrec ⊢
 rcases Nat.lt_or_ge i sp.consts.length with hlt|hge
 ·have hc:decide ((i:Int)<sp.consts.length)=true:=decide_eq_true (by omega)
  have hx:sp.consts[i]?=some sp.consts[i]:=List.getElem?_eq_getElem hlt
  have hb:=hz.cv _ (List.getElem_mem hlt)
  generalize sp.consts[i]=x at *
  have hU3:=zCT hu hu2 (show m≤M+1 by omega)
  have hkM:k≠M:=by omega
  have hcall:=fun(Q:CR→Sto→Prop) hQ=>c59' (k:=k) (v:=x.v) (left:=left) (m:=M+1) (g:=updB G M (.cells 107 (zBL x))) (u:=u) hb hU3.1 hU3.2 (by omega) (by rw[zAC (by omega)];exact hGk) (by omega) (by omega) (Q:=Q) hQ
  have hle:=valM_le x.v 1 left
  generalize valM x.v 1 left=st at *
  obtain⟨b1,a1⟩:=st
  dsimp only at hcall hle
  repeat' (first|refine hcall _ ?_|simp (disch:=first|assumption|omega) only[go_sem, *]|((first|apply gw_m|apply gw_q);focus (intro hs;(try simp only[nbs] at hs);simp (disch:=first|assumption|omega) only[go_sem, *];rfl))|((first|refine zAB ?_ ?_|refine zAA ?_ ?_|refine sp_C ?_ ?_|refine sp_G ?_ ?_)<;>(intro hs;try simp only[nbs] at hs)))
  all_goals first
   | exact hfalse _ _
   | (have hle:=hle hs
      exact hrec (i+1,a1,M+1,updB (updB G M (.cells 107 (zBL x))) k (mt a1)) _ _ _ ⟨hlt,by dsimp only;omega,zAD,by dsimp only;rw[zAC (by omega)];rw[zAC (by omega)];exact hGm,by dsimp only;omega,by dsimp only;omega⟩ (by dsimp only;omega) ⟨rfl,rfl,rfl,rfl,congrArg (fun z=>some (AV.int .i64 z)) (by dsimp only;omega),trivial⟩ rfl)
 have hc:decide ((i:Int)<sp.consts.length)=false:=decide_eq_false (by omega)
 clear hrec hi hge
 repeat' (first|simp (disch:=first|assumption|omega) only[go_sem, *]|((first|apply gw_m|apply gw_q);focus (intro hs;(try simp only[nbs] at hs);simp (disch:=first|assumption|omega) only[go_sem, *];rfl))|((first|refine zAB ?_ ?_|refine zAA ?_ ?_|refine sp_C ?_ ?_|refine sp_G ?_ ?_)<;>(intro hs;try simp only[nbs] at hs)))
 clear hc
 have w1:=hz.vl
 refine zAL (ι:=Nat×Int×Nat×(Nat→Box)) (fun p=>[(0,.ptr k 0),(3,.ptr m 0),(66,.sl 0 (sp.vars.map zDL) .shut),(67,.int .i64 sp.vars.length),(68,.int .i64 p.1)]) (fun p=>S p.2.2.1 p.2.2.2 u)
  (fun p=>p.1≤sp.vars.length∧m+1≤p.2.2.1∧p.2.2.2 k=mt p.2.1∧p.2.2.2 m=.cells 40 (zAE sp)∧-8589934592≤p.2.1∧p.2.1≤12000) (fun p=>sp.vars.length-p.1) ?_ (0,left,M,G) ⟨Nat.zero_le _,hmM,hGk,hGm,hl2,hl1⟩ ⟨rfl,rfl,rfl,rfl,rfl,trivial⟩ rfl
 clear hGk hGm hl1 hl2 hmM
 clear M G left
 rintro⟨i,left,M,G⟩ b ⟨hi,hmM,hGk,hGm,hl2,hl1⟩ hrec
 dsimp only at hi hmM hGk hGm hl2 hl1 hrec ⊢
 rcases Nat.lt_or_ge i sp.vars.length with hlt|hge
 ·have hc:decide ((i:Int)<sp.vars.length)=true:=decide_eq_true (by omega)
  have hx:sp.vars[i]?=some sp.vars[i]:=List.getElem?_eq_getElem hlt
  have hb:=hz.vt _ (List.getElem_mem hlt)
  generalize sp.vars[i]=x at *
  have hU3:=zCT hu hu2 (show m≤M+1 by omega)
  have hkM:k≠M:=by omega
  have hcall:=fun(Q:CR→Sto→Prop) hQ=>c35o (k:=k) (l:=[x.typ]) (o:=.clip) (left:=left) (m:=M+1) (g:=updB G M (.cells 82 (zCR x))) (u:=u) (by simp only[szXs];omega) hU3.1 hU3.2 (by omega) (by rw[zAC (by omega)];exact hGk) (by omega) (by omega) (Q:=Q) hQ
  have hle:=zHK x.typ 1 left
  generalize exprsM [x.typ] 1 left=st at *
  obtain⟨b1,a1⟩:=st
  dsimp only at hcall hle
  repeat' (first|refine hcall _ ?_|simp (disch:=first|assumption|omega) only[go_sem, *]|((first|apply gw_m|apply gw_q);focus (intro hs;(try simp only[nbs] at hs);simp (disch:=first|assumption|omega) only[go_sem, *];rfl))|((first|refine zAB ?_ ?_|refine zAA ?_ ?_|refine sp_C ?_ ?_|refine sp_G ?_ ?_)<;>(intro hs;try simp only[nbs] at hs)))
  all_goals first
   | exact hfalse _ _
   | (have hle:=hle hs
      exact hrec (i+1,a1,M+1,updB (updB G M (.cells 82 (zCR x))) k (mt a1)) _ _ _ ⟨hlt,by dsimp only;omega,zAD,by dsimp only;rw[zAC (by omega)];rw[zAC (by omega)];exact hGm,by dsimp only;omega,by dsimp only;omega⟩ (by dsimp only;omega) ⟨rfl,rfl,rfl,rfl,congrArg (fun z=>some (AV.int .i64 z)) (by dsimp only;omega),trivial⟩ rfl)
 have hc:decide ((i:Int)<sp.vars.length)=false:=decide_eq_false (by omega)
 clear hrec hi hge
 repeat' (first|simp (disch:=first|assumption|omega) only[go_sem, *]|((first|apply gw_m|apply gw_q);focus (intro hs;(try simp only[nbs] at hs);simp (disch:=first|assumption|omega) only[go_sem, *];rfl))|((first|refine zAB ?_ ?_|refine zAA ?_ ?_|refine sp_C ?_ ?_|refine sp_G ?_ ?_)<;>(intro hs;try simp only[nbs] at hs)))
 clear hc
 have w2:=hz.dl
 refine zAL (ι:=Nat×Int×Nat×(Nat→Box)) (fun p=>[(0,.ptr k 0),(3,.ptr m 0),(80,.sl 0 (sp.defs.map zCH) .shut),(81,.int .i64 sp.defs.length),(82,.int .i64 p.1)]) (fun p=>S p.2.2.1 p.2.2.2 u)
  (fun p=>p.1≤sp.defs.length∧m+1≤p.2.2.1∧p.2.2.2 k=mt p.2.1∧p.2.2.2 m=.cells 40 (zAE sp)∧-8589934592≤p.2.1∧p.2.1≤12000) (fun p=>sp.defs.length-p.1) ?_ (0,left,M,G) ⟨Nat.zero_le _,hmM,hGk,hGm,hl2,hl1⟩ ⟨rfl,rfl,rfl,rfl,rfl,trivial⟩ rfl
 clear hGk hGm hl1 hl2 hmM
 clear M G left
 rintro⟨i,left,M,G⟩ b ⟨hi,hmM,hGk,hGm,hl2,hl1⟩ hrec
 dsimp only at hi hmM hGk hGm hl2 hl1 hrec ⊢
 rcases Nat.lt_or_ge i sp.defs.length with hlt|hge
 ·have hc:decide ((i:Int)<sp.defs.length)=true:=decide_eq_true (by omega)
  have hx:sp.defs[i]?=some sp.defs[i]:=List.getElem?_eq_getElem hlt
  have hb:=hz.db _ (List.getElem_mem hlt)
  generalize sp.defs[i]=x at *
  have hU3:=zCT hu hu2 (show m≤M+1 by omega)
  have hkM:k≠M:=by omega
  have hcall:=fun(Q:CR→Sto→Prop) hQ=>c35o (k:=k) (l:=[x.body]) (o:=.clip) (left:=(left-x.params.length)) (m:=M+1) (g:=updB (updB G M (.cells 110 (zBC x))) k (mt (left-x.params.length))) (u:=u) (by simp only[szXs];omega) hU3.1 hU3.2 (by omega) zAD (by omega) (by omega) (Q:=Q) hQ
  have hle:=zHK x.body 1 (left-x.params.length)
  generalize exprsM [x.body] 1 (left-x.params.length)=st at *
  obtain⟨b1,a1⟩:=st
  dsimp only at hcall hle
  repeat' (first|refine hcall _ ?_|simp (disch:=first|assumption|omega) only[go_sem, *]|((first|apply gw_m|apply gw_q);focus (intro hs;(try simp only[nbs] at hs);simp (disch:=first|assumption|omega) only[go_sem, *];rfl))|((first|refine zAB ?_ ?_|refine zAA ?_ ?_|refine sp_C ?_ ?_|refine sp_G ?_ ?_)<;>(intro hs;try simp only[nbs] at hs)))
  all_goals first
   | exact hfalse _ _
   | (have hle:=hle hs
      exact hrec (i+1,a1,M+1,updB (updB G M (.cells 110 (zBC x))) k (mt a1)) _ _ _ ⟨hlt,by dsimp only;omega,zAD,by dsimp only;rw[zAC (by omega)];rw[zAC (by omega)];exact hGm,by dsimp only;omega,by dsimp only;omega⟩ (by dsimp only;omega) ⟨rfl,rfl,rfl,rfl,congrArg (fun z=>some (AV.int .i64 z)) (by dsimp only;omega),trivial⟩ rfl)
 have hc:decide ((i:Int)<sp.defs.length)=false:=decide_eq_false (by omega)
 clear hrec hi hge
 repeat' (first|simp (disch:=first|assumption|omega) only[go_sem, *]|((first|apply gw_m|apply gw_q);focus (intro hs;(try simp only[nbs] at hs);simp (disch:=first|assumption|omega) only[go_sem, *];rfl))|((first|refine zAB ?_ ?_|refine zAA ?_ ?_|refine sp_C ?_ ?_|refine sp_G ?_ ?_)<;>(intro hs;try simp only[nbs] at hs)))
 clear hc
 have w3:=hz.fal
 refine zAL (ι:=Nat×Int×Nat×(Nat→Box)) (fun p=>[(0,.ptr k 0),(3,.ptr m 0),(104,.sl 0 (sp.fair.map zEF) .shut),(105,.int .i64 sp.fair.length),(106,.int .i64 p.1)]) (fun p=>S p.2.2.1 p.2.2.2 u)
  (fun p=>p.1≤sp.fair.length∧m+1≤p.2.2.1∧p.2.2.2 k=mt p.2.1∧p.2.2.2 m=.cells 40 (zAE sp)∧-8589934592≤p.2.1∧p.2.1≤12000) (fun p=>sp.fair.length-p.1) ?_ (0,left,M,G) ⟨Nat.zero_le _,hmM,hGk,hGm,hl2,hl1⟩ ⟨rfl,rfl,rfl,rfl,rfl,trivial⟩ rfl
 clear hGk hGm hl1 hl2 hmM
 clear M G left
 rintro⟨i,left,M,G⟩ b ⟨hi,hmM,hGk,hGm,hl2,hl1⟩ hrec
 dsimp only at hi hmM hGk hGm hl2 hl1 hrec ⊢
 rcases Nat.lt_or_ge i sp.fair.length with hlt|hge
 ·have hc:decide ((i:Int)<sp.fair.length)=true:=decide_eq_true (by omega)
  have hx:sp.fair[i]?=some sp.fair[i]:=List.getElem?_eq_getElem hlt
  have hb:=hz.ff _ (List.getElem_mem hlt)
  generalize sp.fair[i]=x at *
  have hU3:=zCT hu hu2 (show m≤M+1 by omega)
  have hkM:k≠M:=by omega
  have hcall:=fun(Q:CR→Sto→Prop) hQ=>c35o (k:=k) (l:=[x.a,x.sub]) (o:=.clip) (left:=left) (m:=M+1) (g:=updB G M (.cells 112 (zB2 x))) (u:=u) (by simp only[szXs];omega) hU3.1 hU3.2 (by omega) (by rw[zAC (by omega)];exact hGk) (by omega) (by omega) (Q:=Q) hQ
  have hle:=zNA x.a x.sub 1 left
  generalize exprsM [x.a,x.sub] 1 left=st at *
  obtain⟨b1,a1⟩:=st
  dsimp only at hcall hle
  repeat' (first|refine hcall _ ?_|simp (disch:=first|assumption|omega) only[go_sem, *]|((first|apply gw_m|apply gw_q);focus (intro hs;(try simp only[nbs] at hs);simp (disch:=first|assumption|omega) only[go_sem, *];rfl))|((first|refine zAB ?_ ?_|refine zAA ?_ ?_|refine sp_C ?_ ?_|refine sp_G ?_ ?_)<;>(intro hs;try simp only[nbs] at hs)))
  all_goals first
   | exact hfalse _ _
   | (have hle:=hle hs
      exact hrec (i+1,a1,M+1,updB (updB G M (.cells 112 (zB2 x))) k (mt a1)) _ _ _ ⟨hlt,by dsimp only;omega,zAD,by dsimp only;rw[zAC (by omega)];rw[zAC (by omega)];exact hGm,by dsimp only;omega,by dsimp only;omega⟩ (by dsimp only;omega) ⟨rfl,rfl,rfl,rfl,congrArg (fun z=>some (AV.int .i64 z)) (by dsimp only;omega),trivial⟩ rfl)
 have hc:decide ((i:Int)<sp.fair.length)=false:=decide_eq_false (by omega)
 clear hrec hi hge
 repeat' (first|simp (disch:=first|assumption|omega) only[go_sem, *]|((first|apply gw_m|apply gw_q);focus (intro hs;(try simp only[nbs] at hs);simp (disch:=first|assumption|omega) only[go_sem, *];rfl))|((first|refine zAB ?_ ?_|refine zAA ?_ ?_|refine sp_C ?_ ?_|refine sp_G ?_ ?_)<;>(intro hs;try simp only[nbs] at hs)))
 clear hc
 have w4:=hz.il
 refine zAL (ι:=Nat×Int×Nat×(Nat→Box)) (fun p=>[(0,.ptr k 0),(3,.ptr m 0),(120,.sl 0 (sp.invs.map zBQ) .shut),(121,.int .i64 sp.invs.length),(122,.int .i64 p.1)]) (fun p=>S p.2.2.1 p.2.2.2 u)
  (fun p=>p.1≤sp.invs.length∧m+1≤p.2.2.1∧p.2.2.2 k=mt p.2.1∧p.2.2.2 m=.cells 40 (zAE sp)∧-8589934592≤p.2.1∧p.2.1≤12000) (fun p=>sp.invs.length-p.1) ?_ (0,left,M,G) ⟨Nat.zero_le _,hmM,hGk,hGm,hl2,hl1⟩ ⟨rfl,rfl,rfl,rfl,rfl,trivial⟩ rfl
 clear hGk hGm hl1 hl2 hmM
 clear M G left
 rintro⟨i,left,M,G⟩ b ⟨hi,hmM,hGk,hGm,hl2,hl1⟩ hrec
 dsimp only at hi hmM hGk hGm hl2 hl1 hrec ⊢
 rcases Nat.lt_or_ge i sp.invs.length with hlt|hge
 ·have hc:decide ((i:Int)<sp.invs.length)=true:=decide_eq_true (by omega)
  have hx:sp.invs[i]?=some sp.invs[i]:=List.getElem?_eq_getElem hlt
  have hb:=hz.ie _ (List.getElem_mem hlt)
  generalize sp.invs[i]=x at *
  have hU3:=zCT hu hu2 (show m≤M+1 by omega)
  have hkM:k≠M:=by omega
  have hcall:=fun(Q:CR→Sto→Prop) hQ=>c35o (k:=k) (l:=[x.e]) (o:=.clip) (left:=left) (m:=M+1) (g:=updB G M (.cells 114 (zBU x))) (u:=u) (by simp only[szXs];omega) hU3.1 hU3.2 (by omega) (by rw[zAC (by omega)];exact hGk) (by omega) (by omega) (Q:=Q) hQ
  have hle:=zHK x.e 1 left
  generalize exprsM [x.e] 1 left=st at *
  obtain⟨b1,a1⟩:=st
  dsimp only at hcall hle
  repeat' (first|refine hcall _ ?_|simp (disch:=first|assumption|omega) only[go_sem, *]|((first|apply gw_m|apply gw_q);focus (intro hs;(try simp only[nbs] at hs);simp (disch:=first|assumption|omega) only[go_sem, *];rfl))|((first|refine zAB ?_ ?_|refine zAA ?_ ?_|refine sp_C ?_ ?_|refine sp_G ?_ ?_)<;>(intro hs;try simp only[nbs] at hs)))
  all_goals first
   | exact hfalse _ _
   | (have hle:=hle hs
      exact hrec (i+1,a1,M+1,updB (updB G M (.cells 114 (zBU x))) k (mt a1)) _ _ _ ⟨hlt,by dsimp only;omega,zAD,by dsimp only;rw[zAC (by omega)];rw[zAC (by omega)];exact hGm,by dsimp only;omega,by dsimp only;omega⟩ (by dsimp only;omega) ⟨rfl,rfl,rfl,rfl,congrArg (fun z=>some (AV.int .i64 z)) (by dsimp only;omega),trivial⟩ rfl)
 have hc:decide ((i:Int)<sp.invs.length)=false:=decide_eq_false (by omega)
 clear hrec hi hge
 repeat' (first|simp (disch:=first|assumption|omega) only[go_sem, *]|((first|apply gw_m|apply gw_q);focus (intro hs;(try simp only[nbs] at hs);simp (disch:=first|assumption|omega) only[go_sem, *];rfl))|((first|refine zAB ?_ ?_|refine zAA ?_ ?_|refine sp_C ?_ ?_|refine sp_G ?_ ?_)<;>(intro hs;try simp only[nbs] at hs)))
 clear hc
 have hU3:=zCT hu hu2 (show m≤M by omega)
 have y0:=hz.ini
 have y1:=hz.asm
 have y2:=hz.con
 have y3:=hz.aco
 have y4:=hz.vie
 refine c35o (l:=[sp.init,sp.next]) (o:=.clip) (left:=left) (by simp only[szXs];omega) hU3.1 hU3.2 (by omega) hGk (by omega) (by omega) ?_
 have hle:=zNA sp.init sp.next 1 left
 generalize exprsM [sp.init,sp.next] 1 left=st at *
 obtain⟨b1,a1⟩:=st
 dsimp only at hle ⊢
 cases b1 with
 | false=>
  repeat' (first|simp (disch:=first|assumption|omega) only[go_sem, *]|((first|apply gw_m|apply gw_q);focus (intro hs;(try simp only[nbs] at hs);simp (disch:=first|assumption|omega) only[go_sem, *];rfl))|((first|refine zAB ?_ ?_|refine zAA ?_ ?_|refine sp_C ?_ ?_|refine sp_G ?_ ?_)<;>(intro hs;try simp only[nbs] at hs)))
  all_goals exact hfalse _ _
 | true=>
  have hle:=hle rfl
  repeat' (first|simp (disch:=first|assumption|omega) only[go_sem, *]|((first|apply gw_m|apply gw_q);focus (intro hs;(try simp only[nbs] at hs);simp (disch:=first|assumption|omega) only[go_sem, *];rfl))|((first|refine zAB ?_ ?_|refine zAA ?_ ?_|refine sp_C ?_ ?_|refine sp_G ?_ ?_)<;>(intro hs;try simp only[nbs] at hs)))
  refine c35o (l:=sp.assume) (o:=.shut) (left:=a1) (by omega) hU3.1 hU3.2 (by omega) zAD (by omega) (by omega) ?_
  have hle0:=zHJ sp.assume 1 a1
  generalize exprsM sp.assume 1 a1=st at *
  obtain⟨b2,a2⟩:=st
  dsimp only at hle0 ⊢
  cases b2 with
  | false=>
   repeat' (first|simp (disch:=first|assumption|omega) only[go_sem, *]|((first|apply gw_m|apply gw_q);focus (intro hs;(try simp only[nbs] at hs);simp (disch:=first|assumption|omega) only[go_sem, *];rfl))|((first|refine zAB ?_ ?_|refine zAA ?_ ?_|refine sp_C ?_ ?_|refine sp_G ?_ ?_)<;>(intro hs;try simp only[nbs] at hs)))
   all_goals exact hfalse _ _
  | true=>
   have hle0:=hle0 rfl
   repeat' (first|simp (disch:=first|assumption|omega) only[go_sem, *]|((first|apply gw_m|apply gw_q);focus (intro hs;(try simp only[nbs] at hs);simp (disch:=first|assumption|omega) only[go_sem, *];rfl))|((first|refine zAB ?_ ?_|refine zAA ?_ ?_|refine sp_C ?_ ?_|refine sp_G ?_ ?_)<;>(intro hs;try simp only[nbs] at hs)))
   refine c35o (l:=sp.cons) (o:=.shut) (left:=a2) (by omega) hU3.1 hU3.2 (by omega) zAD (by omega) (by omega) ?_
   have hle1:=zHJ sp.cons 1 a2
   generalize exprsM sp.cons 1 a2=st at *
   obtain⟨b3,a3⟩:=st
   dsimp only at hle1 ⊢
   cases b3 with
   | false=>
    repeat' (first|simp (disch:=first|assumption|omega) only[go_sem, *]|((first|apply gw_m|apply gw_q);focus (intro hs;(try simp only[nbs] at hs);simp (disch:=first|assumption|omega) only[go_sem, *];rfl))|((first|refine zAB ?_ ?_|refine zAA ?_ ?_|refine sp_C ?_ ?_|refine sp_G ?_ ?_)<;>(intro hs;try simp only[nbs] at hs)))
    all_goals exact hfalse _ _
   | true=>
    have hle1:=hle1 rfl
    repeat' (first|simp (disch:=first|assumption|omega) only[go_sem, *]|((first|apply gw_m|apply gw_q);focus (intro hs;(try simp only[nbs] at hs);simp (disch:=first|assumption|omega) only[go_sem, *];rfl))|((first|refine zAB ?_ ?_|refine zAA ?_ ?_|refine sp_C ?_ ?_|refine sp_G ?_ ?_)<;>(intro hs;try simp only[nbs] at hs)))
    refine c35o (l:=sp.acons) (o:=.shut) (left:=a3) (by omega) hU3.1 hU3.2 (by omega) zAD (by omega) (by omega) ?_
    have hle2:=zHJ sp.acons 1 a3
    generalize exprsM sp.acons 1 a3=st at *
    obtain⟨b4,a4⟩:=st
    dsimp only at hle2 ⊢
    cases b4 with
    | false=>
     repeat' (first|simp (disch:=first|assumption|omega) only[go_sem, *]|((first|apply gw_m|apply gw_q);focus (intro hs;(try simp only[nbs] at hs);simp (disch:=first|assumption|omega) only[go_sem, *];rfl))|((first|refine zAB ?_ ?_|refine zAA ?_ ?_|refine sp_C ?_ ?_|refine sp_G ?_ ?_)<;>(intro hs;try simp only[nbs] at hs)))
     all_goals exact hfalse _ _
    | true=>
     have hle2:=hle2 rfl
     repeat' (first|simp (disch:=first|assumption|omega) only[go_sem, *]|((first|apply gw_m|apply gw_q);focus (intro hs;(try simp only[nbs] at hs);simp (disch:=first|assumption|omega) only[go_sem, *];rfl))|((first|refine zAB ?_ ?_|refine zAA ?_ ?_|refine sp_C ?_ ?_|refine sp_G ?_ ?_)<;>(intro hs;try simp only[nbs] at hs)))
     refine c35o (l:=sp.view) (o:=.shut) (left:=a4) (by omega) hU3.1 hU3.2 (by omega) zAD (by omega) (by omega) ?_
     have hle3:=zHJ sp.view 1 a4
     generalize exprsM sp.view 1 a4=st at *
     obtain⟨b5,a5⟩:=st
     dsimp only at hle3 ⊢
     cases b5 with
     | false=>
      repeat' (first|simp (disch:=first|assumption|omega) only[go_sem, *]|((first|apply gw_m|apply gw_q);focus (intro hs;(try simp only[nbs] at hs);simp (disch:=first|assumption|omega) only[go_sem, *];rfl))|((first|refine zAB ?_ ?_|refine zAA ?_ ?_|refine sp_C ?_ ?_|refine sp_G ?_ ?_)<;>(intro hs;try simp only[nbs] at hs)))
      all_goals exact hfalse _ _
     | true=>
      have hle3:=hle3 rfl
      repeat' (first|simp (disch:=first|assumption|omega) only[go_sem, *]|((first|apply gw_m|apply gw_q);focus (intro hs;(try simp only[nbs] at hs);simp (disch:=first|assumption|omega) only[go_sem, *];rfl))|((first|refine zAB ?_ ?_|refine zAA ?_ ?_|refine sp_C ?_ ?_|refine sp_G ?_ ?_)<;>(intro hs;try simp only[nbs] at hs)))
      exact h true _ a5 zAD (fun _=>⟨by omega,by omega⟩)
theorem c34 {k m:Nat}{g:Nat→Box}{u:List (Nat×Nat)}(hu:zAS m u=true)(hu2:zAK m u=u)(hk:k<m){Q:CR→Sto→Prop}(h:Q (.ret (.bool true)) (S m g u)):C E1 34 [.ptr k 0,.sl 0 [] .shut] (S m g u) Q:=by
 have hc:decide ((0:Int)<((0:Nat):Int))=false:=rfl
 refine zAG (md:=⟨false,false,false,false⟩) (fn:=Tryz.f34) (n:=17) (rs:=[.tmp 4]) rfl rfl rfl rfl rfl rfl rfl (by simp only[go_sem, *];try rfl) (by rfl) ?_
 repeat' (first|apply zR8|simp (disch:=first|assumption|omega) only[go_sem, *]|((first|apply gw_m|apply gw_q);focus (intro hs;(try simp only[nbs] at hs);simp (disch:=first|assumption|omega) only[go_sem, *];rfl))|((first|refine zAB ?_ ?_|refine zAA ?_ ?_|refine sp_C ?_ ?_|refine sp_G ?_ ?_)<;>(intro hs;try simp only[nbs] at hs)))
theorem build_75 (fr:Fr)(ps:List (Nat×Operand))(s:Sto):zEH E1 fr 75 ps s=(match zB5 fr ps with|some ps=>bldT 75 ps s|none=>.no):=rfl
theorem b75 (n:Int)(s:Sto):bldT 75 [(0,.int .i64 n)] s=.val (.agg [.int .i64 n]) s:=rfl
attribute [go_sem] build_75 b75
theorem c5 {sp:Pl.Spec}{e:X}(hz:Mt sp)(he:szX e<500000000){s:Sto}{Q:CR→Sto→Prop}(h:∀b:Bool,Q (.ret (.bool b)) s):C E1 5 [zAX sp,.sl 0 [] .nil,.sl 0 [encX e] .clip] s Q:=by
 have h33:=fun(g:Nat→Box) (hg:g 1=mt 12000) (Q:CR→Sto→Prop) hQ=>c33 (k:=1) (m:=2) (g:=g) (u:=[]) hz rfl rfl (by omega) hg (Q:=Q) hQ
 have hu:zAS 2 []=true:=rfl
 have hu2:zAK 2 []=[]:=rfl
 refine zAF (md:=⟨true,false,false,false⟩) (fn:=Tryz.f5) (n:=23) (rs:=[.tmp 6]) rfl rfl rfl rfl rfl rfl rfl (by simp only[go_sem, *];try rfl) (by rfl) (by simp only[go_sem]) ?_
 repeat' (first|simp (disch:=first|assumption|omega) only[go_sem, *]|((first|apply gw_m|apply gw_q);focus (intro hs;(try simp only[nbs] at hs);simp (disch:=first|assumption|omega) only[go_sem, *];rfl))|((first|refine zAB ?_ ?_|refine zAA ?_ ?_|refine sp_C ?_ ?_|refine sp_G ?_ ?_)<;>(intro hs;try simp only[nbs] at hs)))
 refine h33 _ zAD _ ?_
 intro b g' left' hg' hb
 clear h33
 cases b with
 | false=>
  repeat' (first|simp (disch:=first|assumption|omega) only[go_sem, *]|((first|apply gw_m|apply gw_q);focus (intro hs;(try simp only[nbs] at hs);simp (disch:=first|assumption|omega) only[go_sem, *];rfl))|((first|refine zAB ?_ ?_|refine zAA ?_ ?_|refine sp_C ?_ ?_|refine sp_G ?_ ?_)<;>(intro hs;try simp only[nbs] at hs)))
  all_goals exact h _
 | true=>
  have hb:=hb rfl
  have h34:∀Q:CR→Sto→Prop,Q (.ret (.bool true)) (S 2 g' [])→C E1 34 [.ptr 1 0,.sl 0 [] .shut] (S 2 g' []) Q:=fun Q hQ=>c34 hu hu2 (by omega) hQ
  have h35:∀Q:CR→Sto→Prop,Q (.ret (.bool (exprsM [e] 1 left').1)) (S 2 (updB g' 1 (mt (exprsM [e] 1 left').2)) [])→C E1 35 [.ptr 1 0,.int .i64 1,.sl 0 [encX e] .shut] (S 2 g' []) Q:=fun Q hQ=>c35o (l:=[e]) (o:=.shut) (by simp only[szXs];omega) hu hu2 (by omega) hg' hb.1 hb.2 hQ
  repeat' (first|refine h34 _ ?_|refine h35 _ ?_|simp (disch:=first|assumption|omega) only[go_sem, *]|((first|apply gw_m|apply gw_q);focus (intro hs;(try simp only[nbs] at hs);simp (disch:=first|assumption|omega) only[go_sem, *];rfl))|((first|refine zAB ?_ ?_|refine zAA ?_ ?_|refine sp_C ?_ ?_|refine sp_G ?_ ?_)<;>(intro hs;try simp only[nbs] at hs)))
  all_goals exact h _
end Go.Ab.X
namespace Pl
theorem zU0 {sp:Spec}{e:X}(h:e∈zG6 sp):e∈exprs sp:=by
 simp only[zG6,exprs,List.flatten_cons,List.flatten_nil,List.append_nil,List.mem_append,List.mem_cons,List.not_mem_nil,or_false] at h ⊢
 grind
end Pl
namespace Go.Ab.X
open Go Go.Ab Go.Proofs Pl
theorem bounds {sp:Pl.Spec}(h:zKO sp≤1048576):Sz sp∧Sm sp∧Sl sp∧Mt sp:=by
 have hx:=zTO sp
 have hx2:=szXs_len (exprs sp)
 have hx3:=cntXs_le (exprs sp)
 have hd1:=cntXs_le (sp.defs.map (·.body))
 have hd2:=zID (·.body) sp.defs
 have hd3:=zCX (f:=fun x:Def=>1+szX x.body) (g:=fDef) (fun x=>by simp only[fDef];omega) sp.defs
 have hm:=lens_len sp.models
 have c1:=zE2 (f:=zIZ) (fun x=>by simp only[zIZ];omega) sp.consts
 have c2:=zE2 (f:=fVar) (fun x=>by simp only[fVar];omega) sp.vars
 have c3:=zE2 (f:=fDef) (fun x=>by simp only[fDef];omega) sp.defs
 have c4:=zE2 (f:=zML) (fun x=>by simp only[zML];omega) sp.fair
 have c5:=zE2 (f:=zG5) (fun x=>by simp only[zG5];omega) sp.invs
 have c6:=zE2 (f:=fPrp) (fun x=>by simp only[fPrp];omega) sp.props
 have c7:=zE2 (f:=fGrp) (fun x=>by simp only[fGrp];omega) sp.groups
 have n1:=zGZ (·.name) sp.consts
 have n2:=zGZ (·.name) sp.vars
 have n3:=zGZ (·.name) sp.invs
 have n4:=zGZ (·.name) sp.props
 have m1:=zCX (f:=fun x:Const=>1+x.name.length) (g:=zIZ) (fun x=>by simp only[zIZ];omega) sp.consts
 have m2:=zCX (f:=fun x:Var=>1+x.name.length) (g:=fVar) (fun x=>by simp only[fVar];omega) sp.vars
 have m3:=zCX (f:=fun x:Named=>1+x.name.length) (g:=zG5) (fun x=>by simp only[zG5];omega) sp.invs
 have m4:=zCX (f:=fun x:Prp=>1+x.name.length) (g:=fPrp) (fun x=>by simp only[fPrp];omega) sp.props
 have g1:=lens_flatten sp.groups
 have g2:=zCX (f:=lens) (g:=fGrp) (fun x=>by simp only[fGrp];omega) sp.groups
 have g3:=lens_len sp.groups.flatten
 have l1:=szXs_len sp.assume
 have l2:=szXs_len sp.cons
 have l3:=szXs_len sp.acons
 have l4:=szXs_len sp.view
 simp only[zKO] at h hx
 have hc:∀x∈sp.consts,1+x.name.length+szV x.v≤1048576:=fun x hx=>by have:=zHC (f:=zIZ) hx;simp only[zIZ] at this;omega
 have hv:∀x∈sp.vars,1+x.name.length+szX x.typ≤1048576:=fun x hx=>by have:=zHC (f:=fVar) hx;simp only[fVar] at this;omega
 have hd:∀x∈sp.defs,1+x.name.length+x.params.length+szX x.body≤1048576:=fun x hx=>by have:=zHC (f:=fDef) hx;simp only[fDef] at this;omega
 have hf:∀x∈sp.fair,szX x.a+szX x.sub≤1048576:=fun x hx=>by have:=zHC (f:=zML) hx;simp only[zML] at this;omega
 have hi:∀x∈sp.invs,szX x.e≤1048576:=fun x hx=>by have:=zHC (f:=zG5) hx;simp only[zG5] at this;omega
 have he:∀x∈exprs sp,szX x≤3000000:=fun x hy=>by have:=szXs_mem hy;omega
 have hp:∀n,(params sp n).length≤1048576:=fun n=>by
  rw[params,List.getD_eq_getElem?_getD]
  cases hq:sp.defs[n.toNat]? with
  | none=>exact Nat.zero_le _
  | some d=>have:=hd d (List.mem_of_getElem? hq);simp only[Option.getD_some];omega
 refine⟨⟨?_,?_,?_,?_,fun n=>?_,fun x hx=>?_,fun x hx=>?_,?_,?_,?_,?_,?_,fun x hx=>?_,?_,?_,?_,?_,?_,?_,?_,?_,?_,fun e he'=>?_⟩,⟨?_,?_,?_,?_,?_,?_,?_,?_,?_,?_,?_,?_,?_,?_,?_,?_,?_,?_,fun x hx=>?_,fun n=>?_,fun x hx=>?_,fun x hx=>?_,fun x hx=>?_,?_,?_⟩,
  ⟨?_,?_,?_,?_,?_,?_,fun x hx=>?_,fun x hx=>?_,fun x hx=>?_,fun x hx=>?_⟩,⟨?_,?_,?_,?_,?_,?_,?_,?_,?_,fun x hx=>?_,fun x hx=>?_,fun x hx=>?_,fun x hx=>?_,fun x hx=>?_,?_,?_,?_,?_,?_⟩⟩
 all_goals try omega
 all_goals first
  | (have:=hp n;omega)
  | (have:=hd x hx;omega)
  | (have:=hc x hx;omega)
  | (have:=hv x hx;omega)
  | (have:=hf x hx;omega)
  | (have:=hi x hx;omega)
  | (have:=he x hx;omega)
  | (have:=he e (zU0 he');omega)
attribute [-go_sem] shutV noOsl
theorem c3 {sp:Pl.Spec}{e:X}{n:Int}(hb:zKO sp+szX e≤1048576){s:Sto}{Q:CR→Sto→Prop}(h:Q (.ret (.bool true)) s):C E1 3 [zAX sp,encX e,.int .i64 n] s Q:=by
 obtain⟨hz,hm,hl,ht⟩:=bounds (sp:=sp) (by omega)
 have hq:=zYY sp
 have hq2:=zOJ hz e n
 have h4:∀(s:Sto) (Q:CR→Sto→Prop),Q (.ret (.bool true)) s→C E1 4 [] s Q:=fun s Q hQ=>zZX rfl hQ
 have h5:=fun(s:Sto) (Q:CR→Sto→Prop) hQ=>c5 (e:=e) ht (by omega) (s:=s) (Q:=Q) hQ
 have h6:=fun(s:Sto) (Q:CR→Sto→Prop) hQ=>c6 hz (s:=s) (Q:=Q) hQ
 have h7:=fun(s:Sto) (Q:CR→Sto→Prop) hQ=>c7 hm hl (s:=s) (Q:=Q) hQ
 have h8:=fun(s:Sto) (Q:CR→Sto→Prop) hQ=>c8 (e:=e) (n:=n) hz (zOX hz) (by omega) (s:=s) (Q:=Q) hQ
 have h9:=fun(s:Sto) (Q:CR→Sto→Prop) hQ=>c9 (e:=e) (n:=n) hm hl (by omega) (s:=s) (Q:=Q) hQ
 rw[hq] at h6
 rw[hq2] at h8
 refine zAF (md:=⟨true,false,false,false⟩) (fn:=Tryz.f3) (n:=32) (rs:=[.tmp 6]) rfl rfl rfl rfl rfl rfl rfl (by simp only[go_sem, *];try rfl) (by rfl) (by simp only[go_sem]) ?_
 repeat' (first|refine h4 _ _ ?_|simp (disch:=first|assumption|omega) only[go_sem, *]|((first|apply gw_m|apply gw_q);focus (intro hs;(try simp only[nbs] at hs);simp (disch:=first|assumption|omega) only[go_sem, *];rfl))|((first|refine zAB ?_ ?_|refine zAA ?_ ?_|refine sp_C ?_ ?_|refine sp_G ?_ ?_)<;>(intro hs;try simp only[nbs] at hs)))
 refine h5 _ _ ?_
 intro b
 cases b with
 | false=>
  repeat' (first|simp (disch:=first|assumption|omega) only[go_sem, *]|((first|apply gw_m|apply gw_q);focus (intro hs;(try simp only[nbs] at hs);simp (disch:=first|assumption|omega) only[go_sem, *];rfl))|((first|refine zAB ?_ ?_|refine zAA ?_ ?_|refine sp_C ?_ ?_|refine sp_G ?_ ?_)<;>(intro hs;try simp only[nbs] at hs)))
  all_goals exact h
 | true=>
  repeat' (first|refine h6 _ _ ?_|refine h7 _ _ ?_|refine h8 _ _ ?_|refine h9 _ _ ?_|simp (disch:=first|assumption|omega) only[go_sem, *]|((first|apply gw_m|apply gw_q);focus (intro hs;(try simp only[nbs] at hs);simp (disch:=first|assumption|omega) only[go_sem, *];rfl))|((first|refine zAB ?_ ?_|refine zAA ?_ ?_|refine sp_C ?_ ?_|refine sp_G ?_ ?_)<;>(intro hs;try simp only[nbs] at hs)))
  all_goals exact h
end Go.Ab.X
end
