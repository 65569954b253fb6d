/- A part. -/
import Derived.Test.YtfjmlhpdcaeabaaGreatDoorK2
set_option linter.all false
noncomputable section
namespace Go.Ab.X
open Go Go.Ab Go.Proofs Pl
set_option maxRecDepth 100000
theorem c175:∀(N:Nat) {v:V} {s:Sto},szV v<N→szV v<4611686018427387904→∀{Q:CR→Sto→Prop},Q (.ret (.tuple [.int .i64 (cntV v),.int .i64 (depV v)])) s→C E1 175 [encV v] s Q:=by
 intro N
 induction N with
 | zero=>intro v s h;exact absurd h (Nat.not_lt_zero _)
 | succ N ih=>
  intro v s hN hl Q h
  have ev:=zD3 v
  have k1:∀x∈v.l,∀s Q,Q (.ret (.tuple [.int .i64 (cntV x),.int .i64 (depV x)])) s→C E1 175 [encV x] s Q:=fun x hx s Q h=>ih (by have:=szVs_mem hx;omega) (by have:=szVs_mem hx;omega) h
  have k2:∀x∈v.m,∀s Q,Q (.ret (.tuple [.int .i64 (cntV x),.int .i64 (depV x)])) s→C E1 175 [encV x] s Q:=fun x hx s Q h=>ih (by have:=szVs_mem hx;omega) (by have:=szVs_mem hx;omega) h
  have k4:=szVs_len v.l
  have k5:=szVs_len v.m
  have j1:=cntV_le v
  have j2:=depV_le v
  rw[zYT,zYP] at h;rw[zYT] at j1;rw[zYP] at j2
  clear ih
  have b1:∀i,(hi:i<v.l.length)→cntVs (v.l.take (i+1))=cntVs (v.l.take i)+cntV v.l[i]∧depVs (v.l.take (i+1))=max (depVs (v.l.take i)) (depV v.l[i])∧cntVs (v.l.take (i+1))≤cntVs v.l:=fun i hi=>by
   have e:=List.take_succ_eq_append_getElem hi
   refine⟨by rw[e,cntVs_append];simp[cntVs],by rw[e,depVs_append];simp[depVs],?_⟩
   have:=cntVs_append (v.l.take (i+1)) (v.l.drop (i+1));rw[List.take_append_drop] at this;omega
  have b2:∀i,(hi:i<v.m.length)→cntVs (v.m.take (i+1))=cntVs (v.m.take i)+cntV v.m[i]∧depVs (v.m.take (i+1))=max (depVs (v.m.take i)) (depV v.m[i])∧cntVs (v.m.take (i+1))≤cntVs v.m:=fun i hi=>by
   have e:=List.take_succ_eq_append_getElem hi
   refine⟨by rw[e,cntVs_append];simp[cntVs],by rw[e,depVs_append];simp[depVs],?_⟩
   have:=cntVs_append (v.m.take (i+1)) (v.m.drop (i+1));rw[List.take_append_drop] at this;omega
  refine zAF (md:=⟨true,false,false,false⟩) (fn:=Tryz.f175) (n:=59) (rs:=[.tmp 2,.tmp 3]) rfl rfl rfl rfl rfl rfl rfl (by simp only[go_sem, *];try rfl) (by rfl) (by simp only[go_sem]) ?_
  repeat' (first|simp (disch:=first|assumption|omega) only[go_sem, *]|((first|apply gw_m|apply gw_q);focus (intro hs;(try simp only[nbs] at hs);simp (disch:=first|assumption|omega) only[go_sem, *];rfl))|((first|refine zAB ?_ ?_|refine zAA ?_ ?_|refine sp_C ?_ ?_|refine sp_G ?_ ?_)<;>(intro hs;try simp only[nbs] at hs)))
  refine zAL (ι:=Nat) (fun i=>[(1,.ptr 0 0),(4,.int .i64 ((1+cntVs (v.l.take i):Nat):Int)),(5,.int .i64 (depVs (v.l.take i))),(6,.int .i64 i)]) (fun _=>S 1 (updB g0 0 (.cells 32 (zAZ v))) []) (fun i=>i≤v.l.length) (fun i=>v.l.length-i) ?_ 0 (Nat.zero_le _) ⟨rfl,rfl,rfl,rfl,trivial⟩ rfl
  rintro i b hi hrec
  rcases Nat.lt_or_ge i v.l.length with hlt|hge
  ·have hx:v.l[i]?=some v.l[i]:=List.getElem?_eq_getElem hlt
   have hmem:v.l[i]∈v.l:=List.getElem_mem hlt
   have hcnd:decide ((i:Int)<v.l.length)=true:=by simpa using hlt
   obtain⟨c1,c2,c3⟩:=b1 i hlt
   have w1:(-9223372036854775808:Int)≤((1+cntVs (v.l.take i):Nat):Int)+(cntV v.l[i]:Int)∧((1+cntVs (v.l.take i):Nat):Int)+(cntV v.l[i]:Int)<9223372036854775808:=by omega
   repeat' (first|refine k1 _ hmem _ _ ?_|simp (disch:=first|assumption|omega) only[go_sem, *]|((first|apply gw_m|apply gw_q);focus (intro hs;(try simp only[nbs] at hs);simp (disch:=first|assumption|omega) only[go_sem, *];rfl))|((first|refine zAB ?_ ?_|refine zAA ?_ ?_|refine sp_C ?_ ?_|refine sp_G ?_ ?_)<;>(intro hs;try simp only[nbs] at hs)))
   exact hrec (i+1) _ _ _ hlt (by omega) ⟨rfl,congrArg (fun z=>some (AV.int .i64 z)) (by omega),congrArg (fun z=>some (AV.int .i64 z)) (by omega),rfl,trivial⟩ rfl
  ·have hcnd:decide ((i:Int)<v.l.length)=false:=by simpa using hge
   rw[List.take_of_length_le hge]
   clear hrec k1 b1
   repeat' (first|simp (disch:=first|assumption|omega) only[go_sem, *]|((first|apply gw_m|apply gw_q);focus (intro hs;(try simp only[nbs] at hs);simp (disch:=first|assumption|omega) only[go_sem, *];rfl))|((first|refine zAB ?_ ?_|refine zAA ?_ ?_|refine sp_C ?_ ?_|refine sp_G ?_ ?_)<;>(intro hs;try simp only[nbs] at hs)))
   clear hcnd
   refine zAL (ι:=Nat) (fun i=>[(1,.ptr 0 0),(4,.int .i64 ((1+cntVs v.l+cntVs (v.m.take i):Nat):Int)),(5,.int .i64 ((max (depVs v.l) (depVs (v.m.take i)):Nat):Int)),(9,.int .i64 i)]) (fun _=>S 1 (updB g0 0 (.cells 32 (zAZ v))) []) (fun i=>i≤v.m.length) (fun i=>v.m.length-i) ?_ 0 (Nat.zero_le _) ⟨rfl,rfl,congrArg (fun z=>some (AV.int .i64 z)) (by simp[depVs]),rfl,trivial⟩ rfl
   clear hge hi i
   rintro i b hi hrec
   rcases Nat.lt_or_ge i v.m.length with hlt|hge
   ·have hx:v.m[i]?=some v.m[i]:=List.getElem?_eq_getElem hlt
    have hmem:v.m[i]∈v.m:=List.getElem_mem hlt
    have hcnd:decide ((i:Int)<v.m.length)=true:=by simpa using hlt
    obtain⟨c1,c2,c3⟩:=b2 i hlt
    have w1:(-9223372036854775808:Int)≤((1+cntVs v.l+cntVs (v.m.take i):Nat):Int)+(cntV v.m[i]:Int)∧((1+cntVs v.l+cntVs (v.m.take i):Nat):Int)+(cntV v.m[i]:Int)<9223372036854775808:=by omega
    repeat' (first|refine k2 _ hmem _ _ ?_|simp (disch:=first|assumption|omega) only[go_sem, *]|((first|apply gw_m|apply gw_q);focus (intro hs;(try simp only[nbs] at hs);simp (disch:=first|assumption|omega) only[go_sem, *];rfl))|((first|refine zAB ?_ ?_|refine zAA ?_ ?_|refine sp_C ?_ ?_|refine sp_G ?_ ?_)<;>(intro hs;try simp only[nbs] at hs)))
    exact hrec (i+1) _ _ _ hlt (by omega) ⟨rfl,congrArg (fun z=>some (AV.int .i64 z)) (by omega),congrArg (fun z=>some (AV.int .i64 z)) (by omega),rfl,trivial⟩ rfl
   ·have hcnd:decide ((i:Int)<v.m.length)=false:=by simpa using hge
    rw[List.take_of_length_le hge]
    have w1:(-9223372036854775808:Int)≤((max (depVs v.l) (depVs v.m):Nat):Int)+1∧((max (depVs v.l) (depVs v.m):Nat):Int)+1<9223372036854775808:=by omega
    clear hrec
    repeat' (first|simp (disch:=first|assumption|omega) only[go_sem, *]|((first|apply gw_m|apply gw_q);focus (intro hs;(try simp only[nbs] at hs);simp (disch:=first|assumption|omega) only[go_sem, *];rfl))|((first|refine zAB ?_ ?_|refine zAA ?_ ?_|refine sp_C ?_ ?_|refine sp_G ?_ ?_)<;>(intro hs;try simp only[nbs] at hs)))
    exact h
theorem c85 {v:V}{s:Sto}(hl:szV v<4611686018427387904){Q:CR→Sto→Prop}(h:Q (.ret (.bool (zCA v))) s):C E1 85 [encV v] s Q:=by
 refine zAF (md:=⟨true,false,false,false⟩) (fn:=Tryz.f85) (n:=20) (rs:=[.tmp 2]) rfl rfl rfl rfl rfl rfl rfl (by simp only[go_sem, *];try rfl) (by rfl) (by simp only[go_sem]) ?_
 repeat' (first|refine c175 _ (Nat.lt_succ_self _) hl ?_|refine c176 _ (Nat.lt_succ_self _) hl ?_|simp (disch:=first|assumption|omega) only[go_sem, *]|((first|apply gw_m|apply gw_q);focus (intro hs;(try simp only[nbs] at hs);simp (disch:=first|assumption|omega) only[go_sem, *];rfl))|((first|refine zAB ?_ ?_|refine zAA ?_ ?_|refine sp_C ?_ ?_|refine sp_G ?_ ?_)<;>(intro hs;try simp only[nbs] at hs)))
 all_goals exact zA1 h (by(try clear hrec);(try clear h);simp only[zCA];grind)
theorem c314:∀(N:Nat) {v:V} {ms:List Str} {s:Sto},szV v<N→szV v<4611686018427387904→ms.length<4611686018427387904→∀{Q:CR→Sto→Prop},Q (.ret (.bool (known ms v))) s→C E1 314 [encV v,.sl 0 (ms.map AV.str) .shut] s Q:=by
 intro N
 induction N with
 | zero=>intro v ms s h;exact absurd h (Nat.not_lt_zero _)
 | succ N ih=>
  intro v ms s hN hl hms Q h
  have ev:=zD3 v
  have k1:∀x∈v.l,∀s Q,Q (.ret (.bool (known ms x))) s→C E1 314 [encV x,.sl 0 (ms.map AV.str) .shut] s Q:=fun x hx s Q h=>ih (by have:=szVs_mem hx;omega) (by have:=szVs_mem hx;omega) hms h
  have k2:∀x∈v.m,∀s Q,Q (.ret (.bool (known ms x))) s→C E1 314 [encV x,.sl 0 (ms.map AV.str) .shut] s Q:=fun x hx s Q h=>ih (by have:=szVs_mem hx;omega) (by have:=szVs_mem hx;omega) hms h
  have k4:=szVs_len v.l
  have k5:=szVs_len v.m
  have hkn:known ms v=((decide (v.kind≠4)||decide (v.s∈ms))&&v.l.all (known ms)&&v.m.all (known ms)):=by
   have hL:∀l:List V,zDA ms l=l.all (known ms):=fun l=>by induction l with
    | nil=>rfl
    | cons a r ih=>simp only[zDA,List.all_cons,ih]
   cases v;simp only[known,hL];rfl
  rw[hkn] at h
  clear ih hkn
  refine zAF (md:=⟨true,false,false,false⟩) (fn:=Tryz.f314) (n:=47) (rs:=[.tmp 4]) rfl rfl rfl rfl rfl rfl rfl (by simp only[go_sem, *];try rfl) (by rfl) (by simp only[go_sem]) ?_
  repeat' (first|refine c313 hms ?_|simp (disch:=first|assumption|omega) only[go_sem, *]|((first|apply gw_m|apply gw_q);focus (intro hs;(try simp only[nbs] at hs);simp (disch:=first|assumption|omega) only[go_sem, *];rfl))|((first|refine zAB ?_ ?_|refine zAA ?_ ?_|refine sp_C ?_ ?_|refine sp_G ?_ ?_)<;>(intro hs;try simp only[nbs] at hs)))
  ·exact zA1 h (by(try clear hrec);(try clear h);grind)
  all_goals
   have hh:(decide (v.kind≠4)||decide (v.s∈ms))=true:=by clear h;grind
   rw[hh] at h
   clear hs hh
   refine zAL (ι:=Nat) (fun i=>[(1,.sl 0 (ms.map AV.str) .shut),(2,.ptr 0 0),(5,.int .i64 i)]) (fun _=>S 1 (updB g0 0 (.cells 32 (zAZ v))) []) (fun i=>i≤(v.l).length∧v.l.all (known ms)=(v.l.drop i).all (known ms)) (fun i=>(v.l).length-i) ?_ 0 ⟨Nat.zero_le _,by first|rfl|trivial|simp⟩ ⟨rfl,rfl,rfl,trivial⟩ rfl;rintro i b ⟨hi,he⟩ hrec;rcases Nat.lt_or_ge i (v.l).length with hlt|hge
   ·obtain⟨hx,hmem,hcnd⟩:=zFR hlt;rw[List.drop_eq_getElem_cons hlt] at he
    rw[List.all_cons] at he
    repeat' (first|refine k1 _ hmem _ _ ?_|simp (disch:=first|assumption|omega) only[go_sem, *]|((first|apply gw_m|apply gw_q);focus (intro hs;(try simp only[nbs] at hs);simp (disch:=first|assumption|omega) only[go_sem, *];rfl))|((first|refine zAB ?_ ?_|refine zAA ?_ ?_|refine sp_C ?_ ?_|refine sp_G ?_ ?_)<;>(intro hs;try simp only[nbs] at hs)))
    ·exact zA1 h (by(try clear hrec);(try clear h);rw[he,hs];simp)
    ·exact hrec (i+1) _ _ _ ⟨hlt,by rw[he,hs];rfl⟩ (by omega) ⟨rfl,rfl,rfl,trivial⟩ rfl
   ·have hcnd:=zDB hge;rw[List.drop_eq_nil_of_le hge] at he
    rw[he] at h
    clear he hrec hi k1
    repeat' (first|simp (disch:=first|assumption|omega) only[go_sem, *]|((first|apply gw_m|apply gw_q);focus (intro hs;(try simp only[nbs] at hs);simp (disch:=first|assumption|omega) only[go_sem, *];rfl))|((first|refine zAB ?_ ?_|refine zAA ?_ ?_|refine sp_C ?_ ?_|refine sp_G ?_ ?_)<;>(intro hs;try simp only[nbs] at hs)))
    clear hcnd hge
    refine zAL (ι:=Nat) (fun i=>[(1,.sl 0 (ms.map AV.str) .shut),(2,.ptr 0 0),(6,.int .i64 i)]) (fun _=>S 1 (updB g0 0 (.cells 32 (zAZ v))) []) (fun i=>i≤(v.m).length∧v.m.all (known ms)=(v.m.drop i).all (known ms)) (fun i=>(v.m).length-i) ?_ 0 ⟨Nat.zero_le _,by first|rfl|trivial|simp⟩ ⟨rfl,rfl,rfl,trivial⟩ rfl;rintro i b ⟨hi,he⟩ hrec;rcases Nat.lt_or_ge i (v.m).length with hlt|hge
    ·obtain⟨hx,hmem,hcnd⟩:=zFR hlt;rw[List.drop_eq_getElem_cons hlt] at he
     rw[List.all_cons] at he
     repeat' (first|refine k2 _ hmem _ _ ?_|simp (disch:=first|assumption|omega) only[go_sem, *]|((first|apply gw_m|apply gw_q);focus (intro hs;(try simp only[nbs] at hs);simp (disch:=first|assumption|omega) only[go_sem, *];rfl))|((first|refine zAB ?_ ?_|refine zAA ?_ ?_|refine sp_C ?_ ?_|refine sp_G ?_ ?_)<;>(intro hs;try simp only[nbs] at hs)))
     ·exact zA1 h (by(try clear hrec);(try clear h);rw[he,hs];simp)
     ·exact hrec (i+1) _ _ _ ⟨hlt,by rw[he,hs];rfl⟩ (by omega) ⟨rfl,rfl,rfl,trivial⟩ rfl
    ·have hcnd:=zDB hge;rw[List.drop_eq_nil_of_le hge] at he
     repeat' (first|simp (disch:=first|assumption|omega) only[go_sem, *]|((first|apply gw_m|apply gw_q);focus (intro hs;(try simp only[nbs] at hs);simp (disch:=first|assumption|omega) only[go_sem, *];rfl))|((first|refine zAB ?_ ?_|refine zAA ?_ ?_|refine sp_C ?_ ?_|refine sp_G ?_ ?_)<;>(intro hs;try simp only[nbs] at hs)))
     exact zA1 h (by(try clear hrec);(try clear h);rw[he];simp)
theorem zLD (l:List X):litsL l=l.all lits:=by induction l with
 | nil=>rfl
 | cons a r ih=>simp only[litsL,List.all_cons,ih]
theorem c83:∀(N:Nat) {e:X} {s:Sto},szX e<N→szX e<4611686018427387904→∀{Q:CR→Sto→Prop},Q (.ret (.bool (lits e))) s→C E1 83 [encX e] s Q:=by
 intro N
 induction N with
 | zero=>intro e s h;exact absurd h (Nat.not_lt_zero _)
 | succ N ih=>
  intro e s hN hl Q h
  have ev:=zIE e
  have k1:∀x∈e.l,∀s Q,Q (.ret (.bool (lits x))) s→C E1 83 [encX x] s Q:=fun x hx s Q h=>ih (by have:=szXs_mem hx;omega) (by have:=szXs_mem hx;omega) h
  have k4:=szXs_len e.l
  have k5:szV e.v<4611686018427387904:=by omega
  have hkn:lits e=((decide (e.kind≠1)||zCA e.v)&&e.l.all lits):=by cases e;simp only[lits,zLD];rfl
  rw[hkn] at h
  clear ih hkn
  refine zAF (md:=⟨true,false,false,false⟩) (fn:=Tryz.f83) (n:=27) (rs:=[.tmp 2]) rfl rfl rfl rfl rfl rfl rfl (by simp only[go_sem, *];try rfl) (by rfl) (by simp only[go_sem]) ?_
  repeat' (first|refine c85 k5 ?_|simp (disch:=first|assumption|omega) only[go_sem, *]|((first|apply gw_m|apply gw_q);focus (intro hs;(try simp only[nbs] at hs);simp (disch:=first|assumption|omega) only[go_sem, *];rfl))|((first|refine zAB ?_ ?_|refine zAA ?_ ?_|refine sp_C ?_ ?_|refine sp_G ?_ ?_)<;>(intro hs;try simp only[nbs] at hs)))
  ·exact zA1 h (by(try clear hrec);(try clear h);grind)
  all_goals
   have hh:(decide (e.kind≠1)||zCA e.v)=true:=by clear h;grind
   rw[hh] at h
   clear hs hh
   refine zAL (ι:=Nat) (fun i=>[(1,.ptr 0 0),(3,.int .i64 i)]) (fun _=>S 1 (updB g0 0 (.cells 34 (zAO e))) []) (fun i=>i≤(e.l).length∧e.l.all lits=(e.l.drop i).all lits) (fun i=>(e.l).length-i) ?_ 0 ⟨Nat.zero_le _,by first|rfl|trivial|simp⟩ ⟨rfl,rfl,trivial⟩ rfl;rintro i b ⟨hi,he⟩ hrec;rcases Nat.lt_or_ge i (e.l).length with hlt|hge
   ·obtain⟨hx,hmem,hcnd⟩:=zFR hlt;rw[List.drop_eq_getElem_cons hlt] at he
    rw[List.all_cons] at he
    repeat' (first|refine k1 _ hmem _ _ ?_|simp (disch:=first|assumption|omega) only[go_sem, *]|((first|apply gw_m|apply gw_q);focus (intro hs;(try simp only[nbs] at hs);simp (disch:=first|assumption|omega) only[go_sem, *];rfl))|((first|refine zAB ?_ ?_|refine zAA ?_ ?_|refine sp_C ?_ ?_|refine sp_G ?_ ?_)<;>(intro hs;try simp only[nbs] at hs)))
    ·exact zA1 h (by(try clear hrec);(try clear h);rw[he,hs];simp)
    ·exact hrec (i+1) _ _ _ ⟨hlt,by rw[he,hs];rfl⟩ (by omega) ⟨rfl,rfl,trivial⟩ rfl
   ·have hcnd:=zDB hge;rw[List.drop_eq_nil_of_le hge] at he
    repeat' (first|simp (disch:=first|assumption|omega) only[go_sem, *]|((first|apply gw_m|apply gw_q);focus (intro hs;(try simp only[nbs] at hs);simp (disch:=first|assumption|omega) only[go_sem, *];rfl))|((first|refine zAB ?_ ?_|refine zAA ?_ ?_|refine sp_C ?_ ?_|refine sp_G ?_ ?_)<;>(intro hs;try simp only[nbs] at hs)))
    exact zA1 h (by(try clear hrec);(try clear h);rw[he];simp)
theorem c84 {l:List X}{s:Sto}(hl:szXs l<4611686018427387904){Q:CR→Sto→Prop}(h:Q (.ret (.bool (l.all lits))) s):C E1 84 [.sl 0 (l.map encX) .shut] s Q:=by
 have k4:=szXs_len l
 have k1:∀x∈l,∀s Q,Q (.ret (.bool (lits x))) s→C E1 83 [encX x] s Q:=fun x hx s Q h=>c83 _ (Nat.lt_succ_self _) (by have:=szXs_mem hx;omega) h
 refine zAF (md:=⟨true,false,false,false⟩) (fn:=Tryz.f84) (n:=16) (rs:=[.tmp 2]) rfl rfl rfl rfl rfl rfl rfl (by simp only[go_sem, *];try rfl) (by rfl) (by simp only[go_sem]) ?_
 repeat' (first|simp (disch:=first|assumption|omega) only[go_sem, *]|((first|apply gw_m|apply gw_q);focus (intro hs;(try simp only[nbs] at hs);simp (disch:=first|assumption|omega) only[go_sem, *];rfl))|((first|refine zAB ?_ ?_|refine zAA ?_ ?_|refine sp_C ?_ ?_|refine sp_G ?_ ?_)<;>(intro hs;try simp only[nbs] at hs)))
 refine zAL (ι:=Nat) (fun i=>[(0,.sl 0 (l.map encX) .shut),(3,.int .i64 i)]) (fun _=>S 0 g0 []) (fun i=>i≤(l).length∧l.all lits=(l.drop i).all lits) (fun i=>(l).length-i) ?_ 0 ⟨Nat.zero_le _,by first|rfl|trivial|simp⟩ ⟨rfl,rfl,trivial⟩ rfl;rintro i b ⟨hi,he⟩ hrec;rcases Nat.lt_or_ge i (l).length with hlt|hge
 ·obtain⟨hx,hmem,hcnd⟩:=zFR hlt;rw[List.drop_eq_getElem_cons hlt] at he
  rw[List.all_cons] at he
  repeat' (first|refine k1 _ hmem _ _ ?_|simp (disch:=first|assumption|omega) only[go_sem, *]|((first|apply gw_m|apply gw_q);focus (intro hs;(try simp only[nbs] at hs);simp (disch:=first|assumption|omega) only[go_sem, *];rfl))|((first|refine zAB ?_ ?_|refine zAA ?_ ?_|refine sp_C ?_ ?_|refine sp_G ?_ ?_)<;>(intro hs;try simp only[nbs] at hs)))
  ·exact zA1 h (by(try clear hrec);(try clear h);rw[he,hs];simp)
  ·exact hrec (i+1) _ _ _ ⟨hlt,by rw[he,hs];rfl⟩ (by omega) ⟨rfl,rfl,trivial⟩ rfl
 ·have hcnd:=zDB hge;rw[List.drop_eq_nil_of_le hge] at he
  repeat' (first|simp (disch:=first|assumption|omega) only[go_sem, *]|((first|apply gw_m|apply gw_q);focus (intro hs;(try simp only[nbs] at hs);simp (disch:=first|assumption|omega) only[go_sem, *];rfl))|((first|refine zAB ?_ ?_|refine zAA ?_ ?_|refine sp_C ?_ ?_|refine sp_G ?_ ?_)<;>(intro hs;try simp only[nbs] at hs)))
  exact zA1 h (by(try clear hrec);(try clear h);rw[he];simp)
theorem c318 {e:X}{i:Nat}{s:Sto}{Q:CR→Sto→Prop}(h:Q (.ret (.int .i64 (sees e.kind e.n i))) s):C E1 318 [encX e,.int .i64 i] s Q:=by
 refine zAF (md:=⟨true,false,false,false⟩) (fn:=Tryz.f318) (n:=33) (rs:=[.tmp 4]) rfl rfl rfl rfl rfl rfl rfl (by simp only[go_sem, *];try rfl) (by rfl) (by simp only[go_sem]) ?_
 repeat' (first|simp (disch:=first|assumption|omega) only[go_sem, *]|((first|apply gw_m|apply gw_q);focus (intro hs;(try simp only[nbs] at hs);simp (disch:=first|assumption|omega) only[go_sem, *];rfl))|((first|refine zAB ?_ ?_|refine zAA ?_ ?_|refine sp_C ?_ ?_|refine sp_G ?_ ?_)<;>(intro hs;try simp only[nbs] at hs)))
 all_goals exact zFH h (by(try clear hrec);(try clear h);simp only[sees];grind)
theorem c358 {e:X}{s:Sto}(hl:szX e<1073741824){Q:CR→Sto→Prop}(h:Q (.ret (.bool (zK2 e))) s):C E1 358 [encX e] s Q:=by
 have ev:=zIE e
 have hv:szV e.v<4611686018427387904:=by omega
 refine zAF (md:=⟨true,false,false,false⟩) (fn:=Tryz.f358) (n:=67) (rs:=[.tmp 2]) rfl rfl rfl rfl rfl rfl rfl (by simp only[go_sem, *];try rfl) (by rfl) (by simp only[go_sem]) ?_
 repeat' (first|refine c383 hv ?_|simp (disch:=first|assumption|omega) only[go_sem, *]|((first|apply gw_m|apply gw_q);focus (intro hs;(try simp only[nbs] at hs);simp (disch:=first|assumption|omega) only[go_sem, *];rfl))|((first|refine zAB ?_ ?_|refine zAA ?_ ?_|refine sp_C ?_ ?_|refine sp_G ?_ ?_)<;>(intro hs;try simp only[nbs] at hs)))
 all_goals exact zA1 h (by(try clear hrec);(try clear h);simp only[zK2];grind)
theorem c361 {sp:Pl.Spec}{d n:Int}{sc:List Int}{s:Sto}(hd:d<sp.defs.length)(hl:sp.defs.length<1073741824){Q:CR→Sto→Prop}(h:Q (.ret (.bool (callable sp d n))) s):C E1 361 [zFY sp d sc,.int .i64 n] s Q:=by
 by_cases hn:0≤n∧n<sp.defs.length
 ·obtain⟨n0,hn1⟩:=hn
  have hx:sp.defs[n.toNat]?=some (sp.defs.getD n.toNat default):=by rw[List.getD_eq_getElem?_getD,List.getElem?_eq_getElem (by omega)];rfl
  by_cases hd0:d<0
  ·refine zAF (md:=⟨true,false,false,false⟩) (fn:=Tryz.f361) (n:=41) (rs:=[.tmp 4]) rfl rfl rfl rfl rfl rfl rfl (by simp only[go_sem, *];try rfl) (by rfl) (by simp only[go_sem]) ?_
   repeat' (first|simp (disch:=first|assumption|omega) only[go_sem, *]|((first|apply gw_m|apply gw_q);focus (intro hs;(try simp only[nbs] at hs);simp (disch:=first|assumption|omega) only[go_sem, *];rfl))|((first|refine zAB ?_ ?_|refine zAA ?_ ?_|refine sp_C ?_ ?_|refine sp_G ?_ ?_)<;>(intro hs;try simp only[nbs] at hs)))
   ·exfalso;clear h;grind
   ·exact zA1 h (by(try clear hrec);(try clear h);simp only[callable];grind)
  ·have hy:sp.defs[d.toNat]?=some (sp.defs.getD d.toNat default):=by rw[List.getD_eq_getElem?_getD,List.getElem?_eq_getElem (by omega)];rfl
   have hd1:0≤d:=by omega
   refine zAF (md:=⟨true,false,false,false⟩) (fn:=Tryz.f361) (n:=41) (rs:=[.tmp 4]) rfl rfl rfl rfl rfl rfl rfl (by simp only[go_sem, *];try rfl) (by rfl) (by simp only[go_sem]) ?_
   repeat' (first|simp (disch:=first|assumption|omega) only[go_sem, *]|((first|apply gw_m|apply gw_q);focus (intro hs;(try simp only[nbs] at hs);simp (disch:=first|assumption|omega) only[go_sem, *];rfl))|((first|refine zAB ?_ ?_|refine zAA ?_ ?_|refine sp_C ?_ ?_|refine sp_G ?_ ?_)<;>(intro hs;try simp only[nbs] at hs)))
   all_goals first|(exfalso;clear h;grind)|exact zA1 h (by(try clear hrec);(try clear h);simp only[callable];grind)
 ·refine zAF (md:=⟨true,false,false,false⟩) (fn:=Tryz.f361) (n:=41) (rs:=[.tmp 4]) rfl rfl rfl rfl rfl rfl rfl (by simp only[go_sem, *];try rfl) (by rfl) (by simp only[go_sem]) ?_
  repeat' (first|simp (disch:=first|assumption|omega) only[go_sem, *]|((first|apply gw_m|apply gw_q);focus (intro hs;(try simp only[nbs] at hs);simp (disch:=first|assumption|omega) only[go_sem, *];rfl))|((first|refine zAB ?_ ?_|refine zAA ?_ ?_|refine sp_C ?_ ?_|refine sp_G ?_ ?_)<;>(intro hs;try simp only[nbs] at hs)))
  all_goals first|(exfalso;clear h;omega)|exact zA1 h (by(try clear hrec);(try clear h);simp only[callable];grind)
theorem c319 {sp:Pl.Spec}{d:Int}{sc:List Int}{e:X}{i:Nat}{s:Sto}(hk:e.kind=6→0≤e.n∧e.n<sp.defs.length∧i<(params sp e.n).length){Q:CR→Sto→Prop}(h:Q (.ret (.int .i64 (arity sp e.kind e.n i))) s):C E1 319 [zFY sp d sc,encX e,.int .i64 i] s Q:=by
 by_cases h6:e.kind=6
 ·obtain⟨n0,n1,n2⟩:=hk h6
  have hx:sp.defs[e.n.toNat]?=some (sp.defs.getD e.n.toNat default):=by rw[List.getD_eq_getElem?_getD,List.getElem?_eq_getElem (by omega)];rfl
  have hy:(sp.defs.getD e.n.toNat default).params[i]?=some ((params sp e.n).getD i 0):=by show(params sp e.n)[i]?=_;rw[List.getD_eq_getElem?_getD,List.getElem?_eq_getElem n2];rfl
  have hc:decide (e.kind=6)=true:=by simp[h6]
  clear hk
  refine zAF (md:=⟨true,false,false,false⟩) (fn:=Tryz.f319) (n:=21) (rs:=[.tmp 6]) rfl rfl rfl rfl rfl rfl rfl (by simp only[go_sem, *];try rfl) (by rfl) (by simp only[go_sem]) ?_
  repeat' (first|simp (disch:=first|assumption|omega) only[go_sem, *]|((first|apply gw_m|apply gw_q);focus (intro hs;(try simp only[nbs] at hs);simp (disch:=first|assumption|omega) only[go_sem, *];rfl))|((first|refine zAB ?_ ?_|refine zAA ?_ ?_|refine sp_C ?_ ?_|refine sp_G ?_ ?_)<;>(intro hs;try simp only[nbs] at hs)))
  exact zFH h (by(try clear hrec);(try clear h);simp only[arity,h6];grind)
 ·clear hk
  refine zAF (md:=⟨true,false,false,false⟩) (fn:=Tryz.f319) (n:=21) (rs:=[.tmp 6]) rfl rfl rfl rfl rfl rfl rfl (by simp only[go_sem, *];try rfl) (by rfl) (by simp only[go_sem]) ?_
  repeat' (first|simp (disch:=first|assumption|omega) only[go_sem, *]|((first|apply gw_m|apply gw_q);focus (intro hs;(try simp only[nbs] at hs);simp (disch:=first|assumption|omega) only[go_sem, *];rfl))|((first|refine zAB ?_ ?_|refine zAA ?_ ?_|refine sp_C ?_ ?_|refine sp_G ?_ ?_)<;>(intro hs;try simp only[nbs] at hs)))
  exact zFH h (by(try clear hrec);(try clear h);simp only[arity];grind)
theorem c260:∀(N:Nat) {e:X} {s:Sto},szX e<N→szX e<1073741824→∀{Q:CR→Sto→Prop},Q (.ret (.tuple [.int .i64 (cntX e),.int .i64 (depX e)])) s→C E1 260 [encX e] s Q:=by
 intro N
 induction N with
 | zero=>intro e s h;exact absurd h (Nat.not_lt_zero _)
 | succ N ih=>
  intro e s hN hl Q h
  have ev:=zIE e
  have k1:∀x∈e.l,∀s Q,Q (.ret (.tuple [.int .i64 (cntX x),.int .i64 (depX x)])) s→C E1 260 [encX x] s Q:=fun x hx s Q h=>ih (by have:=szXs_mem hx;omega) (by have:=szXs_mem hx;omega) h
  have k4:=szXs_len e.l
  have j1:=cntX_le e
  have j2:=depX_le e
  rw[zYS,zYO] at h;rw[zYS] at j1;rw[zYO] at j2
  clear ih
  have b1:∀i,(hi:i<e.l.length)→cntXs (e.l.take (i+1))=cntXs (e.l.take i)+cntX e.l[i]∧depXs (e.l.take (i+1))=max (depXs (e.l.take i)) (depX e.l[i])∧cntXs (e.l.take (i+1))≤cntXs e.l:=fun i hi=>by
   have e1:=List.take_succ_eq_append_getElem hi
   refine⟨by rw[e1,cntXs_append];simp[cntXs],by rw[e1,depXs_append];simp[depXs],?_⟩
   have:=cntXs_append (e.l.take (i+1)) (e.l.drop (i+1));rw[List.take_append_drop] at this;omega
  refine zAF (md:=⟨true,false,false,false⟩) (fn:=Tryz.f260) (n:=35) (rs:=[.tmp 2,.tmp 3]) rfl rfl rfl rfl rfl rfl rfl (by simp only[go_sem, *];try rfl) (by rfl) (by simp only[go_sem]) ?_
  repeat' (first|simp (disch:=first|assumption|omega) only[go_sem, *]|((first|apply gw_m|apply gw_q);focus (intro hs;(try simp only[nbs] at hs);simp (disch:=first|assumption|omega) only[go_sem, *];rfl))|((first|refine zAB ?_ ?_|refine zAA ?_ ?_|refine sp_C ?_ ?_|refine sp_G ?_ ?_)<;>(intro hs;try simp only[nbs] at hs)))
  refine zAL (ι:=Nat) (fun i=>[(1,.ptr 0 0),(4,.int .i64 ((1+cntXs (e.l.take i):Nat):Int)),(5,.int .i64 (depXs (e.l.take i))),(6,.int .i64 i)]) (fun _=>S 1 (updB g0 0 (.cells 34 (zAO e))) []) (fun i=>i≤e.l.length) (fun i=>e.l.length-i) ?_ 0 (Nat.zero_le _) ⟨rfl,rfl,rfl,rfl,trivial⟩ rfl
  rintro i b hi hrec
  rcases Nat.lt_or_ge i e.l.length with hlt|hge
  ·have hx:e.l[i]?=some e.l[i]:=List.getElem?_eq_getElem hlt
   have hmem:e.l[i]∈e.l:=List.getElem_mem hlt
   have hcnd:decide ((i:Int)<e.l.length)=true:=by simpa using hlt
   obtain⟨c1,c2,c3⟩:=b1 i hlt
   have w1:(-9223372036854775808:Int)≤((1+cntXs (e.l.take i):Nat):Int)+(cntX e.l[i]:Int)∧((1+cntXs (e.l.take i):Nat):Int)+(cntX e.l[i]:Int)<9223372036854775808:=by omega
   repeat' (first|refine k1 _ hmem _ _ ?_|simp (disch:=first|assumption|omega) only[go_sem, *]|((first|apply gw_m|apply gw_q);focus (intro hs;(try simp only[nbs] at hs);simp (disch:=first|assumption|omega) only[go_sem, *];rfl))|((first|refine zAB ?_ ?_|refine zAA ?_ ?_|refine sp_C ?_ ?_|refine sp_G ?_ ?_)<;>(intro hs;try simp only[nbs] at hs)))
   ·exact hrec (i+1) _ _ _ hlt (by omega) ⟨rfl,congrArg (fun z=>some (AV.int .i64 z)) (by omega),congrArg (fun z=>some (AV.int .i64 z)) (by omega),rfl,trivial⟩ rfl
   ·exact hrec (i+1) _ _ _ hlt (by omega) ⟨rfl,congrArg (fun z=>some (AV.int .i64 z)) (by omega),congrArg (fun z=>some (AV.int .i64 z)) (by omega),rfl,trivial⟩ rfl
  ·have hcnd:decide ((i:Int)<e.l.length)=false:=by simpa using hge
   rw[List.take_of_length_le hge]
   have w1:(-9223372036854775808:Int)≤((depXs e.l:Nat):Int)+1∧((depXs e.l:Nat):Int)+1<9223372036854775808:=by omega
   clear hrec
   repeat' (first|simp (disch:=first|assumption|omega) only[go_sem, *]|((first|apply gw_m|apply gw_q);focus (intro hs;(try simp only[nbs] at hs);simp (disch:=first|assumption|omega) only[go_sem, *];rfl))|((first|refine zAB ?_ ?_|refine zAA ?_ ?_|refine sp_C ?_ ?_|refine sp_G ?_ ?_)<;>(intro hs;try simp only[nbs] at hs)))
   exact h
theorem c254 {a:Nat}{e:X}{s:Sto}(ha:a<1073741824)(hl:szX e<1073741824){Q:CR→Sto→Prop}(h:Q (.ret (.tuple [.int .i64 ((a+cntX e:Nat):Int),.bool (decide ((depX e:Int)≤100))])) s):C E1 254 [.int .i64 a,encX e] s Q:=by
 have j1:=cntX_le e
 refine zAF (md:=⟨true,false,false,false⟩) (fn:=Tryz.f254) (n:=18) (rs:=[.tmp 4,.tmp 5]) rfl rfl rfl rfl rfl rfl rfl (by simp only[go_sem, *];try rfl) (by rfl) (by simp only[go_sem]) ?_
 repeat' (first|refine c260 _ (Nat.lt_succ_self _) hl ?_|simp (disch:=first|assumption|omega) only[go_sem, *]|((first|apply gw_m|apply gw_q);focus (intro hs;(try simp only[nbs] at hs);simp (disch:=first|assumption|omega) only[go_sem, *];rfl))|((first|refine zAB ?_ ?_|refine zAA ?_ ?_|refine sp_C ?_ ?_|refine sp_G ?_ ?_)<;>(intro hs;try simp only[nbs] at hs)))
 exact h
theorem c250 {l:List Str}{s:Sto}(hl:lens l<1073741824){Q:CR→Sto→Prop}(h:Q (.ret (.bool (Pl.distinct [] l))) s):C E1 250 [.sl 0 (l.map AV.str) .shut] s Q:=by
 have h1:=lens_len l
 have hsz:∀x∈l,x.length<4611686018427387904:=fun x hx=>by have:=lens_mem hx;omega
 refine zAF (md:=⟨true,false,false,false⟩) (fn:=Tryz.f250) (n:=26) (rs:=[.tmp 2]) rfl rfl rfl rfl rfl rfl rfl (by simp only[go_sem, *];try rfl) (by rfl) (by simp only[go_sem]) ?_
 repeat' (first|simp (disch:=first|assumption|omega) only[go_sem, *]|((first|apply gw_m|apply gw_q);focus (intro hs;(try simp only[nbs] at hs);simp (disch:=first|assumption|omega) only[go_sem, *];rfl))|((first|refine zAB ?_ ?_|refine zAA ?_ ?_|refine sp_C ?_ ?_|refine sp_G ?_ ?_)<;>(intro hs;try simp only[nbs] at hs)))
 refine zAL (ι:=Nat) (fun i=>[(0,.sl 0 (l.map AV.str) .shut),(3,.int .i64 i)]) (fun _=>S 0 g0 []) (fun i=>i≤(l).length∧Pl.distinct [] l=Pl.distinct (l.take i) (l.drop i)) (fun i=>(l).length-i) ?_ 0 ⟨Nat.zero_le _,by first|rfl|trivial|simp⟩ ⟨rfl,rfl,trivial⟩ rfl;rintro i b ⟨hi,he⟩ hrec;rcases Nat.lt_or_ge i (l).length with hlt|hge
 ·have htk:(l.take i).length<4611686018427387904:=by rw[List.length_take];omega
  have hi2:i≤l.length:=hi
  obtain⟨hx,hmem,hcnd⟩:=zFR hlt;rw[List.drop_eq_getElem_cons hlt] at he
  rw[Pl.distinct,← List.take_succ_eq_append_getElem hlt] at he
  repeat' (first|refine c312 (hsz _ hmem) ?_|refine c313 htk ?_|simp (disch:=first|assumption|omega) only[go_sem, *]|((first|apply gw_m|apply gw_q);focus (intro hs;(try simp only[nbs] at hs);simp (disch:=first|assumption|omega) only[go_sem, *];rfl))|((first|refine zAB ?_ ?_|refine zAA ?_ ?_|refine sp_C ?_ ?_|refine sp_G ?_ ?_)<;>(intro hs;try simp only[nbs] at hs)))
  all_goals first|exact zA1 h (by(try clear hrec);(try clear h);rw[he];grind)|exact hrec (i+1) _ _ _ ⟨hlt,by rw[he];clear h hrec;grind⟩ (by omega) ⟨rfl,rfl,trivial⟩ rfl
 ·have hcnd:=zDB hge;rw[List.drop_eq_nil_of_le hge] at he
  rw[Pl.distinct] at he
  repeat' (first|simp (disch:=first|assumption|omega) only[go_sem, *]|((first|apply gw_m|apply gw_q);focus (intro hs;(try simp only[nbs] at hs);simp (disch:=first|assumption|omega) only[go_sem, *];rfl))|((first|refine zAB ?_ ?_|refine zAA ?_ ?_|refine sp_C ?_ ?_|refine sp_G ?_ ?_)<;>(intro hs;try simp only[nbs] at hs)))
  exact zA1 h (by(try clear hrec);(try clear h);rw[he])
theorem zF1 (a b:Str):bytesLt a b=ltS a b:=by
 unfold ltS;rw[← cmpS_eq]
 cases bytesLt a b with
 | true=>rfl
 | false=>cases bytesEq a b<;>rfl
theorem b_sge {E:Env}{t:TypeId}{c:Bool}{s:Sto}{x y:Str}:binA E .geq t c (.str x) (.str y) s=some (.bool (!ltS x y)):=by simp only[binA,zOT,zF1]
attribute [go_sem] b_sge
theorem c359 {l:List Str}{s:Sto}(hl:lens l<1073741824){Q:CR→Sto→Prop}(h:Q (.ret (.bool (fields l))) s):C E1 359 [.sl 0 (l.map AV.str) .shut] s Q:=by
 have h1:=lens_len l
 have hsz:∀x∈l,x.length<4611686018427387904:=fun x hx=>by have:=lens_mem hx;omega
 refine zAF (md:=⟨true,false,false,false⟩) (fn:=Tryz.f359) (n:=35) (rs:=[.tmp 2]) rfl rfl rfl rfl rfl rfl rfl (by simp only[go_sem, *];try rfl) (by rfl) (by simp only[go_sem]) ?_
 repeat' (first|simp (disch:=first|assumption|omega) only[go_sem, *]|((first|apply gw_m|apply gw_q);focus (intro hs;(try simp only[nbs] at hs);simp (disch:=first|assumption|omega) only[go_sem, *];rfl))|((first|refine zAB ?_ ?_|refine zAA ?_ ?_|refine sp_C ?_ ?_|refine sp_G ?_ ?_)<;>(intro hs;try simp only[nbs] at hs)))
 refine zAL (ι:=Nat) (fun i=>[(0,.sl 0 (l.map AV.str) .shut),(3,.int .i64 i)]) (fun _=>S 0 g0 []) (fun i=>i≤l.length∧rise l=riseT (if i=0 then none else l[i-1]?) (l.drop i)) (fun i=>l.length-i) ?_ 0 ⟨Nat.zero_le _,rise_T l⟩ ⟨rfl,rfl,trivial⟩ rfl
 rintro i b ⟨hi,he⟩ hrec
 rcases Nat.lt_or_ge i l.length with hlt|hge
 ·obtain⟨hx,hmem,hcnd⟩:=zFR hlt;rw[List.drop_eq_getElem_cons hlt] at he
  simp only[riseT] at he
  cases i with
  | zero=>
   have hz0:decide ((0:Int)<((0:Nat):Int))=false:=rfl
   repeat' (first|refine c312 (hsz _ hmem) ?_|simp (disch:=first|assumption|omega) only[go_sem, *]|((first|apply gw_m|apply gw_q);focus (intro hs;(try simp only[nbs] at hs);simp (disch:=first|assumption|omega) only[go_sem, *];rfl))|((first|refine zAB ?_ ?_|refine zAA ?_ ?_|refine sp_C ?_ ?_|refine sp_G ?_ ?_)<;>(intro hs;try simp only[nbs] at hs)))
   all_goals first|exact zA1 h (by(try clear hrec);(try clear h);rw[fields,he];grind)|exact hrec 1 _ _ _ ⟨hlt,by rw[he];clear h hrec;simp_all⟩ (by omega) ⟨rfl,rfl,trivial⟩ rfl
  | succ i=>
   have hy:l[i]?=some l[i]:=List.getElem?_eq_getElem (by omega)
   have hz:((i+1:Nat):Int)-1=i:=by omega
   have hz0:decide ((0:Int)<((i+1:Nat):Int))=true:=decide_eq_true (by omega)
   have hif:(if i+1=0 then none else l[i+1-1]?)=some l[i]:=by rw[if_neg (by omega)];exact hy
   rw[hif] at he
   repeat' (first|refine c312 (hsz _ hmem) ?_|simp (disch:=first|assumption|omega) only[go_sem, *]|((first|apply gw_m|apply gw_q);focus (intro hs;(try simp only[nbs] at hs);simp (disch:=first|assumption|omega) only[go_sem, *];rfl))|((first|refine zAB ?_ ?_|refine zAA ?_ ?_|refine sp_C ?_ ?_|refine sp_G ?_ ?_)<;>(intro hs;try simp only[nbs] at hs)))
   all_goals first|exact zA1 h (by(try clear hrec);(try clear h);rw[fields,he];grind)|exact hrec (i+2) _ _ _ ⟨hlt,by rw[he,if_neg (by omega),show i+2-1=i+1 by omega,hx];clear h hrec;simp_all⟩ (by omega) ⟨rfl,rfl,trivial⟩ rfl
 ·have hcnd:=zDB hge;rw[List.drop_eq_nil_of_le hge] at he
  simp only[riseT] at he
  repeat' (first|simp (disch:=first|assumption|omega) only[go_sem, *]|((first|apply gw_m|apply gw_q);focus (intro hs;(try simp only[nbs] at hs);simp (disch:=first|assumption|omega) only[go_sem, *];rfl))|((first|refine zAB ?_ ?_|refine zAA ?_ ?_|refine sp_C ?_ ?_|refine sp_G ?_ ?_)<;>(intro hs;try simp only[nbs] at hs)))
  exact zA1 h (by(try clear hrec);(try clear h);rw[fields,he];simp)
end Go.Ab.X
namespace Go.Ab.X
open Go Go.Ab Go.Proofs Pl
set_option maxRecDepth 100000
set_option maxHeartbeats 4000000
theorem zL7 {sp:Pl.Spec}{n:Int}(h0:0≤n)(h1:n<sp.defs.length):sp.defs[n.toNat]?=some (sp.defs.getD n.toNat default):=by rw[List.getD_eq_getElem?_getD,List.getElem?_eq_getElem (by omega)];rfl
theorem at_sc {sc:List Int}{n:Int}(h0:0≤n)(h1:n<sc.length):sc[n.toNat]?=some (sc.getD n.toNat 0):=by rw[List.getD_eq_getElem?_getD,List.getElem?_eq_getElem (by omega)];rfl
theorem zC7 {sp:Pl.Spec}{d n:Int}(h:callable sp d n=true):0≤n∧n<sp.defs.length:=by
 simp only[callable,Bool.and_eq_true,decide_eq_true_eq] at h;exact h.1
theorem c315 {sp:Pl.Spec}{d:Int}{sc:List Int}{e:X}{s:Sto}(hd:d<sp.defs.length)(hdl:sp.defs.length<1073741824)(hml:sp.models.length<1073741824)(hvl:sp.vars.length<1073741824)(hcl:sp.consts.length<1073741824)(hsl:sc.length<1073741824)(hpl:(params sp e.n).length<1073741824)(hl:szX e<1073741824)
  {Q:CR→Sto→Prop} (h:Q (.ret (.bool (own sp d sc e))) s):C E1 315 [zFY sp d sc,encX e] s Q:=by
 have ev:=zIE e
 have k1:szV e.v<4611686018427387904:=by omega
 have k2:sp.models.length<4611686018427387904:=by omega
 have k3:lens e.s<1073741824:=by omega
 have k4:=szXs_len e.l
 have k5:=lens_len e.s
 have hx:=@zL7 sp e.n
 have hy:=@at_sc sc e.n
 have hx2:callable sp d e.n=true→sp.defs[e.n.toNat]?=some (sp.defs.getD e.n.toNat default):=fun hc=>zL7 (zC7 hc).1 (zC7 hc).2
 have hx3:callable sp d e.n=true→asNat (.int .i64 e.n)=some e.n.toNat:=fun hc=>zF3 (zC7 hc).1
 have hpl2:(sp.defs.getD e.n.toNat default).params.length<1073741824:=hpl
 refine zAF (md:=⟨true,false,false,false⟩) (fn:=Tryz.f315) (n:=321) (rs:=[.tmp 4]) rfl rfl rfl rfl rfl rfl rfl (by simp only[go_sem, *];try rfl) (by rfl) (by simp only[go_sem]) ?_
 repeat' (first|refine c358 hl ?_|refine c314 _ (Nat.lt_succ_self _) k1 k2 ?_|refine c359 k3 ?_|refine c360 ?_|refine c361 hd hdl ?_|simp (disch:=first|assumption|omega) only[go_sem, *]|((first|apply gw_m|apply gw_q);focus (intro hs;(try simp only[nbs] at hs);simp (disch:=first|assumption|omega) only[go_sem, *];rfl))|((first|refine zAB ?_ ?_|refine zAA ?_ ?_|refine sp_C ?_ ?_|refine sp_G ?_ ?_)<;>(intro hs;try simp only[nbs] at hs)))
 all_goals try exact zA1 h (by(try clear hrec);(try clear h);simp only[own,params];grind)
theorem c316 {sp:Pl.Spec}{d ar:Int}{sc:List Int}{e:X}{s:Sto}(hd:d<sp.defs.length)(hdl:sp.defs.length<1073741824)(hsl:sc.length<1073741824)(hpl:(params sp e.n).length<1073741824)(hl:szX e<1073741824)
  {Q:CR→Sto→Prop} (h:Q (.ret (.bool (oper sp d sc e ar))) s):C E1 316 [zFY sp d sc,encX e,.int .i64 ar] s Q:=by
 have ev:=zIE e
 have k4:=szXs_len e.l
 have hy:=@at_sc sc e.n
 have hx2:callable sp d e.n=true→sp.defs[e.n.toNat]?=some (sp.defs.getD e.n.toNat default):=fun hc=>zL7 (zC7 hc).1 (zC7 hc).2
 have hx3:callable sp d e.n=true→asNat (.int .i64 e.n)=some e.n.toNat:=fun hc=>zF3 (zC7 hc).1
 have hpl2:(sp.defs.getD e.n.toNat default).params.length<1073741824:=hpl
 refine zAF (md:=⟨true,false,false,false⟩) (fn:=Tryz.f316) (n:=113) (rs:=[.tmp 6]) rfl rfl rfl rfl rfl rfl rfl (by simp only[go_sem, *];try rfl) (by rfl) (by simp only[go_sem]) ?_
 repeat' (first|refine c358 hl ?_|refine c361 hd hdl ?_|simp (disch:=first|assumption|omega) only[go_sem, *]|((first|apply gw_m|apply gw_q);focus (intro hs;(try simp only[nbs] at hs);simp (disch:=first|assumption|omega) only[go_sem, *];rfl))|((first|refine zAB ?_ ?_|refine zAA ?_ ?_|refine sp_C ?_ ?_|refine sp_G ?_ ?_)<;>(intro hs;try simp only[nbs] at hs)))
 all_goals try exact zA1 h (by(try clear hrec);(try clear h);simp only[oper,params];grind)
 rename_i hpx hk8 hl0
 obtain⟨hcal,hlen⟩:=hs
 obtain⟨⟨hpl3,har1⟩,har8⟩:=hpx
 subst hlen
 have hop:oper sp d sc e ((sp.defs.getD e.n.toNat default).params.length:Int)=(sp.defs.getD e.n.toNat default).params.all fun p=>decide (p=0):=by
  simp only[oper,params,hpl3,hk8,hcal];clear h;grind
 rw[hop] at h
 clear hop har1 har8 hl0 hpl3
 refine zAL (ι:=Nat) (fun i=>[(2,.int .i64 ((sp.defs.getD e.n.toNat default).params.length:Int)),(3,.ptr 0 0),(4,.ptr 1 0),(7,.int .i64 i)]) (fun _=>S 2 (updB (updB g0 0 (Box.cells 248 (zBB sp d sc))) 1 (Box.cells 34 (zAO e))) []) (fun i=>i≤((sp.defs.getD e.n.toNat default).params).length∧((sp.defs.getD e.n.toNat default).params.all fun p=>decide (p=0))=(((sp.defs.getD e.n.toNat default).params.drop i).all fun p=>decide (p=0))) (fun i=>((sp.defs.getD e.n.toNat default).params).length-i) ?_ 0 ⟨Nat.zero_le _,by first|rfl|trivial|simp⟩ ⟨rfl,rfl,rfl,rfl,trivial⟩ rfl;rintro i b ⟨hi,he⟩ hrec;rcases Nat.lt_or_ge i ((sp.defs.getD e.n.toNat default).params).length with hlt|hge
 ·obtain⟨hx,hmem,hcnd⟩:=zFR hlt;rw[List.drop_eq_getElem_cons hlt] at he
  rw[List.all_cons] at he
  repeat' (first|simp (disch:=first|assumption|omega) only[go_sem, *]|((first|apply gw_m|apply gw_q);focus (intro hs;(try simp only[nbs] at hs);simp (disch:=first|assumption|omega) only[go_sem, *];rfl))|((first|refine zAB ?_ ?_|refine zAA ?_ ?_|refine sp_C ?_ ?_|refine sp_G ?_ ?_)<;>(intro hs;try simp only[nbs] at hs)))
  ·exact zA1 h (by(try clear hrec);(try clear h);rw[he];grind)
  ·exact hrec (i+1) _ _ _ ⟨hlt,by rw[he];clear h hrec;grind⟩ (by omega) ⟨rfl,rfl,rfl,rfl,trivial⟩ rfl
 ·have hcnd:=zDB hge;rw[List.drop_eq_nil_of_le hge] at he
  repeat' (first|simp (disch:=first|assumption|omega) only[go_sem, *]|((first|apply gw_m|apply gw_q);focus (intro hs;(try simp only[nbs] at hs);simp (disch:=first|assumption|omega) only[go_sem, *];rfl))|((first|refine zAB ?_ ?_|refine zAA ?_ ?_|refine sp_C ?_ ?_|refine sp_G ?_ ?_)<;>(intro hs;try simp only[nbs] at hs)))
  exact zA1 h (by(try clear hrec);(try clear h);rw[he];rfl)
end Go.Ab.X
namespace Go.Ab.X
open Go Go.Ab Go.Proofs Pl
set_option maxRecDepth 100000
theorem b_slt {E:Env}{t:TypeId}{c:Bool}{s:Sto}{x y:Str}:binA E .lss t c (.str x) (.str y) s=some (.bool (ltS x y)):=by simp only[binA,zOT,zF1]
theorem b_sgt {E:Env}{t:TypeId}{c:Bool}{s:Sto}{x y:Str}:binA E .gtr t c (.str x) (.str y) s=some (.bool (ltS y x)):=by simp only[binA,zOT,zF1]
attribute [go_sem] b_slt b_sgt
theorem c262 {a:Int}{s:Sto}{Q:CR→Sto→Prop}(h:Q (.ret (.bool false)) s):C E1 262 [.int .i64 a] s Q:=by
 refine zAF (md:=⟨true,false,false,false⟩) (fn:=Tryz.f262) (n:=6) (rs:=[.tmp 2]) rfl rfl rfl rfl rfl rfl rfl (by simp only[go_sem, *];try rfl) (by rfl) (by simp only[go_sem]) ?_
 repeat' (first|simp (disch:=first|assumption|omega) only[go_sem, *]|((first|apply gw_m|apply gw_q);focus (intro hs;(try simp only[nbs] at hs);simp (disch:=first|assumption|omega) only[go_sem, *];rfl))|((first|refine zAB ?_ ?_|refine zAA ?_ ?_|refine sp_C ?_ ?_|refine sp_G ?_ ?_)<;>(intro hs;try simp only[nbs] at hs)))
theorem c263 {a:Str}{s:Sto}{Q:CR→Sto→Prop}(h:Q (.ret (.bool false)) s):C E1 263 [.str a] s Q:=by
 refine zAF (md:=⟨true,false,false,false⟩) (fn:=Tryz.f263) (n:=6) (rs:=[.tmp 2]) rfl rfl rfl rfl rfl rfl rfl (by simp only[go_sem, *];try rfl) (by rfl) (by simp only[go_sem]) ?_
 repeat' (first|simp (disch:=first|assumption|omega) only[go_sem, *]|((first|apply gw_m|apply gw_q);focus (intro hs;(try simp only[nbs] at hs);simp (disch:=first|assumption|omega) only[go_sem, *];rfl))|((first|refine zAB ?_ ?_|refine zAA ?_ ?_|refine sp_C ?_ ?_|refine sp_G ?_ ?_)<;>(intro hs;try simp only[nbs] at hs)))
theorem c181 {a b:Int}{s:Sto}{Q:CR→Sto→Prop}(h:Q (.ret (.int .i64 (cmp a b))) s):C E1 181 [.int .i64 a,.int .i64 b] s Q:=by
 refine zAF (md:=⟨true,false,false,false⟩) (fn:=Tryz.f181) (n:=20) (rs:=[.tmp 4]) rfl rfl rfl rfl rfl rfl rfl (by simp only[go_sem, *];try rfl) (by rfl) (by simp only[go_sem]) ?_
 repeat' (first|refine c262 ?_|simp (disch:=first|assumption|omega) only[go_sem, *]|((first|apply gw_m|apply gw_q);focus (intro hs;(try simp only[nbs] at hs);simp (disch:=first|assumption|omega) only[go_sem, *];rfl))|((first|refine zAB ?_ ?_|refine zAA ?_ ?_|refine sp_C ?_ ?_|refine sp_G ?_ ?_)<;>(intro hs;try simp only[nbs] at hs)))
 all_goals exact zFH h (by(try clear hrec);(try clear h);simp only[cmp];grind)
theorem c183 {a b:Str}{s:Sto}{Q:CR→Sto→Prop}(h:Q (.ret (.int .i64 (cmpS a b))) s):C E1 183 [.str a,.str b] s Q:=by
 have h1:=cmpS_neg a b
 have h2:=cmpS_rng a b
 refine zAF (md:=⟨true,false,false,false⟩) (fn:=Tryz.f183) (n:=20) (rs:=[.tmp 4]) rfl rfl rfl rfl rfl rfl rfl (by simp only[go_sem, *];try rfl) (by rfl) (by simp only[go_sem]) ?_
 repeat' (first|refine c263 ?_|simp (disch:=first|assumption|omega) only[go_sem, *]|((first|apply gw_m|apply gw_q);focus (intro hs;(try simp only[nbs] at hs);simp (disch:=first|assumption|omega) only[go_sem, *];rfl))|((first|refine zAB ?_ ?_|refine zAA ?_ ?_|refine sp_C ?_ ?_|refine sp_G ?_ ?_)<;>(intro hs;try simp only[nbs] at hs)))
 all_goals exact zFH h (by(try clear hrec);(try clear h);simp only[ltS] at *;grind)
theorem c180 {a b:Int}{s:Sto}{o:Own}{Q:CR→Sto→Prop}(h:Q (.ret (.int .i64 (if a≠0 then a else b))) s):C E1 180 [.sl 0 [.int .i64 a,.int .i64 b] o] s Q:=by
 refine zAF (md:=⟨true,false,false,false⟩) (fn:=Tryz.f180) (n:=18) (rs:=[.tmp 2]) rfl rfl rfl rfl rfl rfl rfl (by simp only[go_sem, *];try rfl) (by rfl) (by simp only[go_sem]) ?_
 repeat' (first|refine zR8 ?_|simp (disch:=first|assumption|omega) only[go_sem, *]|((first|apply gw_m|apply gw_q);focus (intro hs;(try simp only[nbs] at hs);simp (disch:=first|assumption|omega) only[go_sem, *];rfl))|((first|refine zAB ?_ ?_|refine zAA ?_ ?_|refine sp_C ?_ ?_|refine sp_G ?_ ?_)<;>(intro hs;try simp only[nbs] at hs)))
 all_goals exact zFH h (by(try clear hrec);(try clear h);grind)
theorem c182 {a b:V}{s:Sto}(ha:szV a<1073741824)(hb:szV b<1073741824){Q:CR→Sto→Prop}(h:Q (.ret (.int .i64 (cmpI a.neg a.d b.neg b.d))) s):C E1 182 [.agg [.bool a.neg,.sl 0 (a.d.map iv) .shut],.agg [.bool b.neg,.sl 0 (b.d.map iv) .shut]] s Q:=by
 rw[zD3] at ha hb
 have ha1:a.d.length<1073741824:=by omega
 have hb1:b.d.length<1073741824:=by omega
 clear ha hb
 refine zAF (md:=⟨true,false,false,false⟩) (fn:=Tryz.f182) (n:=49) (rs:=[.tmp 4]) rfl rfl rfl rfl rfl rfl rfl (by simp only[go_sem, *];try rfl) (by rfl) (by simp only[go_sem]) ?_
 repeat' (first|refine c181 ?_|simp (disch:=first|assumption|omega) only[go_sem, *]|((first|apply gw_m|apply gw_q);focus (intro hs;(try simp only[nbs] at hs);simp (disch:=first|assumption|omega) only[go_sem, *];rfl))|((first|refine zAB ?_ ?_|refine zAA ?_ ?_|refine sp_C ?_ ?_|refine sp_G ?_ ?_)<;>(intro hs;try simp only[nbs] at hs)))
 ·exact zFH h (by(try clear hrec);(try clear h);simp only[cmpI];grind)
 ·exact zFH h (by(try clear hrec);(try clear h);simp only[cmpI];grind)
 have hI:cmpI a.neg a.d b.neg b.d=(if b.neg=true then -(if a.d.length≠b.d.length then cmp a.d.length b.d.length else cmpD a.d.reverse b.d.reverse) else(if a.d.length≠b.d.length then cmp a.d.length b.d.length else cmpD a.d.reverse b.d.reverse)):=by
  simp only[cmpI];rw[if_neg (by simp[hs]),hs]
 rw[hI] at h
 clear hI hs
 refine zAL (ι:=Nat×Int) (fun x=>[(2,.ptr 0 0),(3,.ptr 1 0),(5,.int .i64 x.2),(6,.int .i64 ((x.1:Int)-1))]) (fun _=>S 2 (updB (updB g0 0 (Box.cells 29 [AV.bool b.neg,AV.sl 0 (List.map iv a.d) Own.shut])) 1 (Box.cells 29 [AV.bool b.neg,AV.sl 0 (List.map iv b.d) Own.shut])) [])
  (fun x=>(-1≤x.2∧x.2≤1)∧x.1≤a.d.length∧(x.2=0→b.d.length=a.d.length)∧(if a.d.length≠b.d.length then cmp a.d.length b.d.length else cmpD a.d.reverse b.d.reverse)=(if x.2=0 then cmpD (a.d.take x.1).reverse (b.d.take x.1).reverse else x.2)) (fun x=>x.1) ?_ (a.d.length,cmp a.d.length b.d.length)
  ⟨zRP _ _,Nat.le_refl _,fun e=>by have:=(zGE _ _).1 e;omega,by
   simp only
   by_cases e:a.d.length=b.d.length
   ·rw[if_neg (by simp[e]),if_pos ((zGE _ _).2 (by omega)),List.take_length,e,List.take_length]
   ·rw[if_pos e,if_neg (fun e2=>e (by have:=(zGE _ _).1 e2;omega))]⟩ ⟨rfl,rfl,rfl,rfl,trivial⟩ rfl
 rintro⟨k,c⟩ b0 ⟨hrg,hk,hlen,he⟩ hrec
 simp only at hrg hk hlen he
 obtain⟨hr1,hr2⟩:=hrg
 rw[he] at h
 by_cases hc:c=0
 ·subst hc
  rw[if_pos rfl] at h he
  have hlen:=hlen rfl
  cases k with
  | zero=>
   have hz:decide ((0:Int)≤((0:Nat):Int)-1)=false:=rfl
   cases hbn:b.neg with
   | true=>
    rw[hbn] at hrec
    repeat' (first|simp (disch:=first|assumption|omega) only[go_sem, *]|((first|apply gw_m|apply gw_q);focus (intro hs;(try simp only[nbs] at hs);simp (disch:=first|assumption|omega) only[go_sem, *];rfl))|((first|refine zAB ?_ ?_|refine zAA ?_ ?_|refine sp_C ?_ ?_|refine sp_G ?_ ?_)<;>(intro hs;try simp only[nbs] at hs)))
    rw[if_pos hbn] at h
    exact h
   | false=>
    rw[hbn] at hrec
    repeat' (first|simp (disch:=first|assumption|omega) only[go_sem, *]|((first|apply gw_m|apply gw_q);focus (intro hs;(try simp only[nbs] at hs);simp (disch:=first|assumption|omega) only[go_sem, *];rfl))|((first|refine zAB ?_ ?_|refine zAA ?_ ?_|refine sp_C ?_ ?_|refine sp_G ?_ ?_)<;>(intro hs;try simp only[nbs] at hs)))
    rw[if_neg (by simp[hbn])] at h
    exact h
  | succ k=>
   have hz:((k+1:Nat):Int)-1=k:=by omega
   have hcn:decide ((0:Int)≤k)=true:=by simp
   have hkb:k<b.d.length:=by omega
   have hx:a.d[k]?=some a.d[k]:=List.getElem?_eq_getElem hk
   have hy:b.d[k]?=some b.d[k]:=List.getElem?_eq_getElem hkb
   have hrg2:=zRP a.d[k] b.d[k]
   rw[List.take_succ_eq_append_getElem hk,List.take_succ_eq_append_getElem hkb,List.reverse_append,List.reverse_append,List.reverse_singleton,List.reverse_singleton,List.singleton_append,List.singleton_append,cmpD] at he
   clear hlen
   have hlen:b.d.length=a.d.length∨True:=.inr trivial
   repeat' (first|refine c181 ?_|simp (disch:=first|assumption|omega) only[go_sem, *]|((first|apply gw_m|apply gw_q);focus (intro hs;(try simp only[nbs] at hs);simp (disch:=first|assumption|omega) only[go_sem, *];rfl))|((first|refine zAB ?_ ?_|refine zAA ?_ ?_|refine sp_C ?_ ?_|refine sp_G ?_ ?_)<;>(intro hs;try simp only[nbs] at hs)))
   exact hrec (k,cmp a.d[k] b.d[k]) _ _ _ ⟨hrg2,by omega,fun _=>by omega,he⟩ (by simp) ⟨rfl,rfl,rfl,rfl,trivial⟩ rfl
 ·have hcc:decide (c=0)=false:=decide_eq_false hc
  rw[if_neg hc] at h he
  clear hc
  cases hbn:b.neg with
  | true=>
   rw[hbn] at hrec
   repeat' (first|simp (disch:=first|assumption|omega) only[go_sem, *]|((first|apply gw_m|apply gw_q);focus (intro hs;(try simp only[nbs] at hs);simp (disch:=first|assumption|omega) only[go_sem, *];rfl))|((first|refine zAB ?_ ?_|refine zAA ?_ ?_|refine sp_C ?_ ?_|refine sp_G ?_ ?_)<;>(intro hs;try simp only[nbs] at hs)))
   rw[if_pos hbn] at h
   exact leaf h (congrArg (AV.int .i64) (by omega))
  | false=>
   rw[hbn] at hrec
   repeat' (first|simp (disch:=first|assumption|omega) only[go_sem, *]|((first|apply gw_m|apply gw_q);focus (intro hs;(try simp only[nbs] at hs);simp (disch:=first|assumption|omega) only[go_sem, *];rfl))|((first|refine zAB ?_ ?_|refine zAA ?_ ?_|refine sp_C ?_ ?_|refine sp_G ?_ ?_)<;>(intro hs;try simp only[nbs] at hs)))
   rw[if_neg (by simp[hbn])] at h
   exact h
theorem zRV {t:Nat}{f:FuncId}{a b args:List AV}{s:Sto}:zH8 (.func t (.func f) a b) args s=.call f (a++(args++b)) s:=by simp only[zH8,zBM]
theorem lmap_c {α β:Type}(f:α→β)(a:α)(l:List α):lmap f (a :: l)=f a :: lmap f l:=rfl
theorem lmap_n {α β:Type}(f:α→β):lmap f ([]:List α)=[]:=rfl
attribute [go_sem] zRV zES noOslP noOsl noOsl1 noOslC zMR shutV shut1 lmap_c lmap_n
theorem c184 {l r:List V}{m:Nat}{g:Nat→Box}{u:List (Nat×Nat)}(hu:zAS m u=true)(hu2:zAK m u=u)(hl:szVs l<1073741824)(hr:szVs r<1073741824)
  (hc:∀a∈l,∀b∈r,∀s Q,Q (.ret (.int .i64 (cmpV a b))) s→C E1 91 [encV a,encV b] s Q) {Q:CR→Sto→Prop} (h:Q (.ret (.int .i64 (zJ9 l r))) (S m g u)):C E1 184 [.sl 0 (l.map encV) .shut,.sl 0 (r.map encV) .shut,.func 0 (.func 91) [] []] (S m g u) Q:=by
 have h1:=szVs_len l
 have h2:=szVs_len r
 refine zAG (md:=⟨false,false,false,false⟩) (fn:=Tryz.f184) (n:=37) (rs:=[.tmp 6]) rfl rfl rfl rfl rfl rfl rfl (by simp only[go_sem, *];try rfl) (by rfl) ?_
 repeat' (first|refine c181 ?_|simp (disch:=first|assumption|omega) only[go_sem, *]|((first|apply gw_m|apply gw_q);focus (intro hs;(try simp only[nbs] at hs);simp (disch:=first|assumption|omega) only[go_sem, *];rfl))|((first|refine zAB ?_ ?_|refine zAA ?_ ?_|refine sp_C ?_ ?_|refine sp_G ?_ ?_)<;>(intro hs;try simp only[nbs] at hs)))
 ·exact zFH h (by(try clear hrec);(try clear h);have:=zGE l.length r.length;simp only[zJ9];grind)
 ·have hab:r.length=l.length:=by have:=(zGE _ _).1 hs;omega
  clear hs
  refine zAL (ι:=Nat) (fun i=>[(0,.sl 0 (l.map encV) .shut),(1,.sl 0 (r.map encV) .shut),(2,.func 0 (.func 91) [] []),(19,.int .i64 l.length),(20,.int .i64 i)]) (fun _=>S m g u) (fun i=>i≤(l).length∧cmpL l r=cmpL (l.drop i) (r.drop i)) (fun i=>(l).length-i) ?_ 0 ⟨Nat.zero_le _,by first|rfl|trivial|simp⟩ ⟨rfl,rfl,rfl,rfl,rfl,trivial⟩ rfl;rintro i b ⟨hi,he⟩ hrec;rcases Nat.lt_or_ge i (l).length with hlt|hge
  ·have hlr:i<r.length:=by omega
   have hy:r[i]?=some r[i]:=List.getElem?_eq_getElem hlr
   have hm2:r[i]∈r:=List.getElem_mem hlr
   rw[List.drop_eq_getElem_cons hlr] at he
   obtain⟨hx,hmem,hcnd⟩:=zFR hlt;rw[List.drop_eq_getElem_cons hlt] at he
   rw[cmpL] at he
   repeat' (first|refine hc _ hmem _ hm2 _ _ ?_|simp (disch:=first|assumption|omega) only[go_sem, *]|((first|apply gw_m|apply gw_q);focus (intro hs;(try simp only[nbs] at hs);simp (disch:=first|assumption|omega) only[go_sem, *];rfl))|((first|refine zAB ?_ ?_|refine zAA ?_ ?_|refine sp_C ?_ ?_|refine sp_G ?_ ?_)<;>(intro hs;try simp only[nbs] at hs)))
   ·exact zFH h (by(try clear hrec);(try clear h);rw[zJ9,if_neg (by omega),he,if_pos hs])
   ·exact hrec (i+1) _ _ _ ⟨hlt,by rw[he,if_neg (by omega)]⟩ (by omega) ⟨rfl,rfl,rfl,rfl,rfl,trivial⟩ rfl
  ·have hcnd:=zDB hge;rw[List.drop_eq_nil_of_le hge] at he
   repeat' (first|simp (disch:=first|assumption|omega) only[go_sem, *]|((first|apply gw_m|apply gw_q);focus (intro hs;(try simp only[nbs] at hs);simp (disch:=first|assumption|omega) only[go_sem, *];rfl))|((first|refine zAB ?_ ?_|refine zAA ?_ ?_|refine sp_C ?_ ?_|refine sp_G ?_ ?_)<;>(intro hs;try simp only[nbs] at hs)))
   exact zFH h (by(try clear hrec);(try clear h);rw[zJ9,if_neg (by omega),he,cmpL];intro _ _ _ _ h;cases h)
theorem c91:∀(N:Nat) {a b:V} {s:Sto},szV a<N→szV a<1073741824→szV b<1073741824→∀{Q:CR→Sto→Prop},Q (.ret (.int .i64 (cmpV a b))) s→C E1 91 [encV a,encV b] s Q:=by
 intro N
 induction N with
 | zero=>intro a b s h;exact absurd h (Nat.not_lt_zero _)
 | succ N ih=>
  intro a b s hN ha hb Q h
  have ea:=zD3 a
  have eb:=zD3 b
  have k1:∀x∈a.l,∀y∈b.l,∀s Q,Q (.ret (.int .i64 (cmpV x y))) s→C E1 91 [encV x,encV y] s Q:=fun x hx y hy s Q h=>ih (by have:=szVs_mem hx;omega) (by have:=szVs_mem hx;omega) (by have:=szVs_mem hy;omega) h
  have k2:∀x∈a.m,∀y∈b.m,∀s Q,Q (.ret (.int .i64 (cmpV x y))) s→C E1 91 [encV x,encV y] s Q:=fun x hx y hy s Q h=>ih (by have:=szVs_mem hx;omega) (by have:=szVs_mem hx;omega) (by have:=szVs_mem hy;omega) h
  have k3:szVs a.l<1073741824:=by omega
  have k4:szVs b.l<1073741824:=by omega
  have k5:szVs a.m<1073741824:=by omega
  have k6:szVs b.m<1073741824:=by omega
  have hu:zAS 2 []=true:=rfl
  have hu2:zAK 2 []=[]:=rfl
  rw[zYW] at h
  clear ih
  refine zAF (md:=⟨true,false,false,false⟩) (fn:=Tryz.f91) (n:=51) (rs:=[.tmp 4]) rfl rfl rfl rfl rfl rfl rfl (by simp only[go_sem, *];try rfl) (by rfl) (by simp only[go_sem]) ?_
  repeat' (first|refine c181 ?_|refine c180 ?_|refine c182 ha hb ?_|refine c183 ?_|refine c184 hu hu2 k3 k4 k1 ?_|refine c184 hu hu2 k5 k6 k2 ?_|simp (disch:=first|assumption|omega) only[go_sem, *]|((first|apply gw_m|apply gw_q);focus (intro hs;(try simp only[nbs] at hs);simp (disch:=first|assumption|omega) only[go_sem, *];rfl))|((first|refine zAB ?_ ?_|refine zAA ?_ ?_|refine sp_C ?_ ?_|refine sp_G ?_ ?_)<;>(intro hs;try simp only[nbs] at hs)))
  all_goals exact leaf h (congrArg (AV.int .i64) (by clear h k1 k2;have:=zGE a.kind b.kind;have:=zGE a.n b.n;grind))
theorem zCT {m m':Nat}{u:List (Nat×Nat)}(hu:zAS m u=true)(hu2:zAK m u=u)(h:m≤m'):zAS m' u=true∧zAK m' u=u:=by
 induction u with
 | nil=>exact⟨rfl,rfl⟩
 | cons e r ih=>
  have hc:∀(n:Nat) (l:List (Nat×Nat)),(zAK n l).length≤l.length:=fun n l=>by
   induction l with
   | nil=>exact Nat.le_refl _
   | cons a l ih=>simp only[zAK,cond_eq_ite];split<;>simp only[List.length_cons]<;>omega
  have h1:e.1<m:=by
   by_cases hlt:e.1<m
   ·exact hlt
   ·simp only[zAK,zGI,decide_eq_false hlt,cond_false] at hu2
    have:=hc m r;rw[hu2] at this;simp at this;omega
  simp only[zAK,zGI,decide_eq_true h1,cond_true,List.cons.injEq,true_and] at hu2
  simp only[zAS,zGI,decide_eq_true h1,cond_true,zCD,cond_eq_ite,decide_eq_true_eq] at hu
  have h2:e.1<m':=by omega
  by_cases h3:e.2≤m
  ·rw[if_pos h3] at hu
   obtain⟨i1,i2⟩:=ih hu hu2
   have h4:e.2≤m':=by omega
   exact⟨by simp only[zAS,zGI,decide_eq_true h2,cond_true,zCD,decide_eq_true h4];exact i1,by simp only[zAK,zGI,decide_eq_true h2,cond_true];rw[i2]⟩
  ·rw[if_neg h3] at hu;cases hu
theorem c60p {α:Type}{h:α→AV}{l:List α}{fv:AV}{q:α→Bool}{g:Nat→Box}{m:Nat}{u:List (Nat×Nat)}(hl:l.length<4611686018427387904)(hu:zAS m u=true)(hu2:zAK m u=u)
  (hsz:∀x,llen (cellsOf (h x))=7) (hld:∀x,pick1 (E1.types 32) (cellsOf (h x)) 0=some (h x)) (hfv:zA0 (S m g u) fv=some (fv,S m g u))
  (hp:∀x∈l,∀Q,Q (.ret (.bool (q x))) (S m g u)→CV E1 fv [h x] (S m g u) Q) {Q:CR→Sto→Prop} (hq:Q (.ret (.bool (l.any q))) (S m g u)):C E1 60 [.sl 0 (l.map h) .shut,fv] (S m g u) Q:=
 c60 (σ:=Unit) (p:=fun a x=>(q x,a)) (G:=fun _=>g) (a:=()) hl hu hu2 hsz hld hfv (fun x hx _ Q hQ=>hp x hx Q hQ) (by rw[zEB];exact hq)
theorem c69p {α:Type}{h:α→AV}{l:List α}{fv:AV}{q:α→Bool}{g:Nat→Box}{m:Nat}{u:List (Nat×Nat)}(hl:l.length<4611686018427387904)(hu:zAS m u=true)(hu2:zAK m u=u)
  (hsz:∀x,llen (cellsOf (h x))=8) (hld:∀x,pick1 (E1.types 107) (cellsOf (h x)) 0=some (h x)) (hfv:zA0 (S m g u) fv=some (fv,S m g u))
  (hp:∀x∈l,∀Q,Q (.ret (.bool (q x))) (S m g u)→CV E1 fv [h x] (S m g u) Q) {Q:CR→Sto→Prop} (hq:Q (.ret (.bool (l.any q))) (S m g u)):C E1 69 [.sl 0 (l.map h) .shut,fv] (S m g u) Q:=
 c69 (σ:=Unit) (p:=fun a x=>(q x,a)) (G:=fun _=>g) (a:=()) hl hu hu2 hsz hld hfv (fun x hx _ Q hQ=>hp x hx Q hQ) (by rw[zEB];exact hq)
theorem c157p {α:Type}{h:α→AV}{l:List α}{fv:AV}{q:α→Bool}{g:Nat→Box}{m:Nat}{u:List (Nat×Nat)}(hl:l.length<4611686018427387904)(hu:zAS m u=true)(hu2:zAK m u=u)
  (hsz:∀x,llen (cellsOf (h x))=1) (hld:∀x,pick1 (E1.types 9) (cellsOf (h x)) 0=some (h x)) (hfv:zA0 (S m g u) fv=some (fv,S m g u))
  (hp:∀x∈l,∀Q,Q (.ret (.bool (q x))) (S m g u)→CV E1 fv [h x] (S m g u) Q) {Q:CR→Sto→Prop} (hq:Q (.ret (.bool (l.any q))) (S m g u)):C E1 157 [.sl 0 (l.map h) .shut,fv] (S m g u) Q:=
 c157 (σ:=Unit) (p:=fun a x=>(q x,a)) (G:=fun _=>g) (a:=()) hl hu hu2 hsz hld hfv (fun x hx _ Q hQ=>hp x hx Q hQ) (by rw[zEB];exact hq)
theorem c159p {α:Type}{h:α→AV}{l:List α}{fv:AV}{q:α→Bool}{g:Nat→Box}{m:Nat}{u:List (Nat×Nat)}(hl:l.length<4611686018427387904)(hu:zAS m u=true)(hu2:zAK m u=u)
  (hsz:∀x,llen (cellsOf (h x))=1) (hld:∀x,pick1 (E1.types 3) (cellsOf (h x)) 0=some (h x)) (hfv:zA0 (S m g u) fv=some (fv,S m g u))
  (hp:∀x∈l,∀Q,Q (.ret (.bool (q x))) (S m g u)→CV E1 fv [h x] (S m g u) Q) {Q:CR→Sto→Prop} (hq:Q (.ret (.bool (l.any q))) (S m g u)):C E1 159 [.sl 0 (l.map h) .shut,fv] (S m g u) Q:=
 c159 (σ:=Unit) (p:=fun a x=>(q x,a)) (G:=fun _=>g) (a:=()) hl hu hu2 hsz hld hfv (fun x hx _ Q hQ=>hp x hx Q hQ) (by rw[zEB];exact hq)
theorem c161p {α:Type}{h:α→AV}{l:List α}{fv:AV}{q:α→Bool}{g:Nat→Box}{m:Nat}{u:List (Nat×Nat)}(hl:l.length<4611686018427387904)(hu:zAS m u=true)(hu2:zAK m u=u)
  (hsz:∀x,llen (cellsOf (h x))=1) (hld:∀x,pick1 (E1.types 5) (cellsOf (h x)) 0=some (h x)) (hfv:zA0 (S m g u) fv=some (fv,S m g u))
  (hp:∀x∈l,∀Q,Q (.ret (.bool (q x))) (S m g u)→CV E1 fv [h x] (S m g u) Q) {Q:CR→Sto→Prop} (hq:Q (.ret (.bool (l.any q))) (S m g u)):C E1 161 [.sl 0 (l.map h) .shut,fv] (S m g u) Q:=
 c161 (σ:=Unit) (p:=fun a x=>(q x,a)) (G:=fun _=>g) (a:=()) hl hu hu2 hsz hld hfv (fun x hx _ Q hQ=>hp x hx Q hQ) (by rw[zEB];exact hq)
theorem c163p {α:Type}{h:α→AV}{l:List α}{fv:AV}{q:α→Bool}{g:Nat→Box}{m:Nat}{u:List (Nat×Nat)}(hl:l.length<4611686018427387904)(hu:zAS m u=true)(hu2:zAK m u=u)
  (hsz:∀x,llen (cellsOf (h x))=14) (hld:∀x,pick1 (E1.types 110) (cellsOf (h x)) 0=some (h x)) (hfv:zA0 (S m g u) fv=some (fv,S m g u))
  (hp:∀x∈l,∀Q,Q (.ret (.bool (q x))) (S m g u)→CV E1 fv [h x] (S m g u) Q) {Q:CR→Sto→Prop} (hq:Q (.ret (.bool (l.any q))) (S m g u)):C E1 163 [.sl 0 (l.map h) .shut,fv] (S m g u) Q:=
 c163 (σ:=Unit) (p:=fun a x=>(q x,a)) (G:=fun _=>g) (a:=()) hl hu hu2 hsz hld hfv (fun x hx _ Q hQ=>hp x hx Q hQ) (by rw[zEB];exact hq)
theorem c381 {c:UInt8}{s:Sto}{Q:CR→Sto→Prop}(h:Q (.ret (.bool (letter c))) s):C E1 381 [.int .u8 c.toNat] s Q:=by
 refine zAF (md:=⟨true,false,false,false⟩) (fn:=Tryz.f381) (n:=17) (rs:=[.tmp 2]) rfl rfl rfl rfl rfl rfl rfl (by simp only[go_sem, *];try rfl) (by rfl) (by simp only[go_sem]) ?_
 repeat' (first|simp (disch:=first|assumption|omega) only[go_sem, *]|((first|apply gw_m|apply gw_q);focus (intro hs;(try simp only[nbs] at hs);simp (disch:=first|assumption|omega) only[go_sem, *];rfl))|((first|refine zAB ?_ ?_|refine zAA ?_ ?_|refine sp_C ?_ ?_|refine sp_G ?_ ?_)<;>(intro hs;try simp only[nbs] at hs)))
 exact zA1 h (by(try clear hrec);(try clear h);simp only[letter];try grind)
theorem c382 {c:UInt8}{s:Sto}{Q:CR→Sto→Prop}(h:Q (.ret (.bool (inside c))) s):C E1 382 [.int .u8 c.toNat] s Q:=by
 refine zAF (md:=⟨true,false,false,false⟩) (fn:=Tryz.f382) (n:=17) (rs:=[.tmp 2]) rfl rfl rfl rfl rfl rfl rfl (by simp only[go_sem, *];try rfl) (by rfl) (by simp only[go_sem]) ?_
 repeat' (first|refine c381 ?_|simp (disch:=first|assumption|omega) only[go_sem, *]|((first|apply gw_m|apply gw_q);focus (intro hs;(try simp only[nbs] at hs);simp (disch:=first|assumption|omega) only[go_sem, *];rfl))|((first|refine zAB ?_ ?_|refine zAA ?_ ?_|refine sp_C ?_ ?_|refine sp_G ?_ ?_)<;>(intro hs;try simp only[nbs] at hs)))
 all_goals exact zA1 h (by(try clear hrec);(try clear h);simp only[inside];try grind)
theorem c355 {x:Str}{s:Sto}(hl:x.length<1073741824){Q:CR→Sto→Prop}(h:Q (.ret (.bool (zLM x))) s):C E1 355 [.str x] s Q:=by
 refine zAF (md:=⟨true,false,false,false⟩) (fn:=Tryz.f355) (n:=23) (rs:=[.tmp 2]) rfl rfl rfl rfl rfl rfl rfl (by simp only[go_sem, *];try rfl) (by rfl) (by simp only[go_sem]) ?_
 repeat' (first|simp (disch:=first|assumption|omega) only[go_sem, *]|((first|apply gw_m|apply gw_q);focus (intro hs;(try simp only[nbs] at hs);simp (disch:=first|assumption|omega) only[go_sem, *];rfl))|((first|refine zAB ?_ ?_|refine zAA ?_ ?_|refine sp_C ?_ ?_|refine sp_G ?_ ?_)<;>(intro hs;try simp only[nbs] at hs)))
 refine zAL (ι:=Nat) (fun i=>[(0,.str x),(5,.int .i64 x.length),(6,.int .i64 i)]) (fun _=>S 0 g0 []) (fun i=>i≤(x).length∧(x.all fun c=>decide ((32:Int)≤c.toNat)&&decide ((c.toNat:Int)≤126))=((x.drop i).all fun c=>decide ((32:Int)≤c.toNat)&&decide ((c.toNat:Int)≤126))) (fun i=>(x).length-i) ?_ 0 ⟨Nat.zero_le _,by first|rfl|trivial|simp⟩ ⟨rfl,rfl,rfl,trivial⟩ rfl;rintro i b ⟨hi,he⟩ hrec;rcases Nat.lt_or_ge i (x).length with hlt|hge
 ·obtain⟨hx,hmem,hcnd⟩:=zFR hlt;rw[List.drop_eq_getElem_cons hlt] at he
  rw[List.all_cons] at he
  repeat' (first|simp (disch:=first|assumption|omega) only[go_sem, *]|((first|apply gw_m|apply gw_q);focus (intro hs;(try simp only[nbs] at hs);simp (disch:=first|assumption|omega) only[go_sem, *];rfl))|((first|refine zAB ?_ ?_|refine zAA ?_ ?_|refine sp_C ?_ ?_|refine sp_G ?_ ?_)<;>(intro hs;try simp only[nbs] at hs)))
  all_goals first|exact zA1 h (by(try clear hrec);(try clear h);simp only[zLM,he];grind)|exact hrec (i+1) _ _ _ ⟨hlt,by rw[he];clear h hrec;grind⟩ (by omega) ⟨rfl,rfl,rfl,trivial⟩ rfl
 ·have hcnd:=zDB hge;rw[List.drop_eq_nil_of_le hge] at he
  repeat' (first|simp (disch:=first|assumption|omega) only[go_sem, *]|((first|apply gw_m|apply gw_q);focus (intro hs;(try simp only[nbs] at hs);simp (disch:=first|assumption|omega) only[go_sem, *];rfl))|((first|refine zAB ?_ ?_|refine zAA ?_ ?_|refine sp_C ?_ ?_|refine sp_G ?_ ?_)<;>(intro hs;try simp only[nbs] at hs)))
  exact zA1 h (by(try clear hrec);(try clear h);simp only[zLM,he];try grind)
theorem c356 {x:Str}{s:Sto}(hl:x.length<1073741824){Q:CR→Sto→Prop}(h:Q (.ret (.bool (zCW x))) s):C E1 356 [.str x] s Q:=by
 rcases hx0:x[0]? with _|c0
 ·have h0:x=[]:=by simpa using hx0
  have hc:decide (x=([]:Str))=true:=decide_eq_true h0
  rw[h0] at h
  clear h0 hx0
  refine zAF (md:=⟨true,false,false,false⟩) (fn:=Tryz.f356) (n:=36) (rs:=[.tmp 2]) rfl rfl rfl rfl rfl rfl rfl (by simp only[go_sem, *];try rfl) (by rfl) (by simp only[go_sem]) ?_
  repeat' (first|simp (disch:=first|assumption|omega) only[go_sem, *]|((first|apply gw_m|apply gw_q);focus (intro hs;(try simp only[nbs] at hs);simp (disch:=first|assumption|omega) only[go_sem, *];rfl))|((first|refine zAB ?_ ?_|refine zAA ?_ ?_|refine sp_C ?_ ?_|refine sp_G ?_ ?_)<;>(intro hs;try simp only[nbs] at hs)))
  exact h
 ·have hn:decide (x=([]:Str))=false:=decide_eq_false (fun e=>by rw[e] at hx0;cases hx0)
  have hI:zCW x=(decide ((x.length:Int)≤40)&&letter c0&&decide (x≠[84,82,85,69])&&decide (x≠[70,65,76,83,69])&&x.all inside):=by
   cases x with
   | nil=>cases hx0
   | cons c r=>simp at hx0;subst hx0;simp only[zCW];congr 4;rw[decide_eq_decide];omega
  rw[hI] at h
  clear hI
  refine zAF (md:=⟨true,false,false,false⟩) (fn:=Tryz.f356) (n:=36) (rs:=[.tmp 2]) rfl rfl rfl rfl rfl rfl rfl (by simp only[go_sem, *];try rfl) (by rfl) (by simp only[go_sem]) ?_
  repeat' (first|refine c381 ?_|simp (disch:=first|assumption|omega) only[go_sem, *]|((first|apply gw_m|apply gw_q);focus (intro hs;(try simp only[nbs] at hs);simp (disch:=first|assumption|omega) only[go_sem, *];rfl))|((first|refine zAB ?_ ?_|refine zAA ?_ ?_|refine sp_C ?_ ?_|refine sp_G ?_ ?_)<;>(intro hs;try simp only[nbs] at hs)))
  all_goals first|exact zA1 h (by(try clear hrec);(try clear h);grind)|skip
  ·refine zAL (ι:=Nat) (fun i=>[(0,.str x),(26,.int .i64 x.length),(27,.int .i64 i)]) (fun _=>S 0 g0 []) (fun i=>i≤(x).length∧x.all inside=(x.drop i).all inside) (fun i=>(x).length-i) ?_ 0 ⟨Nat.zero_le _,by first|rfl|trivial|simp⟩ ⟨rfl,rfl,rfl,trivial⟩ rfl;rintro i b ⟨hi,he⟩ hrec;rcases Nat.lt_or_ge i (x).length with hlt|hge
   ·obtain⟨hx,hmem,hcnd⟩:=zFR hlt;rw[List.drop_eq_getElem_cons hlt] at he
    rw[List.all_cons] at he
    repeat' (first|refine c382 ?_|simp (disch:=first|assumption|omega) only[go_sem, *]|((first|apply gw_m|apply gw_q);focus (intro hs;(try simp only[nbs] at hs);simp (disch:=first|assumption|omega) only[go_sem, *];rfl))|((first|refine zAB ?_ ?_|refine zAA ?_ ?_|refine sp_C ?_ ?_|refine sp_G ?_ ?_)<;>(intro hs;try simp only[nbs] at hs)))
    all_goals first|exact zA1 h (by(try clear hrec);(try clear h);rw[he];grind)|exact hrec (i+1) _ _ _ ⟨hlt,by rw[he];clear h hrec;grind⟩ (by omega) ⟨rfl,rfl,rfl,trivial⟩ rfl
   ·have hcnd:=zDB hge;rw[List.drop_eq_nil_of_le hge] at he
    repeat' (first|simp (disch:=first|assumption|omega) only[go_sem, *]|((first|apply gw_m|apply gw_q);focus (intro hs;(try simp only[nbs] at hs);simp (disch:=first|assumption|omega) only[go_sem, *];rfl))|((first|refine zAB ?_ ?_|refine zAA ?_ ?_|refine sp_C ?_ ?_|refine sp_G ?_ ?_)<;>(intro hs;try simp only[nbs] at hs)))
    exact zA1 h (by(try clear hrec);(try clear h);rw[he];grind)
end Go.Ab.X
end
