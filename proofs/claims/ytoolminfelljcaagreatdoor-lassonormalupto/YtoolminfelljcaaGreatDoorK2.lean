/- A part. -/
import Derived.Test.YtoolminfelljcaaGreatDoorK1
import Derived.Test.YtoolminfelljcaaGreatDoorP1
set_option linter.all false
noncomputable section
namespace Go.Ab.X
open Go Go.Ab Go.Proofs Pl
set_option maxRecDepth 100000
theorem c148 {a b:Int}{s:Sto}{Q:CR→Sto→Prop}(h:Q (.ret (.int .i64 (cmp a b))) s):C E1 148 [.int .i64 a,.int .i64 b] s Q:=by
 refine zAF (md:=⟨true,false,false,false⟩) (fn:=Tryz.f148) (n:=11) (rs:=[.tmp 4]) rfl rfl rfl rfl rfl rfl rfl rfl (by simp only[go_sem, *];try rfl) (by rfl) (by simp only[go_sem]) ?_
 repeat' (first|simp (disch:=first|assumption|omega) only[go_sem, *]|((first|apply gw_m|apply gw_q);focus (intro hb;(try simp only[nbw] at hb);simp (disch:=first|assumption|omega) only[go_sem, *];rfl))|((first|refine zAC ?_ ?_|refine zAB ?_ ?_|refine sp_C ?_ ?_|refine sp_G ?_ ?_)<;>intro _))
 all_goals exact zDX h (by(try clear hrec);(try clear h);simp only[cmp];grind)
theorem cmpS_eq:∀a b:Str,(bif bytesLt a b then(-1:Int) else bif bytesEq a b then 0 else 1)=cmpS a b
 | [],[]=>rfl
 | [],_ :: _=>rfl
 | _ :: _,[]=>rfl
 | a :: x,b :: y=>by
  have ih:=cmpS_eq x y
  simp only[bytesLt,bytesEq,cmpS,zHM,zI8]
  by_cases h1:a.toNat<b.toNat
  ·simp[h1]
  ·by_cases h2:b.toNat<a.toNat
   ·have:¬ a.toNat=b.toNat:=by omega
    simp[h1,h2,this]
   ·have:a.toNat=b.toNat:=by omega
    simp only[this,decide_true,cond_true,Nat.lt_irrefl,decide_false,cond_false,if_false]
    exact ih
theorem c263 {a b:Str}{s:Sto}{Q:CR→Sto→Prop}(h:Q (.ret (.int .i64 (cmpS a b))) s):C E1 263 [.str a,.str b] s Q:=by
 rw[← cmpS_eq] at h
 exact zZT rfl h
theorem c186 {a b:Str}{s:Sto}{Q:CR→Sto→Prop}(h:Q (.ret (.int .i64 (cmpS a b))) s):C E1 186 [.str a,.str b] s Q:=by
 refine zAF (md:=⟨true,false,false,false⟩) (fn:=Tryz.f186) (n:=8) (rs:=[.tmp 4]) rfl rfl rfl rfl rfl rfl rfl rfl (by simp only[go_sem, *];try rfl) (by rfl) (by simp only[go_sem]) ?_
 repeat' (first|refine c263 ?_|simp (disch:=first|assumption|omega) only[go_sem, *]|((first|apply gw_m|apply gw_q);focus (intro hb;(try simp only[nbw] at hb);simp (disch:=first|assumption|omega) only[go_sem, *];rfl))|((first|refine zAC ?_ ?_|refine zAB ?_ ?_|refine sp_C ?_ ?_|refine sp_G ?_ ?_)<;>intro _))
theorem c150 {a b:Str}{m:Nat}{g:Nat→Box}{u:List (Nat×Nat)}(hu:zBS m u=true)(hu2:zAW m u=u){Q:CR→Sto→Prop}(h:Q (.ret (.int .i64 (cmpS a b))) (S m g u)):C E1 150 [.str a,.str b] (S m g u) Q:=by
 refine zAM (md:=⟨false,false,false,false⟩) (fn:=Tryz.f150) (n:=8) (rs:=[.tmp 4]) rfl rfl rfl rfl rfl rfl rfl rfl (by simp only[go_sem, *];try rfl) (by rfl) ?_
 repeat' (first|refine c186 ?_|simp (disch:=first|assumption|omega) only[go_sem, *]|((first|apply gw_m|apply gw_q);focus (intro hb;(try simp only[nbw] at hb);simp (disch:=first|assumption|omega) only[go_sem, *];rfl))|((first|refine zAC ?_ ?_|refine zAB ?_ ?_|refine sp_C ?_ ?_|refine sp_G ?_ ?_)<;>intro _))
theorem c185 {a b:List Int}{s:Sto}(ha:a.length<4611686018427387904)(hb:b.length<4611686018427387904){Q:CR→Sto→Prop}(h:Q (.ret (.int .i64 (if a.length≠b.length then cmp a.length b.length else cmpD a.reverse b.reverse))) s):C E1 185 [.sl 0 (a.map iv) .shut,.sl 0 (b.map iv) .shut] s Q:=by
 refine zAF (md:=⟨true,false,false,false⟩) (fn:=Tryz.f185) (n:=41) (rs:=[.tmp 4]) rfl rfl rfl rfl rfl rfl rfl rfl (by simp only[go_sem, *];try rfl) (by rfl) (by simp only[go_sem]) ?_
 repeat' (first|refine c148 ?_|simp (disch:=first|assumption|omega) only[go_sem, *]|((first|apply gw_m|apply gw_q);focus (intro hb;(try simp only[nbw] at hb);simp (disch:=first|assumption|omega) only[go_sem, *];rfl))|((first|refine zAC ?_ ?_|refine zAB ?_ ?_|refine sp_C ?_ ?_|refine sp_G ?_ ?_)<;>intro _))
 ·rename_i hp
  exact zDX h (by(try clear hrec);(try clear h);grind)
 ·rename_i hp
  have hab:a.length=b.length:=by have:=of_decide_eq_true hp;omega
  refine zA0 (ι:=Nat) (fun k=>[(0,.sl 0 (a.map iv) .shut),(1,.sl 0 (b.map iv) .shut),(5,.int .i64 ((k:Int)-1))]) (fun _=>S 0 g0 []) (fun k=>k≤a.length∧cmpD a.reverse b.reverse=cmpD (a.take k).reverse (b.take k).reverse) (fun k=>k) ?_ a.length ⟨Nat.le_refl _,by rw[List.take_length,hab,List.take_length]⟩ ⟨rfl,rfl,rfl,trivial⟩ rfl
  rintro k b0 ⟨hk,he⟩ hrec
  cases k with
  | zero=>
   have hc:decide ((0:Int)≤((0:Nat):Int)-1)=false:=rfl
   repeat' (first|simp (disch:=first|assumption|omega) only[go_sem, *]|((first|apply gw_m|apply gw_q);focus (intro hb;(try simp only[nbw] at hb);simp (disch:=first|assumption|omega) only[go_sem, *];rfl))|((first|refine zAC ?_ ?_|refine zAB ?_ ?_|refine sp_C ?_ ?_|refine sp_G ?_ ?_)<;>intro _))
   exact zDX h (by(try clear hrec);(try clear h);rw[if_neg (by omega),he];rfl)
  | succ k=>
   have hz:((k+1:Nat):Int)-1=k:=by omega
   have hc:decide ((0:Int)≤k)=true:=by simp
   have hkb:k<b.length:=by omega
   have hx:a[k]?=some a[k]:=List.getElem?_eq_getElem hk
   have hy:b[k]?=some b[k]:=List.getElem?_eq_getElem hkb
   rw[List.take_succ_eq_append_getElem hk,List.take_succ_eq_append_getElem hkb,List.reverse_append,List.reverse_append,List.reverse_singleton,List.reverse_singleton,List.singleton_append,List.singleton_append,cmpD] at he
   repeat' (first|refine c148 ?_|simp (disch:=first|assumption|omega) only[go_sem, *]|((first|apply gw_m|apply gw_q);focus (intro hb;(try simp only[nbw] at hb);simp (disch:=first|assumption|omega) only[go_sem, *];rfl))|((first|refine zAC ?_ ?_|refine zAB ?_ ?_|refine sp_C ?_ ?_|refine sp_G ?_ ?_)<;>intro _))
   ·rename_i hp
    have hne:¬ a[k]=b[k]:=by simpa using hp
    have hc0:¬ cmp a[k] b[k]=0:=by simp only[cmp];grind
    exact zDX h (by(try clear hrec);(try clear h);rw[if_neg (by omega),he,if_neg hc0])
   ·rename_i hp
    have heq:a[k]=b[k]:=by simpa using hp
    have hc0:cmp a[k] b[k]=0:=by simp only[cmp];grind
    exact hrec k _ _ _ ⟨by omega,by rw[he,if_pos hc0]⟩ (by omega) ⟨rfl,rfl,rfl,trivial⟩ rfl
theorem c149 {a b:V}{s:Sto}(ha:szV a<4611686018427387904)(hb:szV b<4611686018427387904){Q:CR→Sto→Prop}(h:Q (.ret (.int .i64 (cmpI a.neg a.d b.neg b.d))) s):C E1 149 [.agg [.bool a.neg,.sl 0 (a.d.map iv) .shut],.agg [.bool b.neg,.sl 0 (b.d.map iv) .shut]] s Q:=by
 rw[zJC] at ha hb
 have ha1:a.d.length<4611686018427387904:=by omega
 have hb1:b.d.length<4611686018427387904:=by omega
 refine zAF (md:=⟨true,false,false,false⟩) (fn:=Tryz.f149) (n:=24) (rs:=[.tmp 4]) rfl rfl rfl rfl rfl rfl rfl rfl (by simp only[go_sem, *];try rfl) (by rfl) (by simp only[go_sem]) ?_
 repeat' (first|refine c185 ha1 hb1 ?_|refine c185 hb1 ha1 ?_|simp (disch:=first|assumption|omega) only[go_sem, *]|((first|apply gw_m|apply gw_q);focus (intro hb;(try simp only[nbw] at hb);simp (disch:=first|assumption|omega) only[go_sem, *];rfl))|((first|refine zAC ?_ ?_|refine zAB ?_ ?_|refine sp_C ?_ ?_|refine sp_G ?_ ?_)<;>intro _))
 ·exact zDX h (by(try clear hrec);(try clear h);simp only[cmpI];grind)
 ·exact zDX h (by(try clear hrec);(try clear h);simp only[cmpI];grind)
 ·rename_i h1 h2
  have h1:=of_decide_eq_true h1
  exact leaf h (congrArg (AV.int .i64) (by
   clear h
   rw[cmpI,if_neg (by simp[h1]),if_pos h2]
   by_cases hl:a.d.length=b.d.length
   ·simp only[hl,ne_eq,not_true_eq_false,if_false];rw[cmpD_neg b.d.reverse,Int.neg_neg]
   ·simp only[ne_eq,hl,not_false_eq_true,if_true];rw[if_pos (fun e=>hl e.symm),cmp_neg b.d.length,Int.neg_neg]))
 ·rename_i h1 h2
  have h1:=of_decide_eq_true h1
  exact leaf h (congrArg (AV.int .i64) (by
   clear h
   rw[cmpI,if_neg (by simp[h1]),if_neg (by simp[h2])]))
theorem c151 {l r:List V}{s:Sto}(hl:szVs l<4611686018427387904)(hr:szVs r<4611686018427387904)
  (hc:∀a∈l,∀b∈r,∀s Q,Q (.ret (.int .i64 (cmpV a b))) s→C E1 126 [encV a,encV b] s Q) {Q:CR→Sto→Prop} (h:Q (.ret (.int .i64 (zIJ l r))) s):C E1 151 [.sl 0 (l.map encV) .shut,.sl 0 (r.map encV) .shut] s Q:=by
 have h1:=szVs_len l
 have h2:=szVs_len r
 refine zAF (md:=⟨true,false,false,false⟩) (fn:=Tryz.f151) (n:=35) (rs:=[.tmp 4]) rfl rfl rfl rfl rfl rfl rfl rfl (by simp only[go_sem, *];try rfl) (by rfl) (by simp only[go_sem]) ?_
 repeat' (first|refine c148 ?_|simp (disch:=first|assumption|omega) only[go_sem, *]|((first|apply gw_m|apply gw_q);focus (intro hb;(try simp only[nbw] at hb);simp (disch:=first|assumption|omega) only[go_sem, *];rfl))|((first|refine zAC ?_ ?_|refine zAB ?_ ?_|refine sp_C ?_ ?_|refine sp_G ?_ ?_)<;>intro _))
 ·rename_i hp
  exact zDX h (by(try clear hrec);(try clear h);simp only[zIJ];grind)
 ·rename_i hp
  have hab:r.length=l.length:=by have:=of_decide_eq_true hp;omega
  refine zA0 (ι:=Nat) (fun i=>[(0,.sl 0 (l.map encV) .shut),(1,.sl 0 (r.map encV) .shut),(5,.int .i64 i)]) (fun _=>S 0 g0 []) (fun i=>i≤(l).length∧cmpL l r=cmpL (l.drop i) (r.drop i)) (fun i=>(l).length-i) ?_ 0 ⟨Nat.zero_le _,by first|rfl|trivial|simp⟩ ⟨rfl,rfl,rfl,trivial⟩ rfl;rintro i b ⟨hi,he⟩ hrec;rcases Nat.lt_or_ge i (l).length with hlt|hge
  ·have hlr:i<r.length:=by omega
   have hy:r[i]?=some r[i]:=List.getElem?_eq_getElem hlr
   have hm2:r[i]∈r:=List.getElem_mem hlr
   rw[List.drop_eq_getElem_cons hlr] at he
   obtain⟨hx,hmem,hcnd⟩:=ix_in hlt;rw[List.drop_eq_getElem_cons hlt] at he
   rw[cmpL] at he
   repeat' (first|refine hc _ hmem _ hm2 _ _ ?_|simp (disch:=first|assumption|omega) only[go_sem, *]|((first|apply gw_m|apply gw_q);focus (intro hb;(try simp only[nbw] at hb);simp (disch:=first|assumption|omega) only[go_sem, *];rfl))|((first|refine zAC ?_ ?_|refine zAB ?_ ?_|refine sp_C ?_ ?_|refine sp_G ?_ ?_)<;>intro _))
   ·rename_i hp2
    have hp2:=of_decide_eq_false hp2
    exact zDX h (by(try clear hrec);(try clear h);rw[zIJ,if_neg (by omega),he,if_pos hp2])
   ·rename_i hp2
    have hp2:=of_decide_eq_true hp2
    exact hrec (i+1) _ _ _ ⟨hlt,by rw[he,if_neg (by omega)]⟩ (by omega) ⟨rfl,rfl,rfl,trivial⟩ rfl
  ·have hcnd:=zSU hge;rw[List.drop_eq_nil_of_le hge] at he
   repeat' (first|simp (disch:=first|assumption|omega) only[go_sem, *]|((first|apply gw_m|apply gw_q);focus (intro hb;(try simp only[nbw] at hb);simp (disch:=first|assumption|omega) only[go_sem, *];rfl))|((first|refine zAC ?_ ?_|refine zAB ?_ ?_|refine sp_C ?_ ?_|refine sp_G ?_ ?_)<;>intro _))
   exact zDX h (by(try clear hrec);(try clear h);rw[zIJ,if_neg (by omega),he,cmpL];intro _ _ _ _ h;cases h)
theorem c126:∀(N:Nat) {a b:V} {s:Sto},szV a<N→szV a<4611686018427387904→szV b<4611686018427387904→∀{Q:CR→Sto→Prop},Q (.ret (.int .i64 (cmpV a b))) s→C E1 126 [encV a,encV b] s Q:=by
 intro N
 induction N with
 | zero=>intro a b s h;exact absurd h (Nat.not_lt_zero _)
 | succ N ih=>
  intro a b s hN ha hb Q h
  have ea:=zJC a
  have eb:=zJC b
  have k1:∀x∈a.l,∀y∈b.l,∀s Q,Q (.ret (.int .i64 (cmpV x y))) s→C E1 126 [encV x,encV y] s Q:=fun x hx y hy s Q h=>ih (by have:=szVs_mem hx;omega) (by have:=szVs_mem hx;omega) (by have:=szVs_mem hy;omega) h
  have k2:∀x∈a.m,∀y∈b.m,∀s Q,Q (.ret (.int .i64 (cmpV x y))) s→C E1 126 [encV x,encV y] s Q:=fun x hx y hy s Q h=>ih (by have:=szVs_mem hx;omega) (by have:=szVs_mem hx;omega) (by have:=szVs_mem hy;omega) h
  have k3:szVs a.l<4611686018427387904:=by omega
  have k4:szVs b.l<4611686018427387904:=by omega
  have k5:szVs a.m<4611686018427387904:=by omega
  have k6:szVs b.m<4611686018427387904:=by omega
  have hu:zBS 2 []=true:=rfl
  have hu2:zAW 2 []=[]:=rfl
  rw[zRD] at h
  clear ih
  refine zAF (md:=⟨true,false,false,false⟩) (fn:=Tryz.f126) (n:=53) (rs:=[.tmp 4]) rfl rfl rfl rfl rfl rfl rfl rfl (by simp only[go_sem, *];try rfl) (by rfl) (by simp only[go_sem]) ?_
  repeat' (first|refine c148 ?_|refine c149 ha hb ?_|refine c150 hu hu2 ?_|refine c151 k3 k4 k1 ?_|refine c151 k5 k6 k2 ?_|simp (disch:=first|assumption|omega) only[go_sem, *]|((first|apply gw_m|apply gw_q);focus (intro hb;(try simp only[nbw] at hb);simp (disch:=first|assumption|omega) only[go_sem, *];rfl))|((first|refine zAC ?_ ?_|refine zAB ?_ ?_|refine sp_C ?_ ?_|refine sp_G ?_ ?_)<;>intro _))
  all_goals exact leaf h (congrArg (AV.int .i64) (by clear h k1 k2;grind))
theorem zGT (a b:Str):bytesLt a b=ltS a b:=by
 unfold ltS;rw[← cmpS_eq]
 cases bytesLt a b with
 | true=>rfl
 | false=>cases bytesEq a b<;>rfl
theorem b_slt {E:Env}{t:TypeId}{c:Bool}{s:Sto}{x y:Str}:binA E .lss t c (.str x) (.str y) s=some (.bool (ltS x y)):=by simp only[binA,zP2,zGT]
theorem b_sgt {E:Env}{t:TypeId}{c:Bool}{s:Sto}{x y:Str}:binA E .gtr t c (.str x) (.str y) s=some (.bool (ltS y x)):=by simp only[binA,zP2,zGT]
attribute [go_sem] b_slt b_sgt
theorem c179 {a:Int}{s:Sto}{Q:CR→Sto→Prop}(h:Q (.ret (.bool false)) s):C E1 179 [.int .i64 a] s Q:=by
 refine zAF (md:=⟨true,false,false,false⟩) (fn:=Tryz.f179) (n:=6) (rs:=[.tmp 2]) rfl rfl rfl rfl rfl rfl rfl rfl (by simp only[go_sem, *];try rfl) (by rfl) (by simp only[go_sem]) ?_
 repeat' (first|simp (disch:=first|assumption|omega) only[go_sem, *]|((first|apply gw_m|apply gw_q);focus (intro hs;(try simp only[nbs] at hs);simp (disch:=first|assumption|omega) only[go_sem, *];rfl))|((first|refine zAC ?_ ?_|refine zAB ?_ ?_|refine sp_C ?_ ?_|refine sp_G ?_ ?_)<;>(intro hs;try simp only[nbs] at hs)))
theorem c180 {a:Str}{s:Sto}{Q:CR→Sto→Prop}(h:Q (.ret (.bool false)) s):C E1 180 [.str a] s Q:=by
 refine zAF (md:=⟨true,false,false,false⟩) (fn:=Tryz.f180) (n:=6) (rs:=[.tmp 2]) rfl rfl rfl rfl rfl rfl rfl rfl (by simp only[go_sem, *];try rfl) (by rfl) (by simp only[go_sem]) ?_
 repeat' (first|simp (disch:=first|assumption|omega) only[go_sem, *]|((first|apply gw_m|apply gw_q);focus (intro hs;(try simp only[nbs] at hs);simp (disch:=first|assumption|omega) only[go_sem, *];rfl))|((first|refine zAC ?_ ?_|refine zAB ?_ ?_|refine sp_C ?_ ?_|refine sp_G ?_ ?_)<;>(intro hs;try simp only[nbs] at hs)))
theorem c136 {a b:Int}{s:Sto}{Q:CR→Sto→Prop}(h:Q (.ret (.int .i64 (cmp a b))) s):C E1 136 [.int .i64 a,.int .i64 b] s Q:=by
 refine zAF (md:=⟨true,false,false,false⟩) (fn:=Tryz.f136) (n:=20) (rs:=[.tmp 4]) rfl rfl rfl rfl rfl rfl rfl rfl (by simp only[go_sem, *];try rfl) (by rfl) (by simp only[go_sem]) ?_
 repeat' (first|refine c179 ?_|simp (disch:=first|assumption|omega) only[go_sem, *]|((first|apply gw_m|apply gw_q);focus (intro hs;(try simp only[nbs] at hs);simp (disch:=first|assumption|omega) only[go_sem, *];rfl))|((first|refine zAC ?_ ?_|refine zAB ?_ ?_|refine sp_C ?_ ?_|refine sp_G ?_ ?_)<;>(intro hs;try simp only[nbs] at hs)))
 all_goals exact zDX h (by(try clear hrec);(try clear h);simp only[cmp];grind)
theorem c138 {a b:Str}{s:Sto}{Q:CR→Sto→Prop}(h:Q (.ret (.int .i64 (cmpS a b))) s):C E1 138 [.str a,.str b] s Q:=by
 have h1:=cmpS_neg a b
 have h2:=cmpS_rng a b
 refine zAF (md:=⟨true,false,false,false⟩) (fn:=Tryz.f138) (n:=20) (rs:=[.tmp 4]) rfl rfl rfl rfl rfl rfl rfl rfl (by simp only[go_sem, *];try rfl) (by rfl) (by simp only[go_sem]) ?_
 repeat' (first|refine c180 ?_|simp (disch:=first|assumption|omega) only[go_sem, *]|((first|apply gw_m|apply gw_q);focus (intro hs;(try simp only[nbs] at hs);simp (disch:=first|assumption|omega) only[go_sem, *];rfl))|((first|refine zAC ?_ ?_|refine zAB ?_ ?_|refine sp_C ?_ ?_|refine sp_G ?_ ?_)<;>(intro hs;try simp only[nbs] at hs)))
 all_goals exact zDX h (by(try clear hrec);(try clear h);simp only[ltS] at *;grind)
theorem c135 {a b:Int}{s:Sto}{o:Own}{Q:CR→Sto→Prop}(h:Q (.ret (.int .i64 (if a≠0 then a else b))) s):C E1 135 [.sl 0 [.int .i64 a,.int .i64 b] o] s Q:=by
 refine zAF (md:=⟨true,false,false,false⟩) (fn:=Tryz.f135) (n:=18) (rs:=[.tmp 2]) rfl rfl rfl rfl rfl rfl rfl rfl (by simp only[go_sem, *];try rfl) (by rfl) (by simp only[go_sem]) ?_
 repeat' (first|refine zZR ?_|simp (disch:=first|assumption|omega) only[go_sem, *]|((first|apply gw_m|apply gw_q);focus (intro hs;(try simp only[nbs] at hs);simp (disch:=first|assumption|omega) only[go_sem, *];rfl))|((first|refine zAC ?_ ?_|refine zAB ?_ ?_|refine sp_C ?_ ?_|refine sp_G ?_ ?_)<;>(intro hs;try simp only[nbs] at hs)))
 all_goals exact zDX h (by(try clear hrec);(try clear h);grind)
theorem c137 {a b:V}{s:Sto}(ha:szV a<1073741824)(hb:szV b<1073741824){Q:CR→Sto→Prop}(h:Q (.ret (.int .i64 (cmpI a.neg a.d b.neg b.d))) s):C E1 137 [.agg [.bool a.neg,.sl 0 (a.d.map iv) .shut],.agg [.bool b.neg,.sl 0 (b.d.map iv) .shut]] s Q:=by
 rw[zJC] at ha hb
 have ha1:a.d.length<1073741824:=by omega
 have hb1:b.d.length<1073741824:=by omega
 clear ha hb
 refine zAF (md:=⟨true,false,false,false⟩) (fn:=Tryz.f137) (n:=49) (rs:=[.tmp 4]) rfl rfl rfl rfl rfl rfl rfl rfl (by simp only[go_sem, *];try rfl) (by rfl) (by simp only[go_sem]) ?_
 repeat' (first|refine c136 ?_|simp (disch:=first|assumption|omega) only[go_sem, *]|((first|apply gw_m|apply gw_q);focus (intro hs;(try simp only[nbs] at hs);simp (disch:=first|assumption|omega) only[go_sem, *];rfl))|((first|refine zAC ?_ ?_|refine zAB ?_ ?_|refine sp_C ?_ ?_|refine sp_G ?_ ?_)<;>(intro hs;try simp only[nbs] at hs)))
 ·exact zDX h (by(try clear hrec);(try clear h);simp only[cmpI];grind)
 ·exact zDX h (by(try clear hrec);(try clear h);simp only[cmpI];grind)
 have hI:cmpI a.neg a.d b.neg b.d=(if b.neg=true then -(if a.d.length≠b.d.length then cmp a.d.length b.d.length else cmpD a.d.reverse b.d.reverse) else(if a.d.length≠b.d.length then cmp a.d.length b.d.length else cmpD a.d.reverse b.d.reverse)):=by
  simp only[cmpI];rw[if_neg (by simp[hs]),hs]
 rw[hI] at h
 clear hI hs
 refine zA0 (ι:=Nat×Int) (fun x=>[(2,.ptr 0 0),(3,.ptr 1 0),(5,.int .i64 x.2),(6,.int .i64 ((x.1:Int)-1))]) (fun _=>S 2 (updB (updB g0 0 (Box.cells 34 [AV.bool b.neg,AV.sl 0 (List.map iv a.d) Own.shut])) 1 (Box.cells 34 [AV.bool b.neg,AV.sl 0 (List.map iv b.d) Own.shut])) [])
  (fun x=>(-1≤x.2∧x.2≤1)∧x.1≤a.d.length∧(x.2=0→b.d.length=a.d.length)∧(if a.d.length≠b.d.length then cmp a.d.length b.d.length else cmpD a.d.reverse b.d.reverse)=(if x.2=0 then cmpD (a.d.take x.1).reverse (b.d.take x.1).reverse else x.2)) (fun x=>x.1) ?_ (a.d.length,cmp a.d.length b.d.length)
  ⟨cmp_rng _ _,Nat.le_refl _,fun e=>by have:=(cmp_zero _ _).1 e;omega,by
   simp only
   by_cases e:a.d.length=b.d.length
   ·rw[if_neg (by simp[e]),if_pos ((cmp_zero _ _).2 (by omega)),List.take_length,e,List.take_length]
   ·rw[if_pos e,if_neg (fun e2=>e (by have:=(cmp_zero _ _).1 e2;omega))]⟩ ⟨rfl,rfl,rfl,rfl,trivial⟩ rfl
 rintro⟨k,c⟩ b0 ⟨hrg,hk,hlen,he⟩ hrec
 simp only at hrg hk hlen he
 obtain⟨hr1,hr2⟩:=hrg
 rw[he] at h
 by_cases hc:c=0
 ·subst hc
  rw[if_pos rfl] at h he
  have hlen:=hlen rfl
  cases k with
  | zero=>
   have hz:decide ((0:Int)≤((0:Nat):Int)-1)=false:=rfl
   cases hbn:b.neg with
   | true=>
    rw[hbn] at hrec
    repeat' (first|simp (disch:=first|assumption|omega) only[go_sem, *]|((first|apply gw_m|apply gw_q);focus (intro hs;(try simp only[nbs] at hs);simp (disch:=first|assumption|omega) only[go_sem, *];rfl))|((first|refine zAC ?_ ?_|refine zAB ?_ ?_|refine sp_C ?_ ?_|refine sp_G ?_ ?_)<;>(intro hs;try simp only[nbs] at hs)))
    rw[if_pos hbn] at h
    exact h
   | false=>
    rw[hbn] at hrec
    repeat' (first|simp (disch:=first|assumption|omega) only[go_sem, *]|((first|apply gw_m|apply gw_q);focus (intro hs;(try simp only[nbs] at hs);simp (disch:=first|assumption|omega) only[go_sem, *];rfl))|((first|refine zAC ?_ ?_|refine zAB ?_ ?_|refine sp_C ?_ ?_|refine sp_G ?_ ?_)<;>(intro hs;try simp only[nbs] at hs)))
    rw[if_neg (by simp[hbn])] at h
    exact h
  | succ k=>
   have hz:((k+1:Nat):Int)-1=k:=by omega
   have hcn:decide ((0:Int)≤k)=true:=by simp
   have hkb:k<b.d.length:=by omega
   have hx:a.d[k]?=some a.d[k]:=List.getElem?_eq_getElem hk
   have hy:b.d[k]?=some b.d[k]:=List.getElem?_eq_getElem hkb
   have hrg2:=cmp_rng a.d[k] b.d[k]
   rw[List.take_succ_eq_append_getElem hk,List.take_succ_eq_append_getElem hkb,List.reverse_append,List.reverse_append,List.reverse_singleton,List.reverse_singleton,List.singleton_append,List.singleton_append,cmpD] at he
   clear hlen
   have hlen:b.d.length=a.d.length∨True:=.inr trivial
   repeat' (first|refine c136 ?_|simp (disch:=first|assumption|omega) only[go_sem, *]|((first|apply gw_m|apply gw_q);focus (intro hs;(try simp only[nbs] at hs);simp (disch:=first|assumption|omega) only[go_sem, *];rfl))|((first|refine zAC ?_ ?_|refine zAB ?_ ?_|refine sp_C ?_ ?_|refine sp_G ?_ ?_)<;>(intro hs;try simp only[nbs] at hs)))
   exact hrec (k,cmp a.d[k] b.d[k]) _ _ _ ⟨hrg2,by omega,fun _=>by omega,he⟩ (by simp) ⟨rfl,rfl,rfl,rfl,trivial⟩ rfl
 ·have hcc:decide (c=0)=false:=decide_eq_false hc
  rw[if_neg hc] at h he
  clear hc
  cases hbn:b.neg with
  | true=>
   rw[hbn] at hrec
   repeat' (first|simp (disch:=first|assumption|omega) only[go_sem, *]|((first|apply gw_m|apply gw_q);focus (intro hs;(try simp only[nbs] at hs);simp (disch:=first|assumption|omega) only[go_sem, *];rfl))|((first|refine zAC ?_ ?_|refine zAB ?_ ?_|refine sp_C ?_ ?_|refine sp_G ?_ ?_)<;>(intro hs;try simp only[nbs] at hs)))
   rw[if_pos hbn] at h
   exact leaf h (congrArg (AV.int .i64) (by omega))
  | false=>
   rw[hbn] at hrec
   repeat' (first|simp (disch:=first|assumption|omega) only[go_sem, *]|((first|apply gw_m|apply gw_q);focus (intro hs;(try simp only[nbs] at hs);simp (disch:=first|assumption|omega) only[go_sem, *];rfl))|((first|refine zAC ?_ ?_|refine zAB ?_ ?_|refine sp_C ?_ ?_|refine sp_G ?_ ?_)<;>(intro hs;try simp only[nbs] at hs)))
   rw[if_neg (by simp[hbn])] at h
   exact h
theorem callV_f {t:Nat}{f:FuncId}{a b args:List AV}{s:Sto}:zJQ (.func t (.func f) a b) args s=.call f (a++(args++b)) s:=by simp only[zJQ,zBB]
theorem lmap_c {α β:Type}(f:α→β)(a:α)(l:List α):lmap f (a :: l)=f a :: lmap f l:=rfl
theorem lmap_n {α β:Type}(f:α→β):lmap f ([]:List α)=[]:=rfl
attribute [go_sem] callV_f zEE noOslP noOslC zLV lmap_c lmap_n
attribute [local go_sem] noOsl noOsl1 shutV shut1
theorem c139 {l r:List V}{m:Nat}{g:Nat→Box}{u:List (Nat×Nat)}(hu:zBS m u=true)(hu2:zAW m u=u)(hl:szVs l<1073741824)(hr:szVs r<1073741824)
  (hc:∀a∈l,∀b∈r,∀s Q,Q (.ret (.int .i64 (cmpV a b))) s→C E1 101 [encV a,encV b] s Q) {Q:CR→Sto→Prop} (h:Q (.ret (.int .i64 (zIJ l r))) (S m g u)):C E1 139 [.sl 0 (l.map encV) .shut,.sl 0 (r.map encV) .shut,.func 0 (.func 101) [] []] (S m g u) Q:=by
 have h1:=szVs_len l
 have h2:=szVs_len r
 refine zAM (md:=⟨false,false,false,false⟩) (fn:=Tryz.f139) (n:=37) (rs:=[.tmp 6]) rfl rfl rfl rfl rfl rfl rfl rfl (by simp only[go_sem, *];try rfl) (by rfl) ?_
 repeat' (first|refine c136 ?_|simp (disch:=first|assumption|omega) only[go_sem, *]|((first|apply gw_m|apply gw_q);focus (intro hs;(try simp only[nbs] at hs);simp (disch:=first|assumption|omega) only[go_sem, *];rfl))|((first|refine zAC ?_ ?_|refine zAB ?_ ?_|refine sp_C ?_ ?_|refine sp_G ?_ ?_)<;>(intro hs;try simp only[nbs] at hs)))
 ·exact zDX h (by(try clear hrec);(try clear h);have:=cmp_zero l.length r.length;simp only[zIJ];grind)
 ·have hab:r.length=l.length:=by have:=(cmp_zero _ _).1 hs;omega
  clear hs
  refine zA0 (ι:=Nat) (fun i=>[(0,.sl 0 (l.map encV) .shut),(1,.sl 0 (r.map encV) .shut),(2,.func 0 (.func 101) [] []),(19,.int .i64 l.length),(20,.int .i64 i)]) (fun _=>S m g u) (fun i=>i≤(l).length∧cmpL l r=cmpL (l.drop i) (r.drop i)) (fun i=>(l).length-i) ?_ 0 ⟨Nat.zero_le _,by first|rfl|trivial|simp⟩ ⟨rfl,rfl,rfl,rfl,rfl,trivial⟩ rfl;rintro i b ⟨hi,he⟩ hrec;rcases Nat.lt_or_ge i (l).length with hlt|hge
  ·have hlr:i<r.length:=by omega
   have hy:r[i]?=some r[i]:=List.getElem?_eq_getElem hlr
   have hm2:r[i]∈r:=List.getElem_mem hlr
   rw[List.drop_eq_getElem_cons hlr] at he
   obtain⟨hx,hmem,hcnd⟩:=ix_in hlt;rw[List.drop_eq_getElem_cons hlt] at he
   rw[cmpL] at he
   repeat' (first|refine hc _ hmem _ hm2 _ _ ?_|simp (disch:=first|assumption|omega) only[go_sem, *]|((first|apply gw_m|apply gw_q);focus (intro hs;(try simp only[nbs] at hs);simp (disch:=first|assumption|omega) only[go_sem, *];rfl))|((first|refine zAC ?_ ?_|refine zAB ?_ ?_|refine sp_C ?_ ?_|refine sp_G ?_ ?_)<;>(intro hs;try simp only[nbs] at hs)))
   ·exact zDX h (by(try clear hrec);(try clear h);rw[zIJ,if_neg (by omega),he,if_pos hs])
   ·exact hrec (i+1) _ _ _ ⟨hlt,by rw[he,if_neg (by omega)]⟩ (by omega) ⟨rfl,rfl,rfl,rfl,rfl,trivial⟩ rfl
  ·have hcnd:=zSU hge;rw[List.drop_eq_nil_of_le hge] at he
   repeat' (first|simp (disch:=first|assumption|omega) only[go_sem, *]|((first|apply gw_m|apply gw_q);focus (intro hs;(try simp only[nbs] at hs);simp (disch:=first|assumption|omega) only[go_sem, *];rfl))|((first|refine zAC ?_ ?_|refine zAB ?_ ?_|refine sp_C ?_ ?_|refine sp_G ?_ ?_)<;>(intro hs;try simp only[nbs] at hs)))
   exact zDX h (by(try clear hrec);(try clear h);rw[zIJ,if_neg (by omega),he,cmpL];intro _ _ _ _ h;cases h)
theorem c101:∀(N:Nat) {a b:V} {s:Sto},szV a<N→szV a<1073741824→szV b<1073741824→∀{Q:CR→Sto→Prop},Q (.ret (.int .i64 (cmpV a b))) s→C E1 101 [encV a,encV b] s Q:=by
 intro N
 induction N with
 | zero=>intro a b s h;exact absurd h (Nat.not_lt_zero _)
 | succ N ih=>
  intro a b s hN ha hb Q h
  have ea:=zJC a
  have eb:=zJC b
  have k1:∀x∈a.l,∀y∈b.l,∀s Q,Q (.ret (.int .i64 (cmpV x y))) s→C E1 101 [encV x,encV y] s Q:=fun x hx y hy s Q h=>ih (by have:=szVs_mem hx;omega) (by have:=szVs_mem hx;omega) (by have:=szVs_mem hy;omega) h
  have k2:∀x∈a.m,∀y∈b.m,∀s Q,Q (.ret (.int .i64 (cmpV x y))) s→C E1 101 [encV x,encV y] s Q:=fun x hx y hy s Q h=>ih (by have:=szVs_mem hx;omega) (by have:=szVs_mem hx;omega) (by have:=szVs_mem hy;omega) h
  have k3:szVs a.l<1073741824:=by omega
  have k4:szVs b.l<1073741824:=by omega
  have k5:szVs a.m<1073741824:=by omega
  have k6:szVs b.m<1073741824:=by omega
  have hu:zBS 2 []=true:=rfl
  have hu2:zAW 2 []=[]:=rfl
  rw[zRD] at h
  clear ih
  refine zAF (md:=⟨true,false,false,false⟩) (fn:=Tryz.f101) (n:=51) (rs:=[.tmp 4]) rfl rfl rfl rfl rfl rfl rfl rfl (by simp only[go_sem, *];try rfl) (by rfl) (by simp only[go_sem]) ?_
  repeat' (first|refine c136 ?_|refine c135 ?_|refine c137 ha hb ?_|refine c138 ?_|refine c139 hu hu2 k3 k4 k1 ?_|refine c139 hu hu2 k5 k6 k2 ?_|simp (disch:=first|assumption|omega) only[go_sem, *]|((first|apply gw_m|apply gw_q);focus (intro hs;(try simp only[nbs] at hs);simp (disch:=first|assumption|omega) only[go_sem, *];rfl))|((first|refine zAC ?_ ?_|refine zAB ?_ ?_|refine sp_C ?_ ?_|refine sp_G ?_ ?_)<;>(intro hs;try simp only[nbs] at hs)))
  all_goals exact leaf h (congrArg (AV.int .i64) (by clear h k1 k2;have:=cmp_zero a.kind b.kind;have:=cmp_zero a.n b.n;grind))
end Go.Ab.X
namespace Pl
def cmpSt:List V→List V→Int
 | [],[]=>0
 | [],_ :: _=>-1
 | _ :: _,[]=>1
 | a :: x,b :: y=>if cmpV a b≠0 then cmpV a b else cmpSt x y
theorem zPB {α:Type}{r:List α}{i:Nat}(h:i<r.length):∃a b,r.drop i=a :: b:=⟨_,_,List.drop_eq_getElem_cons h⟩
end Pl
namespace Go.Ab.X
open Go Go.Ab Go.Proofs Pl
set_option maxRecDepth 100000
theorem c127 {l r:List V}{s:Sto}(hl:l.length<1073741824)(hr:r.length<1073741824)
  (hc:∀a∈l,∀b∈r,∀s Q,Q (.ret (.int .i64 (cmpV a b))) s→C E1 101 [encV a,encV b] s Q) {Q:CR→Sto→Prop} (h:Q (.ret (.int .i64 (cmpSt l r))) s):C E1 127 [.sl 0 (l.map encV) .shut,.sl 0 (r.map encV) .shut,.func 0 (.func 101) [] []] s Q:=by
 refine zAF (md:=⟨true,false,false,false⟩) (fn:=Tryz.f127) (n:=39) (rs:=[.tmp 6]) rfl rfl rfl rfl rfl rfl rfl rfl (by simp only[go_sem, *];try rfl) (by rfl) (by simp only[go_sem]) ?_
 repeat' (first|simp (disch:=first|assumption|omega) only[go_sem, *]|((first|apply gw_m|apply gw_q);focus (intro hs;(try simp only[nbs] at hs);simp (disch:=first|assumption|omega) only[go_sem, *];rfl))|((first|refine zAC ?_ ?_|refine zAB ?_ ?_|refine sp_C ?_ ?_|refine sp_G ?_ ?_)<;>(intro hs;try simp only[nbs] at hs)))
 refine zA0 (ι:=Nat×(Nat→Box)) (fun i=>[(0,.sl 0 (l.map encV) .shut),(1,.sl 0 (r.map encV) .shut),(2,.func 0 (.func 101) [] []),(11,.sl 0 (l.map encV) .shut),(12,.int .i64 l.length),(13,.int .i64 i.1)]) (fun i=>S (2*i.1) i.2 []) (fun i=>i.1≤l.length∧i.1≤r.length∧cmpSt l r=cmpSt (l.drop i.1) (r.drop i.1)) (fun i=>l.length-i.1) ?_ (0,g0) ⟨Nat.zero_le _,Nat.zero_le _,rfl⟩ ⟨rfl,rfl,rfl,rfl,rfl,rfl,trivial⟩ rfl
 rintro⟨i,g⟩ b ⟨hi,hir,he⟩ hrec
 simp only at hi hir he
 rcases Nat.lt_or_ge i l.length with hlt|hge
 ·obtain⟨hx,hmem,hcnd⟩:=ix_in hlt;rw[List.drop_eq_getElem_cons hlt] at he
  have hm:2*i<4611686018427387904:=by omega
  rcases Nat.lt_or_ge i r.length with hlr|hgr
  ·have hy:r[i]?=some r[i]:=List.getElem?_eq_getElem hlr
   have hm2:r[i]∈r:=List.getElem_mem hlr
   have hc2:decide ((r.length:Int)≤i)=false:=by simp;omega
   rw[List.drop_eq_getElem_cons hlr,cmpSt] at he
   repeat' (first|refine hc _ hmem _ hm2 _ _ ?_|simp (disch:=first|assumption|omega) only[go_sem, *]|((first|apply gw_m|apply gw_q);focus (intro hs;(try simp only[nbs] at hs);simp (disch:=first|assumption|omega) only[go_sem, *];rfl))|((first|refine zAC ?_ ?_|refine zAB ?_ ?_|refine sp_C ?_ ?_|refine sp_G ?_ ?_)<;>(intro hs;try simp only[nbs] at hs)))
   ·exact zDX h (by(try clear hrec);(try clear h);rw[he,if_pos hs])
   ·exact hrec (i+1,_) _ _ _ ⟨hlt,hlr,by rw[he,if_neg (by omega)]⟩ (by simp only;omega) ⟨rfl,rfl,rfl,rfl,rfl,rfl,trivial⟩ rfl
  ·have hc2:decide ((r.length:Int)≤i)=true:=by simp;omega
   rw[List.drop_eq_nil_of_le hgr] at he
   repeat' (first|simp (disch:=first|assumption|omega) only[go_sem, *]|((first|apply gw_m|apply gw_q);focus (intro hs;(try simp only[nbs] at hs);simp (disch:=first|assumption|omega) only[go_sem, *];rfl))|((first|refine zAC ?_ ?_|refine zAB ?_ ?_|refine sp_C ?_ ?_|refine sp_G ?_ ?_)<;>(intro hs;try simp only[nbs] at hs)))
   exact zDX h (by(try clear hrec);(try clear h);rw[he];rfl)
 ·have hcnd:=zSU hge;rw[List.drop_eq_nil_of_le hge] at he
  repeat' (first|simp (disch:=first|assumption|omega) only[go_sem, *]|((first|apply gw_m|apply gw_q);focus (intro hs;(try simp only[nbs] at hs);simp (disch:=first|assumption|omega) only[go_sem, *];rfl))|((first|refine zAC ?_ ?_|refine zAB ?_ ?_|refine sp_C ?_ ?_|refine sp_G ?_ ?_)<;>(intro hs;try simp only[nbs] at hs)))
  all_goals first|(exfalso;omega)|exact zDX h (by(try clear hrec);(try clear h);obtain⟨a,b,hd⟩:=zPB (r:=r) (i:=i) (by omega);rw[he,hd];rfl)|exact zDX h (by(try clear hrec);(try clear h);rw[he,List.drop_eq_nil_of_le (by omega)];rfl)
theorem c90 {l r:List V}{s:Sto}(hl:szVs l<1073741824)(hr:szVs r<1073741824){Q:CR→Sto→Prop}(h:Q (.ret (.int .i64 (cmpSt l r))) s):C E1 90 [.sl 0 (l.map encV) .shut,.sl 0 (r.map encV) .shut] s Q:=by
 have h1:=szVs_len l
 have h2:=szVs_len r
 have hc:∀a∈l,∀b∈r,∀s Q,Q (.ret (.int .i64 (cmpV a b))) s→C E1 101 [encV a,encV b] s Q:=fun a ha b hb s Q hq=>c101 _ (Nat.lt_succ_self _) (by have:=szVs_mem ha;omega) (by have:=szVs_mem hb;omega) hq
 refine zAF (md:=⟨true,false,false,false⟩) (fn:=Tryz.f90) (n:=8) (rs:=[.tmp 4]) rfl rfl rfl rfl rfl rfl rfl rfl (by simp only[go_sem, *];try rfl) (by rfl) (by simp only[go_sem]) ?_
 repeat' (first|refine c127 (by omega) (by omega) hc ?_|simp (disch:=first|assumption|omega) only[go_sem, *]|((first|apply gw_m|apply gw_q);focus (intro hs;(try simp only[nbs] at hs);simp (disch:=first|assumption|omega) only[go_sem, *];rfl))|((first|refine zAC ?_ ?_|refine zAB ?_ ?_|refine sp_C ?_ ?_|refine sp_G ?_ ?_)<;>(intro hs;try simp only[nbs] at hs)))
theorem c55 {l r:List V}{s:Sto}(hl:szVs l<1073741824)(hr:szVs r<1073741824){Q:CR→Sto→Prop}(h:Q (.ret (.bool (decide (cmpSt l r=0)))) s):C E1 55 [.sl 0 (l.map encV) .shut,.sl 0 (r.map encV) .shut] s Q:=by
 refine zAF (md:=⟨true,false,false,false⟩) (fn:=Tryz.f55) (n:=9) (rs:=[.tmp 4]) rfl rfl rfl rfl rfl rfl rfl rfl (by simp only[go_sem, *];try rfl) (by rfl) (by simp only[go_sem]) ?_
 repeat' (first|refine c90 hl hr ?_|simp (disch:=first|assumption|omega) only[go_sem, *]|((first|apply gw_m|apply gw_q);focus (intro hs;(try simp only[nbs] at hs);simp (disch:=first|assumption|omega) only[go_sem, *];rfl))|((first|refine zAC ?_ ?_|refine zAB ?_ ?_|refine sp_C ?_ ?_|refine sp_G ?_ ?_)<;>(intro hs;try simp only[nbs] at hs)))
theorem c89 {l r:List V}{s:Sto}(hl:szVs l<1073741824)(hr:szVs r<1073741824){Q:CR→Sto→Prop}(h:Q (.ret (.int .i64 (cmpSt l r))) s):C E1 89 [.sl 0 (l.map encV) .shut,.sl 0 (r.map encV) .shut] s Q:=by
 have h1:=szVs_len l
 have h2:=szVs_len r
 have hc:∀a∈l,∀b∈r,∀s Q,Q (.ret (.int .i64 (cmpV a b))) s→C E1 126 [encV a,encV b] s Q:=fun a ha b hb s Q hq=>c126 _ (Nat.lt_succ_self _) (by have:=szVs_mem ha;omega) (by have:=szVs_mem hb;omega) hq
 refine zAF (md:=⟨true,false,false,false⟩) (fn:=Tryz.f89) (n:=41) (rs:=[.tmp 4]) rfl rfl rfl rfl rfl rfl rfl rfl (by simp only[go_sem, *];try rfl) (by rfl) (by simp only[go_sem]) ?_
 repeat' (first|simp (disch:=first|assumption|omega) only[go_sem, *]|((first|apply gw_m|apply gw_q);focus (intro hs;(try simp only[nbs] at hs);simp (disch:=first|assumption|omega) only[go_sem, *];rfl))|((first|refine zAC ?_ ?_|refine zAB ?_ ?_|refine sp_C ?_ ?_|refine sp_G ?_ ?_)<;>(intro hs;try simp only[nbs] at hs)))
 refine zA0 (ι:=Nat) (fun i=>[(0,.sl 0 (l.map encV) .shut),(1,.sl 0 (r.map encV) .shut),(5,.int .i64 i)]) (fun _=>S 0 g0 []) (fun i=>i≤l.length∧i≤r.length∧cmpSt l r=cmpSt (l.drop i) (r.drop i)) (fun i=>l.length-i) ?_ 0 ⟨Nat.zero_le _,Nat.zero_le _,rfl⟩ ⟨rfl,rfl,rfl,trivial⟩ rfl
 rintro i b ⟨hi,hir,he⟩ hrec
 rcases Nat.lt_or_ge i l.length with hlt|hge
 ·obtain⟨hx,hmem,hcnd⟩:=ix_in hlt;rw[List.drop_eq_getElem_cons hlt] at he
  rcases Nat.lt_or_ge i r.length with hlr|hgr
  ·have hy:r[i]?=some r[i]:=List.getElem?_eq_getElem hlr
   have hm2:r[i]∈r:=List.getElem_mem hlr
   have hc2:decide ((i:Int)<r.length)=true:=by simp;omega
   rw[List.drop_eq_getElem_cons hlr,cmpSt] at he
   repeat' (first|refine hc _ hmem _ hm2 _ _ ?_|simp (disch:=first|assumption|omega) only[go_sem, *]|((first|apply gw_m|apply gw_q);focus (intro hs;(try simp only[nbs] at hs);simp (disch:=first|assumption|omega) only[go_sem, *];rfl))|((first|refine zAC ?_ ?_|refine zAB ?_ ?_|refine sp_C ?_ ?_|refine sp_G ?_ ?_)<;>(intro hs;try simp only[nbs] at hs)))
   ·exact zDX h (by(try clear hrec);(try clear h);rw[he,if_pos hs])
   ·exact hrec (i+1) _ _ _ ⟨hlt,hlr,by rw[he,if_neg (by omega)]⟩ (by omega) ⟨rfl,rfl,rfl,trivial⟩ rfl
  ·have hc2:decide ((i:Int)<r.length)=false:=by simp;omega
   rw[List.drop_eq_nil_of_le hgr] at he
   repeat' (first|simp (disch:=first|assumption|omega) only[go_sem, *]|((first|apply gw_m|apply gw_q);focus (intro hs;(try simp only[nbs] at hs);simp (disch:=first|assumption|omega) only[go_sem, *];rfl))|((first|refine zAC ?_ ?_|refine zAB ?_ ?_|refine sp_C ?_ ?_|refine sp_G ?_ ?_)<;>(intro hs;try simp only[nbs] at hs)))
   all_goals first|omega|exact zDX h (by(try clear hrec);(try clear h);rw[he];rfl)
 ·have hcnd:=zSU hge;rw[List.drop_eq_nil_of_le hge] at he
  repeat' (first|simp (disch:=first|assumption|omega) only[go_sem, *]|((first|apply gw_m|apply gw_q);focus (intro hs;(try simp only[nbs] at hs);simp (disch:=first|assumption|omega) only[go_sem, *];rfl))|((first|refine zAC ?_ ?_|refine zAB ?_ ?_|refine sp_C ?_ ?_|refine sp_G ?_ ?_)<;>(intro hs;try simp only[nbs] at hs)))
  all_goals first|(exfalso;omega)|exact zDX h (by(try clear hrec);(try clear h);obtain⟨a,b,hd⟩:=zPB (r:=r) (i:=i) (by omega);rw[he,hd];rfl)|exact zDX h (by(try clear hrec);(try clear h);rw[he,List.drop_eq_nil_of_le (by omega)];rfl)|omega
theorem c52 {l r:List V}{s:Sto}(hl:szVs l<1073741824)(hr:szVs r<1073741824){Q:CR→Sto→Prop}(h:Q (.ret (.bool (decide (cmpSt l r=0)))) s):C E1 52 [.sl 0 (l.map encV) .shut,.sl 0 (r.map encV) .shut] s Q:=by
 refine zAF (md:=⟨true,false,false,false⟩) (fn:=Tryz.f52) (n:=9) (rs:=[.tmp 4]) rfl rfl rfl rfl rfl rfl rfl rfl (by simp only[go_sem, *];try rfl) (by rfl) (by simp only[go_sem]) ?_
 repeat' (first|refine c89 hl hr ?_|simp (disch:=first|assumption|omega) only[go_sem, *]|((first|apply gw_m|apply gw_q);focus (intro hs;(try simp only[nbs] at hs);simp (disch:=first|assumption|omega) only[go_sem, *];rfl))|((first|refine zAC ?_ ?_|refine zAB ?_ ?_|refine sp_C ?_ ?_|refine sp_G ?_ ?_)<;>(intro hs;try simp only[nbs] at hs)))
end Go.Ab.X
namespace Pl
def isL (a:Las):Bool:=decide (1≤(a.st.length:Int))&&(decide ((a.st.length:Int)≤1000)&&(decide (0≤a.back)&&decide (a.back<a.st.length)))
def askE (a:Las)(right:Bool)(long:Int):Int:=if isL a=false then 130 else if right=false then 1 else if 1000<long then 2 else 0
end Pl
namespace Go.Ab
open Go Pl
def slSt (l:List (List V)):AV:=.sl 0 (l.map zAD) .shut
attribute [go_sem] slSt
theorem encLas_eq (a:Las):zAK a=.agg (zAN a):=rfl
theorem zZB (a:Las):cellsOf (zAK a)=zAN a:=rfl
theorem flat_Las (a:Las):flatC (zAN a)=true:=rfl
theorem llen_Las (a:Las):llen (zAN a)=2:=rfl
theorem zVL (a:Las):tops (zAN a)=0:=rfl
theorem top_Las (a:Las):top (zAK a)=0:=rfl
theorem zV9 (a:Las)(s:Sto):zBA s (zAK a)=some (zAK a,s):=rfl
theorem zWD (a:Las)(s:Sto):zC1 s (zAN a)=some (zAN a,s):=rfl
theorem zBV {m k n:Nat}{g:Nat→Box}{u:List (Nat×Nat)}{l:List (List V)}{b:Int}{sl:Bool}(hk:k<m)(hg:g k=.row 35 1 (l.map zAD) sl)(hl:n=l.length) :
  zBA (S m g u) (.agg [.osl k 0 n,.int .i64 b])=some (zAK ⟨l,b⟩,S m (updB g k (.row 35 1 (l.map zAD) true)) u):=by
 have h1:=zEQ (n:=n) (u:=u) hk hg (by rw[List.length_map];exact hl) (zA2 l)
 have h2:seal1 (S m g u) (.osl k 0 n)=some (.sl 0 (l.map zAD) .shut,S m (updB g k (.row 35 1 (l.map zAD) true)) u):=h1
 show(match zC1 (S m g u) [.osl k 0 n,.int .i64 b] with|some (cs,s)=>some (AV.agg cs,s)|none=>none)=_
 unfold zC1
 rw[h2];rfl
attribute [go_sem] zZP
attribute [go_sem] zZB flat_Las llen_Las zVL top_Las zV9 zWD
end Go.Ab
namespace Go.Ab.X
open Go Go.Ab Go.Proofs Pl
set_option maxRecDepth 100000
set_option maxHeartbeats 1000000
theorem c49 {a:Las}{s:Sto}(hl:a.st.length<1073741824){Q:CR→Sto→Prop}(h:Q (.ret (.bool (isL a))) s):C E1 49 [zAK a] s Q:=by
 refine zAF (md:=⟨true,false,false,false⟩) (fn:=Tryz.f49) (n:=26) (rs:=[.tmp 2]) rfl rfl rfl rfl rfl rfl rfl rfl (by simp only[go_sem, *];try rfl) (by rfl) (by simp only[go_sem]) ?_
 repeat' (first|simp (disch:=first|assumption|omega) only[go_sem, *]|((first|apply gw_m|apply gw_q);focus (intro hs;(try simp only[nbs] at hs);simp (disch:=first|assumption|omega) only[go_sem, *];rfl))|((first|refine zAC ?_ ?_|refine zAB ?_ ?_|refine sp_C ?_ ?_|refine sp_G ?_ ?_)<;>(intro hs;try simp only[nbs] at hs)))
 exact leafB h (by(try clear hrec);(try clear h);simp only[isL];grind)
theorem c20 {a:Las}{s:Sto}(hl:a.st.length<1073741824){Q:CR→Sto→Prop}(h:Q (.ret (.bool (isL a))) s):C E1 20 [zAK a] s Q:=by
 refine zAF (md:=⟨true,false,false,false⟩) (fn:=Tryz.f20) (n:=26) (rs:=[.tmp 2]) rfl rfl rfl rfl rfl rfl rfl rfl (by simp only[go_sem, *];try rfl) (by rfl) (by simp only[go_sem]) ?_
 repeat' (first|simp (disch:=first|assumption|omega) only[go_sem, *]|((first|apply gw_m|apply gw_q);focus (intro hs;(try simp only[nbs] at hs);simp (disch:=first|assumption|omega) only[go_sem, *];rfl))|((first|refine zAC ?_ ?_|refine zAB ?_ ?_|refine sp_C ?_ ?_|refine sp_G ?_ ?_)<;>(intro hs;try simp only[nbs] at hs)))
 exact leafB h (by(try clear hrec);(try clear h);simp only[isL];grind)
theorem c43 {a:Las}{r:Bool}{n:Int}{s:Sto}(hl:a.st.length<1073741824){Q:CR→Sto→Prop}(h:Q (.ret (.int .i64 (askE a r n))) s):C E1 43 [zAK a,.bool r,.int .i64 n] s Q:=by
 refine zAF (md:=⟨true,false,false,false⟩) (fn:=Tryz.f43) (n:=17) (rs:=[.tmp 6]) rfl rfl rfl rfl rfl rfl rfl rfl (by simp only[go_sem, *];try rfl) (by rfl) (by simp only[go_sem]) ?_
 repeat' (first|refine c49 hl ?_|simp (disch:=first|assumption|omega) only[go_sem, *]|((first|apply gw_m|apply gw_q);focus (intro hs;(try simp only[nbs] at hs);simp (disch:=first|assumption|omega) only[go_sem, *];rfl))|((first|refine zAC ?_ ?_|refine zAB ?_ ?_|refine sp_C ?_ ?_|refine sp_G ?_ ?_)<;>(intro hs;try simp only[nbs] at hs)))
 all_goals exact zDX h (by(try clear hrec);(try clear h);simp only[askE];grind)
def zS:AV:=zAP (E1.types 35)
theorem zS_eq:zS=.sl 0 [] .nil:=by kernel_rfl
theorem zYI (n:Nat):zAZ 1 (List.replicate n zS)=true:=by
 induction n with
 | zero=>rfl
 | succ n ih=>rw[List.replicate_succ,zS_eq];show zAZ 1 (List.replicate n (.sl 0 [] .nil))=true;rw[← zS_eq];exact ih
theorem zVJ (n:Nat):tops (List.replicate n zS)=0:=by
 induction n with
 | zero=>rfl
 | succ n ih=>rw[List.replicate_succ,zS_eq];show max 0 (tops (List.replicate n (.sl 0 [] .nil)))=0;rw[← zS_eq,ih];rfl
theorem c83 {n:Nat}{m:Nat}{g:Nat→Box}{u:List (Nat×Nat)}(h0:0<n)(hn:n<10000000000){Q:CR→Sto→Prop}(h:Q (.ret (.osl m 0 0)) (S (m+1) (updB g m (.row 35 1 (List.replicate n zS) false)) u)):C E1 83 [.sl 0 [] .nil,.int .i64 n] (S m g u) Q:=by
 have hT:∀g u,(S (m+1) g u).done m (Nat.succ m)=S (m+1) g u:=fun _ _=>zHP (by omega)
 have hap:zAX 35 1 24 (.sl 0 [] .nil) (lrep (zAP (E1.types 35)) n) (S m g u)=some (.osl m 0 n,S (m+1) (updB g m (.row 35 1 (List.replicate n zS) false)) u):=by
  rw[zDD]
  show zAX 35 1 24 (.sl 0 [] .nil) (List.replicate n zS) (S m g u)=_
  rw[zHO (zYI n) (by rw[List.length_replicate];exact h0) (by rw[List.length_replicate];omega) (zVJ n),List.length_replicate]
 have hl1:decide (n*24≤limit)=true:=decide_eq_true (by rw[limit_eq];omega)
 have hl2:decide (n≤limit)=true:=decide_eq_true (by rw[limit_eq];omega)
 have hp:decide ((0:Int)<n)=true:=decide_eq_true (by omega)
 have hs1:∀s,zC8 1 (.sl 0 [] .nil) none (some 0) none s=some (.sl 0 [] .nil,s):=fun s=>rfl
 have hc:∀s,bCap E1 22 [.sl 0 [] .nil] s=.val (.int .i64 0) s:=fun s=>rfl
 have hs2:zC8 1 (.osl m 0 n) none (some 0) none (S (m+1) (updB g m (.row 35 1 (List.replicate n zS) false)) u)=some (.osl m 0 0,S (m+1) (updB g m (.row 35 1 (List.replicate n zS) false)) u):=by
  show zBQ 1 m 0 n none (some 0) none _=_
  unfold zBQ
  rw[zEM (by omega),zAE]
  simp only[Nat.beq_refl,cond_true,zBO,zA8,Nat.zero_le,decide_true,Bool.and_self,Nat.sub_self,Nat.add_zero]
 have hneg:decide ((n:Int)<0)=false:=decide_eq_false (by omega)
 have hsub:(n:Int)-0=n:=Int.sub_zero _
 refine zAM (md:=⟨false,true,true,false⟩) (fn:=Tryz.f83) (n:=27) (rs:=[.tmp 4]) rfl rfl rfl rfl rfl rfl rfl rfl (by simp only[go_sem, *];try rfl) (by rfl) ?_
 repeat' (first|simp (disch:=first|assumption|omega) only[go_sem, *]|((first|apply gw_m|apply gw_q);focus (intro hs;(try simp only[nbs] at hs);simp (disch:=first|assumption|omega) only[go_sem, *];rfl))|((first|refine zAC ?_ ?_|refine zAB ?_ ?_|refine sp_C ?_ ?_|refine sp_G ?_ ?_)<;>(intro hs;try simp only[nbs] at hs)))
theorem c45 {ls:List (List (List V))}{m:Nat}{g:Nat→Box}{u:List (Nat×Nat)}(hls:ls.length<1073741824)(h0:0<ls.flatten.length)(hn:ls.flatten.length<10000000000){Q:CR→Sto→Prop}(h:∀g':Nat→Box,g' m=.row 35 1 (ls.flatten.map zAD) false→(∀i,i<m→g' i=g i)→Q (.ret (.osl m 0 ls.flatten.length)) (S (m+1) g' u)):C E1 45 [.sl 0 (ls.map slSt) .shut] (S m g u) Q:=by
 have hT:∀g u,(S (m+1) g u).done m (Nat.succ m)=S (m+1) g u:=fun _ _=>zHP (by omega)
 have htk:∀i,(ls.take i).flatten.length≤ls.flatten.length:=fun i=>by
  have:=congrArg (fun l=>(List.flatten l).length) (List.take_append_drop i ls)
  simp only[List.flatten_append,List.length_append] at this
  omega
 have hsn:∀i (hi:i<ls.length),(ls.take i).flatten++ls[i]=(ls.take (i+1)).flatten:=fun i hi=>by
  rw[List.take_succ_eq_append_getElem hi,List.flatten_append];simp
 refine zAM (md:=⟨false,false,true,false⟩) (fn:=Tryz.f45) (n:=36) (rs:=[.tmp 2]) rfl rfl rfl rfl rfl rfl rfl rfl (by simp only[go_sem, *];try rfl) (by rfl) ?_
 repeat' (first|simp (disch:=first|assumption|omega) only[go_sem, *]|((first|apply gw_m|apply gw_q);focus (intro hs;(try simp only[nbs] at hs);simp (disch:=first|assumption|omega) only[go_sem, *];rfl))|((first|refine zAC ?_ ?_|refine zAB ?_ ?_|refine sp_C ?_ ?_|refine sp_G ?_ ?_)<;>(intro hs;try simp only[nbs] at hs)))
 refine zA0 (ι:=Nat) (fun i=>[(0,.sl 0 (ls.map slSt) .shut),(3,.int .i64 (ls.take i).flatten.length),(9,.sl 0 (ls.map slSt) .shut),(10,.int .i64 ls.length),(11,.int .i64 i)]) (fun _=>S m g u) (fun i=>i≤ls.length) (fun i=>ls.length-i) ?_ 0 (Nat.zero_le _) ⟨rfl,rfl,rfl,rfl,rfl,trivial⟩ rfl
 intro i b hi hrec
 rcases Nat.lt_or_ge i ls.length with hlt|hge
 ·have hc:decide ((i:Int)<ls.length)=true:=decide_eq_true (by omega)
  have hx:ls[i]?=some ls[i]:=List.getElem?_eq_getElem hlt
  have hs1:=hsn i hlt
  have hle:=htk (i+1)
  have hlen:((ls.take i).flatten.length:Int)+ls[i].length=(ls.take (i+1)).flatten.length:=by rw[← hs1,List.length_append];omega
  have hneg:decide (((ls.take (i+1)).flatten.length:Int)<0)=false:=decide_eq_false (by omega)
  clear hsn htk hs1 h
  generalize ls[i]=l at *
  repeat' (first|simp (disch:=first|assumption|omega) only[go_sem, *]|((first|apply gw_m|apply gw_q);focus (intro hs;(try simp only[nbs] at hs);simp (disch:=first|assumption|omega) only[go_sem, *];rfl))|((first|refine zAC ?_ ?_|refine zAB ?_ ?_|refine sp_C ?_ ?_|refine sp_G ?_ ?_)<;>(intro hs;try simp only[nbs] at hs)))
  exact hrec (i+1) _ _ _ hlt (by omega) ⟨rfl,rfl,rfl,rfl,congrArg (fun z=>some (AV.int .i64 z)) (by omega),trivial⟩ rfl
 have hc:decide ((i:Int)<ls.length)=false:=decide_eq_false (by omega)
 clear hrec
 rw[List.take_of_length_le (by omega)]
 repeat' (first|refine c83 h0 hn ?_|simp (disch:=first|assumption|omega) only[go_sem, *]|((first|apply gw_m|apply gw_q);focus (intro hs;(try simp only[nbs] at hs);simp (disch:=first|assumption|omega) only[go_sem, *];rfl))|((first|refine zAC ?_ ?_|refine zAB ?_ ?_|refine sp_C ?_ ?_|refine sp_G ?_ ?_)<;>(intro hs;try simp only[nbs] at hs)))
 clear hi hge hc
 refine zA0 (ι:=Nat×(Nat→Box)) (fun p=>[(6,.osl m 0 (ls.take p.1).flatten.length),(25,.sl 0 (ls.map slSt) .shut),(26,.int .i64 ls.length),(27,.int .i64 p.1)]) (fun p=>S (m+1) p.2 u) (fun p=>p.1≤ls.length∧p.2 m=.row 35 1 ((ls.take p.1).flatten.map zAD++List.replicate (ls.flatten.length-(ls.take p.1).flatten.length) zS) false∧∀i,i<m→p.2 i=g i) (fun p=>ls.length-p.1) ?_ (0,_) ⟨Nat.zero_le _,zAE,fun i hi=>zAA (by omega)⟩ ⟨rfl,rfl,rfl,rfl,trivial⟩ rfl
 rintro⟨i,G⟩ b ⟨hi,hGm,hlow⟩ hrec
 dsimp only at hi hGm hlow hrec ⊢
 rcases Nat.lt_or_ge i ls.length with hlt|hge
 ·have hc:decide ((i:Int)<ls.length)=true:=decide_eq_true (by omega)
  have hx:ls[i]?=some ls[i]:=List.getElem?_eq_getElem hlt
  have hs1:=hsn i hlt
  have hle:=htk (i+1)
  have hlen:(ls.take i).flatten.length+ls[i].length=(ls.take (i+1)).flatten.length:=by rw[← hs1,List.length_append]
  obtain⟨g',ha,hg1,hg2⟩:=zZJ (b:=24) (u:=u) (n:=(ls.take i).flatten.length) (ys:=ls[i].map zAD) (Nat.lt_succ_self m) hGm (zCZ _) (by rw[List.length_append,List.length_map,List.length_map,List.length_replicate];omega) (zA2 _)
  rw[List.length_map,hlen] at ha
  have hg3:g' m=.row 35 1 ((ls.take (i+1)).flatten.map zAD++List.replicate (ls.flatten.length-(ls.take (i+1)).flatten.length) zS) false:=by
   rw[hg1,List.take_left' (by rw[List.length_map]),List.length_map,hlen,← hs1,List.map_append,List.append_assoc]
   congr 3
   rw[List.drop_append,List.drop_eq_nil_of_le (by rw[List.length_map,List.length_append];omega),List.nil_append,List.length_map,List.drop_replicate]
   congr 1
   rw[List.length_append];omega
  clear hsn htk hs1 h hg1 hGm
  generalize ls[i]=l at *
  repeat' (first|simp (disch:=first|assumption|omega) only[go_sem, *]|((first|apply gw_m|apply gw_q);focus (intro hs;(try simp only[nbs] at hs);simp (disch:=first|assumption|omega) only[go_sem, *];rfl))|((first|refine zAC ?_ ?_|refine zAB ?_ ?_|refine sp_C ?_ ?_|refine sp_G ?_ ?_)<;>(intro hs;try simp only[nbs] at hs)))
  exact hrec (i+1,g') _ _ _ ⟨hlt,hg3,fun i hi=>by dsimp only;rw[hg2 i (by omega)];exact hlow i hi⟩ (by dsimp only;omega) ⟨rfl,rfl,rfl,congrArg (fun z=>some (AV.int .i64 z)) (by dsimp only;omega),trivial⟩ rfl
 ·have hc:decide ((i:Int)<ls.length)=false:=decide_eq_false (by omega)
  clear hrec
  rw[List.take_of_length_le (by omega)] at hGm ⊢
  rw[Nat.sub_self,List.replicate_zero,List.append_nil] at hGm
  have hq:=h G hGm hlow
  clear h
  repeat' (first|simp (disch:=first|assumption|omega) only[go_sem, *]|((first|apply gw_m|apply gw_q);focus (intro hs;(try simp only[nbs] at hs);simp (disch:=first|assumption|omega) only[go_sem, *];rfl))|((first|refine zAC ?_ ?_|refine zAB ?_ ?_|refine sp_C ?_ ?_|refine sp_G ?_ ?_)<;>(intro hs;try simp only[nbs] at hs)))
end Go.Ab.X
namespace Go.Ab.X
open Go Go.Ab Go.Proofs Pl
set_option maxRecDepth 100000
set_option maxHeartbeats 1000000
def bldT (t:TypeId)(ps:List (Nat×AV))(s:Sto):Nx:=match(E1.types t).d with
 | .struct fs=>(match zLE E1 fs (E1.types t).zero ps with|some cs=>.val (.agg cs) s|none=>.no)
 | .array _ e=>(match zLF (E1.types e).size (E1.types t).zero ps with|some cs=>.val (.agg cs) s|none=>.no)
 | _=>.no
theorem build_24 (fr:Fr)(ps:List (Nat×Operand))(s:Sto):zER E1 fr 24 ps s=(match zCA fr ps with|some ps=>bldT 24 ps s|none=>.no):=rfl
theorem b24o (k o n:Nat)(b:Int)(s:Sto):bldT 24 [(0,.osl k o n),(1,.int .i64 b)] s=.val (.agg [.osl k o n,.int .i64 b]) s:=rfl
theorem b24s (t:Nat)(xs:List AV)(o:Own)(b:Int)(s:Sto):bldT 24 [(0,.sl t xs o),(1,.int .i64 b)] s=.val (.agg [.sl t xs o,.int .i64 b]) s:=rfl
theorem b24e (s:Sto):bldT 24 [] s=.val (.agg [.sl 0 [] .nil,.int .i64 0]) s:=rfl
theorem b24b (b:Int)(s:Sto):bldT 24 [(1,.int .i64 b)] s=.val (.agg [.sl 0 [] .nil,.int .i64 b]) s:=rfl
theorem pk_24 (x y:AV):pick1 (E1.types 24) [x,y] 0=some (.agg [x,y]):=rfl
attribute [go_sem] pk_24
attribute [go_sem] build_24 b24o b24s b24e b24b
theorem c45c {a b:List (List V)}{m:Nat}{g:Nat→Box}{u:List (Nat×Nat)}(h0:0<(a++b).length)(hn:(a++b).length<10000000000){Q:CR→Sto→Prop}(h:∀g':Nat→Box,g' m=.row 35 1 ((a++b).map zAD) false→(∀i,i<m→g' i=g i)→Q (.ret (.osl m 0 (a++b).length)) (S (m+1) g' u)):C E1 45 [.sl 0 [slSt a,slSt b] .clip] (S m g u) Q:=by
 have e:[a,b].flatten=a++b:=by simp
 refine zF0 (args1:=[.sl 0 ([a,b].map slSt) .shut]) rfl rfl rfl rfl rfl rfl rfl ?_
 refine c45 (by simp) (by rw[e];exact h0) (by rw[e];exact hn) ?_
 rw[e];exact h
theorem c47n {o:Own}{s:Sto}{Q:CR→Sto→Prop}(h:Q (.ret (.sl 0 [] .clip)) s):C E1 47 [.sl 0 [] o] s Q:=zZT rfl h
theorem c47 {l:List (List V)}{m:Nat}{g:Nat→Box}{u:List (Nat×Nat)}(h0:0<l.length)(hn:l.length<10000000000){Q:CR→Sto→Prop}(h:Q (.ret (.osl m 0 l.length)) (S (m+1) (updB g m (.row 35 1 (l.map zAD) false)) u)):C E1 47 [.sl 0 (l.map zAD) .shut] (S m g u) Q:=by
 have hT:∀g u,(S (m+1) g u).done m (Nat.succ m)=S (m+1) g u:=fun _ _=>zHP (by omega)
 have hap:zAX 35 1 24 (.sl 0 [] .clip) (l.map zAD) (S m g u)=some (.osl m 0 l.length,S (m+1) (updB g m (.row 35 1 (l.map zAD) false)) u):=by
  rw[zNU (xs:=[]) rfl (zCZ l) (by rw[List.length_map];exact h0) (by rw[List.length_map,List.length_nil];omega) (by rw[List.nil_append];exact zA2 l),List.length_map,List.length_nil,Nat.zero_add,List.nil_append]
 have hnil:∀s t c,binA E1 .eql 22 c (.sl 0 (l.map zAD) .shut) (.sl 0 [] .nil) s=some (.bool t)→t=false:=by
  intro s t c ht
  cases l with
  | nil=>simp at h0
  | cons a r=>cases ht;rfl
 have hnil2:∀s c,binA E1 .eql 22 c (.sl 0 (l.map zAD) .shut) (.sl 0 [] .nil) s=some (.bool false):=by
  intro s c
  cases l with
  | nil=>simp at h0
  | cons a r=>rfl
 clear hnil
 have hi:E1.intr 47 [.sl 0 (l.map zAD) .shut]=none:=by
  cases l with
  | nil=>simp at h0
  | cons a r=>rfl
 refine zAM (md:=⟨false,false,true,false⟩) (fn:=Tryz.f47) (n:=8) (rs:=[.tmp 2]) (hi) rfl rfl rfl rfl rfl rfl rfl (by simp only[go_sem, *];try rfl) (by rfl) ?_
 repeat' (first|simp (disch:=first|assumption|omega) only[go_sem, *]|((first|apply gw_m|apply gw_q);focus (intro hs;(try simp only[nbs] at hs);simp (disch:=first|assumption|omega) only[go_sem, *];rfl))|((first|refine zAC ?_ ?_|refine zAB ?_ ?_|refine sp_C ?_ ?_|refine sp_G ?_ ?_)<;>(intro hs;try simp only[nbs] at hs)))
theorem c44 {a b:List (List V)}{s:Sto}(h0:0<(a++b).length)(hn:(a++b).length<10000000000){Q:CR→Sto→Prop}(h:Q (.ret (zAK ⟨a++b,a.length⟩)) s):C E1 44 [slSt a,slSt b] s Q:=by
 have hl:a.length≤(a++b).length:=by rw[List.length_append];omega
 refine zAF (md:=⟨true,false,false,false⟩) (fn:=Tryz.f44) (n:=12) (rs:=[.cell 4 24]) rfl rfl rfl rfl rfl rfl rfl rfl (by simp only[go_sem, *];try rfl) (by rfl) (by simp only[go_sem]) ?_
 repeat' (first|refine c45c h0 hn ?_|simp (disch:=first|assumption|omega) only[go_sem, *]|((first|apply gw_m|apply gw_q);focus (intro hs;(try simp only[nbs] at hs);simp (disch:=first|assumption|omega) only[go_sem, *];rfl))|((first|refine zAC ?_ ?_|refine zAB ?_ ?_|refine sp_C ?_ ?_|refine sp_G ?_ ?_)<;>(intro hs;try simp only[nbs] at hs)))
 intro g' hg1 hg2
 have h00:=hg2 0 (by omega)
 have hseal:∀x u,zBA (S 2 (updB g' 0 x) u) (.agg [.osl 1 0 (a++b).length,.int .i64 a.length])=some (zAK ⟨a++b,a.length⟩,S 2 (updB (updB g' 0 x) 1 (.row 35 1 ((a++b).map zAD) true)) u):=fun x u=>zBV (by omega) (by rw[zAA (by omega)];exact hg1) rfl
 repeat' (first|simp (disch:=first|assumption|omega) only[go_sem, *]|((first|apply gw_m|apply gw_q);focus (intro hs;(try simp only[nbs] at hs);simp (disch:=first|assumption|omega) only[go_sem, *];rfl))|((first|refine zAC ?_ ?_|refine zAB ?_ ?_|refine sp_C ?_ ?_|refine sp_G ?_ ?_)<;>(intro hs;try simp only[nbs] at hs)))
theorem zV4 (s:Sto):zBA s (.agg [.sl 0 [] .nil,.int .i64 0])=some (.agg [.sl 0 [] .shut,.int .i64 0],s):=rfl
theorem seal_lit (s:Sto)(t:Nat)(xs:List AV)(o:Own)(k:IntKind)(n:Int):zBA s (.agg [.sl t xs o,.int k n])=some (.agg [.sl t xs .shut,.int k n],s):=rfl
attribute [go_sem] seal_lit
theorem seal_ns (s:Sto):zBJ s [.sl 0 [] .nil]=some ([.sl 0 [] .shut],s):=rfl
attribute [go_sem] zV4
theorem zV8 {m k n:Nat}{g:Nat→Box}{u:List (Nat×Nat)}{b:List (List V)}{sl:Bool}(hk:k<m)(hg:g k=.row 35 1 (b.map zAD) sl)(hn:n=b.length) :
  zBJ (S m g u) [.sl 0 [] .nil,.osl k 0 n]=some ([slSt [],slSt b],S m (updB g k (.row 35 1 (b.map zAD) true)) u):=by
 have h1:=zEQ (n:=n) (u:=u) hk hg (by rw[List.length_map];exact hn) (zA2 b)
 unfold zBJ
 show(match zBJ (S m g u) [.osl k 0 n] with|some (r,s)=>some (AV.sl 0 [] .shut :: r,s)|none=>none)=_
 unfold zBJ
 rw[h1];rfl
theorem c44o {b:List (List V)}{m k n:Nat}{g:Nat→Box}{u:List (Nat×Nat)}{sl:Bool}(hk:k<m)(hg:g k=.row 35 1 (b.map zAD) sl)(hn:n=b.length)(h0:0<b.length)(hlt:b.length<10000000000)
  {Q:CR→Sto→Prop} (h:Q (.ret (zAK ⟨b,0⟩)) (S m (updB g k (.row 35 1 (b.map zAD) true)) u)):C E1 44 [.sl 0 [] .nil,.osl k 0 n] (S m g u) Q:=by
 refine zF0 (args1:=[slSt [],slSt b]) rfl rfl rfl rfl rfl (zV8 hk hg hn) rfl ?_
 exact c44 (a:=[]) (b:=b) h0 hlt h
end Go.Ab.X
namespace Pl
def zLas:Las:=⟨[],0⟩
def sufX (a:Las)(i:Nat):Las:=if(i:Int)≤a.back then⟨a.st.drop i,a.back-i⟩ else⟨a.st.drop i++(a.st.drop a.back.toNat).take (i-a.back.toNat),0⟩
def sufL (a:Las)(n:Int):Las×Int:=if isL a=false then(zLas,130) else if n<0∨(a.st.length:Int)≤n then(zLas,1) else(sufX a n.toNat,0)
end Pl
namespace Go.Ab
open Go Pl
theorem resV_ct {E:Env}{n:Nat}{le:List (Nat×AV)}{be:Nat→AV}{s:Sto}{a t u:Nat}:resV E (Fl n le be) s [.cell a t,.tmp u]=(match zGV s (E.types t) (lget (Fl n le be).tmps a) with|some v=>some (.tuple [v,lget (Fl n le be).tmps u])|none=>none):=by
 unfold resV zC9 zC9 zC9
 cases zGV s (E.types t) (lget (Fl n le be).tmps a)<;>rfl
theorem sl_rng {α:Type}{h:α→AV}{l:List α}{es lo hi:Nat}{s:Sto}(h1:lo≤hi)(h2:hi≤l.length):zC8 es (.sl 0 (l.map h) .shut) (some lo) (some hi) none s=bif zIE es (l.map h) then some (.sl 0 (((l.drop lo).take (hi-lo)).map h) .shut,s) else none:=by
 simp only[zC8,zG5,zBO,zJ0,zA8,h1,h2,decide_true,Bool.true_and,Bool.and_true,cond_true]
 cases zIE es (l.map h) with
 | false=>rfl
 | true=>
  simp only[cond_true]
  have e:zG2 (l.map h) lo hi l.length=((l.drop lo).take (hi-lo)).map h:=by
   unfold zG2
   rw[zI8,zI8]
   by_cases e:lo=0∧hi=l.length
   ·rw[decide_eq_true e.1,decide_eq_true e.2,e.1,e.2];simp
   ·have:(decide (lo=0)&&decide (hi=l.length))=false:=by
     rw[← Bool.not_eq_true];simpa using e
    rw[this]
    simp only[cond_false,zA6,zBI,List.map_take,List.map_drop]
  rw[e]
  cases Nat.beq hi l.length<;>rfl
theorem sl_suf {α:Type}{h:α→AV}{l:List α}{es lo:Nat}{s:Sto}(h1:lo≤l.length):zC8 es (.sl 0 (l.map h) .shut) (some lo) none none s=bif zIE es (l.map h) then some (.sl 0 ((l.drop lo).map h) .shut,s) else none:=by
 have:=sl_rng (h:=h) (es:=es) (s:=s) (lo:=lo) (hi:=l.length) h1 (Nat.le_refl _)
 rw[List.take_of_length_le (by rw[List.length_drop];omega)] at this
 rw[← this]
 simp only[zC8,zG5,zBO,zJ0]
attribute [go_sem] resV_ct sl_rng sl_suf
end Go.Ab
namespace Go.Ab.X
open Go Go.Ab Go.Proofs Pl
set_option maxRecDepth 100000
set_option maxHeartbeats 2000000
theorem zE1 {st:List (List V)}{b:Int}{P:Prop}(h:isL ⟨st,b⟩=false→P)(h2:∀j:Nat,b=j→1≤st.length→st.length≤1000→j<st.length→P):P:=by
 cases hl:isL ⟨st,b⟩ with
 | false=>exact h hl
 | true=>
  simp only[isL,Bool.and_eq_true,decide_eq_true_eq] at hl
  obtain⟨j,rfl⟩:=Int.eq_ofNat_of_zero_le hl.2.2.1
  exact h2 j rfl (by omega) (by omega) (by omega)
theorem zG1 {st:List (List V)}{j:Nat}(h1:1≤st.length)(h2:st.length≤1000)(h3:j<st.length):isL ⟨st,j⟩=true:=by simp[isL];omega
theorem c7 {a:Las}{n:Int}{s:Sto}(hl:a.st.length<1073741824){Q:CR→Sto→Prop}(h:Q (.ret (.tuple [zAK (sufL a n).1,.int .i64 (sufL a n).2])) s):C E1 7 [zAK a,.int .i64 n] s Q:=by
 obtain⟨st,b⟩:=a
 have hl:st.length<1073741824:=hl
 refine zE1 (st:=st) (b:=b) (fun hb=>?_) (fun j hj h1 h2 h3=>?_)
 ·have e:sufL ⟨st,b⟩ n=(zLas,130):=by unfold sufL;rw[if_pos hb]
  rw[e] at h
  have h:Q (.ret (.tuple [.agg [.sl 0 [] .shut,.int .i64 0],.int .i64 130])) s:=h
  have ha:∀r,askE ⟨st,b⟩ r 0=130:=fun r=>by unfold askE;rw[if_pos hb]
  refine zAF (md:=⟨true,false,false,false⟩) (fn:=Tryz.f7) (n:=51) (rs:=[.cell 4 24,.tmp 5]) rfl rfl rfl rfl rfl rfl rfl rfl (by simp only[go_sem, *];try rfl) (by rfl) (by simp only[go_sem]) ?_
  repeat' (first|refine c43 hl ?_|simp (disch:=first|assumption|omega) only[go_sem, *]|((first|apply gw_m|apply gw_q);focus (intro hs;(try simp only[nbs] at hs);simp (disch:=first|assumption|omega) only[go_sem, *];rfl))|((first|refine zAC ?_ ?_|refine zAB ?_ ?_|refine sp_C ?_ ?_|refine sp_G ?_ ?_)<;>(intro hs;try simp only[nbs] at hs)))
 ·subst hj
  have hb:=zG1 h1 h2 h3
  by_cases hn:n<0∨(st.length:Int)≤n
  ·have e:sufL ⟨st,j⟩ n=(zLas,1):=by unfold sufL;rw[if_neg (by rw[hb];simp),if_pos hn]
   rw[e] at h
   have h:Q (.ret (.tuple [.agg [.sl 0 [] .shut,.int .i64 0],.int .i64 1])) s:=h
   have ha:askE ⟨st,j⟩ (decide (0≤n)&&decide (n<st.length)) 0=1:=by unfold askE;rw[if_neg (by rw[hb];simp),if_pos (by simp;omega)]
   refine zAF (md:=⟨true,false,false,false⟩) (fn:=Tryz.f7) (n:=51) (rs:=[.cell 4 24,.tmp 5]) rfl rfl rfl rfl rfl rfl rfl rfl (by simp only[go_sem, *];try rfl) (by rfl) (by simp only[go_sem]) ?_
   repeat' (first|refine c43 hl ?_|simp (disch:=first|assumption|omega) only[go_sem, *]|((first|apply gw_m|apply gw_q);focus (intro hs;(try simp only[nbs] at hs);simp (disch:=first|assumption|omega) only[go_sem, *];rfl))|((first|refine zAC ?_ ?_|refine zAB ?_ ?_|refine sp_C ?_ ?_|refine sp_G ?_ ?_)<;>(intro hs;try simp only[nbs] at hs)))
  ·obtain⟨i,rfl⟩:=Int.eq_ofNat_of_zero_le (show 0≤n by omega)
   have e:sufL ⟨st,j⟩ i=(sufX ⟨st,j⟩ i,0):=by unfold sufL;rw[if_neg (by rw[hb];simp),if_neg hn];rfl
   rw[e] at h
   have hc1:decide ((0:Int)≤i)=true:=by simp
   have hc2:decide ((i:Int)<st.length)=true:=by simp;omega
   have ha:askE ⟨st,j⟩ true 0=0:=by unfold askE;rw[if_neg (by rw[hb];simp)];rfl
   unfold sufX at h
   by_cases hij:(i:Int)≤j
   ·rw[if_pos hij] at h
    have hc3:decide ((i:Int)≤j)=true:=by simpa using hij
    have hm:(st.drop i).take (j-i)++st.drop j=st.drop i:=by
     conv=>rhs;rw[← List.take_append_drop (j-i) (st.drop i)]
     rw[List.drop_drop];congr 2;omega
    have hml:(((st.drop i).take (j-i)).length:Int)=j-i:=by rw[List.length_take,List.length_drop];omega
    have hk:=fun s=>@c44 ((st.drop i).take (j-i)) (st.drop j) s
    rw[hm,hml] at hk
    have hk:=fun s Q hq=>@hk s (by rw[List.length_drop];omega) (by rw[List.length_drop];omega) Q hq
    refine zAF (md:=⟨true,false,false,false⟩) (fn:=Tryz.f7) (n:=51) (rs:=[.cell 4 24,.tmp 5]) rfl rfl rfl rfl rfl rfl rfl rfl (by simp only[go_sem, *];try rfl) (by rfl) (by simp only[go_sem]) ?_
    repeat' (first|refine c43 hl ?_|refine hk _ _ ?_|simp (disch:=first|assumption|omega) only[go_sem, *]|((first|apply gw_m|apply gw_q);focus (intro hs;(try simp only[nbs] at hs);simp (disch:=first|assumption|omega) only[go_sem, *];rfl))|((first|refine zAC ?_ ?_|refine zAB ?_ ?_|refine sp_C ?_ ?_|refine sp_G ?_ ?_)<;>(intro hs;try simp only[nbs] at hs)))
   ·rw[if_neg hij] at h
    have hc3:decide ((i:Int)≤j)=false:=by simpa using hij
    have hjj:(j:Int).toNat=j:=rfl
    rw[hjj] at h
    have hln:(st.drop i++(st.drop j).take (i-j)).length=st.length-i+(i-j):=by rw[List.length_append,List.length_take,List.length_drop,List.length_drop];omega
    have hk:=@c45c (st.drop i) ((st.drop j).take (i-j))
    have hk:=fun m g u Q hq=>@hk m g u (by omega) (by omega) Q hq
    refine zAF (md:=⟨true,false,false,false⟩) (fn:=Tryz.f7) (n:=51) (rs:=[.cell 4 24,.tmp 5]) rfl rfl rfl rfl rfl rfl rfl rfl (by simp only[go_sem, *];try rfl) (by rfl) (by simp only[go_sem]) ?_
    repeat' (first|refine c43 hl ?_|refine hk _ _ _ _ ?_|simp (disch:=first|assumption|omega) only[go_sem, *]|((first|apply gw_m|apply gw_q);focus (intro hs;(try simp only[nbs] at hs);simp (disch:=first|assumption|omega) only[go_sem, *];rfl))|((first|refine zAC ?_ ?_|refine zAB ?_ ?_|refine sp_C ?_ ?_|refine sp_G ?_ ?_)<;>(intro hs;try simp only[nbs] at hs)))
    intro g' hg1 hg2
    have h00:=hg2 0 (by omega)
    have h11:=hg2 1 (by omega)
    have hk2:=fun u Q hq=>@c44o _ 3 2 (st.length-i+(i-j)) g' u _ (by omega) hg1 hln.symm (by omega) (by omega) Q hq
    repeat' (first|refine hk2 _ _ ?_|simp (disch:=first|assumption|omega) only[go_sem, *]|((first|apply gw_m|apply gw_q);focus (intro hs;(try simp only[nbs] at hs);simp (disch:=first|assumption|omega) only[go_sem, *];rfl))|((first|refine zAC ?_ ?_|refine zAB ?_ ?_|refine sp_C ?_ ?_|refine sp_G ?_ ?_)<;>(intro hs;try simp only[nbs] at hs)))
end Go.Ab.X
namespace Go.Ab.X
open Go Go.Ab Go.Proofs Pl
set_option maxRecDepth 100000
set_option maxHeartbeats 2000000
theorem zTB (l:List (List V))(h0:0<l.length)(hn:l.length<1000000000):∀m g u,zAX 35 1 24 (.sl 0 [] .nil) (l.map zAD) (S m g u)=some (.osl m 0 l.length,S (m+1) (updB g m (.row 35 1 (l.map zAD) false)) u):=by
 intro m g u
 rw[zHO (zCZ l) (by rw[List.length_map];exact h0) (by rw[List.length_map];omega) (zA2 l),List.length_map]
theorem zPT (l r:List (List V))(h0:0<r.length)(hn:l.length+r.length<1000000000){m k n:Nat}{g:Nat→Box}{u:List (Nat×Nat)}(hk:k<m)(hg:g k=.row 35 1 (l.map zAD) false)(hl:n=l.length):zAX 35 1 24 (.osl k 0 n) (r.map zAD) (S m g u)=some (.osl m 0 (n+r.length),S (m+1) (updB (updB g k .dead) m (.row 35 1 ((l++r).map zAD) false)) u):=by
 rw[zNT hk hg (by rw[List.length_map];exact h0) (zCZ r) (by rw[List.length_map];exact hl) (by rw[List.length_map,List.length_map];omega) (by rw[← List.map_append];exact zA2 _),List.length_map,List.map_append]
theorem c8 {a:Las}{n:Int}{s:Sto}(hl:a.st.length<1073741824){Q:CR→Sto→Prop}(h:Q (.ret (.tuple [zAK (sufL a n).1,.int .i64 (sufL a n).2])) s):C E1 8 [zAK a,.int .i64 n] s Q:=by
 obtain⟨st,b⟩:=a
 have hl:st.length<1073741824:=hl
 refine zE1 (st:=st) (b:=b) (fun hb=>?_) (fun j hj h1 h2 h3=>?_)
 ·have e:sufL ⟨st,b⟩ n=(zLas,130):=by unfold sufL;rw[if_pos hb]
  rw[e] at h
  have h:Q (.ret (.tuple [.agg [.sl 0 [] .shut,.int .i64 0],.int .i64 130])) s:=h
  refine zAF (md:=⟨true,false,false,false⟩) (fn:=Tryz.f8) (n:=50) (rs:=[.cell 4 24,.tmp 5]) rfl rfl rfl rfl rfl rfl rfl rfl (by simp only[go_sem, *];try rfl) (by rfl) (by simp only[go_sem]) ?_
  repeat' (first|refine c20 hl ?_|simp (disch:=first|assumption|omega) only[go_sem, *]|((first|apply gw_m|apply gw_q);focus (intro hs;(try simp only[nbs] at hs);simp (disch:=first|assumption|omega) only[go_sem, *];rfl))|((first|refine zAC ?_ ?_|refine zAB ?_ ?_|refine sp_C ?_ ?_|refine sp_G ?_ ?_)<;>(intro hs;try simp only[nbs] at hs)))
 ·subst hj
  have hb:=zG1 h1 h2 h3
  by_cases hn:n<0∨(st.length:Int)≤n
  ·have e:sufL ⟨st,j⟩ n=(zLas,1):=by unfold sufL;rw[if_neg (by rw[hb];simp),if_pos hn]
   rw[e] at h
   have h:Q (.ret (.tuple [.agg [.sl 0 [] .shut,.int .i64 0],.int .i64 1])) s:=h
   have hc:(decide (n<0)||decide ((st.length:Int)≤n))=true:=by simpa using hn
   refine zAF (md:=⟨true,false,false,false⟩) (fn:=Tryz.f8) (n:=50) (rs:=[.cell 4 24,.tmp 5]) rfl rfl rfl rfl rfl rfl rfl rfl (by simp only[go_sem, *];try rfl) (by rfl) (by simp only[go_sem]) ?_
   repeat' (first|refine c20 hl ?_|simp (disch:=first|assumption|omega) only[go_sem, *]|((first|apply gw_m|apply gw_q);focus (intro hs;(try simp only[nbs] at hs);simp (disch:=first|assumption|omega) only[go_sem, *];rfl))|((first|refine zAC ?_ ?_|refine zAB ?_ ?_|refine sp_C ?_ ?_|refine sp_G ?_ ?_)<;>(intro hs;try simp only[nbs] at hs)))
   all_goals (simp only[decide_eq_true_eq,decide_eq_false_iff_not] at *;omega)
  ·obtain⟨i,rfl⟩:=Int.eq_ofNat_of_zero_le (show 0≤n by omega)
   have e:sufL ⟨st,j⟩ i=(sufX ⟨st,j⟩ i,0):=by unfold sufL;rw[if_neg (by rw[hb];simp),if_neg hn];rfl
   rw[e] at h
   have hc1:decide ((i:Int)<0)=false:=by simp
   have hc2:decide ((st.length:Int)≤i)=false:=by simp;omega
   have hln:(st.drop i).length=st.length-i:=List.length_drop
   have ha:=zTB (st.drop i) (by omega) (by omega)
   unfold sufX at h
   by_cases hij:(i:Int)≤j
   ·rw[if_pos hij] at h
    have hc3:decide ((i:Int)≤j)=true:=by simpa using hij
    rw[hln] at ha
    refine zAF (md:=⟨true,false,false,false⟩) (fn:=Tryz.f8) (n:=50) (rs:=[.cell 4 24,.tmp 5]) rfl rfl rfl rfl rfl rfl rfl rfl (by simp only[go_sem, *];try rfl) (by rfl) (by simp only[go_sem]) ?_
    repeat' (first|refine c20 hl ?_|simp (disch:=first|assumption|omega) only[go_sem, *]|((first|apply gw_m|apply gw_q);focus (intro hs;(try simp only[nbs] at hs);simp (disch:=first|assumption|omega) only[go_sem, *];rfl))|((first|refine zAC ?_ ?_|refine zAB ?_ ?_|refine sp_C ?_ ?_|refine sp_G ?_ ?_)<;>(intro hs;try simp only[nbs] at hs)))
    rw[zBV (l:=st.drop i) (sl:=false) (by omega) (by simp (disch:=first|assumption|omega) only[go_sem, *]) hln.symm]
    repeat' (first|simp (disch:=first|assumption|omega) only[go_sem, *]|((first|apply gw_m|apply gw_q);focus (intro hs;(try simp only[nbs] at hs);simp (disch:=first|assumption|omega) only[go_sem, *];rfl))|((first|refine zAC ?_ ?_|refine zAB ?_ ?_|refine sp_C ?_ ?_|refine sp_G ?_ ?_)<;>(intro hs;try simp only[nbs] at hs)))
   ·rw[if_neg hij] at h
    have hc3:decide ((i:Int)≤j)=false:=by simpa using hij
    have hjj:(j:Int).toNat=j:=rfl
    rw[hjj] at h
    have hlr:((st.drop j).take (i-j)).length=i-j:=by rw[List.length_take,List.length_drop];omega
    have hlt:(st.drop i++(st.drop j).take (i-j)).length=st.length-i+(i-j):=by rw[List.length_append,hln,hlr]
    have hb2:=@zPT (st.drop i) ((st.drop j).take (i-j)) (by omega) (by omega)
    rw[hln] at ha hb2
    rw[hlr] at hb2
    refine zAF (md:=⟨true,false,false,false⟩) (fn:=Tryz.f8) (n:=50) (rs:=[.cell 4 24,.tmp 5]) rfl rfl rfl rfl rfl rfl rfl rfl (by simp only[go_sem, *];try rfl) (by rfl) (by simp only[go_sem]) ?_
    repeat' (first|refine c20 hl ?_|simp (disch:=first|assumption|omega) only[go_sem, *]|((first|apply gw_m|apply gw_q);focus (intro hs;(try simp only[nbs] at hs);simp (disch:=first|assumption|omega) only[go_sem, *];rfl))|((first|refine zAC ?_ ?_|refine zAB ?_ ?_|refine sp_C ?_ ?_|refine sp_G ?_ ?_)<;>(intro hs;try simp only[nbs] at hs)))
    rw[hb2 (by omega) (by simp (disch:=first|assumption|omega) only[go_sem, *]) rfl]
    repeat' (first|simp (disch:=first|assumption|omega) only[go_sem, *]|((first|apply gw_m|apply gw_q);focus (intro hs;(try simp only[nbs] at hs);simp (disch:=first|assumption|omega) only[go_sem, *];rfl))|((first|refine zAC ?_ ?_|refine zAB ?_ ?_|refine sp_C ?_ ?_|refine sp_G ?_ ?_)<;>(intro hs;try simp only[nbs] at hs)))
    rw[zBV (l:=st.drop i++(st.drop j).take (i-j)) (sl:=false) (by omega) (by simp (disch:=first|assumption|omega) only[go_sem, *]) hlt.symm]
    repeat' (first|simp (disch:=first|assumption|omega) only[go_sem, *]|((first|apply gw_m|apply gw_q);focus (intro hs;(try simp only[nbs] at hs);simp (disch:=first|assumption|omega) only[go_sem, *];rfl))|((first|refine zAC ?_ ?_|refine zAB ?_ ?_|refine sp_C ?_ ?_|refine sp_G ?_ ?_)<;>(intro hs;try simp only[nbs] at hs)))
end Go.Ab.X
end
