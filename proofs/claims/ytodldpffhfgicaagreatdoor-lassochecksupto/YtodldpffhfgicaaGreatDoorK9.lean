/- A part. -/
import Derived.Test.YtodldpffhfgicaaGreatDoorK8
set_option linter.all false
noncomputable section
namespace Go.Ab.X
open Go Go.Ab Go.Proofs Pl
set_option maxRecDepth 100000
set_option maxHeartbeats 4000000
abbrev mt (n:Int):Box:=.cells 80 [.int .i64 n]
theorem c85d {k m:Nat}{g:Nat→Box}{u:List (Nat×Nat)}{left n:Int}(hu:zAQ m u=true)(hu2:zAJ m u=u)(hk:k<m)(hg:g k=mt left)(hl:0≤left∧left≤1500)(hn:0≤n∧n<4611686018427387904)
  {Q:CR→Sto→Prop} (h:Q (.ret (.bool (decide (0≤left-n)))) (S m (updB g k (mt (left-n))) u)):C E1 85 [.ptr k 0,.int .i64 n] (S m g u) Q:=by
 refine cn ⟨false,false,false,false⟩ Tryz.f85 18 [.tmp 4] ?_
 repeat' (first|refine wk ?_|refine fk ?_ ?_<;>intro hs|exact⟨⟩|fail)
theorem CX.mtr {f T sz:Nat}(H:CX f T sz){α:Type}{h:α→AV}{l:List α}{fv:AV}{k m:Nat}{g:Nat→Box}{u:List (Nat×Nat)}(hl:l.length<4611686018427387904)(hu:zAQ m u=true)(hu2:zAJ m u=u)
  (hsz:∀x,llen (cellsOf (h x))=sz) (hld:∀x,pick1 (E1.types T) (cellsOf (h x)) 0=some (h x)) (hfv:∀a,zBC (S m (updB g k (mt a)) u) fv=some (fv,S m (updB g k (mt a)) u))
  (hp:∀x∈l,∀a,0≤a→a≤1500→∀Q:CR→Sto→Prop,(∀a,0≤a→a≤1500→Q (.ret (.bool false)) (S m (updB g k (mt a)) u))→(∀a,Q (.ret (.bool true)) (S m (updB g k (mt a)) u))→CV E1 fv [h x] (S m (updB g k (mt a)) u) Q)
  {left:Int} (hl0:0≤left∧left≤1500) {Q:CR→Sto→Prop} (h1:∀a,0≤a→a≤1500→Q (.ret (.bool false)) (S m (updB g k (mt a)) u)) (h2:∀a,Q (.ret (.bool true)) (S m (updB g k (mt a)) u)):C E1 f [.sl 0 (l.map h) .shut,fv] (S m (updB g k (mt left)) u) Q:=
 H (σ:=Int) (G:=fun a=>updB g k (mt a)) (fun _ a=>0≤a∧a≤1500) (fun _ _=>True) left hl hu hu2 hsz hld (hfv left) (fun i x a hx ha Q q1 q2=>hp x (List.mem_of_getElem? hx) a ha.1 ha.2 Q (fun a x y=>q1 a ⟨x,y⟩) (fun a=>q2 a trivial)) hl0 (fun a ha=>h1 a ha.1 ha.2) (fun _ a _=>h2 a)
def c55m:=@CX.mtr _ _ _ cx55
def c59m:=@CX.mtr _ _ _ cx59
def c89m:=@CX.mtr _ _ _ cx89
def c45m:=@CX.mtr _ _ _ cx45
def c52m:=@CX.mtr _ _ _ cx52
theorem c87 {k:Nat}:∀(N:Nat) (v:V),szV v<N→szV v<1073741824→∀(deep left:Int) (m:Nat) (g:Nat→Box) (u:List (Nat×Nat)),zAQ m u=true→zAJ m u=u→k<m→g k=mt left→1≤deep→deep≤61→0≤left→left≤1500→
  ∀Q:CR→Sto→Prop,(∀a,0≤a→a≤1500→Q (.ret (.bool true)) (S m (updB g k (mt a)) u))→(∀a,Q (.ret (.bool false)) (S m (updB g k (mt a)) u))→C E1 87 [.ptr k 0,encV v,.int .i64 deep] (S m g u) Q:=by
 intro N
 induction N with
 | zero=>intro v h;exact absurd h (Nat.not_lt_zero _)
 | succ N ih=>
  intro v hN hsz deep left m g u hu hu2 hk hg hd0 hd1 hl0 hl1 Q h1 h2
  have hlv:=zD2 v
  have hU:=zB6 hu hu2 (Nat.le_succ m)
  have hU1:=hU.1
  have hU2:=hU.2
  have hkm:k<m+1:=by omega
  have hg1:(updB g m (.cells 32 (zAW v))) k=mt left:=by rw[zAA (by omega)];exact hg
  have hback:∀(M:Nat) (G:Nat→Box) (a:Int),(∀i,i<m→i≠k→G i=g i)→G k=mt a→S m G u=S m (updB g k (mt a)) u:=fun _ G a h1 h2=>zCG h2 h1
  obtain⟨G0,hG0⟩:∃G0,updB g m (.cells 32 (zAW v))=G0:=⟨_,rfl⟩
  have hmv:G0 m=.cells 32 (zAW v):=by rw[← hG0];exact zAB
  have hlow:∀i,i<m→i≠k→G0 i=g i:=fun i hi _=>by rw[← hG0];exact zAA (by omega)
  rw[hG0] at hg1
  have ht1:=fun Q=>@c85d k (m+1) G0 u left 1 hU1 hU2 hkm hg1 ⟨hl0,hl1⟩ (by omega) Q
  have hmv1:∀a,(updB G0 k (mt a)) m=.cells 32 (zAW v):=fun a=>by rw[zAA (by omega)];exact hmv
  have ht2:=fun(h:0≤left-1) Q=>@c85d k (m+1) (updB G0 k (mt (left-1))) u (left-1) v.d.length hU1 hU2 hkm zAB (by omega) (by omega) Q
  have hf:∀a,Q (.ret (.bool false)) (S m (updB G0 k (mt a)) u):=fun a=>by
   rw[hback 0 (updB G0 k (mt a)) a (fun i h1 h2=>by rw[zAA h2];exact hlow i h1 h2) zAB];exact h2 a
  have h2':=h2
  clear h2
  by_cases hc1:0≤left-1
  ·have hd1:decide (0≤left-1)=true:=decide_eq_true hc1
   have ht2:=ht2 hc1
   by_cases hc2:60<deep
   ·have hd2:decide (60<deep)=true:=decide_eq_true hc2
    have hf:=hf (left-1)
    clear h1 ih hback
    refine cn ⟨false,false,false,false⟩ Tryz.f87 57 [.tmp 6] ?_
    repeat' (first|refine ht1 _ ?_|refine wk ?_|refine fk ?_ ?_<;>intro hs|exact⟨⟩|fail)
   ·have hd2:decide (60<deep)=false:=decide_eq_false hc2
    by_cases hc3:300<(v.s.length:Int)
    ·have hd3:decide (300<(v.s.length:Int))=true:=decide_eq_true hc3
     have hf:=hf (left-1)
     clear h1 ih hback
     refine cn ⟨false,false,false,false⟩ Tryz.f87 57 [.tmp 6] ?_
     repeat' (first|refine ht1 _ ?_|refine wk ?_|refine fk ?_ ?_<;>intro hs|exact⟨⟩|fail)
    ·have hd3:decide (300<(v.s.length:Int))=false:=decide_eq_false hc3
     by_cases hc4:0≤left-1-v.d.length
     ·have hd4:decide (0≤left-1-(v.d.length:Int))=true:=decide_eq_true hc4
      clear hf
      refine cn ⟨false,false,false,false⟩ Tryz.f87 57 [.tmp 6] ?_
      repeat' (first|refine ht1 _ ?_|refine ht2 _ ?_|refine wk ?_|refine fk ?_ ?_<;>intro hs|exact⟨⟩|fail)
      have hP:∀x∈([v.l,v.m]:List (List V)),szVs x<N∧szVs x<1073741824:=fun x hx=>by
       rcases List.mem_cons.1 hx with rfl|hx
       ·omega
       ·rw[List.mem_singleton.1 hx];omega
      have hPl:([v.l,v.m]:List (List V)).length=2:=rfl
      have hlow2:∀i,i<m→i≠k→(updB G0 k (mt (left-1-v.d.length))) i=g i:=fun i h1 h2=>by rw[zAA h2];exact hlow i h1 h2
      have hk2:(updB G0 k (mt (left-1-v.d.length))) k=mt (left-1-v.d.length):=zAB
      refine zAF (ι:=Nat×Int×Nat×(Nat→Box)) (fun p=>[(0,.ptr k 0),(2,.int .i64 deep),(37,.sl 0 (([v.l,v.m]:List (List V)).map zD8) .clip),(38,.int .i64 2),(39,.int .i64 p.1)]) (fun p=>S p.2.2.1 p.2.2.2 u)
       (fun p=>p.1≤2∧(0≤p.2.1∧p.2.1≤1500)∧m+1≤p.2.2.1∧p.2.2.2 k=mt p.2.1∧∀i,i<m→i≠k→p.2.2.2 i=g i) (fun p=>2-p.1) ?_ (0,left-1-v.d.length,m+1,_) ⟨Nat.zero_le _,by dsimp only;omega,Nat.le_refl _,hk2,hlow2⟩ ⟨rfl,rfl,rfl,rfl,rfl,trivial⟩ rfl
      clear ht1 ht2 hlow2 hk2 hd1 hd2 hd3 hd4 hc1 hc3 hc4 hmv1
      rintro⟨j,a,M,G⟩ b ⟨hj,ha,hM,hGk,hGl⟩ hrec
      dsimp only at hj ha hM hGk hGl hrec ⊢
      generalize ([v.l,v.m]:List (List V))=P at hP hPl hrec ⊢
      have hUM:=zB6 hu hu2 (show m≤M by omega)
      have hUM1:=hUM.1
      have hUM2:=hUM.2
      rcases Nat.lt_or_ge j 2 with hlt|hge
      ·have hc:decide ((j:Int)<2)=true:=decide_eq_true (by omega)
       have hx:P[j]?=some P[j]:=List.getElem?_eq_getElem (by omega)
       have hxN:=hP P[j] (List.getElem_mem (by omega))
       generalize P[j]=x at hx hxN
       have hdj:decide (j<P.length)=true:=decide_eq_true (by omega)
       have hxl:=szVs_len x
       have hes:zD8 x=.sl 0 (x.map encV) .shut:=rfl
       repeat' (first|refine wk ?_|refine fk ?_ ?_<;>intro hs|exact⟨⟩|fail)
       clear hes
       refine zAF (ι:=Nat×Int×Nat×(Nat→Box)) (fun p=>[(0,.ptr k 0),(2,.int .i64 deep),(37,.sl 0 (P.map zD8) .clip),(38,.int .i64 2),(39,.int .i64 j),(43,.sl 0 (x.map encV) .shut),(44,.int .i64 x.length),(45,.int .i64 p.1)]) (fun p=>S p.2.2.1 p.2.2.2 u)
        (fun p=>p.1≤x.length∧(0≤p.2.1∧p.2.1≤1500)∧m+1≤p.2.2.1∧p.2.2.2 k=mt p.2.1∧∀i,i<m→i≠k→p.2.2.2 i=g i) (fun p=>x.length-p.1) ?_ (0,a,M,G) ⟨Nat.zero_le _,ha,hM,hGk,hGl⟩ ⟨rfl,rfl,rfl,rfl,rfl,rfl,rfl,rfl,trivial⟩ rfl
       clear ha hM hGk hGl hUM hUM1 hUM2
       clear a M G
       rintro⟨i,a,M,G⟩ b ⟨hi,ha,hM,hGk,hGl⟩ hrec2
       dsimp only at hi ha hM hGk hGl hrec2 ⊢
       rcases Nat.lt_or_ge i x.length with hil|hig
       ·have hc:decide ((i:Int)<x.length)=true:=decide_eq_true (by omega)
        have hdi:decide (i<x.length)=true:=decide_eq_true hil
        have hy:x[i]?=some x[i]:=List.getElem?_eq_getElem hil
        have hys:=szVs_mem (List.getElem_mem hil)
        generalize x[i]=y at hy hys
        have hUM:=zB6 hu hu2 (show m≤M+1 by omega)
        have hUM1:=hUM.1
        have hUM2:=hUM.2
        have hcl:=fun(G':Nat→Box) (h':G' k=mt a)=>ih y (by omega) (by omega) (deep+1) a (M+1) G' u hUM1 hUM2 (by omega) h' (by omega) (by omega) ha.1 ha.2
        clear hUM
        repeat' (first|refine wk ?_|refine fk ?_ ?_<;>intro hs|exact⟨⟩|fail)
        refine hcl _ (by rw[zAA (by omega)];exact hGk) _ (fun a' h0 h9=>?_) (fun a'=>?_)
        ·repeat' (first|refine wk ?_|refine fk ?_ ?_<;>intro hs|exact⟨⟩|fail)
         exact hrec2 (i+1,a',M+1,_) _ _ _ ⟨hil,⟨h0,h9⟩,by dsimp only;omega,zAB,fun t h1 h2=>(zAA h2).trans ((zAA (by omega)).trans (hGl t h1 h2))⟩ (by dsimp only;omega) ⟨rfl,rfl,rfl,rfl,rfl,rfl,rfl,rfl,trivial⟩ rfl
        ·generalize hG2:updB (updB G M _) k (mt a')=G2
         have hfin:=h2' a'
         rw[← hback 0 G2 a' (fun t h1 h2=>by rw[← hG2,zAA h2,zAA (by omega)];exact hGl t h1 h2) (by rw[← hG2];exact zAB)] at hfin
         clear hback hG2
         repeat' (first|refine wk ?_|refine fk ?_ ?_<;>intro hs|exact⟨⟩|fail)
       ·have hc:decide ((i:Int)<x.length)=false:=decide_eq_false (by omega)
        repeat' (first|refine wk ?_|refine fk ?_ ?_<;>intro hs|exact⟨⟩|fail)
        exact hrec (j+1,a,M,G) _ _ _ ⟨hlt,ha,hM,hGk,hGl⟩ (by dsimp only;omega) ⟨rfl,rfl,rfl,rfl,rfl,trivial⟩ rfl
      ·have hc:decide ((j:Int)<2)=false:=decide_eq_false (by omega)
       have hfin:=h1 a ha.1 ha.2
       rw[← hback 0 G a hGl hGk] at hfin
       clear hback
       repeat' (first|refine wk ?_|refine fk ?_ ?_<;>intro hs|exact⟨⟩|fail)
     ·have hd4:decide (0≤left-1-(v.d.length:Int))=false:=decide_eq_false hc4
      have hf:=hf (left-1-v.d.length)
      clear h1 ih hback
      refine cn ⟨false,false,false,false⟩ Tryz.f87 57 [.tmp 6] ?_
      repeat' (first|refine ht1 _ ?_|refine ht2 _ ?_|refine wk ?_|refine fk ?_ ?_<;>intro hs|exact⟨⟩|fail)
  ·have hd1:decide (0≤left-1)=false:=decide_eq_false hc1
   have hf:=hf (left-1)
   clear h1 ih hback ht2
   refine cn ⟨false,false,false,false⟩ Tryz.f87 57 [.tmp 6] ?_
   repeat' (first|refine ht1 _ ?_|refine wk ?_|refine fk ?_ ?_<;>intro hs|exact⟨⟩|fail)
theorem c86 {v:V}(hv:szV v<1073741824){k b m:Nat}{g:Nat→Box}{u:List (Nat×Nat)}(hu:zAQ m u=true)(hu2:zAJ m u=u)(hk:k<m)(hb:b<m)(hkb:b≠k){left:Int}(hg:g k=mt left)(hgb:g b=.cells 78 [.ptr k 0])(hl:0≤left∧left≤1500)
  {Q:CR→Sto→Prop} (h1:∀a,0≤a→a≤1500→Q (.ret (.bool false)) (S m (updB g k (mt a)) u)) (h2:∀a,Q (.ret (.bool true)) (S m (updB g k (mt a)) u)):C E1 86 [encV v,.ptr b 0] (S m g u) Q:=by
 have hU:=zB6 hu hu2 (Nat.le_succ m)
 have hU1:=hU.1
 have hU2:=hU.2
 have hbm:b≠m:=by omega
 have hcl:=fun(G':Nat→Box) (h':G' k=mt left)=>c87 (szV v+1) v (Nat.lt_succ_self _) hv 1 left (m+1) G' u hU1 hU2 (by omega) h' (by omega) (by omega) hl.1 hl.2
 refine cn ⟨false,false,false,false⟩ Tryz.f86 8 [.tmp 3] ?_
 repeat' (first|refine wk ?_|refine fk ?_ ?_<;>intro hs|exact⟨⟩|fail)
 refine hcl _ (by rw[zAA (by omega)];exact hg) _ (fun a h0 h9=>?_) (fun a=>?_)
 ·have h1:=h1 a h0 h9
  rw[← zCG (G:=updB (updB g m (.cells 32 (zAW v))) k (mt a)) (b:=mt a) zAB (fun t h1 h2=>by rw[zAA h2,zAA (by omega)])] at h1
  clear h2
  repeat' (first|refine wk ?_|refine fk ?_ ?_<;>intro hs|exact⟨⟩|fail)
 ·have h2:=h2 a
  rw[← zCG (G:=updB (updB g m (.cells 32 (zAW v))) k (mt a)) (b:=mt a) zAB (fun t h1 h2=>by rw[zAA h2,zAA (by omega)])] at h2
  clear h1
  repeat' (first|refine wk ?_|refine fk ?_ ?_<;>intro hs|exact⟨⟩|fail)
theorem c84 {x:List V}(hx:szVs x<1073741824){k b m:Nat}{g:Nat→Box}{u:List (Nat×Nat)}(hu:zAQ m u=true)(hu2:zAJ m u=u)(hk:k<m)(hb:b<m)(hkb:b≠k){left:Int}(hg:g k=mt left)(hgb:g b=.cells 78 [.ptr k 0])(hl:0≤left∧left≤1500)
  {Q:CR→Sto→Prop} (h1:∀a,0≤a→a≤1500→Q (.ret (.bool false)) (S m (updB g k (mt a)) u)) (h2:∀a,Q (.ret (.bool true)) (S m (updB g k (mt a)) u)):C E1 84 [zD8 x,.ptr b 0] (S m g u) Q:=by
 have hxl:=szVs_len x
 have ht:=fun Q=>@c85d k m g u left 1 hu hu2 hk hg hl (by omega) Q
 have hes:zD8 x=.sl 0 (x.map encV) .shut:=rfl
 by_cases hc1:0≤left-1
 ·have hd1:decide (0≤left-1)=true:=decide_eq_true hc1
  have hupd:∀a,updB (updB g k (mt (left-1))) k (mt a)=updB g k (mt a):=fun a=>by
   funext i
   by_cases e:i=k
   ·rw[e,zAB,zAB]
   ·rw[zAA e,zAA e,zAA e]
  have hcf:=fun Q=>@c55m V encV x (.func (b+1) (.func 86) [] [.ptr b 0]) k m g u (by omega) hu hu2 (fun x=>by rw[zA3];rfl) (fun x=>by rw[zA3];exact pk_V) (fun a=>rfl) (fun y hy a h0 h9 Q h1 h2=>zB1 rfl (c86 (by have:=szVs_mem hy;omega) hu hu2 hk hb hkb (g:=updB g k (mt a)) zAB (by rw[zAA hkb];exact hgb) ⟨h0,h9⟩ (fun a' h0 h9=>by
   have:=h1 a' h0 h9
   rw[zCG (g:=g) (b:=mt a') zAB (fun t h1 h2=>by rw[zAA h2,zAA h2])]
   exact this) (fun a'=>by
   have:=h2 a'
   rw[zCG (g:=g) (b:=mt a') zAB (fun t h1 h2=>by rw[zAA h2,zAA h2])]
   exact this))) (left-1) (by omega) Q
  clear hupd
  refine cn ⟨false,false,false,false⟩ Tryz.f84 12 [.tmp 3] ?_
  repeat' (first|refine ht _ ?_|refine wk ?_|refine fk ?_ ?_<;>intro hs|exact⟨⟩|fail)
  refine hcf _ (fun a h0 h9=>?_) (fun a=>?_)
  ·have h1:=h1 a h0 h9
   clear h2 hcf ht
   repeat' (first|refine wk ?_|refine fk ?_ ?_<;>intro hs|exact⟨⟩|fail)
  ·have h2:=h2 a
   clear h1 hcf ht
   repeat' (first|refine wk ?_|refine fk ?_ ?_<;>intro hs|exact⟨⟩|fail)
 ·have hd1:decide (0≤left-1)=false:=decide_eq_false hc1
  have h2:=h2 (left-1)
  clear h1
  refine cn ⟨false,false,false,false⟩ Tryz.f84 12 [.tmp 3] ?_
  repeat' (first|refine ht _ ?_|refine wk ?_|refine fk ?_ ?_<;>intro hs|exact⟨⟩|fail)
theorem c43 {st:List (List V)}(hl:st.length≤1048576)(hst:∀y∈st,szVs y<1073741824){k m:Nat}{g:Nat→Box}{u:List (Nat×Nat)}(hu:zAQ m u=true)(hu2:zAJ m u=u)(hk:k<m){left:Int}(hg:g k=mt left)(hle:0≤left∧left≤1500)
  {Q:CR→Sto→Prop} (h1:∀a,0≤a→a≤1500→Q (.ret (.bool true)) (S m (updB g k (mt a)) u)) (h2:∀a,Q (.ret (.bool false)) (S m (updB g k (mt a)) u)):C E1 43 [.ptr k 0,.sl 0 (st.map zD8) .shut] (S m g u) Q:=by
 have hU:=zB6 hu hu2 (Nat.le_succ m)
 have hU1:=hU.1
 have hU2:=hU.2
 have hkm:m≠k:=by omega
 obtain⟨G,hG⟩:∃G,updB g m (.cells 78 [.ptr k 0])=G:=⟨_,rfl⟩
 have hGk:G k=mt left:=by rw[← hG,zAA (by omega)];exact hg
 have hGm:G m=.cells 78 [.ptr k 0]:=by rw[← hG,zAB]
 have hself:S (m+1) (updB G k (mt left)) u=S (m+1) G u:=(zCG hGk fun _ _ _=>rfl).symm
 have hcf:=fun Q=>@c59m (List V) zD8 st (.func (m+1) (.func 84) [] [.ptr m 0]) k (m+1) G u (by omega) hU1 hU2 (fun x=>rfl) (fun x=>rfl) (fun a=>rfl) (fun y hy a h0 h9 Q h1 h2=>zB1 rfl (c84 (hst y hy) hU1 hU2 (by omega) (Nat.lt_succ_self m) hkm (g:=updB G k (mt a)) zAB (by rw[zAA hkm];exact hGm) ⟨h0,h9⟩ (fun a' h0 h9=>by
   have:=h1 a' h0 h9
   rw[zCG (g:=G) (b:=mt a') zAB (fun t h1 h2=>by rw[zAA h2,zAA h2])]
   exact this) (fun a'=>by
   have:=h2 a'
   rw[zCG (g:=G) (b:=mt a') zAB (fun t h1 h2=>by rw[zAA h2,zAA h2])]
   exact this))) left hle Q
 rw[hself] at hcf
 refine cn ⟨false,false,false,false⟩ Tryz.f43 9 [.tmp 4] ?_
 repeat' (first|refine wk ?_|refine fk ?_ ?_<;>intro hs|exact⟨⟩|fail)
 refine hcf _ (fun a h0 h9=>?_) (fun a=>?_)
 ·have h1:=h1 a h0 h9
  rw[← zCG (G:=updB G k (mt a)) (b:=mt a) zAB (fun t h1 h2=>by rw[zAA h2,← hG,zAA (by omega)])] at h1
  clear h2 hcf hG
  repeat' (first|refine wk ?_|refine fk ?_ ?_<;>intro hs|exact⟨⟩|fail)
 ·have h2:=h2 a
  rw[← zCG (G:=updB G k (mt a)) (b:=mt a) zAB (fun t h1 h2=>by rw[zAA h2,← hG,zAA (by omega)])] at h2
  clear h1 hcf hG
  repeat' (first|refine wk ?_|refine fk ?_ ?_<;>intro hs|exact⟨⟩|fail)
theorem c137 {x:Str}{m:Nat}{g:Nat→Box}{u:List (Nat×Nat)}(hu:zAQ m u=true)(hu2:zAJ m u=u){Q:CR→Sto→Prop}(h:Q (.ret (.bool (decide (300<(x.length:Int))))) (S m g u)):C E1 137 [.str x] (S m g u) Q:=by
 refine cn ⟨false,false,false,false⟩ Tryz.f137 6 [.tmp 2] ?_
 repeat' (first|refine wk ?_|refine fk ?_ ?_<;>intro hs|exact⟨⟩|fail)
theorem zMX (G:Nat→Box)(k:Nat)(a b:Int):updB (updB G k (mt b)) k (mt a)=updB G k (mt a):=zEF _ _ _ _
theorem c91 {k:Nat}:∀(N:Nat) (e:X),szX e<N→szX e<1073741824→∀(deep left:Int) (m:Nat) (g:Nat→Box) (u:List (Nat×Nat)),zAQ m u=true→zAJ m u=u→k<m→g k=mt left→1≤deep→deep≤121→0≤left→left≤1500→
  ∀Q:CR→Sto→Prop,(∀a,0≤a→a≤1500→Q (.ret (.bool true)) (S m (updB g k (mt a)) u))→(∀a,Q (.ret (.bool false)) (S m (updB g k (mt a)) u))→C E1 91 [.ptr k 0,encX e,.int .i64 deep] (S m g u) Q:=by
 intro N
 induction N with
 | zero=>intro e h;exact absurd h (Nat.not_lt_zero _)
 | succ N ih=>
  intro e hN hsz deep left m g u hu hu2 hk hg hd0 hd1 hl0 hl1 Q h1 h2
  have hev:=zGY e
  have hls:=lens_len e.s
  have hlx:=szXs_len e.l
  have hU:=zB6 hu hu2 (show m≤m+1+1+1 by omega)
  have hU1:=hU.1
  have hU2:=hU.2
  have hk3:k<m+1+1+1:=by omega
  obtain⟨G,hG⟩:∃G,updB (updB (updB g m (.cells 78 [.ptr k 0])) (m+1) (.cells 34 (zAL e))) (m+1+1) (.cells 3 [.int .i64 deep])=G:=⟨_,rfl⟩
  have hGk:G k=mt left:=by rw[← hG,zAA (by omega),zAA (by omega),zAA (by omega)];exact hg
  have hm0:G m=.cells 78 [.ptr k 0]:=by rw[← hG,zAA (by omega),zAA (by omega),zAB]
  have hm1:G (m+1)=.cells 34 (zAL e):=by rw[← hG,zAA (by omega),zAB]
  have hm2:G (m+1+1)=.cells 3 [.int .i64 deep]:=by rw[← hG,zAB]
  have hGm:∀a,(updB G k (mt a)) m=.cells 78 [.ptr k 0]:=fun a=>by rw[zAA (by omega)];exact hm0
  have hGm1:∀a,(updB G k (mt a)) (m+1)=.cells 34 (zAL e):=fun a=>by rw[zAA (by omega)];exact hm1
  have hGm2:∀a,(updB G k (mt a)) (m+1+1)=.cells 3 [.int .i64 deep]:=fun a=>by rw[zAA (by omega)];exact hm2
  have hlow:∀a i,i<m→i≠k→(updB G k (mt a)) i=g i:=fun a i h1 h2=>by rw[zAA h2,← hG,zAA (by omega),zAA (by omega),zAA (by omega)]
  have h138:deep≤120→∀y∈e.l,∀a:Int,0≤a→a≤1500→∀Q:CR→Sto→Prop,(∀a,0≤a→a≤1500→Q (.ret (.bool false)) (S (m+1+1+1) (updB G k (mt a)) u))→(∀a,Q (.ret (.bool true)) (S (m+1+1+1) (updB G k (mt a)) u))→C E1 138 [encX y,.ptr m 0,.ptr (m+1+1) 0] (S (m+1+1+1) (updB G k (mt a)) u) Q:=by
   intro hd y hy a h0 h9 Q h1 h2
   have hU3:=zB6 hU1 hU2 (Nat.le_succ (m+1+1+1))
   have hys:=szXs_mem hy
   have hcl:=fun(G':Nat→Box) (h':G' k=mt a)=>ih y (by omega) (by omega) (deep+1) a (m+1+1+1+1) G' u hU3.1 hU3.2 (by omega) h' (by omega) (by omega) h0 h9
   have e0:=hGm a
   have e2:=hGm2 a
   have e3:(updB G k (mt a)) k=mt a:=zAB
   have hlw:∀t,t≠k→(updB G k (mt a)) t=G t:=fun t h=>zAA h
   clear hG hGk hm0 hm1 hm2 hGm hGm1 hGm2 hlow ih
   generalize updB G k (mt a)=G1 at *
   refine cn ⟨false,false,false,false⟩ Tryz.f138 11 [.tmp 4] ?_
   repeat' (first|refine wk ?_|refine fk ?_ ?_<;>intro hs|exact⟨⟩|fail)
   refine hcl _ (by rw[zAA (by omega)];exact e3) _ (fun a' h0 h9=>?_) (fun a'=>?_)
   ·have h1:=h1 a' h0 h9
    rw[← zCG (G:=updB G1 k (mt a')) (b:=mt a') zAB (fun t h1 h2=>by rw[zAA h2];exact hlw t h2)] at h1
    clear h2 hcl hlw
    repeat' (first|refine wk ?_|refine fk ?_ ?_<;>intro hs|exact⟨⟩|fail)
   ·have h2:=h2 a'
    rw[← zCG (G:=updB G1 k (mt a')) (b:=mt a') zAB (fun t h1 h2=>by rw[zAA h2];exact hlw t h2)] at h2
    clear h1 hcl hlw
    repeat' (first|refine wk ?_|refine fk ?_ ?_<;>intro hs|exact⟨⟩|fail)
  have ht:=fun Q=>@c85d k (m+1+1+1) G u left (1+e.s.length) hU1 hU2 hk3 hGk ⟨hl0,hl1⟩ (by omega) Q
  have hcv:=fun(b:Int) (hb:0≤b∧b≤1500)=>c87 (k:=k) (szV e.v+1) e.v (Nat.lt_succ_self _) (by omega) 1 b (m+1+1+1) (updB G k (mt b)) u hU1 hU2 hk3 zAB (by omega) (by omega) hb.1 hb.2
  have hcs:=fun(a:Int) (Q:CR→Sto→Prop) hQ=>c136p (h:=AV.str) (l:=e.s) (fv:=.func 0 (.func 137) [] []) (q:=fun x=>decide (300<(x.length:Int))) (g:=updB G k (mt a)) (m:=m+1+1+1) (u:=u) (by omega) hU1 hU2 (fun _=>rfl) (fun _=>rfl) rfl (fun x _ Q hQ=>zB1 rfl (c137 hU1 hU2 hQ)) (Q:=Q) hQ
  have hcx:=fun(hd:deep≤120) (a:Int) (ha:0≤a∧a≤1500) (Q:CR→Sto→Prop)=>@c89m X encX e.l (.func ((m+1).max (m+1+1+1)) (.func 138) [] [.ptr m 0,.ptr (m+1+1) 0]) k (m+1+1+1) G u (by omega) hU1 hU2 (fun x=>by rw[zA2];rfl) (fun x=>by rw[zA2];exact pk_X) (fun _=>rfl) (fun y hy a h0 h9 Q h1 h2=>zB1 rfl (h138 hd y hy a h0 h9 Q h1 h2)) a ha Q
  clear ih h138
  by_cases hc1:0≤left-(1+(e.s.length:Int))
  ·have hq1:decide (0≤left-(1+(e.s.length:Int)))=true:=decide_eq_true hc1
   by_cases hc2:120<deep
   ·have hq2:decide (120<deep)=true:=decide_eq_true hc2
    have h2:=h2 (left-(1+e.s.length))
    rw[← zCG zAB (hlow _)] at h2
    clear h1 hcv hcs hcx hlow
    refine cn ⟨false,false,false,false⟩ Tryz.f91 35 [.tmp 6] ?_
    repeat' (first|refine ht _ ?_|refine wk ?_|refine fk ?_ ?_<;>intro hs|exact⟨⟩|fail)
   ·have hq2:decide (120<deep)=false:=decide_eq_false hc2
    have hcv:=hcv (left-(1+(e.s.length:Int))) ⟨hc1,by omega⟩
    have hcx:=hcx (by omega)
    refine cn ⟨false,false,false,false⟩ Tryz.f91 35 [.tmp 6] ?_
    repeat' (first|refine ht _ ?_|refine wk ?_|refine fk ?_ ?_<;>intro hs|exact⟨⟩|fail)
    clear ht hG hGk hm0 hm1 hm2 hq1 hq2
    refine hcv _ (fun a h0 h9=>?_) (fun a=>?_)
    ·rw[zMX]
     have hcs:=hcs a
     have hcx:=hcx a ⟨h0,h9⟩
     clear hcv
     cases hst:e.s.any fun x=>decide (300<(x.length:Int)) with
     | true=>
      rw[hst] at hcs
      have h2:=h2 a
      rw[← zCG zAB (hlow a)] at h2
      clear h1 hlow hcx hst
      repeat' (first|refine hcs _ ?_|refine wk ?_|refine fk ?_ ?_<;>intro hs|exact⟨⟩|fail)
     | false=>
      rw[hst] at hcs
      clear hst
      repeat' (first|refine hcs _ ?_|refine wk ?_|refine fk ?_ ?_<;>intro hs|exact⟨⟩|fail)
      refine hcx _ (fun a h0 h9=>?_) (fun a=>?_)
      ·have h1:=h1 a h0 h9
       rw[← zCG zAB (hlow a)] at h1
       clear h2 hlow hcx hcs
       repeat' (first|refine wk ?_|refine fk ?_ ?_<;>intro hs|exact⟨⟩|fail)
      ·have h2:=h2 a
       rw[← zCG zAB (hlow a)] at h2
       clear h1 hlow hcx hcs
       repeat' (first|refine wk ?_|refine fk ?_ ?_<;>intro hs|exact⟨⟩|fail)
    ·rw[zMX]
     have h2:=h2 a
     rw[← zCG zAB (hlow a)] at h2
     clear h1 hlow hcx hcs hcv
     repeat' (first|refine wk ?_|refine fk ?_ ?_<;>intro hs|exact⟨⟩|fail)
  ·have hq1:decide (0≤left-(1+(e.s.length:Int)))=false:=decide_eq_false hc1
   have h2:=h2 (left-(1+e.s.length))
   rw[← zCG zAB (hlow _)] at h2
   clear h1 hcv hcs hcx hlow
   refine cn ⟨false,false,false,false⟩ Tryz.f91 35 [.tmp 6] ?_
   repeat' (first|refine ht _ ?_|refine wk ?_|refine fk ?_ ?_<;>intro hs|exact⟨⟩|fail)
theorem c90 {x:X}(hx:szX x<1073741824){k b m:Nat}{g:Nat→Box}{u:List (Nat×Nat)}(hu:zAQ m u=true)(hu2:zAJ m u=u)(hk:k<m)(hb:b<m)(hkb:b≠k){left:Int}(hg:g k=mt left)(hgb:g b=.cells 78 [.ptr k 0])(hl:0≤left∧left≤1500)
  {Q:CR→Sto→Prop} (h1:∀a,0≤a→a≤1500→Q (.ret (.bool false)) (S m (updB g k (mt a)) u)) (h2:∀a,Q (.ret (.bool true)) (S m (updB g k (mt a)) u)):C E1 90 [encX x,.ptr b 0] (S m g u) Q:=by
 have hU:=zB6 hu hu2 (Nat.le_succ m)
 have hbm:b≠m:=by omega
 have hcl:=fun(G':Nat→Box) (h':G' k=mt left)=>c91 (szX x+1) x (Nat.lt_succ_self _) hx 1 left (m+1) G' u hU.1 hU.2 (by omega) h' (by omega) (by omega) hl.1 hl.2
 refine cn ⟨false,false,false,false⟩ Tryz.f90 8 [.tmp 3] ?_
 repeat' (first|refine wk ?_|refine fk ?_ ?_<;>intro hs|exact⟨⟩|fail)
 refine hcl _ (by rw[zAA (by omega)];exact hg) _ (fun a h0 h9=>?_) (fun a=>?_)
 ·have h1:=h1 a h0 h9
  rw[← zCG (G:=updB (updB g m (.cells 34 (zAL x))) k (mt a)) (b:=mt a) zAB (fun t h1 h2=>by rw[zAA h2,zAA (by omega)])] at h1
  clear h2
  repeat' (first|refine wk ?_|refine fk ?_ ?_<;>intro hs|exact⟨⟩|fail)
 ·have h2:=h2 a
  rw[← zCG (G:=updB (updB g m (.cells 34 (zAL x))) k (mt a)) (b:=mt a) zAB (fun t h1 h2=>by rw[zAA h2,zAA (by omega)])] at h2
  clear h1
  repeat' (first|refine wk ?_|refine fk ?_ ?_<;>intro hs|exact⟨⟩|fail)
theorem c47 {k:Nat}:∀(N:Nat) (e:T),szT e<N→szT e<1073741824→∀(deep left:Int) (m:Nat) (g:Nat→Box) (u:List (Nat×Nat)),zAQ m u=true→zAJ m u=u→k<m→g k=mt left→1≤deep→deep≤121→0≤left→left≤1500→
  ∀Q:CR→Sto→Prop,(∀a,0≤a→a≤1500→Q (.ret (.bool true)) (S m (updB g k (mt a)) u))→(∀a,Q (.ret (.bool false)) (S m (updB g k (mt a)) u))→C E1 47 [.ptr k 0,encT e,.int .i64 deep] (S m g u) Q:=by
 intro N
 induction N with
 | zero=>intro e h;exact absurd h (Nat.not_lt_zero _)
 | succ N ih=>
  intro e hN hsz deep left m g u hu hu2 hk hg hd0 hd1 hl0 hl1 Q h1 h2
  have hev:=zWA e
  have hlx:=szTs_len e.l
  have hU:=zB6 hu hu2 (show m≤m+1+1+1 by omega)
  have hU1:=hU.1
  have hU2:=hU.2
  have hk3:k<m+1+1+1:=by omega
  obtain⟨G,hG⟩:∃G,updB (updB (updB g m (.cells 78 [.ptr k 0])) (m+1) (.cells 43 (zCH e))) (m+1+1) (.cells 3 [.int .i64 deep])=G:=⟨_,rfl⟩
  have hGk:G k=mt left:=by rw[← hG,zAA (by omega),zAA (by omega),zAA (by omega)];exact hg
  have hm0:G m=.cells 78 [.ptr k 0]:=by rw[← hG,zAA (by omega),zAA (by omega),zAB]
  have hm1:G (m+1)=.cells 43 (zCH e):=by rw[← hG,zAA (by omega),zAB]
  have hm2:G (m+1+1)=.cells 3 [.int .i64 deep]:=by rw[← hG,zAB]
  have hGm:∀a,(updB G k (mt a)) m=.cells 78 [.ptr k 0]:=fun a=>by rw[zAA (by omega)];exact hm0
  have hGm1:∀a,(updB G k (mt a)) (m+1)=.cells 43 (zCH e):=fun a=>by rw[zAA (by omega)];exact hm1
  have hGm2:∀a,(updB G k (mt a)) (m+1+1)=.cells 3 [.int .i64 deep]:=fun a=>by rw[zAA (by omega)];exact hm2
  have hlo:∀i,i<m→i≠k→G i=g i:=fun i h1 h2=>by rw[← hG,zAA (by omega),zAA (by omega),zAA (by omega)]
  have hlow:∀a i,i<m→i≠k→(updB G k (mt a)) i=g i:=fun a i h1 h2=>by rw[zAA h2];exact hlo i h1 h2
  have h94:deep≤120→∀y∈e.l,∀a:Int,0≤a→a≤1500→∀Q:CR→Sto→Prop,(∀a,0≤a→a≤1500→Q (.ret (.bool false)) (S (m+1+1+1) (updB G k (mt a)) u))→(∀a,Q (.ret (.bool true)) (S (m+1+1+1) (updB G k (mt a)) u))→C E1 94 [encT y,.ptr m 0,.ptr (m+1+1) 0] (S (m+1+1+1) (updB G k (mt a)) u) Q:=by
   intro hd y hy a h0 h9 Q h1 h2
   have hU3:=zB6 hU1 hU2 (Nat.le_succ (m+1+1+1))
   have hys:=szTs_mem hy
   have hcl:=fun(G':Nat→Box) (h':G' k=mt a)=>ih y (by omega) (by omega) (deep+1) a (m+1+1+1+1) G' u hU3.1 hU3.2 (by omega) h' (by omega) (by omega) h0 h9
   have e0:=hGm a
   have e2:=hGm2 a
   have e3:(updB G k (mt a)) k=mt a:=zAB
   have hlw:∀t,t≠k→(updB G k (mt a)) t=G t:=fun t h=>zAA h
   clear hG hGk hm0 hm1 hm2 hGm hGm1 hGm2 hlow hlo ih
   generalize updB G k (mt a)=G1 at *
   refine cn ⟨false,false,false,false⟩ Tryz.f94 11 [.tmp 4] ?_
   repeat' (first|refine wk ?_|refine fk ?_ ?_<;>intro hs|exact⟨⟩|fail)
   refine hcl _ (by rw[zAA (by omega)];exact e3) _ (fun a' h0 h9=>?_) (fun a'=>?_)
   ·have h1:=h1 a' h0 h9
    rw[← zCG (G:=updB G1 k (mt a')) (b:=mt a') zAB (fun t h1 h2=>by rw[zAA h2];exact hlw t h2)] at h1
    clear h2 hcl hlw
    repeat' (first|refine wk ?_|refine fk ?_ ?_<;>intro hs|exact⟨⟩|fail)
   ·have h2:=h2 a'
    rw[← zCG (G:=updB G1 k (mt a')) (b:=mt a') zAB (fun t h1 h2=>by rw[zAA h2];exact hlw t h2)] at h2
    clear h1 hcl hlw
    repeat' (first|refine wk ?_|refine fk ?_ ?_<;>intro hs|exact⟨⟩|fail)
  have hce:=fun(x:X)(hx:szX x<1073741824) (G':Nat→Box) (a:Int) (h':G' k=mt a) (ha:0≤a∧a≤1500)=>c91 (k:=k) (szX x+1) x (Nat.lt_succ_self _) hx 1 a (m+1+1+1) G' u hU1 hU2 hk3 h' (by omega) (by omega) ha.1 ha.2
  have hct:=fun(hd:deep≤120) (a:Int) (ha:0≤a∧a≤1500) (Q:CR→Sto→Prop)=>@c45m T encT e.l (.func ((m+1).max (m+1+1+1)) (.func 94) [] [.ptr m 0,.ptr (m+1+1) 0]) k (m+1+1+1) G u (by omega) hU1 hU2 (fun x=>by rw[zA4];rfl) (fun x=>by rw[zA4];exact pk_T) (fun _=>rfl) (fun y hy a h0 h9 Q h1 h2=>zB1 rfl (h94 hd y hy a h0 h9 Q h1 h2)) a ha Q
  clear ih h94
  by_cases hc2:120<deep
  ·have hq2:decide (120<deep)=true:=decide_eq_true hc2
   have h2:=h2 left
   rw[← zCG hGk hlo] at h2
   clear h1 hce hct hlow hlo
   refine cn ⟨false,false,false,false⟩ Tryz.f47 28 [.tmp 6] ?_
   repeat' (first|refine wk ?_|refine fk ?_ ?_<;>intro hs|exact⟨⟩|fail)
  have hq2:decide (120<deep)=false:=decide_eq_false hc2
  have hct:=hct (by omega)
  have c1:=hce e.e (by omega) G left hGk ⟨hl0,hl1⟩
  have c2:=fun a ha=>hce e.sub (by omega) (updB G k (mt a)) a zAB ha
  clear hce
  have hF:∀a,Q (.ret (.bool false)) (S m (updB G k (mt a)) u):=fun a=>by rw[zCG zAB (hlow a)];exact h2 a
  have hT:∀a,0≤a→a≤1500→Q (.ret (.bool true)) (S m (updB G k (mt a)) u):=fun a h0 h9=>by rw[zCG zAB (hlow a)];exact h1 a h0 h9
  clear h1 h2 hlow hlo
  refine cn ⟨false,false,false,false⟩ Tryz.f47 28 [.tmp 6] ?_
  repeat' (first|refine wk ?_|refine fk ?_ ?_<;>intro hs|exact⟨⟩|fail)
  clear hm0 hm1 hm2 hG hGk hq2
  refine c1 _ (fun a h0 h9=>?_) (fun a=>?_)
  ·have c2:=c2 a ⟨h0,h9⟩
   clear c1
   repeat' (first|refine wk ?_|refine fk ?_ ?_<;>intro hs|exact⟨⟩|fail)
   refine c2 _ (fun a h0 h9=>?_) (fun a=>?_)
   ·rw[zMX]
    have hct:=hct a ⟨h0,h9⟩
    clear c2
    repeat' (first|refine wk ?_|refine fk ?_ ?_<;>intro hs|exact⟨⟩|fail)
    refine hct _ (fun a h0 h9=>?_) (fun a=>?_)
    ·have h1:=hT a h0 h9
     clear hct hT hF
     repeat' (first|refine wk ?_|refine fk ?_ ?_<;>intro hs|exact⟨⟩|fail)
    ·have h2:=hF a
     clear hct hT hF
     repeat' (first|refine wk ?_|refine fk ?_ ?_<;>intro hs|exact⟨⟩|fail)
   ·rw[zMX]
    have h2:=hF a
    clear hct hT hF c2
    repeat' (first|refine wk ?_|refine fk ?_ ?_<;>intro hs|exact⟨⟩|fail)
  ·have h2:=hF a
   clear hct hT hF c1 c2
   repeat' (first|refine wk ?_|refine fk ?_ ?_<;>intro hs|exact⟨⟩|fail)
theorem c46 {x:T}(hx:szT x<1073741824){k b m:Nat}{g:Nat→Box}{u:List (Nat×Nat)}(hu:zAQ m u=true)(hu2:zAJ m u=u)(hk:k<m)(hb:b<m)(hkb:b≠k){left:Int}(hg:g k=mt left)(hgb:g b=.cells 78 [.ptr k 0])(hl:0≤left∧left≤1500)
  {Q:CR→Sto→Prop} (h1:∀a,0≤a→a≤1500→Q (.ret (.bool false)) (S m (updB g k (mt a)) u)) (h2:∀a,Q (.ret (.bool true)) (S m (updB g k (mt a)) u)):C E1 46 [encT x,.ptr b 0] (S m g u) Q:=by
 have hU:=zB6 hu hu2 (Nat.le_succ m)
 have hbm:b≠m:=by omega
 have hcl:=fun(G':Nat→Box) (h':G' k=mt left)=>c47 (szT x+1) x (Nat.lt_succ_self _) hx 1 left (m+1) G' u hU.1 hU.2 (by omega) h' (by omega) (by omega) hl.1 hl.2
 refine cn ⟨false,false,false,false⟩ Tryz.f46 8 [.tmp 3] ?_
 repeat' (first|refine wk ?_|refine fk ?_ ?_<;>intro hs|exact⟨⟩|fail)
 refine hcl _ (by rw[zAA (by omega)];exact hg) _ (fun a h0 h9=>?_) (fun a=>?_)
 ·have h1:=h1 a h0 h9
  rw[← zCG (G:=updB (updB g m (.cells 43 (zCH x))) k (mt a)) (b:=mt a) zAB (fun t h1 h2=>by rw[zAA h2,zAA (by omega)])] at h1
  clear h2
  repeat' (first|refine wk ?_|refine fk ?_ ?_<;>intro hs|exact⟨⟩|fail)
 ·have h2:=h2 a
  rw[← zCG (G:=updB (updB g m (.cells 43 (zCH x))) k (mt a)) (b:=mt a) zAB (fun t h1 h2=>by rw[zAA h2,zAA (by omega)])] at h2
  clear h1
  repeat' (first|refine wk ?_|refine fk ?_ ?_<;>intro hs|exact⟨⟩|fail)
theorem c92 {x:Prp}(hx:szT x.t<1073741824){k b m:Nat}{g:Nat→Box}{u:List (Nat×Nat)}(hu:zAQ m u=true)(hu2:zAJ m u=u)(hk:k<m)(hb:b<m)(hkb:b≠k){left:Int}(hg:g k=mt left)(hgb:g b=.cells 78 [.ptr k 0])(hl:0≤left∧left≤1500)
  {Q:CR→Sto→Prop} (h1:∀a,0≤a→a≤1500→Q (.ret (.bool false)) (S m (updB g k (mt a)) u)) (h2:∀a,Q (.ret (.bool true)) (S m (updB g k (mt a)) u)):C E1 92 [zDB x,.ptr b 0] (S m g u) Q:=by
 have hU:=zB6 hu hu2 (Nat.le_succ m)
 have hbm:b≠m:=by omega
 have hcl:=fun(G':Nat→Box) (h':G' k=mt left)=>c47 (szT x.t+1) x.t (Nat.lt_succ_self _) hx 1 left (m+1) G' u hU.1 hU.2 (by omega) h' (by omega) (by omega) hl.1 hl.2
 refine cn ⟨false,false,false,false⟩ Tryz.f92 9 [.tmp 3] ?_
 repeat' (first|refine wk ?_|refine fk ?_ ?_<;>intro hs|exact⟨⟩|fail)
 refine hcl _ (by rw[zAA (by omega)];exact hg) _ (fun a h0 h9=>?_) (fun a=>?_)
 ·have h1:=h1 a h0 h9
  rw[← zCG (G:=updB (updB g m (.cells 89 (zDE x))) k (mt a)) (b:=mt a) zAB (fun t h1 h2=>by rw[zAA h2,zAA (by omega)])] at h1
  clear h2
  repeat' (first|refine wk ?_|refine fk ?_ ?_<;>intro hs|exact⟨⟩|fail)
 ·have h2:=h2 a
  rw[← zCG (G:=updB (updB g m (.cells 89 (zDE x))) k (mt a)) (b:=mt a) zAB (fun t h1 h2=>by rw[zAA h2,zAA (by omega)])] at h2
  clear h1
  repeat' (first|refine wk ?_|refine fk ?_ ?_<;>intro hs|exact⟨⟩|fail)
end Go.Ab.X
namespace Go.Ab.X
open Go Go.Ab Go.Proofs Pl
set_option maxRecDepth 100000
set_option maxHeartbeats 16000000
def vX (v:V):X:=.mk 0 0 [] v []
def encXn (v:V):AV:=.agg ([.int .i64 0,.int .i64 0,.sl 0 [] .nil]++zAW v++[.sl 0 [] .nil])
theorem build_34 (fr:Fr)(ps:List (Nat×Operand))(s:Sto):zDL E1 fr 34 ps s=(match zBW fr ps with|some ps=>bldT 34 ps s|none=>.no):=rfl
theorem b34 (v:V)(s:Sto):bldT 34 [(3,encV v)] s=.val (encXn v) s:=by rw[zFV];rfl
theorem seal_Xn (v:V)(s:Sto):zBC s (encXn v)=some (encX (vX v),s):=by rw[zBQ];rfl
attribute [go_sem] build_34 b34 seal_Xn
theorem gF_put {ty:TypeId}{es base m k j:Nat}{g:Nat→Box}{b:Box}{xs:List AV}(h:gF ty es base g m k xs)(hj:j<base):gF ty es base (updB g j b) m k xs:=by
 obtain⟨h0,h⟩:=h
 refine⟨h0,h.imp id fun⟨h1,h2,sl,h3⟩=>⟨h1,h2,sl,?_⟩⟩
 rw[zAA (by omega)];exact h3
structure Mt (sp:Pl.Spec):Prop where
 ml:sp.models.length<1073741824
 gl:sp.groups.length<1073741824
 pl:sp.props.length<1073741824
 g2:∀l∈sp.groups,l.length<1073741824
 cl:sp.consts.length<1073741824
 vl:sp.vars.length<1073741824
 dl:sp.defs.length<1073741824
 fal:sp.fair.length<1073741824
 il:sp.invs.length<1073741824
 al:sp.assume.length<1073741824
 col:sp.cons.length<1073741824
 acl:sp.acons.length<1073741824
 vwl:sp.view.length<1073741824
 cv:∀c∈sp.consts,szV c.v<1073730000
 vt:∀x∈sp.vars,szX x.typ<1073740000
 db:∀x∈sp.defs,szX x.body<1073740000∧x.params.length<1073741824
 ff:∀x∈sp.fair,szX x.a<1073740000∧szX x.sub<1073740000
 ie:∀x∈sp.invs,szX x.e<1073740000
 pt:∀x∈sp.props,szT x.t<1073740000
 l0:∀x∈([sp.assume,sp.cons,sp.acons,sp.view,[sp.init,sp.next]]:List (List X)).flatten,szX x<1073740000
theorem c44 {sp:Pl.Spec}(hz:Mt sp){k m:Nat}{g:Nat→Box}{u:List (Nat×Nat)}(hu:zAQ m u=true)(hu2:zAJ m u=u)(hk:k<m){left:Int}(hg:g k=mt left)(hl:0≤left∧left≤1500)
  {Q:CR→Sto→Prop} (h1:∀a,0≤a→a≤1500→Q (.ret (.bool true)) (S m (updB g k (mt a)) u)) (h2:∀a,Q (.ret (.bool false)) (S m (updB g k (mt a)) u)):C E1 44 [.ptr k 0,zAN sp] (S m g u) Q:=by
 have z1:=hz.ml
 have z2:=hz.gl
 have z3:=hz.pl
 have z4:=hz.cl
 have z5:=hz.vl
 have z6:=hz.dl
 have z7:=hz.fal
 have z8:=hz.il
 have z9:=hz.al
 have za:=hz.col
 have zb:=hz.acl
 have zc:=hz.vwl
 have hl0z:=hz.l0
 obtain⟨G0,hG0⟩:∃G,updB (updB g m (.cells 78 [.ptr k 0])) (m+1) (.cells 40 (zAC sp))=G:=⟨_,rfl⟩
 have hGk:G0 k=mt left:=by rw[← hG0,zAA (by omega),zAA (by omega)];exact hg
 have hGm:G0 m=.cells 78 [.ptr k 0]:=by rw[← hG0,zAA (by omega),zAB]
 have hGs:G0 (m+1)=.cells 40 (zAC sp):=by rw[← hG0,zAB]
 have hlo:∀i,i<m→i≠k→G0 i=g i:=fun i h1 h2=>by rw[← hG0,zAA (by omega),zAA (by omega)]
 have hT:∀(M:Nat) (G:Nat→Box) (a:Int),(∀i,i<m→i≠k→G i=g i)→G k=mt a→0≤a→a≤1500→Q (.ret (.bool true)) (S m G u):=fun M G a e1 e2 h0 h9=>by rw[zCG e2 e1];exact h1 a h0 h9
 have hF:∀(M:Nat) (G:Nat→Box) (a:Int),(∀i,i<m→i≠k→G i=g i)→G k=mt a→Q (.ret (.bool false)) (S m G u):=fun M G a e1 e2=>by rw[zCG e2 e1];exact h2 a
 clear h1 h2
 obtain⟨L0,hL0⟩:∃L0,([sp.assume,sp.cons,sp.acons,sp.view,[sp.init,sp.next]]:List (List X)).flatten=L0:=⟨_,rfl⟩
 have hL0p:0<L0.length:=by rw[← hL0];simp;omega
 have hL0l:L0.length<5368709120:=by rw[← hL0];simp;omega
 have h88:∀Q:CR→Sto→Prop,(∀g2:Nat→Box,g2 (m+1+1)=.row 34 11 (L0.map encX) false→(∀i,i<m+1+1→g2 i=G0 i)→Q (.ret (.osl (m+1+1) 0 L0.length)) (S (m+1+1+1) g2 u))→C E1 88 [.sl 0 [.sl 0 (sp.assume.map encX) .shut,.sl 0 (sp.cons.map encX) .shut,.sl 0 (sp.acons.map encX) .shut,.sl 0 (sp.view.map encX) .shut,.sl 0 [encX sp.init,encX sp.next] .shut] .clip] (S (m+1+1) G0 u) Q:=fun Q hQ=>
  zG3 (args1:=[.sl 0 (([sp.assume,sp.cons,sp.acons,sp.view,[sp.init,sp.next]]:List (List X)).map slX) .shut]) (s1:=S (m+1+1) G0 u) rfl rfl rfl rfl rfl rfl rfl (c88 (by simp) (by rw[hL0];omega) (by rw[hL0];omega) (by rw[hL0];exact hQ))
 rw[hL0] at hl0z
 clear hL0
 obtain⟨A0,hA0⟩:∃A:Int,(sp.models.length:Int)+sp.consts.length+sp.vars.length+sp.defs.length+sp.fair.length+sp.invs.length+sp.props.length+sp.groups.length=A:=⟨_,rfl⟩
 have hA:0≤A0∧A0≤8589934592:=by omega
 refine cn ⟨false,false,false,false⟩ Tryz.f44 164 [.tmp 4] ?_
 repeat' (first|apply h88|refine wk ?_|refine fk ?_ ?_<;>intro hs|exact⟨⟩|fail)
 intro g2 hg2 hlow2
 clear h88
 have hgsp:gs (m+1+1) (L0.map encX)=.osl (m+1+1) 0 L0.length:=by rw[gs_pos (by rw[List.length_map];omega),List.length_map]
 have hgm:gF 34 11 (m+1+1) g2 (m+1+1+1) (m+1+1) (L0.map encX):=⟨by omega,.inr ⟨Nat.le_refl _,by omega,false,hg2⟩⟩
 have hg2s:g2 (m+1)=.cells 40 (zAC sp):=by rw[hlow2 (m+1) (by omega)];exact hGs
 repeat' (first|refine wk ?_|refine fk ?_ ?_<;>intro hs|exact⟨⟩|fail)
 refine zAF (ι:=Nat×Nat×Nat×(Nat→Box)×List (X)) (fun p=>[(2,.ptr m 0),(3,.ptr (m+1) 0),(5,gs p.2.2.1 (p.2.2.2.2.map encX)),(6,.int .i64 A0),(66,.sl 0 (sp.consts.map zBF) .shut),(67,.int .i64 sp.consts.length),(68,.int .i64 p.1)]) (fun p=>S p.2.1 p.2.2.2.1 u)
  (fun p=>p.1≤sp.consts.length∧gF 34 11 (m+1+1) p.2.2.2.1 p.2.1 p.2.2.1 (p.2.2.2.2.map encX)∧(∀i,i<m+1+1→p.2.2.2.1 i=G0 i)∧(∀y∈p.2.2.2.2,szX y<1073740000)∧p.2.2.2.2.length≤5368709120+1*p.1) (fun p=>sp.consts.length-p.1) ?_ (0,m+1+1+1,m+1+1,g2,L0) ⟨Nat.zero_le _,hgm,hlow2,hl0z,by dsimp only;omega⟩ ⟨rfl,rfl,by rw[hgsp];rfl,rfl,rfl,rfl,rfl,trivial⟩ rfl
 clear hg2 hlow2 hg2s hgsp hgm hl0z hL0p hL0l
 clear g2 L0
 rintro⟨i,M,kx,G,L⟩ b ⟨hi,hg1,hlow,hP,hL⟩ hrec
 dsimp only at hi hg1 hlow hP hL hrec ⊢
 have hM:m+1+1≤M:=hg1.1
 have hGs1:G (m+1)=.cells 40 (zAC sp):=by rw[hlow (m+1) (by omega)];exact hGs
 rcases Nat.lt_or_ge i sp.consts.length with hlt|hge
 ·have hc:decide ((i:Int)<sp.consts.length)=true:=decide_eq_true (by omega)
  have hx:sp.consts[i]?=some sp.consts[i]:=List.getElem?_eq_getElem hlt
  have hb:=hz.cv _ (List.getElem_mem hlt)
  generalize sp.consts[i]=x at *
  obtain⟨g3,ha,hg3,hlow3⟩:=zFJ (b:=176) (u:=u) (ys:=[encX (vX x.v)]) (zKM hg1 (.cells 126 (zBX x))) (zHK [vX x.v]) (by simp) (by rw[List.length_map];simp only[List.length_cons,List.length_nil];omega) (by rw[zAV,zC4];exact zC4 [vX x.v])
  have e1:L.map encX++[encX (vX x.v)]=(L++[vX x.v]).map encX:=by rw[List.map_append];rfl
  rw[e1] at ha hg3
  clear e1
  have hP3:∀y∈L++[vX x.v],szX y<1073740000:=fun y hy=>by
   rcases List.mem_append.1 hy with hy|hy
   ·exact hP y hy
   ·simp only[List.mem_cons,List.not_mem_nil,or_false] at hy
    subst hy;simp only[vX,szX,lens,szXs];omega
  have hL3:(L++[vX x.v]).length≤5368709120+1*(i+1):=by rw[List.length_append];simp only[List.length_cons,List.length_nil];omega
  repeat' (first|refine wk ?_|refine fk ?_ ?_<;>intro hs|exact⟨⟩|fail)
  exact hrec (i+1,M+1+1,M+1,g3,L++[vX x.v]) _ _ _ ⟨hlt,hg3,fun i hi=>by dsimp only;rw[hlow3 i hi,zAA (by omega)];exact hlow i hi,hP3,hL3⟩ (by dsimp only;omega) ⟨rfl,rfl,rfl,rfl,rfl,rfl,congrArg (fun z=>some (AV.int .i64 z)) (by dsimp only;omega),trivial⟩ rfl
 have hc:decide ((i:Int)<sp.consts.length)=false:=decide_eq_false (by omega)
 clear hrec
 replace hL:L.length≤6442450944:=by omega
 clear hi hge
 repeat' (first|refine wk ?_|refine fk ?_ ?_<;>intro hs|exact⟨⟩|fail)
 clear hc
 refine zAF (ι:=Nat×Nat×Nat×(Nat→Box)×List (X)) (fun p=>[(2,.ptr m 0),(3,.ptr (m+1) 0),(5,gs p.2.2.1 (p.2.2.2.2.map encX)),(6,.int .i64 A0),(80,.sl 0 (sp.vars.map zDX) .shut),(81,.int .i64 sp.vars.length),(82,.int .i64 p.1)]) (fun p=>S p.2.1 p.2.2.2.1 u)
  (fun p=>p.1≤sp.vars.length∧gF 34 11 (m+1+1) p.2.2.2.1 p.2.1 p.2.2.1 (p.2.2.2.2.map encX)∧(∀i,i<m+1+1→p.2.2.2.1 i=G0 i)∧(∀y∈p.2.2.2.2,szX y<1073740000)∧p.2.2.2.2.length≤6442450944+1*p.1) (fun p=>sp.vars.length-p.1) ?_ (0,M,kx,G,L) ⟨Nat.zero_le _,hg1,hlow,hP,by dsimp only;omega⟩ ⟨rfl,rfl,rfl,rfl,rfl,rfl,rfl,trivial⟩ rfl
 clear hg1 hlow hP hL hM hGs1
 clear M kx G L i
 rintro⟨i,M,kx,G,L⟩ b ⟨hi,hg1,hlow,hP,hL⟩ hrec
 dsimp only at hi hg1 hlow hP hL hrec ⊢
 have hM:m+1+1≤M:=hg1.1
 have hGs1:G (m+1)=.cells 40 (zAC sp):=by rw[hlow (m+1) (by omega)];exact hGs
 rcases Nat.lt_or_ge i sp.vars.length with hlt|hge
 ·have hc:decide ((i:Int)<sp.vars.length)=true:=decide_eq_true (by omega)
  have hx:sp.vars[i]?=some sp.vars[i]:=List.getElem?_eq_getElem hlt
  have hb:=hz.vt _ (List.getElem_mem hlt)
  generalize sp.vars[i]=x at *
  obtain⟨g3,ha,hg3,hlow3⟩:=zFJ (b:=176) (u:=u) (ys:=[encX x.typ]) (zKM hg1 (.cells 108 (zDD x))) (zHK [x.typ]) (by simp) (by rw[List.length_map];simp only[List.length_cons,List.length_nil];omega) (by rw[zAV,zC4];exact zC4 [x.typ])
  have e1:L.map encX++[encX x.typ]=(L++[x.typ]).map encX:=by rw[List.map_append];rfl
  rw[e1] at ha hg3
  clear e1
  have hP3:∀y∈L++[x.typ],szX y<1073740000:=fun y hy=>by
   rcases List.mem_append.1 hy with hy|hy
   ·exact hP y hy
   ·simp only[List.mem_cons,List.not_mem_nil,or_false] at hy
    subst hy;exact hb
  have hL3:(L++[x.typ]).length≤6442450944+1*(i+1):=by rw[List.length_append];simp only[List.length_cons,List.length_nil];omega
  repeat' (first|refine wk ?_|refine fk ?_ ?_<;>intro hs|exact⟨⟩|fail)
  exact hrec (i+1,M+1+1,M+1,g3,L++[x.typ]) _ _ _ ⟨hlt,hg3,fun i hi=>by dsimp only;rw[hlow3 i hi,zAA (by omega)];exact hlow i hi,hP3,hL3⟩ (by dsimp only;omega) ⟨rfl,rfl,rfl,rfl,rfl,rfl,congrArg (fun z=>some (AV.int .i64 z)) (by dsimp only;omega),trivial⟩ rfl
 have hc:decide ((i:Int)<sp.vars.length)=false:=decide_eq_false (by omega)
 clear hrec
 replace hL:L.length≤7516192768:=by omega
 clear hi hge
 repeat' (first|refine wk ?_|refine fk ?_ ?_<;>intro hs|exact⟨⟩|fail)
 clear hc
 refine zAF (ι:=Nat×Nat×Nat×(Nat→Box)×List (X)×Int) (fun p=>[(2,.ptr m 0),(3,.ptr (m+1) 0),(5,gs p.2.2.1 (p.2.2.2.2.1.map encX)),(6,.int .i64 p.2.2.2.2.2),(93,.sl 0 (sp.defs.map zCO) .shut),(94,.int .i64 sp.defs.length),(95,.int .i64 p.1)]) (fun p=>S p.2.1 p.2.2.2.1 u)
  (fun p=>p.1≤sp.defs.length∧gF 34 11 (m+1+1) p.2.2.2.1 p.2.1 p.2.2.1 (p.2.2.2.2.1.map encX)∧(∀i,i<m+1+1→p.2.2.2.1 i=G0 i)∧(∀y∈p.2.2.2.2.1,szX y<1073740000)∧p.2.2.2.2.1.length≤7516192768+1*p.1∧0≤p.2.2.2.2.2∧p.2.2.2.2.2≤8589934592+1073741824*p.1) (fun p=>sp.defs.length-p.1) ?_ (0,M,kx,G,L,A0) ⟨Nat.zero_le _,hg1,hlow,hP,by dsimp only;omega,by dsimp only;omega,by dsimp only;omega⟩ ⟨rfl,rfl,rfl,rfl,rfl,rfl,rfl,trivial⟩ rfl
 clear hg1 hlow hP hL hM hGs1
 clear M kx G L i
 rintro⟨i,M,kx,G,L,A⟩ b ⟨hi,hg1,hlow,hP,hL,hA1,hA2⟩ hrec
 dsimp only at hi hg1 hlow hP hL hrec hA1 hA2 ⊢
 have hM:m+1+1≤M:=hg1.1
 have hGs1:G (m+1)=.cells 40 (zAC sp):=by rw[hlow (m+1) (by omega)];exact hGs
 rcases Nat.lt_or_ge i sp.defs.length with hlt|hge
 ·have hc:decide ((i:Int)<sp.defs.length)=true:=decide_eq_true (by omega)
  have hx:sp.defs[i]?=some sp.defs[i]:=List.getElem?_eq_getElem hlt
  have hb:=hz.db _ (List.getElem_mem hlt)
  generalize sp.defs[i]=x at *
  obtain⟨g3,ha,hg3,hlow3⟩:=zFJ (b:=176) (u:=u) (ys:=[encX x.body]) (zKM hg1 (.cells 128 (zBG x))) (zHK [x.body]) (by simp) (by rw[List.length_map];simp only[List.length_cons,List.length_nil];omega) (by rw[zAV,zC4];exact zC4 [x.body])
  have e1:L.map encX++[encX x.body]=(L++[x.body]).map encX:=by rw[List.map_append];rfl
  rw[e1] at ha hg3
  clear e1
  have hP3:∀y∈L++[x.body],szX y<1073740000:=fun y hy=>by
   rcases List.mem_append.1 hy with hy|hy
   ·exact hP y hy
   ·simp only[List.mem_cons,List.not_mem_nil,or_false] at hy
    subst hy;exact hb.1
  have hb2:=hb.2
  have hL3:(L++[x.body]).length≤7516192768+1*(i+1):=by rw[List.length_append];simp only[List.length_cons,List.length_nil];omega
  repeat' (first|refine wk ?_|refine fk ?_ ?_<;>intro hs|exact⟨⟩|fail)
  exact hrec (i+1,M+1+1,M+1,g3,L++[x.body],A+x.params.length) _ _ _ ⟨hlt,hg3,fun i hi=>by dsimp only;rw[hlow3 i hi,zAA (by omega)];exact hlow i hi,hP3,hL3,by dsimp only;omega,by dsimp only;omega⟩ (by dsimp only;omega) ⟨rfl,rfl,rfl,rfl,rfl,rfl,congrArg (fun z=>some (AV.int .i64 z)) (by dsimp only;omega),trivial⟩ rfl
 have hc:decide ((i:Int)<sp.defs.length)=false:=decide_eq_false (by omega)
 clear hrec
 replace hL:L.length≤8589934592:=by omega
 have hA3:A≤1152921513196781568:=by omega
 clear hA2 hA hA0
 clear hi hge
 repeat' (first|refine wk ?_|refine fk ?_ ?_<;>intro hs|exact⟨⟩|fail)
 clear hc
 refine zAF (ι:=Nat×Nat×Nat×(Nat→Box)×List (X)) (fun p=>[(2,.ptr m 0),(3,.ptr (m+1) 0),(5,gs p.2.2.1 (p.2.2.2.2.map encX)),(6,.int .i64 A),(111,.sl 0 (sp.fair.map zEO) .shut),(112,.int .i64 sp.fair.length),(113,.int .i64 p.1)]) (fun p=>S p.2.1 p.2.2.2.1 u)
  (fun p=>p.1≤sp.fair.length∧gF 34 11 (m+1+1) p.2.2.2.1 p.2.1 p.2.2.1 (p.2.2.2.2.map encX)∧(∀i,i<m+1+1→p.2.2.2.1 i=G0 i)∧(∀y∈p.2.2.2.2,szX y<1073740000)∧p.2.2.2.2.length≤8589934592+2*p.1) (fun p=>sp.fair.length-p.1) ?_ (0,M,kx,G,L) ⟨Nat.zero_le _,hg1,hlow,hP,by dsimp only;omega⟩ ⟨rfl,rfl,rfl,rfl,rfl,rfl,rfl,trivial⟩ rfl
 clear hg1 hlow hP hL hM hGs1
 clear M kx G L i
 rintro⟨i,M,kx,G,L⟩ b ⟨hi,hg1,hlow,hP,hL⟩ hrec
 dsimp only at hi hg1 hlow hP hL hrec ⊢
 have hM:m+1+1≤M:=hg1.1
 have hGs1:G (m+1)=.cells 40 (zAC sp):=by rw[hlow (m+1) (by omega)];exact hGs
 rcases Nat.lt_or_ge i sp.fair.length with hlt|hge
 ·have hc:decide ((i:Int)<sp.fair.length)=true:=decide_eq_true (by omega)
  have hx:sp.fair[i]?=some sp.fair[i]:=List.getElem?_eq_getElem hlt
  have hb:=hz.ff _ (List.getElem_mem hlt)
  generalize sp.fair[i]=x at *
  obtain⟨g3,ha,hg3,hlow3⟩:=zFJ (b:=176) (u:=u) (ys:=[encX x.a,encX x.sub]) (zKM hg1 (.cells 110 (zCD x))) (zHK [x.a,x.sub]) (by simp) (by rw[List.length_map];simp only[List.length_cons,List.length_nil];omega) (by rw[zAV,zC4];exact zC4 [x.a,x.sub])
  have e1:L.map encX++[encX x.a,encX x.sub]=(L++[x.a,x.sub]).map encX:=by rw[List.map_append];rfl
  rw[e1] at ha hg3
  clear e1
  have hP3:∀y∈L++[x.a,x.sub],szX y<1073740000:=fun y hy=>by
   rcases List.mem_append.1 hy with hy|hy
   ·exact hP y hy
   ·simp only[List.mem_cons,List.not_mem_nil,or_false] at hy
    rcases hy with rfl|rfl
    ·exact hb.1
    ·exact hb.2
  have hL3:(L++[x.a,x.sub]).length≤8589934592+2*(i+1):=by rw[List.length_append];simp only[List.length_cons,List.length_nil];omega
  repeat' (first|refine wk ?_|refine fk ?_ ?_<;>intro hs|exact⟨⟩|fail)
  exact hrec (i+1,M+1+1,M+1,g3,L++[x.a,x.sub]) _ _ _ ⟨hlt,hg3,fun i hi=>by dsimp only;rw[hlow3 i hi,zAA (by omega)];exact hlow i hi,hP3,hL3⟩ (by dsimp only;omega) ⟨rfl,rfl,rfl,rfl,rfl,rfl,congrArg (fun z=>some (AV.int .i64 z)) (by dsimp only;omega),trivial⟩ rfl
 have hc:decide ((i:Int)<sp.fair.length)=false:=decide_eq_false (by omega)
 clear hrec
 replace hL:L.length≤10737418240:=by omega
 clear hi hge
 repeat' (first|refine wk ?_|refine fk ?_ ?_<;>intro hs|exact⟨⟩|fail)
 clear hc
 refine zAF (ι:=Nat×Nat×Nat×(Nat→Box)×List (X)) (fun p=>[(2,.ptr m 0),(3,.ptr (m+1) 0),(5,gs p.2.2.1 (p.2.2.2.2.map encX)),(6,.int .i64 A),(126,.sl 0 (sp.invs.map zBU) .shut),(127,.int .i64 sp.invs.length),(128,.int .i64 p.1)]) (fun p=>S p.2.1 p.2.2.2.1 u)
  (fun p=>p.1≤sp.invs.length∧gF 34 11 (m+1+1) p.2.2.2.1 p.2.1 p.2.2.1 (p.2.2.2.2.map encX)∧(∀i,i<m+1+1→p.2.2.2.1 i=G0 i)∧(∀y∈p.2.2.2.2,szX y<1073740000)∧p.2.2.2.2.length≤10737418240+1*p.1) (fun p=>sp.invs.length-p.1) ?_ (0,M,kx,G,L) ⟨Nat.zero_le _,hg1,hlow,hP,by dsimp only;omega⟩ ⟨rfl,rfl,rfl,rfl,rfl,rfl,rfl,trivial⟩ rfl
 clear hg1 hlow hP hL hM hGs1
 clear M kx G L i
 rintro⟨i,M,kx,G,L⟩ b ⟨hi,hg1,hlow,hP,hL⟩ hrec
 dsimp only at hi hg1 hlow hP hL hrec ⊢
 have hM:m+1+1≤M:=hg1.1
 have hGs1:G (m+1)=.cells 40 (zAC sp):=by rw[hlow (m+1) (by omega)];exact hGs
 rcases Nat.lt_or_ge i sp.invs.length with hlt|hge
 ·have hc:decide ((i:Int)<sp.invs.length)=true:=decide_eq_true (by omega)
  have hx:sp.invs[i]?=some sp.invs[i]:=List.getElem?_eq_getElem hlt
  have hb:=hz.ie _ (List.getElem_mem hlt)
  generalize sp.invs[i]=x at *
  obtain⟨g3,ha,hg3,hlow3⟩:=zFJ (b:=176) (u:=u) (ys:=[encX x.e]) (zKM hg1 (.cells 130 (zB5 x))) (zHK [x.e]) (by simp) (by rw[List.length_map];simp only[List.length_cons,List.length_nil];omega) (by rw[zAV,zC4];exact zC4 [x.e])
  have e1:L.map encX++[encX x.e]=(L++[x.e]).map encX:=by rw[List.map_append];rfl
  rw[e1] at ha hg3
  clear e1
  have hP3:∀y∈L++[x.e],szX y<1073740000:=fun y hy=>by
   rcases List.mem_append.1 hy with hy|hy
   ·exact hP y hy
   ·simp only[List.mem_cons,List.not_mem_nil,or_false] at hy
    subst hy;exact hb
  have hL3:(L++[x.e]).length≤10737418240+1*(i+1):=by rw[List.length_append];simp only[List.length_cons,List.length_nil];omega
  repeat' (first|refine wk ?_|refine fk ?_ ?_<;>intro hs|exact⟨⟩|fail)
  exact hrec (i+1,M+1+1,M+1,g3,L++[x.e]) _ _ _ ⟨hlt,hg3,fun i hi=>by dsimp only;rw[hlow3 i hi,zAA (by omega)];exact hlow i hi,hP3,hL3⟩ (by dsimp only;omega) ⟨rfl,rfl,rfl,rfl,rfl,rfl,congrArg (fun z=>some (AV.int .i64 z)) (by dsimp only;omega),trivial⟩ rfl
 have hc:decide ((i:Int)<sp.invs.length)=false:=decide_eq_false (by omega)
 clear hrec
 replace hL:L.length≤11811160064:=by omega
 clear hi hge
 repeat' (first|refine wk ?_|refine fk ?_ ?_<;>intro hs|exact⟨⟩|fail)
 clear hc
 refine zAF (ι:=Nat×Int) (fun p=>[(2,.ptr m 0),(3,.ptr (m+1) 0),(5,gs kx (L.map encX)),(6,.int .i64 p.2),(139,.sl 0 (sp.groups.map slS) .shut),(140,.int .i64 sp.groups.length),(141,.int .i64 p.1)]) (fun _=>S M G u)
  (fun p=>p.1≤sp.groups.length∧0≤p.2∧p.2≤1152921513196781568+1073741824*p.1) (fun p=>sp.groups.length-p.1) ?_ (0,A) ⟨Nat.zero_le _,hA1,by dsimp only;omega⟩ ⟨rfl,rfl,rfl,rfl,rfl,rfl,rfl,trivial⟩ rfl
 clear hA1 hA3
 clear A i
 rintro⟨i,A⟩ b ⟨hi,hA1,hA2⟩ hrec
 dsimp only at hi hA1 hA2 hrec ⊢
 rcases Nat.lt_or_ge i sp.groups.length with hlt|hge
 ·have hc:decide ((i:Int)<sp.groups.length)=true:=decide_eq_true (by omega)
  have hx:sp.groups[i]?=some sp.groups[i]:=List.getElem?_eq_getElem hlt
  have hb:=hz.g2 _ (List.getElem_mem hlt)
  generalize sp.groups[i]=x at *
  have hes:slS x=.sl 0 (x.map AV.str) .shut:=rfl
  repeat' (first|refine wk ?_|refine fk ?_ ?_<;>intro hs|exact⟨⟩|fail)
  exact hrec (i+1,A+x.length) _ _ _ ⟨hlt,by dsimp only;omega,by dsimp only;omega⟩ (by dsimp only;omega) ⟨rfl,rfl,rfl,rfl,rfl,rfl,congrArg (fun z=>some (AV.int .i64 z)) (by dsimp only;omega),trivial⟩ rfl
 have hc:decide ((i:Int)<sp.groups.length)=false:=decide_eq_false (by omega)
 clear hrec
 have hA3:A≤2305843022098595840:=by omega
 clear hi hge hA2
 have hU:=zB6 hu hu2 (show m≤M by omega)
 have hU1:=hU.1
 have hU2:=hU.2
 have hkM:k<M:=by omega
 have hG1k:G k=mt left:=by rw[hlow k (by omega)];exact hGk
 have hG1m:G m=.cells 78 [.ptr k 0]:=by rw[hlow m (by omega)];exact hGm
 have hmk:m≠k:=by omega
 have ht:=fun Q=>@c85d k M G u left A hU1 hU2 hkM hG1k hl ⟨hA1,by omega⟩ Q
 have hlo1:∀i,i<m→i≠k→G i=g i:=fun i h1 h2=>(hlow i (by omega)).trans (hlo i h1 h2)
 by_cases hc1:0≤left-A
 ·have hq1:decide (0≤left-A)=true:=decide_eq_true hc1
  obtain⟨g3,hse,-,hlow3⟩:=zGK (u:=u) (gF_put (b:=mt (left-A)) hg1 (show k<m+1+1 by omega)) (zC4 L)
  have h3k:g3 k=mt (left-A):=by rw[hlow3 k (by omega),zAB]
  have h3m:g3 m=.cells 78 [.ptr k 0]:=by rw[hlow3 m (by omega),zAA hmk];exact hG1m
  have h3s:g3 (m+1)=.cells 40 (zAC sp):=by rw[hlow3 (m+1) (by omega),zAA (by omega)];exact hGs1
  have hlo3:∀a i,i<m→i≠k→(updB g3 k (mt a)) i=g i:=fun a i h1 h2=>by rw[zAA h2,hlow3 i (by omega),zAA h2];exact hlo1 i h1 h2
  have hself:S M (updB g3 k (mt (left-A))) u=S M g3 u:=(zCG h3k fun _ _ _=>rfl).symm
  have h89:∀Q:CR→Sto→Prop,(∀a,0≤a→a≤1500→Q (.ret (.bool false)) (S M (updB g3 k (mt a)) u))→(∀a,Q (.ret (.bool true)) (S M (updB g3 k (mt a)) u))→C E1 89 [gs kx (L.map encX),.func (m+1) (.func 90) [] [.ptr m 0]] (S M (updB G k (mt (left-A))) u) Q:=fun Q q1 q2=>by
   refine zG3 (args1:=[.sl 0 (L.map encX) .shut,.func (m+1) (.func 90) [] [.ptr m 0]]) (s1:=S M g3 u) rfl rfl rfl rfl rfl (by simp only[zBO,hse,zG6]) (by simp only[zBO,zFN,zG6]) ?_
   rw[← hself]
   exact @c89m _ encX L (.func (m+1) (.func 90) [] [.ptr m 0]) k M g3 u (by omega) hU1 hU2 (fun x=>by rw[zA2];rfl) (fun x=>by rw[zA2];exact pk_X) (fun _=>rfl) (fun y hy a h0 h9 Q q1 q2=>zB1 rfl (c90 (by have:=hP y hy;omega) hU1 hU2 hkM (by omega) hmk (g:=updB g3 k (mt a)) zAB (by rw[zAA hmk];exact h3m) ⟨h0,h9⟩ (fun a h0 h9=>by rw[zMX];exact q1 a h0 h9) (fun a=>by rw[zMX];exact q2 a))) (left-A) ⟨hc1,by omega⟩ Q q1 q2
  have h52:=fun(a:Int) (ha:0≤a∧a≤1500) (Q:CR→Sto→Prop)=>@c52m Prp zDB sp.props (.func (m+1) (.func 92) [] [.ptr m 0]) k M g3 u (by omega) hU1 hU2 (fun _=>rfl) (fun _=>zW8) (fun _=>rfl) (fun y hy a h0 h9 Q q1 q2=>zB1 rfl (c92 (by have:=hz.pt y hy;omega) hU1 hU2 hkM (by omega) hmk (g:=updB g3 k (mt a)) zAB (by rw[zAA hmk];exact h3m) ⟨h0,h9⟩ (fun a h0 h9=>by rw[zMX];exact q1 a h0 h9) (fun a=>by rw[zMX];exact q2 a))) a ha Q
  have h4m:∀a,(updB g3 k (mt a)) m=.cells 78 [.ptr k 0]:=fun a=>by rw[zAA hmk];exact h3m
  have h4s:∀a,(updB g3 k (mt a)) (m+1)=.cells 40 (zAC sp):=fun a=>by rw[zAA (by omega)];exact h3s
  clear hse hself hlow3 hg1 hlow hlo hP hlo1
  repeat' (first|refine ht _ ?_|refine wk ?_|refine fk ?_ ?_<;>intro hs|exact⟨⟩|fail)
  refine h89 _ (fun a h0 h9=>?_) (fun a=>?_)
  ·have h52:=h52 a ⟨h0,h9⟩
   clear h89 ht
   repeat' (first|refine wk ?_|refine fk ?_ ?_<;>intro hs|exact⟨⟩|fail)
   refine h52 _ (fun a h0 h9=>?_) (fun a=>?_)
   ·have h1:=hT M (updB g3 k (mt a)) a (hlo3 a) zAB h0 h9
    clear h52 hT hF
    repeat' (first|refine wk ?_|refine fk ?_ ?_<;>intro hs|exact⟨⟩|fail)
   ·have h1:=hF M (updB g3 k (mt a)) a (hlo3 a) zAB
    clear h52 hT hF
    repeat' (first|refine wk ?_|refine fk ?_ ?_<;>intro hs|exact⟨⟩|fail)
  ·have h1:=hF M (updB g3 k (mt a)) a (hlo3 a) zAB
   clear h52 h89 ht hT hF
   repeat' (first|refine wk ?_|refine fk ?_ ?_<;>intro hs|exact⟨⟩|fail)
 ·have hq1:decide (0≤left-A)=false:=decide_eq_false hc1
  have h1:=hF M (updB G k (mt (left-A))) (left-A) (fun i h1 h2=>by rw[zAA h2];exact hlo1 i h1 h2) zAB
  clear hg1 hlow hlo hP hlo1 hT hF
  repeat' (first|refine ht _ ?_|refine wk ?_|refine fk ?_ ?_<;>intro hs|exact⟨⟩|fail)
end Go.Ab.X
namespace Go.Ab.X
open Go Go.Ab Go.Proofs Pl
set_option maxRecDepth 100000
set_option maxHeartbeats 4000000
theorem upsN (m:Nat):zAQ m []=true∧zAJ m []=[]:=⟨rfl,rfl⟩
theorem build_80 (fr:Fr)(ps:List (Nat×Operand))(s:Sto):zDL E1 fr 80 ps s=(match zBW fr ps with|some ps=>bldT 80 ps s|none=>.no):=rfl
theorem b80 (n:Int)(s:Sto):bldT 80 [(0,.int .i64 n)] s=.val (.agg [.int .i64 n]) s:=rfl
attribute [go_sem] build_80 b80
theorem c6 {sp:Pl.Spec}{l:List Las}{ts:List T}{s:Sto}(hz:Mt sp)(hts:ts.length<1073741824)(ht:∀t∈ts,szT t<1073740000)(hll:l.length<1073741824)(hl:∀x∈l,x.st.length≤1048576∧∀y∈x.st,szVs y<1073741824){Q:CR→Sto→Prop}(h:∀b,Q (.ret (.bool b)) s):C E1 6 [zAN sp,.sl 0 (l.map zC8) .clip,.sl 0 (ts.map encT) .clip] s Q:=by
 have hT:=h true
 have hF:=h false
 refine ci Tryz.f6 39 [.tmp 6] ?_
 repeat' (first|refine wk ?_|refine fk ?_ ?_<;>intro hs|exact⟨⟩|fail)
 generalize hG:updB _ 2 (Box.cells 78 [AV.ptr 1 0])=G0
 have e0:G0 0=.cells 40 (zAC sp):=by rw[← hG];simp (disch:=first|assumption|omega) only[go_sem]
 have e1:G0 1=mt 1500:=by rw[← hG];simp (disch:=first|assumption|omega) only[go_sem]
 have e2:G0 2=.cells 78 [.ptr 1 0]:=by rw[← hG];simp (disch:=first|assumption|omega) only[go_sem]
 clear hG h
 refine zAF (ι:=Nat×Int×Nat×(Nat→Box)) (fun p=>[(2,.sl 0 (ts.map encT) .shut),(3,.ptr 0 0),(7,.ptr 2 0),(12,.sl 0 (l.map zC8) .shut),(13,.int .i64 l.length),(14,.int .i64 p.1)]) (fun p=>S p.2.2.1 p.2.2.2 []) (fun p=>p.1≤l.length∧(0≤p.2.1∧p.2.1≤1500)∧3≤p.2.2.1∧p.2.2.2 0=.cells 40 (zAC sp)∧p.2.2.2 1=mt p.2.1∧p.2.2.2 2=.cells 78 [.ptr 1 0]) (fun p=>l.length-p.1) ?_ (0,1500,3,G0) ⟨Nat.zero_le _,by dsimp only;omega,Nat.le_refl _,e0,e1,e2⟩ ⟨rfl,rfl,rfl,rfl,rfl,rfl,trivial⟩ rfl
 clear e0 e1 e2
 rintro⟨i,a,M,G⟩ b ⟨hi,ha,hM,e0,e1,e2⟩ hrec
 dsimp only at hi ha hM e0 e1 e2 hrec ⊢
 have hU1:=fun m=>(upsN m).1
 have hU2:=fun m=>(upsN m).2
 rcases Nat.lt_or_ge i l.length with hlt|hge
 ·have hc:decide ((i:Int)<l.length)=true:=decide_eq_true (by omega)
  have hd1:decide (i<l.length)=true:=decide_eq_true hlt
  have hx:l[i]?=some l[i]:=List.getElem?_eq_getElem hlt
  have hxl:=hl l[i] (List.getElem_mem hlt)
  generalize l[i]=x at hx hxl
  obtain⟨hx1,hx2⟩:=hxl
  have hcs:=fun G' (h':G' 1=mt a) Q=>@c43 x.st hx1 hx2 1 (M+1) G' [] rfl rfl (by omega) a h' ha Q
  by_cases h12:12<(x.st.length:Int)
  ·have hd:decide (12<(x.st.length:Int))=true:=decide_eq_true h12
   clear hrec hcs
   repeat' (first|refine wk ?_|refine fk ?_ ?_<;>intro hs|exact⟨⟩|fail)
  ·have hd:decide (12<(x.st.length:Int))=false:=decide_eq_false h12
   repeat' (first|refine wk ?_|refine fk ?_ ?_<;>intro hs|exact⟨⟩|fail)
   refine hcs _ (by rw[zAA (by omega)];exact e1) _ (fun a' h0 h9=>?_) (fun a'=>?_)
   ·clear hT hF hcs
    repeat' (first|refine wk ?_|refine fk ?_ ?_<;>intro hs|exact⟨⟩|fail)
    generalize hG3:updB (updB G M _) 1 (mt a')=G3
    have f0:G3 0=.cells 40 (zAC sp):=by rw[← hG3,zAA (by omega),zAA (by omega)];exact e0
    have f1:G3 1=mt a':=by rw[← hG3,zAB]
    have f2:G3 2=.cells 78 [.ptr 1 0]:=by rw[← hG3,zAA (by omega),zAA (by omega)];exact e2
    exact hrec (i+1,a',M+1,G3) _ _ _ ⟨hlt,⟨h0,h9⟩,by dsimp only;omega,f0,f1,f2⟩ (by dsimp only;omega) ⟨rfl,rfl,rfl,rfl,rfl,rfl,trivial⟩ rfl
   ·clear hrec hcs
    repeat' (first|refine wk ?_|refine fk ?_ ?_<;>intro hs|exact⟨⟩|fail)
 ·have hc:decide ((i:Int)<l.length)=false:=decide_eq_false (by omega)
  have hcs:=fun Q=>@c44 sp hz 1 M G [] rfl rfl (by omega) a e1 ha Q
  have hm1:(2:Nat)≠1:=by omega
  have e3:∀a,(updB G 1 (mt a)) 2=.cells 78 [.ptr 1 0]:=fun a=>by rw[zAA (by omega)];exact e2
  have h45:=fun(a:Int) (ha:0≤a∧a≤1500) (Q:CR→Sto→Prop)=>@c45m T encT ts (.func 3 (.func 46) [] [.ptr 2 0]) 1 M G [] (by omega) rfl rfl (fun x=>by rw[zA4];rfl) (fun x=>by rw[zA4];exact pk_T) (fun _=>rfl) (fun y hy a h0 h9 Q q1 q2=>zB1 rfl (c46 (by have:=ht y hy;omega) rfl rfl (by omega) (by omega) hm1 (g:=updB G 1 (mt a)) zAB (e3 a) ⟨h0,h9⟩ (fun a h0 h9=>by rw[zMX];exact q1 a h0 h9) (fun a=>by rw[zMX];exact q2 a))) a ha Q
  clear hrec
  repeat' (first|refine wk ?_|refine fk ?_ ?_<;>intro hs|exact⟨⟩|fail)
  refine hcs _ (fun a' h0 h9=>?_) (fun a'=>?_)
  ·have h45:=h45 a' ⟨h0,h9⟩
   clear hcs
   repeat' (first|refine wk ?_|refine fk ?_ ?_<;>intro hs|exact⟨⟩|fail)
   refine h45 _ (fun a h0 h9=>?_) (fun a=>?_)
   ·clear h45
    repeat' (first|refine wk ?_|refine fk ?_ ?_<;>intro hs|exact⟨⟩|fail)
   ·clear h45
    repeat' (first|refine wk ?_|refine fk ?_ ?_<;>intro hs|exact⟨⟩|fail)
  ·clear hcs h45
   repeat' (first|refine wk ?_|refine fk ?_ ?_<;>intro hs|exact⟨⟩|fail)
end Go.Ab.X
namespace Pl
theorem zVD {sp:Spec}{e:X}(h:e∈zHN sp):e∈exprs sp:=by
 simp only[zHN,exprs,List.flatten_cons,List.flatten_nil,List.append_nil,List.mem_append,List.mem_cons,List.not_mem_nil,or_false] at h ⊢
 grind
end Pl
namespace Pl
def szL (a:Las):Nat:=sumN (fun s=>1+szVs s) a.st
end Pl
namespace Go.Ab.X
open Go Go.Ab Go.Proofs Pl
set_option maxRecDepth 100000
theorem bounds {sp:Pl.Spec}(h:zK2 sp≤1048576):Sz sp∧Sm sp∧Sl sp∧Mt sp:=by
 have hx:=zT0 sp
 have hx2:=szXs_len (exprs sp)
 have hx3:=cntXs_le (exprs sp)
 have hd1:=cntXs_le (sp.defs.map (·.body))
 have hd2:=zIQ (·.body) sp.defs
 have hd3:=zCW (f:=fun x:Def=>1+szX x.body) (g:=fDef) (fun x=>by simp only[fDef];omega) sp.defs
 have hm:=lens_len sp.models
 have c1:=zEV (f:=zJD) (fun x=>by simp only[zJD];omega) sp.consts
 have c2:=zEV (f:=fVar) (fun x=>by simp only[fVar];omega) sp.vars
 have c3:=zEV (f:=fDef) (fun x=>by simp only[fDef];omega) sp.defs
 have c4:=zEV (f:=zMZ) (fun x=>by simp only[zMZ];omega) sp.fair
 have c5:=zEV (f:=zHM) (fun x=>by simp only[zHM];omega) sp.invs
 have c6:=zEV (f:=fPrp) (fun x=>by simp only[fPrp];omega) sp.props
 have c7:=zEV (f:=fGrp) (fun x=>by simp only[fGrp];omega) sp.groups
 have n1:=zHF (·.name) sp.consts
 have n2:=zHF (·.name) sp.vars
 have n3:=zHF (·.name) sp.invs
 have n4:=zHF (·.name) sp.props
 have m1:=zCW (f:=fun x:Const=>1+x.name.length) (g:=zJD) (fun x=>by simp only[zJD];omega) sp.consts
 have m2:=zCW (f:=fun x:Var=>1+x.name.length) (g:=fVar) (fun x=>by simp only[fVar];omega) sp.vars
 have m3:=zCW (f:=fun x:Named=>1+x.name.length) (g:=zHM) (fun x=>by simp only[zHM];omega) sp.invs
 have m4:=zCW (f:=fun x:Prp=>1+x.name.length) (g:=fPrp) (fun x=>by simp only[fPrp];omega) sp.props
 have g1:=lens_flatten sp.groups
 have g2:=zCW (f:=lens) (g:=fGrp) (fun x=>by simp only[fGrp];omega) sp.groups
 have g3:=lens_len sp.groups.flatten
 have l1:=szXs_len sp.assume
 have l2:=szXs_len sp.cons
 have l3:=szXs_len sp.acons
 have l4:=szXs_len sp.view
 simp only[zK2] at h hx
 have hc:∀x∈sp.consts,1+x.name.length+szV x.v≤1048576:=fun x hx=>by have:=zEU (f:=zJD) hx;simp only[zJD] at this;omega
 have hv:∀x∈sp.vars,1+x.name.length+szX x.typ≤1048576:=fun x hx=>by have:=zEU (f:=fVar) hx;simp only[fVar] at this;omega
 have hd:∀x∈sp.defs,1+x.name.length+x.params.length+szX x.body≤1048576:=fun x hx=>by have:=zEU (f:=fDef) hx;simp only[fDef] at this;omega
 have hf:∀x∈sp.fair,szX x.a+szX x.sub≤1048576:=fun x hx=>by have:=zEU (f:=zMZ) hx;simp only[zMZ] at this;omega
 have hi:∀x∈sp.invs,szX x.e≤1048576:=fun x hx=>by have:=zEU (f:=zHM) hx;simp only[zHM] at this;omega
 have he:∀x∈exprs sp,szX x≤3000000:=fun x hy=>by have:=szXs_mem hy;omega
 have ht:∀x∈sp.props,szT x.t≤1048576:=fun x hx=>by have:=zEU (f:=fPrp) hx;simp only[fPrp] at this;omega
 have hg:∀x∈sp.groups,x.length≤1048576:=fun x hx=>by have:=zEU (f:=fGrp) hx;have:=lens_len x;simp only[fGrp] at *;omega
 have h0:∀x∈([sp.assume,sp.cons,sp.acons,sp.view,[sp.init,sp.next]]:List (List X)).flatten,szX x≤1048576:=fun x hx=>by
  simp only[List.flatten_cons,List.flatten_nil,List.append_nil,List.mem_append,List.mem_cons,List.not_mem_nil,or_false] at hx
  rcases hx with hx|hx|hx|hx|rfl|rfl
  all_goals first|omega|(have:=szXs_mem hx;omega)
 have hp:∀n,(params sp n).length≤1048576:=fun n=>by
  rw[params,List.getD_eq_getElem?_getD]
  cases hq:sp.defs[n.toNat]? with
  | none=>exact Nat.zero_le _
  | some d=>have:=hd d (List.mem_of_getElem? hq);simp only[Option.getD_some];omega
 refine⟨⟨?_,?_,?_,?_,fun n=>?_,fun x hx=>?_,fun x hx=>?_,?_,?_,?_,?_,?_,fun x hx=>?_,?_,?_,?_,?_,?_,?_,?_,?_,?_,fun e he'=>?_⟩,⟨?_,?_,?_,?_,?_,?_,?_,?_,?_,?_,?_,?_,?_,?_,?_,?_,?_,?_,fun x hx=>?_,fun n=>?_,fun x hx=>?_,fun x hx=>?_,fun x hx=>?_,?_,?_⟩,
  ⟨?_,?_,?_,?_,?_,?_,fun x hx=>?_,fun x hx=>?_,fun x hx=>?_,fun x hx=>?_⟩,⟨?_,?_,?_,fun x hx=>?_,?_,?_,?_,?_,?_,?_,?_,?_,?_,fun x hx=>?_,fun x hx=>?_,fun x hx=>?_,fun x hx=>?_,fun x hx=>?_,fun x hx=>?_,fun x hx=>?_⟩⟩
 all_goals try omega
 all_goals first
  | (have:=hp n;omega)
  | (have:=hd x hx;omega)
  | (have:=hc x hx;omega)
  | (have:=hv x hx;omega)
  | (have:=hf x hx;omega)
  | (have:=hi x hx;omega)
  | (have:=he x hx;omega)
  | (have:=he e (zVD he');omega)
  | (have:=ht x hx;omega)
  | (have:=hg x hx;omega)
  | (have:=h0 x hx;omega)
attribute [-go_sem] shutV noOsl
theorem c3 {sp:Pl.Spec}{t:T}{n:Int}{a:Las}(hb:zK2 sp+szT t+szL a≤1048576){s:Sto}{Q:CR→Sto→Prop}(h:Q (.ret (.bool true)) s):C E1 3 [zAN sp,encT t,.int .i64 n,zC8 a] s Q:=by
 obtain⟨hz,hm,hl,ht⟩:=bounds (sp:=sp) (by omega)
 have hsl:∀x∈a.st,szVs x≤1048576:=fun x hx=>by have:=zEU (f:=fun s=>1+szVs s) hx;simp only[szL] at hb;omega
 have hal:a.st.length≤1048576:=by have:=zEV (f:=fun s=>1+szVs s) (fun x=>by omega) a.st;simp only[szL] at hb;omega
 have hss:∀l∈a.st,l.length<1073741824∧∀v∈l,szV v<1073741824:=fun l hx=>⟨by have:=hsl l hx;have:=szVs_len l;omega,fun v hv=>by have:=hsl l hx;have:=szVs_mem hv;omega⟩
 have h5:∀(s:Sto) (Q:CR→Sto→Prop),Q (.ret (.bool true)) s→C E1 5 [] s Q:=fun s Q hQ=>yAL rfl hQ
 have h6:=fun(s:Sto) (Q:CR→Sto→Prop) hQ=>c6 (sp:=sp) (l:=[a]) (ts:=[t]) (s:=s) ht (by simp) (fun x hx=>by rw[List.mem_singleton.1 hx];omega) (by simp) (fun x hx=>by rw[List.mem_singleton.1 hx];exact⟨hal,fun y hy=>by have:=hsl y hy;omega⟩) (Q:=Q) hQ
 have h7:=fun(s:Sto) (Q:CR→Sto→Prop) hQ=>c7 (sp:=sp) (t:=t) (n:=n) hz (by omega) (s:=s) (Q:=Q) hQ
 have h8:=fun(s:Sto) (Q:CR→Sto→Prop) hQ=>c8 (sp:=sp) (t:=t) (n:=n) hm hl (by omega) (s:=s) (Q:=Q) hQ
 have h9:=fun(s:Sto) (Q:CR→Sto→Prop) hQ=>c9 (sp:=sp) hz ht.pl ht.pt (s:=s) (Q:=Q) hQ
 have h10:=fun(s:Sto) (Q:CR→Sto→Prop) hQ=>c10 (sp:=sp) hm hl ht.pl ht.pt (s:=s) (Q:=Q) hQ
 have h11:=fun(s:Sto) (Q:CR→Sto→Prop) hQ=>c11 (sp:=sp) (a:=a) hz ht.vl (by omega) hss (s:=s) (Q:=Q) hQ
 have h12:=fun(s:Sto) (Q:CR→Sto→Prop) hQ=>c12 (sp:=sp) (a:=a) hm hl ht.vl (by omega) hss (s:=s) (Q:=Q) hQ
 refine ci Tryz.f3 43 [.tmp 8] ?_
 repeat' (first|refine h5 _ _ ?_|refine wk ?_|refine fk ?_ ?_<;>intro hs|exact⟨⟩|fail)
 refine h6 _ _ ?_
 intro b
 cases b with
 | false=>
  repeat' (first|refine wk ?_|refine fk ?_ ?_<;>intro hs|exact⟨⟩|fail)
  all_goals exact h
 | true=>
  repeat' (first|refine h7 _ _ ?_|refine h8 _ _ ?_|refine h9 _ _ ?_|refine h10 _ _ ?_|refine h11 _ _ ?_|refine h12 _ _ ?_|refine wk ?_|refine fk ?_ ?_<;>intro hs|exact⟨⟩|fail)
  all_goals exact h
end Go.Ab.X
end
