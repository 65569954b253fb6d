/- A part. -/
import Derived.Test.YtoolminfelljcaaGreatDoorK6
set_option linter.all false
noncomputable section
namespace Go.Ab.X
open Go Go.Ab Go.Proofs Pl
set_option maxRecDepth 100000
set_option maxHeartbeats 4000000
theorem c117 {α:Type}{h:α→AV}{l:List α}{fv:AV}{k m:Nat}{g:Nat→Box}{u:List (Nat×Nat)}(hl:l.length<4611686018427387904)(hu:zBS m u=true)(hu2:zAW m u=u)
  (hsz:∀x,llen (cellsOf (h x))=11) (hld:∀x,pick1 (E1.types 39) (cellsOf (h x)) 0=some (h x)) (hfv:∀a,zBA (S m (updB g k (mt a)) u) fv=some (fv,S m (updB g k (mt a)) u))
  (hp:∀x∈l,∀a,0≤a→a≤1500→∀Q:CR→Sto→Prop,(∀a,0≤a→a≤1500→Q (.ret (.bool false)) (S m (updB g k (mt a)) u))→(∀a,Q (.ret (.bool true)) (S m (updB g k (mt a)) u))→CV E1 fv [h x] (S m (updB g k (mt a)) u) Q)
  {left:Int} (hl0:0≤left∧left≤1500) {Q:CR→Sto→Prop} (h1:∀a,0≤a→a≤1500→Q (.ret (.int .i64 (-1))) (S m (updB g k (mt a)) u)) (h2:∀a (i:Nat),Q (.ret (.int .i64 i)) (S m (updB g k (mt a)) u)):C E1 117 [.sl 0 (l.map h) .shut,fv] (S m (updB g k (mt left)) u) Q:=by
 have hfv0:=hfv left
 refine zAM (md:=⟨false,false,false,false⟩) (fn:=Tryz.f117) (n:=19) (rs:=[.tmp 4]) rfl rfl rfl rfl rfl rfl rfl rfl (by simp only[go_sem, *];try rfl) (by rfl) ?_
 repeat' (first|simp (disch:=first|assumption|omega) only[go_sem, *]|((first|apply gw_m|apply gw_q);focus (intro hs;(try simp only[nbs] at hs);simp (disch:=first|assumption|omega) only[go_sem, *];rfl))|((first|refine zAC ?_ ?_|refine zAB ?_ ?_|refine sp_C ?_ ?_|refine sp_G ?_ ?_)<;>(intro hs;try simp only[nbs] at hs)))
 refine zA0 (ι:=Nat×Int) (fun i=>[(8,.int .i64 i.1),(7,.int .i64 l.length),(1,fv),(0,.sl 0 (l.map h) .shut)]) (fun i=>S m (updB g k (mt i.2)) u) (fun i=>i.1≤l.length∧0≤i.2∧i.2≤1500) (fun i=>l.length-i.1) ?_ (0,left) ⟨Nat.zero_le _,hl0⟩ ⟨rfl,rfl,rfl,rfl,trivial⟩ rfl
 rintro⟨i,a1⟩ b ⟨hi,hI1,hI2⟩ hrec
 simp only at hi hI1 hI2
 have hfv:=hfv a1
 rcases Nat.lt_or_ge i l.length with hlt|hge
 ·have hx:l[i]?=some l[i]:=List.getElem?_eq_getElem hlt
  have hmem:l[i]∈l:=List.getElem_mem hlt
  have hc:decide ((i:Int)<l.length)=true:=by simpa using hlt
  have hp:=hp _ hmem a1 hI1 hI2
  repeat' (first|refine sv_CV ?_|simp (disch:=first|assumption|omega) only[go_sem, *]|((first|apply gw_m|apply gw_q);focus (intro hs;(try simp only[nbs] at hs);simp (disch:=first|assumption|omega) only[go_sem, *];rfl))|((first|refine zAC ?_ ?_|refine zAB ?_ ?_|refine sp_C ?_ ?_|refine sp_G ?_ ?_)<;>(intro hs;try simp only[nbs] at hs)))
  refine hp _ (fun a h0 h9=>?_) (fun a=>?_)
  ·clear h1 h2
   repeat' (first|simp (disch:=first|assumption|omega) only[go_sem, *]|((first|apply gw_m|apply gw_q);focus (intro hs;(try simp only[nbs] at hs);simp (disch:=first|assumption|omega) only[go_sem, *];rfl))|((first|refine zAC ?_ ?_|refine zAB ?_ ?_|refine sp_C ?_ ?_|refine sp_G ?_ ?_)<;>(intro hs;try simp only[nbs] at hs)))
   exact hrec (i+1,a) _ _ _ ⟨hlt,h0,h9⟩ (by simp only;omega) ⟨rfl,rfl,rfl,rfl,trivial⟩ rfl
  ·have h2:=h2 a i
   clear h1 hrec
   repeat' (first|simp (disch:=first|assumption|omega) only[go_sem, *]|((first|apply gw_m|apply gw_q);focus (intro hs;(try simp only[nbs] at hs);simp (disch:=first|assumption|omega) only[go_sem, *];rfl))|((first|refine zAC ?_ ?_|refine zAB ?_ ?_|refine sp_C ?_ ?_|refine sp_G ?_ ?_)<;>(intro hs;try simp only[nbs] at hs)))
 ·have hc:decide ((i:Int)<l.length)=false:=by simpa using hge
  have h1:=h1 a1 hI1 hI2
  clear h2 hrec
  repeat' (first|simp (disch:=first|assumption|omega) only[go_sem, *]|((first|apply gw_m|apply gw_q);focus (intro hs;(try simp only[nbs] at hs);simp (disch:=first|assumption|omega) only[go_sem, *];rfl))|((first|refine zAC ?_ ?_|refine zAB ?_ ?_|refine sp_C ?_ ?_|refine sp_G ?_ ?_)<;>(intro hs;try simp only[nbs] at hs)))
theorem c76 {α:Type}{h:α→AV}{l:List α}{fv:AV}{k m:Nat}{g:Nat→Box}{u:List (Nat×Nat)}(hl:l.length<4611686018427387904)(hu:zBS m u=true)(hu2:zAW m u=u)
  (hsz:∀x,llen (cellsOf (h x))=11) (hld:∀x,pick1 (E1.types 39) (cellsOf (h x)) 0=some (h x)) (hfv:∀a,zBA (S m (updB g k (mt a)) u) fv=some (fv,S m (updB g k (mt a)) u))
  (hp:∀x∈l,∀a,0≤a→a≤1500→∀Q:CR→Sto→Prop,(∀a,0≤a→a≤1500→Q (.ret (.bool false)) (S m (updB g k (mt a)) u))→(∀a,Q (.ret (.bool true)) (S m (updB g k (mt a)) u))→CV E1 fv [h x] (S m (updB g k (mt a)) u) Q)
  {left:Int} (hl0:0≤left∧left≤1500) {Q:CR→Sto→Prop} (h1:∀a,0≤a→a≤1500→Q (.ret (.bool false)) (S m (updB g k (mt a)) u)) (h2:∀a,Q (.ret (.bool true)) (S m (updB g k (mt a)) u)):C E1 76 [.sl 0 (l.map h) .shut,fv] (S m (updB g k (mt left)) u) Q:=by
 have hfv0:=hfv left
 refine zAM (md:=⟨false,false,false,false⟩) (fn:=Tryz.f76) (n:=9) (rs:=[.tmp 4]) rfl rfl rfl rfl rfl rfl rfl rfl (by simp only[go_sem, *];try rfl) (by rfl) ?_
 repeat' (first|simp (disch:=first|assumption|omega) only[go_sem, *]|((first|apply gw_m|apply gw_q);focus (intro hs;(try simp only[nbs] at hs);simp (disch:=first|assumption|omega) only[go_sem, *];rfl))|((first|refine zAC ?_ ?_|refine zAB ?_ ?_|refine sp_C ?_ ?_|refine sp_G ?_ ?_)<;>(intro hs;try simp only[nbs] at hs)))
 refine c117 hl hu hu2 hsz hld hfv hp hl0 (fun a h0 h9=>?_) (fun a i=>?_)
 ·have h1:=h1 a h0 h9
  clear h2
  repeat' (first|simp (disch:=first|assumption|omega) only[go_sem, *]|((first|apply gw_m|apply gw_q);focus (intro hs;(try simp only[nbs] at hs);simp (disch:=first|assumption|omega) only[go_sem, *];rfl))|((first|refine zAC ?_ ?_|refine zAB ?_ ?_|refine sp_C ?_ ?_|refine sp_G ?_ ?_)<;>(intro hs;try simp only[nbs] at hs)))
 ·have h2:=h2 a
  have hc:decide ((0:Int)≤i)=true:=decide_eq_true (by omega)
  clear h1
  repeat' (first|simp (disch:=first|assumption|omega) only[go_sem, *]|((first|apply gw_m|apply gw_q);focus (intro hs;(try simp only[nbs] at hs);simp (disch:=first|assumption|omega) only[go_sem, *];rfl))|((first|refine zAC ?_ ?_|refine zAB ?_ ?_|refine sp_C ?_ ?_|refine sp_G ?_ ?_)<;>(intro hs;try simp only[nbs] at hs)))
theorem c77 {k b m:Nat}{g:Nat→Box}{u:List (Nat×Nat)}(hu:zBS m u=true)(hu2:zAW m u=u)(hk:k<m)(hb:b<m)(hkb:b≠k){left:Int}(hg:g k=mt left)(hgb:g b=.cells 77 [.ptr k 0])(hl:0≤left∧left≤1500)
  {Q:CR→Sto→Prop} (h1:∀a,0≤a→a≤1500→Q (.ret (.bool false)) (S m (updB g k (mt a)) u)) (h2:∀a,Q (.ret (.bool true)) (S m (updB g k (mt a)) u)):C E1 77 [encX zX0,.ptr b 0] (S m g u) Q:=by
 have hU:=zJB hu hu2 (Nat.le_succ m)
 have hU1:=hU.1
 have hU2:=hU.2
 have hbm:b≠m:=by omega
 have hcl:=fun(G':Nat→Box) (h':G' k=mt left) Q=>@c78 k (m+1) G' u hU1 hU2 (by omega) left h' hl Q
 refine zAM (md:=⟨false,false,false,false⟩) (fn:=Tryz.f77) (n:=8) (rs:=[.tmp 3]) rfl rfl rfl rfl rfl rfl rfl rfl (by simp only[go_sem, *];try rfl) (by rfl) ?_
 repeat' (first|simp (disch:=first|assumption|omega) only[go_sem, *]|((first|apply gw_m|apply gw_q);focus (intro hs;(try simp only[nbs] at hs);simp (disch:=first|assumption|omega) only[go_sem, *];rfl))|((first|refine zAC ?_ ?_|refine zAB ?_ ?_|refine sp_C ?_ ?_|refine sp_G ?_ ?_)<;>(intro hs;try simp only[nbs] at hs)))
 refine hcl _ (by rw[zAA (by omega)];exact hg) _ (fun a h0 h9=>?_) (fun a=>?_)
 ·have h1:=h1 a h0 h9
  rw[← zFL (G:=updB (updB g m (.cells 39 (zA1 zX0))) k (mt a)) (b:=mt a) zAE (fun t h1 h2=>by rw[zAA h2,zAA (by omega)])] at h1
  clear h2
  repeat' (first|simp (disch:=first|assumption|omega) only[go_sem, *]|((first|apply gw_m|apply gw_q);focus (intro hs;(try simp only[nbs] at hs);simp (disch:=first|assumption|omega) only[go_sem, *];rfl))|((first|refine zAC ?_ ?_|refine zAB ?_ ?_|refine sp_C ?_ ?_|refine sp_G ?_ ?_)<;>(intro hs;try simp only[nbs] at hs)))
 ·have h2:=h2 a
  rw[← zFL (G:=updB (updB g m (.cells 39 (zA1 zX0))) k (mt a)) (b:=mt a) zAE (fun t h1 h2=>by rw[zAA h2,zAA (by omega)])] at h2
  clear h1
  repeat' (first|simp (disch:=first|assumption|omega) only[go_sem, *]|((first|apply gw_m|apply gw_q);focus (intro hs;(try simp only[nbs] at hs);simp (disch:=first|assumption|omega) only[go_sem, *];rfl))|((first|refine zAC ?_ ?_|refine zAB ?_ ?_|refine sp_C ?_ ?_|refine sp_G ?_ ?_)<;>(intro hs;try simp only[nbs] at hs)))
def sp0:Pl.Spec:=⟨[],[],[],[],[],zX0,zX0,[],[],[],[],[],[],[],false⟩
theorem c75z {m:Nat}{g:Nat→Box}{u:List (Nat×Nat)}{Q:CR→Sto→Prop}(h:∀g':Nat→Box,g' m=.row 39 11 ([zX0,zX0].map encX) false→(∀i,i<m→g' i=g i)→Q (.ret (.osl m 0 2)) (S (m+1) g' u)) :
  C E1 75 [.sl 0 [.sl 0 [] .shut,.sl 0 [] .shut,.sl 0 [] .shut,.sl 0 [] .shut,.sl 0 [encX zX0,encX zX0] .shut] .clip] (S m g u) Q:=by
 refine zF0 (args1:=[.sl 0 (([[],[],[],[],[zX0,zX0]]:List (List X)).map slX) .shut]) rfl rfl rfl rfl rfl rfl rfl ?_
 exact c75 (by simp) (by simp) (by simp) h
theorem c76o {k b r m:Nat}{G:Nat→Box}{u:List (Nat×Nat)}(hu:zBS m u=true)(hu2:zAW m u=u)(hk:k<m)(hb:b<m)(hr:r<m)(hkb:b≠k)(hkr:k≠r)(hbr:b≠r){left:Int}(hg:G k=mt left)(hgb:G b=.cells 77 [.ptr k 0])(hgr:G r=.row 39 11 ([zX0,zX0].map encX) false)(hl:0≤left∧left≤1500)
  {Q:CR→Sto→Prop} (h1:∀a,0≤a→a≤1500→Q (.ret (.bool false)) (S m (updB (updB G r (.row 39 11 ([zX0,zX0].map encX) true)) k (mt a)) u)) (h2:∀a,Q (.ret (.bool true)) (S m (updB (updB G r (.row 39 11 ([zX0,zX0].map encX) true)) k (mt a)) u)) :
  C E1 76 [.osl r 0 2,.func (b+1) (.func 77) [] [.ptr b 0]] (S m G u) Q:=by
 have hs:=zEQ (n:=2) (u:=u) hr hgr rfl (tops_X _)
 refine zF0 (args1:=[.sl 0 ([zX0,zX0].map encX) .shut,.func (b+1) (.func 77) [] [.ptr b 0]]) (s1:=S m (updB G r (.row 39 11 ([zX0,zX0].map encX) true)) u) rfl rfl rfl rfl rfl ?_ rfl ?_
 ·unfold zBJ
  rw[hs]
  rfl
 ·obtain⟨G',hG'⟩:∃G',updB G r (.row 39 11 ([zX0,zX0].map encX) true)=G':=⟨_,rfl⟩
  have hg':G' k=mt left:=by rw[← hG',zAA hkr];exact hg
  have hgb':G' b=.cells 77 [.ptr k 0]:=by rw[← hG',zAA hbr];exact hgb
  rw[hG'] at h1 h2 ⊢
  have hself:S m (updB G' k (mt left)) u=S m G' u:=(zFL hg' fun _ _ _=>rfl).symm
  rw[← hself]
  refine c76 (h:=encX) (l:=[zX0,zX0]) (by simp) hu hu2 (fun x=>by rw[zLB];rfl) (fun x=>by rw[zLB];exact pk_X) (fun a=>rfl) (fun y hy a h0 h9 Q h1 h2=>?_) hl h1 h2
  have hy:y=zX0:=by
   rcases List.mem_cons.1 hy with e|e
   ·exact e
   ·exact List.mem_singleton.1 e
  subst hy
  refine zQ8 rfl (c77 hu hu2 hk hb hkb (g:=updB G' k (mt a)) zAE (by rw[zAA hkb];exact hgb') ⟨h0,h9⟩ (fun a' h0 h9=>?_) (fun a'=>?_))
  ·have:=h1 a' h0 h9
   rw[zFL (g:=G') (b:=mt a') zAE (fun t h1 h2=>by rw[zAA h2,zAA h2])]
   exact this
  ·have:=h2 a'
   rw[zFL (g:=G') (b:=mt a') zAE (fun t h1 h2=>by rw[zAA h2,zAA h2])]
   exact this
theorem c39 {k m:Nat}{g:Nat→Box}{u:List (Nat×Nat)}(hu:zBS m u=true)(hu2:zAW m u=u)(hk:k<m){left:Int}(hg:g k=mt left)(hl:0≤left∧left≤1500)
  {Q:CR→Sto→Prop} (h1:∀a,0≤a→a≤1500→Q (.ret (.bool true)) (S m (updB g k (mt a)) u)) (h2:∀a,Q (.ret (.bool false)) (S m (updB g k (mt a)) u)):C E1 39 [.ptr k 0,zFS sp0] (S m g u) Q:=by
 have e1:sp0.models=[]:=rfl
 have e2:sp0.consts=[]:=rfl
 have e3:sp0.vars=[]:=rfl
 have e4:sp0.defs=[]:=rfl
 have e5:sp0.assume=[]:=rfl
 have e6:sp0.init=zX0:=rfl
 have e7:sp0.next=zX0:=rfl
 have e8:sp0.fair=[]:=rfl
 have e9:sp0.invs=[]:=rfl
 have e10:sp0.props=[]:=rfl
 have e11:sp0.cons=[]:=rfl
 have e12:sp0.acons=[]:=rfl
 have e13:sp0.groups=[]:=rfl
 have e14:sp0.view=[]:=rfl
 have n1:([]:List AV).map id=[]:=rfl
 have n2:(List.map encX [])=[]:=rfl
 have n3:(List.map AV.str [])=[]:=rfl
 have n4:(List.map zD9 [])=[]:=rfl
 have n5:(List.map zIF [])=[]:=rfl
 have n6:(List.map zGH [])=[]:=rfl
 have n7:(List.map zHH [])=[]:=rfl
 have n8:(List.map zD8 [])=[]:=rfl
 have n9:(List.map zIG [])=[]:=rfl
 have n10:(List.map slS [])=[]:=rfl
 have fx:flatC (zA1 zX0)=true:=rfl
 refine zAM (md:=⟨false,false,false,false⟩) (fn:=Tryz.f39) (n:=164) (rs:=[.tmp 4]) rfl rfl rfl rfl rfl rfl rfl rfl (by simp only[go_sem, *];try rfl) (by rfl) ?_
 repeat' (first|refine c75z ?_|simp (disch:=first|assumption|omega) only[go_sem, *]|((first|apply gw_m|apply gw_q);focus (intro hs;(try simp only[nbs] at hs);simp (disch:=first|assumption|omega) only[go_sem, *];rfl))|((first|refine zAC ?_ ?_|refine zAB ?_ ?_|refine sp_C ?_ ?_|refine sp_G ?_ ?_)<;>(intro hs;try simp only[nbs] at hs)))
 intro G hG1 hG2
 have hGk:=hG2 k (by omega)
 have hGm:=hG2 m (by omega)
 have hGm1:=hG2 (m+1) (by omega)
 rw[zAA (by omega),zAA (by omega),hg] at hGk
 rw[zAA (by omega),zAE] at hGm
 rw[zAE] at hGm1
 have hc0:decide ((0:Int)<0)=false:=rfl
 have hU:=zJB hu hu2 (show m≤m+1+1+1 by omega)
 have hU1:=hU.1
 have hU2:=hU.2
 have hk3:k<m+1+1+1:=by omega
 have hlow:∀i,i<m→i≠k→G i=g i:=fun i h1 h2=>by rw[hG2 i (by omega),zAA (by omega),zAA (by omega)]
 clear hG2
 repeat' (first|simp (disch:=first|assumption|omega) only[go_sem, *]|((first|apply gw_m|apply gw_q);focus (intro hs;(try simp only[nbs] at hs);simp (disch:=first|assumption|omega) only[go_sem, *];rfl))|((first|refine zAC ?_ ?_|refine zAB ?_ ?_|refine sp_C ?_ ?_|refine sp_G ?_ ?_)<;>(intro hs;try simp only[nbs] at hs)))
 refine zA0 (ι:=Unit) (fun _=>[(2,.ptr m 0),(3,.ptr (m+1) 0),(5,.osl (m+1+1) 0 2),(6,.int .i64 0),(67,.int .i64 0),(68,.int .i64 0)]) (fun _=>S (m+1+1+1) G u) (fun _=>True) (fun _=>0) ?_ () trivial ⟨rfl,rfl,rfl,rfl,rfl,rfl,trivial⟩ rfl
 rintro⟨⟩ b66 _ _
 repeat' (first|simp (disch:=first|assumption|omega) only[go_sem, *]|((first|apply gw_m|apply gw_q);focus (intro hs;(try simp only[nbs] at hs);simp (disch:=first|assumption|omega) only[go_sem, *];rfl))|((first|refine zAC ?_ ?_|refine zAB ?_ ?_|refine sp_C ?_ ?_|refine sp_G ?_ ?_)<;>(intro hs;try simp only[nbs] at hs)))
 refine zA0 (ι:=Unit) (fun _=>[(2,.ptr m 0),(3,.ptr (m+1) 0),(5,.osl (m+1+1) 0 2),(6,.int .i64 0),(81,.int .i64 0),(82,.int .i64 0)]) (fun _=>S (m+1+1+1) G u) (fun _=>True) (fun _=>0) ?_ () trivial ⟨rfl,rfl,rfl,rfl,rfl,rfl,trivial⟩ rfl
 rintro⟨⟩ b80 _ _
 repeat' (first|simp (disch:=first|assumption|omega) only[go_sem, *]|((first|apply gw_m|apply gw_q);focus (intro hs;(try simp only[nbs] at hs);simp (disch:=first|assumption|omega) only[go_sem, *];rfl))|((first|refine zAC ?_ ?_|refine zAB ?_ ?_|refine sp_C ?_ ?_|refine sp_G ?_ ?_)<;>(intro hs;try simp only[nbs] at hs)))
 refine zA0 (ι:=Unit) (fun _=>[(2,.ptr m 0),(3,.ptr (m+1) 0),(5,.osl (m+1+1) 0 2),(6,.int .i64 0),(94,.int .i64 0),(95,.int .i64 0)]) (fun _=>S (m+1+1+1) G u) (fun _=>True) (fun _=>0) ?_ () trivial ⟨rfl,rfl,rfl,rfl,rfl,rfl,trivial⟩ rfl
 rintro⟨⟩ b93 _ _
 repeat' (first|simp (disch:=first|assumption|omega) only[go_sem, *]|((first|apply gw_m|apply gw_q);focus (intro hs;(try simp only[nbs] at hs);simp (disch:=first|assumption|omega) only[go_sem, *];rfl))|((first|refine zAC ?_ ?_|refine zAB ?_ ?_|refine sp_C ?_ ?_|refine sp_G ?_ ?_)<;>(intro hs;try simp only[nbs] at hs)))
 refine zA0 (ι:=Unit) (fun _=>[(2,.ptr m 0),(3,.ptr (m+1) 0),(5,.osl (m+1+1) 0 2),(6,.int .i64 0),(112,.int .i64 0),(113,.int .i64 0)]) (fun _=>S (m+1+1+1) G u) (fun _=>True) (fun _=>0) ?_ () trivial ⟨rfl,rfl,rfl,rfl,rfl,rfl,trivial⟩ rfl
 rintro⟨⟩ b111 _ _
 repeat' (first|simp (disch:=first|assumption|omega) only[go_sem, *]|((first|apply gw_m|apply gw_q);focus (intro hs;(try simp only[nbs] at hs);simp (disch:=first|assumption|omega) only[go_sem, *];rfl))|((first|refine zAC ?_ ?_|refine zAB ?_ ?_|refine sp_C ?_ ?_|refine sp_G ?_ ?_)<;>(intro hs;try simp only[nbs] at hs)))
 refine zA0 (ι:=Unit) (fun _=>[(2,.ptr m 0),(3,.ptr (m+1) 0),(5,.osl (m+1+1) 0 2),(6,.int .i64 0),(127,.int .i64 0),(128,.int .i64 0)]) (fun _=>S (m+1+1+1) G u) (fun _=>True) (fun _=>0) ?_ () trivial ⟨rfl,rfl,rfl,rfl,rfl,rfl,trivial⟩ rfl
 rintro⟨⟩ b126 _ _
 repeat' (first|simp (disch:=first|assumption|omega) only[go_sem, *]|((first|apply gw_m|apply gw_q);focus (intro hs;(try simp only[nbs] at hs);simp (disch:=first|assumption|omega) only[go_sem, *];rfl))|((first|refine zAC ?_ ?_|refine zAB ?_ ?_|refine sp_C ?_ ?_|refine sp_G ?_ ?_)<;>(intro hs;try simp only[nbs] at hs)))
 refine zA0 (ι:=Unit) (fun _=>[(2,.ptr m 0),(3,.ptr (m+1) 0),(5,.osl (m+1+1) 0 2),(6,.int .i64 0),(140,.int .i64 0),(141,.int .i64 0)]) (fun _=>S (m+1+1+1) G u) (fun _=>True) (fun _=>0) ?_ () trivial ⟨rfl,rfl,rfl,rfl,rfl,rfl,trivial⟩ rfl
 rintro⟨⟩ b139 _ _
 have hd1:decide (0≤left-0)=true:=decide_eq_true (by omega)
 have ht:=fun Q=>@c71d k (m+1+1+1) G u left 0 hU1 hU2 hk3 hGk hl (by omega) Q
 have hG1m:∀a,(updB G k (mt a)) m=.cells 77 [.ptr k 0]:=fun a=>by rw[zAA (by omega)];exact hGm
 repeat' (first|refine ht _ ?_|simp (disch:=first|assumption|omega) only[go_sem, *]|((first|apply gw_m|apply gw_q);focus (intro hs;(try simp only[nbs] at hs);simp (disch:=first|assumption|omega) only[go_sem, *];rfl))|((first|refine zAC ?_ ?_|refine zAB ?_ ?_|refine sp_C ?_ ?_|refine sp_G ?_ ?_)<;>(intro hs;try simp only[nbs] at hs)))
 rw[Int.sub_zero]
 obtain⟨G2,hG2⟩:∃G2,updB G k (mt left)=G2:=⟨_,rfl⟩
 rw[hG2]
 refine c76o hU1 hU2 hk3 (by omega) (by omega) (by omega) (by omega) (by omega) (left:=left) (by rw[← hG2,zAE]) (by rw[← hG2];exact hG1m left) (by rw[← hG2,zAA (by omega)];exact hG1) hl (fun a h0 h9=>?_) (fun a=>?_)
 ·have h1:=h1 a h0 h9
  generalize hG3:updB (updB G2 _ _) k (mt a)=G3
  have hm3:G3 m=.cells 77 [.ptr k 0]:=by rw[← hG3,zAA (by omega),zAA (by omega),← hG2];exact hG1m left
  have hm4:G3 (m+1)=.cells 45 (zAL sp0):=by rw[← hG3,zAA (by omega),zAA (by omega),← hG2,zAA (by omega)];exact hGm1
  rw[← zFL (G:=G3) (by rw[← hG3,zAE]) (fun t h1 h2=>by rw[← hG3,zAA h2,zAA (by omega),← hG2,zAA h2];exact hlow t h1 h2)] at h1
  clear h2 ht hlow hG1 hGk hG1m hG2 hG3 hGm hGm1
  have hcs:=fun fv hfv Q=>@c79n (m+1+1+1) G3 u hU1 hU2 fv hfv Q
  repeat' (first|refine hcs _ rfl _ ?_|simp (disch:=first|assumption|omega) only[go_sem, *]|((first|apply gw_m|apply gw_q);focus (intro hs;(try simp only[nbs] at hs);simp (disch:=first|assumption|omega) only[go_sem, *];rfl))|((first|refine zAC ?_ ?_|refine zAB ?_ ?_|refine sp_C ?_ ?_|refine sp_G ?_ ?_)<;>(intro hs;try simp only[nbs] at hs)))
 ·have h2:=h2 a
  generalize hG3:updB (updB G2 _ _) k (mt a)=G3
  rw[← zFL (G:=G3) (by rw[← hG3,zAE]) (fun t h1 h2=>by rw[← hG3,zAA h2,zAA (by omega),← hG2,zAA h2];exact hlow t h1 h2)] at h2
  clear h1 ht hlow hG1 hGk hG1m hG2 hG3 hGm hGm1
  repeat' (first|simp (disch:=first|assumption|omega) only[go_sem, *]|((first|apply gw_m|apply gw_q);focus (intro hs;(try simp only[nbs] at hs);simp (disch:=first|assumption|omega) only[go_sem, *];rfl))|((first|refine zAC ?_ ?_|refine zAB ?_ ?_|refine sp_C ?_ ?_|refine sp_G ?_ ?_)<;>(intro hs;try simp only[nbs] at hs)))
theorem upsN (m:Nat):zBS m []=true∧zAW m []=[]:=⟨rfl,rfl⟩
theorem build_79 (fr:Fr)(ps:List (Nat×Operand))(s:Sto):zER E1 fr 79 ps s=(match zCA fr ps with|some ps=>bldT 79 ps s|none=>.no):=rfl
theorem b79 (n:Int)(s:Sto):bldT 79 [(0,.int .i64 n)] s=.val (.agg [.int .i64 n]) s:=rfl
attribute [go_sem] build_79 b79
theorem c6 {l:List Las}{s:Sto}(hll:l.length<1073741824)(hl:∀x∈l,x.st.length≤1048576∧okS x.st){Q:CR→Sto→Prop}(h:∀b,Q (.ret (.bool b)) s):C E1 6 [zFS sp0,.sl 0 (l.map zAK) .shut,.sl 0 [] .shut] s Q:=by
 have hT:=h true
 have hF:=h false
 refine zAF (md:=⟨true,false,false,false⟩) (fn:=Tryz.f6) (n:=39) (rs:=[.tmp 6]) rfl rfl rfl rfl rfl rfl rfl rfl (by simp only[go_sem, *];try rfl) (by rfl) (by simp only[go_sem]) ?_
 repeat' (first|simp (disch:=first|assumption|omega) only[go_sem, *]|((first|apply gw_m|apply gw_q);focus (intro hs;(try simp only[nbs] at hs);simp (disch:=first|assumption|omega) only[go_sem, *];rfl))|((first|refine zAC ?_ ?_|refine zAB ?_ ?_|refine sp_C ?_ ?_|refine sp_G ?_ ?_)<;>(intro hs;try simp only[nbs] at hs)))
 generalize hG:updB _ 2 (Box.cells 77 [AV.ptr 1 0])=G0
 have e0:G0 0=.cells 45 (zAL sp0):=by rw[← hG];simp (disch:=first|assumption|omega) only[go_sem]
 have e1:G0 1=mt 1500:=by rw[← hG];simp (disch:=first|assumption|omega) only[go_sem]
 have e2:G0 2=.cells 77 [.ptr 1 0]:=by rw[← hG];simp (disch:=first|assumption|omega) only[go_sem]
 clear hG h
 refine zA0 (ι:=Nat×Int×Nat×(Nat→Box)) (fun p=>[(2,.sl 0 [] .shut),(3,.ptr 0 0),(7,.ptr 2 0),(12,.sl 0 (l.map zAK) .shut),(13,.int .i64 l.length),(14,.int .i64 p.1)]) (fun p=>S p.2.2.1 p.2.2.2 []) (fun p=>p.1≤l.length∧(0≤p.2.1∧p.2.1≤1500)∧3≤p.2.2.1∧p.2.2.2 0=.cells 45 (zAL sp0)∧p.2.2.2 1=mt p.2.1∧p.2.2.2 2=.cells 77 [.ptr 1 0]) (fun p=>l.length-p.1) ?_ (0,1500,3,G0) ⟨Nat.zero_le _,by dsimp only;omega,Nat.le_refl _,e0,e1,e2⟩ ⟨rfl,rfl,rfl,rfl,rfl,rfl,trivial⟩ rfl
 clear e0 e1 e2
 rintro⟨i,a,M,G⟩ b ⟨hi,ha,hM,e0,e1,e2⟩ hrec
 dsimp only at hi ha hM e0 e1 e2 hrec ⊢
 have hU1:=fun m=>(upsN m).1
 have hU2:=fun m=>(upsN m).2
 rcases Nat.lt_or_ge i l.length with hlt|hge
 ·have hc:decide ((i:Int)<l.length)=true:=decide_eq_true (by omega)
  have hd1:decide (i<l.length)=true:=decide_eq_true hlt
  have hx:l[i]?=some l[i]:=List.getElem?_eq_getElem hlt
  have hxl:=hl l[i] (List.getElem_mem hlt)
  generalize l[i]=x at hx hxl
  obtain⟨hx1,hx2⟩:=hxl
  have hcs:=fun G' (h':G' 1=mt a) Q=>@c38 x.st hx1 hx2 1 (M+1) G' [] rfl rfl (by omega) a h' ha Q
  by_cases h12:12<(x.st.length:Int)
  ·have hd:decide (12<(x.st.length:Int))=true:=decide_eq_true h12
   clear hrec hcs
   repeat' (first|simp (disch:=first|assumption|omega) only[go_sem, *]|((first|apply gw_m|apply gw_q);focus (intro hs;(try simp only[nbs] at hs);simp (disch:=first|assumption|omega) only[go_sem, *];rfl))|((first|refine zAC ?_ ?_|refine zAB ?_ ?_|refine sp_C ?_ ?_|refine sp_G ?_ ?_)<;>(intro hs;try simp only[nbs] at hs)))
  ·have hd:decide (12<(x.st.length:Int))=false:=decide_eq_false h12
   repeat' (first|simp (disch:=first|assumption|omega) only[go_sem, *]|((first|apply gw_m|apply gw_q);focus (intro hs;(try simp only[nbs] at hs);simp (disch:=first|assumption|omega) only[go_sem, *];rfl))|((first|refine zAC ?_ ?_|refine zAB ?_ ?_|refine sp_C ?_ ?_|refine sp_G ?_ ?_)<;>(intro hs;try simp only[nbs] at hs)))
   refine hcs _ (by rw[zAA (by omega),zAA (by omega)];exact e1) _ (fun a' h0 h9=>?_) (fun a'=>?_)
   ·clear hT hF hcs
    repeat' (first|simp (disch:=first|assumption|omega) only[go_sem, *]|((first|apply gw_m|apply gw_q);focus (intro hs;(try simp only[nbs] at hs);simp (disch:=first|assumption|omega) only[go_sem, *];rfl))|((first|refine zAC ?_ ?_|refine zAB ?_ ?_|refine sp_C ?_ ?_|refine sp_G ?_ ?_)<;>(intro hs;try simp only[nbs] at hs)))
    generalize hG3:updB (updB (updB G M _) M _) 1 (mt a')=G3
    have f0:G3 0=.cells 45 (zAL sp0):=by rw[← hG3,zAA (by omega),zAA (by omega),zAA (by omega)];exact e0
    have f1:G3 1=mt a':=by rw[← hG3,zAE]
    have f2:G3 2=.cells 77 [.ptr 1 0]:=by rw[← hG3,zAA (by omega),zAA (by omega),zAA (by omega)];exact e2
    exact hrec (i+1,a',M+1,G3) _ _ _ ⟨hlt,⟨h0,h9⟩,by dsimp only;omega,f0,f1,f2⟩ (by dsimp only;omega) ⟨rfl,rfl,rfl,rfl,rfl,rfl,trivial⟩ rfl
   ·clear hrec hcs
    repeat' (first|simp (disch:=first|assumption|omega) only[go_sem, *]|((first|apply gw_m|apply gw_q);focus (intro hs;(try simp only[nbs] at hs);simp (disch:=first|assumption|omega) only[go_sem, *];rfl))|((first|refine zAC ?_ ?_|refine zAB ?_ ?_|refine sp_C ?_ ?_|refine sp_G ?_ ?_)<;>(intro hs;try simp only[nbs] at hs)))
 ·have hc:decide ((i:Int)<l.length)=false:=decide_eq_false (by omega)
  have hcs:=fun Q=>@c39 1 M G [] rfl rfl (by omega) a e1 ha Q
  clear hrec
  repeat' (first|simp (disch:=first|assumption|omega) only[go_sem, *]|((first|apply gw_m|apply gw_q);focus (intro hs;(try simp only[nbs] at hs);simp (disch:=first|assumption|omega) only[go_sem, *];rfl))|((first|refine zAC ?_ ?_|refine zAB ?_ ?_|refine sp_C ?_ ?_|refine sp_G ?_ ?_)<;>(intro hs;try simp only[nbs] at hs)))
  refine hcs _ (fun a' h0 h9=>?_) (fun a'=>?_)
  ·have hc4:=fun fv hfv Q=>@c40n M (updB G 1 (mt a')) [] rfl rfl fv hfv Q
   have e3:(updB G 1 (mt a')) 2=.cells 77 [.ptr 1 0]:=by rw[zAA (by omega)];exact e2
   clear hcs
   repeat' (first|refine hc4 _ rfl _ ?_|simp (disch:=first|assumption|omega) only[go_sem, *]|((first|apply gw_m|apply gw_q);focus (intro hs;(try simp only[nbs] at hs);simp (disch:=first|assumption|omega) only[go_sem, *];rfl))|((first|refine zAC ?_ ?_|refine zAB ?_ ?_|refine sp_C ?_ ?_|refine sp_G ?_ ?_)<;>(intro hs;try simp only[nbs] at hs)))
  ·clear hcs
   repeat' (first|simp (disch:=first|assumption|omega) only[go_sem, *]|((first|apply gw_m|apply gw_q);focus (intro hs;(try simp only[nbs] at hs);simp (disch:=first|assumption|omega) only[go_sem, *];rfl))|((first|refine zAC ?_ ?_|refine zAB ?_ ?_|refine sp_C ?_ ?_|refine sp_G ?_ ?_)<;>(intro hs;try simp only[nbs] at hs)))
end Go.Ab.X
namespace Lf
theorem reps_mem {α:Type}[DecidableEq α]{B:List α}{x:α}:∀{k:Nat},x∈reps k B→x∈B
 | 0,h=>by cases h
 | k+1,h=>by
  rw[reps] at h
  exact(List.mem_append.1 h).elim id reps_mem
end Lf
namespace Pl
def okA (a:Las):Prop:=a.st.length≤1048576∧okS a.st
theorem okA_z:okA zLas:=⟨Nat.zero_le _,fun x hx=>by cases hx⟩
theorem zON {l:List (List V)}{b:Int}{a:Las}(h:okA a)(hl:l.length≤1048576)(hm:∀x∈l,x∈a.st):okA ⟨l,b⟩:=⟨hl,zEY h.2 hm⟩
theorem zJ2 {st:List (List V)}{j:Nat}(hj:j<st.length):∀{k:Nat} {x:List V},x∈zCV st j k→x∈st
 | 0,_,h=>h
 | k+1,x,h=>by
  rw[zCV] at h
  rcases List.mem_append.1 h with h|h
  ·exact zJ2 hj h
  ·rw[List.mem_singleton.1 h]
   exact zJ2 hj (List.mem_of_getElem? (zHQ (st:=st) (j:=j) (k:=k) hj))
theorem sufL_ok {a:Las}{n:Int}(h:okA a):okA (sufL a n).1:=by
 unfold sufL
 by_cases hb:isL a=false
 ·rw[if_pos hb];exact okA_z
 ·rw[if_neg hb]
  split
  ·exact okA_z
  ·obtain⟨j,hj,h1,h2,h3⟩:=zDE (by simpa using hb)
   show okA (sufX a n.toNat)
   unfold sufX
   split
   ·exact zON h (by rw[List.length_drop];omega) fun x hx=>List.mem_of_mem_drop hx
   ·exact zON h (by rw[List.length_append,List.length_drop,List.length_take,List.length_drop];omega) fun x hx=>(List.mem_append.1 hx).elim List.mem_of_mem_drop fun hx=>List.mem_of_mem_drop (List.mem_of_mem_take hx)
theorem zVU {a:Las}{n t:Int}(h:okA a):okA (stuL a n t).1:=by
 unfold stuL
 by_cases hb:isL a=false
 ·rw[if_pos hb];exact okA_z
 ·rw[if_neg hb]
  split
  ·exact okA_z
  ·split
   ·exact okA_z
   ·rename_i h1 h2
    show okA (stuX a n.toNat t.toNat (a.st.getD n.toNat []))
    unfold stuX
    have hx:a.st[n.toNat]?=some (a.st.getD n.toNat []):=by
     rw[List.getD_eq_getElem?_getD,List.getElem?_eq_getElem (by omega)];rfl
    refine zON h (by simp only[List.length_append,List.length_take,List.length_replicate,List.length_drop];omega) fun x hx'=>?_
    rcases List.mem_append.1 hx' with h|h
    ·exact List.mem_of_mem_take h
    ·rcases List.mem_append.1 h with h|h
     ·rw[List.eq_of_mem_replicate h];exact List.mem_of_getElem? hx
     ·exact List.mem_of_mem_drop h
theorem zRY {a:Las}{n:Int}(h:okA a):okA (zEN a n).1:=by
 unfold zEN
 by_cases hb:isL a=false
 ·rw[if_pos hb];exact okA_z
 ·rw[if_neg hb]
  split
  ·exact okA_z
  ·split
   ·exact okA_z
   ·obtain⟨j,hj,h1,h2,h3⟩:=zDE (by simpa using hb)
    exact zON h (by rw[zE4];omega) fun x hx=>zJ2 (by rw[hj];exact h3) hx
theorem zWU {a:Las}{n:Int}(h:okA a):okA (repL a n).1:=by
 unfold repL
 by_cases hb:isL a=false
 ·rw[if_pos hb];exact okA_z
 ·rw[if_neg hb]
  split
  ·exact okA_z
  ·split
   ·exact okA_z
   ·rename_i h4 h5
    obtain⟨j,hj,h1,h2,h3⟩:=zDE (by simpa using hb)
    refine zON h ?_ fun x hx=>(List.mem_append.1 hx).elim List.mem_of_mem_take fun hx=>List.mem_of_mem_drop (Lf.reps_mem hx)
    have e:a.back.toNat=j:=by rw[hj];rfl
    obtain⟨d,hd⟩:=Nat.le.dest (Nat.le_of_lt h3)
    rw[List.length_append,List.length_take,Lf.reps_len,List.length_drop,e,Nat.min_eq_left (by omega),← hd,Nat.add_sub_cancel_left]
    rw[hj,← hd] at h5
    obtain⟨k,hk⟩:=Int.eq_ofNat_of_zero_le (show 0≤n by omega)
    subst hk
    have e2:(((j+d:Nat):Int)-(j:Int))*(k:Int)=((k*d:Nat):Int):=by rw[Int.natCast_mul,Int.mul_comm];congr 1;omega
    rw[e2] at h5
    show j+k*d≤1048576
    omega
theorem zKP {a:Las}(h:okA a):okA (zAU a).1:=⟨zHA a h.1,zIV h.2⟩
theorem zNJ (a:Las):eqL a a=true:=by unfold eqL;simp
theorem zOR (a:Las):decide ((zAU a).2=0)=isL a:=by
 unfold zAU
 cases h:isL a with
 | false=>rw[if_pos rfl];rfl
 | true=>rw[if_neg (by simp)];rfl
theorem zT2 (a:Las):zHW a a=isL a:=by unfold zHW;rw[zNJ];simp
end Pl
namespace Go.Ab.X
open Go Go.Ab Go.Proofs Pl
set_option maxRecDepth 100000
set_option maxHeartbeats 4000000
theorem c19b {a b:Las}{s:Sto}(ha:okA a)(hb:okA b){Q:CR→Sto→Prop}(h:Q (.ret (.bool (zHW a b))) s):C E1 19 [zAK a,zAK b] s Q:=
 c19 ha.1 hb.1 ha.2 hb.2 (by rw[zOR,zOR];exact h)
def zSp:AV:=zAP (E1.types 45)
theorem zSp_seal (s:Sto):zBA s zSp=some (zFS sp0,s):=by
 have h:zSp=.agg [.sl 0 [] .nil,.sl 0 [] .nil,.sl 0 [] .nil,.sl 0 [] .nil,.sl 0 [] .nil,.int .i64 0,.int .i64 0,.sl 0 [] .nil,.int .i64 0,.int .i64 0,.bool false,.sl 0 [] .nil,.str [],.sl 0 [] .nil,.sl 0 [] .nil,.sl 0 [] .nil,.int .i64 0,.int .i64 0,.sl 0 [] .nil,.int .i64 0,.int .i64 0,.bool false,.sl 0 [] .nil,.str [],.sl 0 [] .nil,.sl 0 [] .nil,.sl 0 [] .nil,.sl 0 [] .nil,.sl 0 [] .nil,.sl 0 [] .nil,.sl 0 [] .nil,.sl 0 [] .nil,.sl 0 [] .nil,.sl 0 [] .nil,.bool false]:=by kernel_rfl
 rw[h];rfl
theorem b45 (fr:Fr)(s:Sto):zER E1 fr 45 [] s=.val zSp s:=rfl
theorem las_drop (x:Las):List.drop 2 (zAN x)=[]:=rfl
theorem las_app (x:Las):zAN x++[]=zAN x:=rfl
attribute [go_sem] b45 las_drop las_app
theorem c6o {a b:Las}{s:Sto}(ha:okA a)(hb:okA b){Q:CR→Sto→Prop}(h:∀b,Q (.ret (.bool b)) s):C E1 6 [zSp,.sl 0 [zAK a,zAK b] .clip,.sl 0 [] .nil] s Q:=by
 refine zF0 (args1:=[zFS sp0,.sl 0 ([a,b].map zAK) .shut,.sl 0 [] .shut]) rfl rfl rfl rfl rfl ?_ rfl (c6 (by simp) (fun x hx=>?_) h)
 ·unfold zBJ
  rw[zSp_seal]
  rfl
 ·rcases List.mem_cons.1 hx with rfl|hx
  ·exact ha
  ·rw[List.mem_singleton.1 hx];exact hb
theorem c5 {s:Sto}{Q:CR→Sto→Prop}(h:Q (.ret (.bool true)) s):C E1 5 [] s Q:=zZT rfl h
theorem c9r {a:Las}{s:Sto}(ha:okA a){Q:CR→Sto→Prop}(h:Q (.ret (.bool true)) s):C E1 9 [zAK a,zAK a] s Q:=
 c9 (Nat.lt_of_le_of_lt ha.1 (by decide)) (Nat.lt_of_le_of_lt ha.1 (by decide)) ha.2 ha.2 (by rw[zNJ];exact h)
theorem c3 {a b:Las}{n t:Int}{s:Sto}(ha:okA a)(hb:okA b)(hn:-9223372036854775808≤n∧n<9223372036854775808)(ht:-9223372036854775808≤t∧t<9223372036854775808){Q:CR→Sto→Prop}(h:Q (.ret (.bool true)) s):C E1 3 [zAK a,zAK b,.int .i64 n,.int .i64 t] s Q:=by
 have hal:a.st.length<1073741824:=Nat.lt_of_le_of_lt ha.1 (by decide)
 have o7:=sufL_ok (n:=n) ha
 have h7:=fun s Q hq=>@c7 a n s hal Q hq
 have h8:=fun s Q hq=>@c8 a n s hal Q hq
 generalize sufL a n=p7 at o7 h7 h8
 obtain⟨x7,e7⟩:=p7
 have o10:=zVU (n:=n) (t:=t) ha
 have h10:=fun s Q hq=>@c10 a n t s hal ht Q hq
 have h11:=fun s Q hq=>@c11 a n t s hal Q hq
 generalize stuL a n t=p10 at o10 h10 h11
 obtain⟨x10,e10⟩:=p10
 have o12:=zRY (n:=t) ha
 have h12:=fun s Q hq=>@c12 a t s hal ht Q hq
 have h13:=fun s Q hq=>@c13 a t s hal Q hq
 generalize zEN a t=p12 at o12 h12 h13
 obtain⟨x12,e12⟩:=p12
 have o14:=zWU (n:=t) ha
 have h14:=fun s Q hq=>@c14 a t s hal ht Q hq
 have h15:=fun s Q hq=>@c15 a t s hal Q hq
 generalize repL a t=p14 at o14 h14 h15
 obtain⟨x14,e14⟩:=p14
 have o16:=zKP ha
 have h16:=fun s Q hq=>@c16 a s hal ha.2 Q hq
 have h17:=fun s Q hq=>@c17 a s hal ha.2 Q hq
 rw[zL7] at h17
 generalize zAU a=p16 at o16 h16 h17
 obtain⟨x16,e16⟩:=p16
 have h18:=fun s Q hq=>@c18 a b s ha.1 hb.1 ha.2 hb.2 Q hq
 have h19:=fun s Q hq=>@c19b a b s ha hb Q hq
 generalize zHW a b=sm at h18 h19
 have h18r:=fun s Q hq=>@c18 a a s ha.1 ha.1 ha.2 ha.2 Q hq
 rw[zT2] at h18r
 have h20:=fun s Q hq=>@c20 a s hal Q hq
 generalize isL a=il at h18r h20
 dsimp only at o7 h7 h8 o10 h10 h11 o12 h12 h13 o14 h14 h15 o16 h16 h17
 have h9a:=fun s Q hq=>@c9r x7 s o7 Q hq
 have h9b:=fun s Q hq=>@c9r x10 s o10 Q hq
 have h9c:=fun s Q hq=>@c9r x12 s o12 Q hq
 have h9d:=fun s Q hq=>@c9r x14 s o14 Q hq
 have h9e:=fun s Q hq=>@c9r x16 s o16 Q hq
 have d7:decide (e7=e7)=true:=decide_eq_true rfl
 have d10:decide (e10=e10)=true:=decide_eq_true rfl
 have d12:decide (e12=e12)=true:=decide_eq_true rfl
 have d14:decide (e14=e14)=true:=decide_eq_true rfl
 have d16:decide (e16=e16)=true:=decide_eq_true rfl
 refine zAF (md:=⟨true,false,false,false⟩) (fn:=Tryz.f3) (n:=142) (rs:=[.tmp 8]) rfl rfl rfl rfl rfl rfl rfl rfl (by simp only[go_sem, *];try rfl) (by rfl) (by simp only[go_sem]) ?_
 repeat' (first|refine c5 ?_|simp (disch:=first|assumption|omega) only[go_sem, *]|((first|apply gw_m|apply gw_q);focus (intro hs;(try simp only[nbs] at hs);simp (disch:=first|assumption|omega) only[go_sem, *];rfl))|((first|refine zAC ?_ ?_|refine zAB ?_ ?_|refine sp_C ?_ ?_|refine sp_G ?_ ?_)<;>(intro hs;try simp only[nbs] at hs)))
 refine c6o ha hb (fun bb=>?_)
 cases bb with
 | false=>repeat' (first|simp (disch:=first|assumption|omega) only[go_sem, *]|((first|apply gw_m|apply gw_q);focus (intro hs;(try simp only[nbs] at hs);simp (disch:=first|assumption|omega) only[go_sem, *];rfl))|((first|refine zAC ?_ ?_|refine zAB ?_ ?_|refine sp_C ?_ ?_|refine sp_G ?_ ?_)<;>(intro hs;try simp only[nbs] at hs)))
 | true=>
  repeat' (first|refine h7 _ _ ?_|refine h8 _ _ ?_|refine h9a _ _ ?_|refine h10 _ _ ?_|refine h11 _ _ ?_|refine h9b _ _ ?_|refine h12 _ _ ?_|refine h13 _ _ ?_|refine h9c _ _ ?_|refine h14 _ _ ?_|refine h15 _ _ ?_|refine h9d _ _ ?_|refine h16 _ _ ?_|refine h17 _ _ ?_|refine h9e _ _ ?_|refine h18 _ _ ?_|refine h19 _ _ ?_|refine h18r _ _ ?_|refine h20 _ _ ?_|simp (disch:=first|assumption|omega) only[go_sem, *]|((first|apply gw_m|apply gw_q);focus (intro hs;(try simp only[nbs] at hs);simp (disch:=first|assumption|omega) only[go_sem, *];rfl))|((first|refine zAC ?_ ?_|refine zAB ?_ ?_|refine sp_C ?_ ?_|refine sp_G ?_ ?_)<;>(intro hs;try simp only[nbs] at hs)))
end Go.Ab.X
namespace Lf
variable {α:Type}[DecidableEq α]
theorem pull_neq:∀(r L:List α),L≠[]→(pull r L).2≠[]
 | [],L,h=>h
 | a :: r,L,h=>by
  rw[zDC]
  split
  ·exact pull_neq r _ (by simp)
  ·exact h
theorem shift_ne:∀(L S:List α),L≠[]→(shift S L).2≠[]
 | [],S,h=>absurd rfl h
 | [a],S,h=>by rw[show shift S [a]=(S,[a]) from rfl];simp
 | a :: b :: r,S,h=>by
  rw[shift]
  split
  ·exact shift_ne (b :: r) _ (by simp)
  ·simp
theorem normP_ne {S:List α}{b:Nat}(h:b<S.length):(normP S b).2≠[]:=by
 unfold normP
 have h1:(shift (dd (S.take b)) (dd (S.drop b))).2≠[]:=shift_ne _ _ (List.ne_nil_of_length_pos (dd_pos (by rw[List.length_drop];omega)))
 generalize shift (dd (S.take b)) (dd (S.drop b))=y at h1
 refine pull_neq _ _ (List.ne_nil_of_length_pos ?_)
 have:=(per_spec y.2 h1).1
 rw[List.length_take];omega
end Lf
namespace Pl
theorem zM9 (st:List (List V))(j:Nat):(zD3 st j).st=(Lf.normP st j).1.reverse++(Lf.normP st j).2:=rfl
theorem normL_bk (st:List (List V))(j:Nat):(zD3 st j).back=((Lf.normP st j).1.length:Int):=rfl
theorem zXM {st:List (List V)}{j:Nat}(h1:st.length≤1000)(h:j<st.length):(Lf.normP st j).1.length<(zD3 st j).st.length∧isL (zD3 st j)=true:=by
 have hp:=List.length_pos_iff.2 (Lf.normP_ne (S:=st) h)
 have hl:=zGA st j
 rw[zM9,List.length_append,List.length_reverse] at hl
 have e:(zD3 st j).st.length=(Lf.normP st j).1.length+(Lf.normP st j).2.length:=by rw[zM9,List.length_append,List.length_reverse]
 refine⟨by omega,?_⟩
 show isL ⟨(zD3 st j).st,((Lf.normP st j).1.length:Int)⟩=true
 unfold isL
 simp only[Bool.and_eq_true,decide_eq_true_eq]
 omega
def zT4 (a b:Las):Prop:=∀i j:Nat,a.back=i→b.back=j→Lf.normR a.st i=Lf.normR b.st j
theorem zH7 {a:Las}{j:Nat}(h:isL a=true)(hj:a.back=j):zAU a=(zD3 a.st j,0):=by
 unfold zAU
 rw[if_neg (by rw[h];simp),hj];rfl
theorem zXN {st:List (List V)}{j:Nat}(h:j<st.length):zD3 st j=⟨(Lf.normR st j).1.reverse++(Lf.normR st j).2,((Lf.normR st j).1.length:Int)⟩:=(zSO h).symm
theorem zJI {a b:Las}(ha:isL a=true)(hb:isL b=true)(h:zT4 a b):zAU a=zAU b:=by
 obtain⟨i,hi,_,_,h1⟩:=zDE ha
 obtain⟨j,hj,_,_,h2⟩:=zDE hb
 rw[zH7 ha hi,zH7 hb hj,zXN h1,zXN h2,h i j hi hj]
theorem zOQ {a:Las}(ha:isL a=true):isL (zAU a).1=true∧zAU (zAU a).1=zAU a:=by
 obtain⟨i,hi,g1,g2,h1⟩:=zDE ha
 have hn:=zXM g2 h1
 have e2:(zAU a).1=zD3 a.st i:=by rw[zH7 ha hi]
 rw[e2]
 refine⟨hn.2,?_⟩
 refine zJI hn.2 ha fun p q hp hq=>?_
 rw[hi] at hq
 have hq:i=q:=by omega
 subst hq
 rw[normL_bk] at hp
 have hp:(Lf.normP a.st i).1.length=p:=by omega
 subst hp
 rw[zM9,Lf.norm_eq _ _ h1]
 exact Lf.norm_norm a.st i h1
def zDT (a:Las)(k i n:Int):Las×Int:=if k=0 then stuL a i n else if k=1 then zEN a n else repL a n
theorem zVT {a:Las}{i n:Int}(ha:isL a=true)(h:(stuL a i n).2=0):isL (stuL a i n).1=true∧zT4 (stuL a i n).1 a:=by
 obtain⟨j,hj,h1,h2,h3⟩:=zDE ha
 unfold stuL at h ⊢
 rw[if_neg (by rw[ha];simp)] at h ⊢
 split at h
 ·cases h
 ·rename_i e1
  rw[if_neg e1]
  split at h
  ·cases h
  ·rename_i e2
   rw[if_neg e2]
   obtain⟨ii,rfl⟩:=Int.eq_ofNat_of_zero_le (show 0≤i by omega)
   obtain⟨t,rfl⟩:=Int.eq_ofNat_of_zero_le (show 0≤n by omega)
   have hil:ii<a.st.length:=by omega
   have hx:a.st[ii]?=some (a.st.getD ii []):=by rw[List.getD_eq_getElem?_getD,List.getElem?_eq_getElem hil];rfl
   show isL (stuX a ii t (a.st.getD ii []))=true∧zT4 (stuX a ii t (a.st.getD ii [])) a
   generalize a.st.getD ii []=x at hx
   have hd:a.st.drop ii=x :: a.st.drop (ii+1):=by
    rw[List.drop_eq_getElem_cons hil]
    rw[List.getElem?_eq_getElem hil] at hx
    rw[Option.some.inj hx]
   have hlen:(a.st.take ii++(List.replicate t x++a.st.drop ii)).length=a.st.length+t:=by simp only[List.length_append,List.length_take,List.length_replicate,List.length_drop];omega
   refine⟨?_,fun p q hp hq=>?_⟩
   ·unfold stuX isL
    simp only[Bool.and_eq_true,decide_eq_true_eq]
    rw[hlen,hj]
    split<;>omega
   ·have hq:j=q:=by omega
    subst hq
    have hp':(if(a.st.take ii).length<j then j+t else j)=p:=by
     have e:(a.st.take ii).length=ii:=by rw[List.length_take];omega
     rw[e]
     unfold stuX at hp
     dsimp only at hp
     rw[hj] at hp
     split at hp<;>split<;>omega
    have:=Lf.norm_stutter (a.st.take ii) (a.st.drop (ii+1)) x t j
    rw[hp',← hd,List.take_append_drop] at this
    exact this
theorem zLT {st:List (List V)}{j:Nat}(hj:j<st.length):∀k,Lf.normR (zCV st j k) (j+k)=Lf.normR st j
 | 0=>rfl
 | k+1=>by
  rw[zCV,← Nat.add_assoc,Lf.norm_turn _ _ _ (zHQ (st:=st) (j:=j) (k:=k) hj)]
  exact zLT hj k
theorem zTG {a:Las}{n:Int}(ha:isL a=true)(h:(zEN a n).2=0):isL (zEN a n).1=true∧zT4 (zEN a n).1 a:=by
 obtain⟨j,hj,h1,h2,h3⟩:=zDE ha
 unfold zEN at h ⊢
 rw[if_neg (by rw[ha];simp)] at h ⊢
 split at h
 ·cases h
 ·rename_i e1
  rw[if_neg e1]
  split at h
  ·cases h
  ·rename_i e2
   rw[if_neg e2]
   obtain⟨k,rfl⟩:=Int.eq_ofNat_of_zero_le (show 0≤n by omega)
   have e:a.back.toNat=j:=by rw[hj];rfl
   rw[e]
   refine⟨?_,fun p q hp hq=>?_⟩
   ·unfold isL
    simp only[Bool.and_eq_true,decide_eq_true_eq]
    show 1≤((zCV a.st j k).length:Int)∧((zCV a.st j k).length:Int)≤1000∧0≤a.back+(k:Int)∧a.back+(k:Int)<((zCV a.st j k).length:Int)
    rw[zE4,hj];omega
   ·have hq:j=q:=by omega
    subst hq
    dsimp only at hp
    have hp:p=j+k:=by omega
    subst hp
    exact zLT h3 k
theorem zWT {a:Las}{n:Int}(ha:isL a=true)(h:(repL a n).2=0):isL (repL a n).1=true∧zT4 (repL a n).1 a:=by
 obtain⟨j,hj,h1,h2,h3⟩:=zDE ha
 unfold repL at h ⊢
 rw[if_neg (by rw[ha];simp)] at h ⊢
 split at h
 ·cases h
 ·rename_i e1
  rw[if_neg e1]
  split at h
  ·cases h
  ·rename_i e2
   rw[if_neg e2]
   obtain⟨k,rfl⟩:=Int.eq_ofNat_of_zero_le (show 0≤n by omega)
   have e:a.back.toNat=j:=by rw[hj];rfl
   rw[e]
   have hlen:(a.st.take j++Lf.reps k (a.st.drop j)).length=j+k*(a.st.length-j):=by rw[List.length_append,List.length_take,Lf.reps_len,List.length_drop];omega
   obtain⟨d,hd⟩:=Nat.le.dest (Nat.le_of_lt h3)
   have hk:1≤k:=by omega
   have hdk:=Nat.mul_le_mul hk (show 1≤d by omega)
   have e3:(((j+d:Nat):Int)-(j:Int))*(k:Int)=((k*d:Nat):Int):=by rw[Int.natCast_mul,Int.mul_comm];congr 1;omega
   rw[hj,← hd,e3] at e2
   have hlen2:(a.st.take j++Lf.reps k (a.st.drop j)).length=j+k*d:=by rw[hlen,← hd,Nat.add_sub_cancel_left]
   refine⟨?_,fun p q hp hq=>?_⟩
   ·unfold isL
    simp only[Bool.and_eq_true,decide_eq_true_eq]
    show 1≤((a.st.take j++Lf.reps k (a.st.drop j)).length:Int)∧((a.st.take j++Lf.reps k (a.st.drop j)).length:Int)≤1000∧0≤a.back∧a.back<((a.st.take j++Lf.reps k (a.st.drop j)).length:Int)
    rw[hlen2,hj];omega
   ·have hq:j=q:=by omega
    subst hq
    dsimp only at hp
    have hp:p=j:=by omega
    subst hp
    exact Lf.norm_reps a.st p k h3 hk
theorem zTL {a:Las}{k i n:Int}(ha:isL a=true)(h:(zDT a k i n).2=0):isL (zDT a k i n).1=true∧zT4 (zDT a k i n).1 a:=by
 by_cases h0:k=0
 ·have e:zDT a k i n=stuL a i n:=by unfold zDT;rw[if_pos h0]
  rw[e] at h ⊢
  exact zVT ha h
 ·by_cases h1:k=1
  ·have e:zDT a k i n=zEN a n:=by unfold zDT;rw[if_neg h0,if_pos h1]
   rw[e] at h ⊢
   exact zTG ha h
  ·have e:zDT a k i n=repL a n:=by unfold zDT;rw[if_neg h0,if_neg h1]
   rw[e] at h ⊢
   exact zWT ha h
theorem zR3 {a:Las}{k i n:Int}(h:okA a):okA (zDT a k i n).1:=by
 unfold zDT
 split
 ·exact zVU h
 ·split
  ·exact zRY h
  ·exact zWU h
def zMW (a:Las)(x:Int×Int×Int):Las:=if(zDT a x.1 x.2.1 x.2.2).2=0∧((zDT a x.1 x.2.1 x.2.2).1.st.length:Int)≤40 then(zDT a x.1 x.2.1 x.2.2).1 else a
def chL (a:Las)(l:List (Int×Int×Int)):Las:=l.foldl zMW a
theorem zR4 {a:Las}{x:Int×Int×Int}(h:okA a):okA (zMW a x):=by
 unfold zMW
 split
 ·exact zR3 h
 ·exact h
theorem chL_ok:∀{l:List (Int×Int×Int)} {a:Las},okA a→okA (chL a l)
 | [],_,h=>h
 | x :: r,a,h=>chL_ok (l:=r) (a:=zMW a x) (zR4 h)
theorem zTO {a:Las}{x:Int×Int×Int}(h:isL a=true):isL (zMW a x)=true∧zAU (zMW a x)=zAU a:=by
 unfold zMW
 split
 ·rename_i e
  have:=zTL h e.1
  exact⟨this.1,zJI this.1 h this.2⟩
 ·exact⟨h,rfl⟩
theorem chL_same:∀{l:List (Int×Int×Int)} {a:Las},isL a=true→isL (chL a l)=true∧zAU (chL a l)=zAU a
 | [],_,h=>⟨h,rfl⟩
 | x :: r,a,h=>by
  have h1:=zTO (x:=x) h
  have h2:=chL_same (l:=r) h1.1
  exact⟨h2.1,h2.2.trans h1.2⟩
theorem zVR {a:Las}(h:isL a=true):sufL a 0=(a,0):=by
 obtain⟨j,hj,h1,h2,h3⟩:=zDE h
 unfold sufL
 rw[if_neg (by rw[h];simp),if_neg (by omega)]
 show(sufX a 0,(0:Int))=(a,0)
 unfold sufX
 rw[if_pos (by rw[hj];omega)]
 cases a;simp
end Pl
namespace Go.Ab
open Go Pl
def zCB (x:Int×Int×Int):List AV:=[.int .i64 x.1,.int .i64 x.2.1,.int .i64 x.2.2]
def zCL (x:Int×Int×Int):AV:=.agg (zCB x)
theorem zUX (x:Int×Int×Int):cellsOf (zCL x)=zCB x:=rfl
theorem zYG (x:Int×Int×Int):flatC (zCB x)=true:=rfl
theorem zXS (x:Int×Int×Int):llen (zCB x)=3:=rfl
theorem top_Step (x:Int×Int×Int):top (zCL x)=0:=rfl
theorem fold_Step (x:Int×Int×Int):AV.agg (zCB x)=zCL x:=rfl
theorem zYW (x:Int×Int×Int):List.drop 3 (zCB x)=[]:=rfl
theorem app_Step (x:Int×Int×Int):zCB x++[]=zCB x:=rfl
theorem nStep0 {x:Int×Int×Int}:lnth (zCB x) 0=some (.int .i64 x.1):=rfl
theorem nStep1 {x:Int×Int×Int}:lnth (zCB x) 1=some (.int .i64 x.2.1):=rfl
theorem nStep2 {x:Int×Int×Int}:lnth (zCB x) 2=some (.int .i64 x.2.2):=rfl
attribute [go_sem] zUX zYG zXS top_Step zYW app_Step nStep0 nStep1 nStep2
end Go.Ab
namespace Go.Ab.X
open Go Go.Ab Go.Proofs Pl
set_option maxRecDepth 100000
set_option maxHeartbeats 4000000
theorem pk_Step {x:Int×Int×Int}:pick1 (E1.types 96) (zCB x) 0=some (zCL x):=by kernel_rfl
attribute [go_sem] pk_Step
theorem c21 {a:Las}{l:List (Int×Int×Int)}{s:Sto}(ha:okA a)(hl:l.length<1073741824)(hb:∀x∈l,-9223372036854775808≤x.2.2∧x.2.2<9223372036854775808){Q:CR→Sto→Prop}(h:Q (.ret (zAK (chL a l))) s):C E1 21 [zAK a,.sl 0 (l.map zCL) .shut,.int .i64 40] s Q:=by
 refine zAF (md:=⟨true,false,false,false⟩) (fn:=Tryz.f21) (n:=58) (rs:=[.cell 6 24]) rfl rfl rfl rfl rfl rfl rfl rfl (by simp only[go_sem, *];try rfl) (by rfl) (by simp only[go_sem]) ?_
 repeat' (first|simp (disch:=first|assumption|omega) only[go_sem, *]|((first|apply gw_m|apply gw_q);focus (intro hs;(try simp only[nbs] at hs);simp (disch:=first|assumption|omega) only[go_sem, *];rfl))|((first|refine zAC ?_ ?_|refine zAB ?_ ?_|refine sp_C ?_ ?_|refine sp_G ?_ ?_)<;>(intro hs;try simp only[nbs] at hs)))
 generalize hG:updB _ 1 (Box.cells 24 [AV.sl 0 [] .nil,AV.int .i64 0])=G0
 have e0:G0 0=.cells 24 (zAN a):=by rw[← hG];simp (disch:=first|assumption|omega) only[go_sem]
 have e1:G0 1=.cells 24 [.sl 0 [] .nil,.int .i64 0]:=by rw[← hG];simp (disch:=first|assumption|omega) only[go_sem]
 clear hG
 refine zA0 (ι:=Nat×Las×Nat×(Nat→Box)) (fun p=>[(2,.int .i64 40),(3,.ptr 0 0),(6,.ptr 1 0),(11,.sl 0 (l.map zCL) .shut),(12,.int .i64 l.length),(13,.int .i64 p.1)]) (fun p=>S p.2.2.1 p.2.2.2 []) (fun p=>p.1≤l.length∧okA p.2.1∧2≤p.2.2.1∧p.2.2.2 0=.cells 24 (zAN p.2.1)∧p.2.2.2 1=.cells 24 [.sl 0 [] .nil,.int .i64 0]∧chL a l=chL p.2.1 (l.drop p.1)) (fun p=>l.length-p.1) ?_ (0,a,2,G0) ⟨Nat.zero_le _,ha,Nat.le_refl _,e0,e1,rfl⟩ ⟨rfl,rfl,rfl,rfl,rfl,rfl,trivial⟩ rfl
 clear e0 e1
 rintro⟨i,y,M,G⟩ b ⟨hi,hy,hM,e0,e1,he⟩ hrec
 dsimp only at hi hy hM e0 e1 he hrec ⊢
 have hyl:y.st.length<1073741824:=Nat.lt_of_le_of_lt hy.1 (by decide)
 rcases Nat.lt_or_ge i l.length with hlt|hge
 ·have hc:decide ((i:Int)<l.length)=true:=decide_eq_true (by omega)
  have hd1:decide (i<l.length)=true:=decide_eq_true hlt
  have hx:l[i]?=some l[i]:=List.getElem?_eq_getElem hlt
  have hbx:=hb l[i] (List.getElem_mem hlt)
  rw[List.drop_eq_getElem_cons hlt] at he
  generalize l[i]=x at hx hbx he
  have he:chL a l=chL (zMW y x) (l.drop (i+1)):=he
  have hok:=zR4 (x:=x) hy
  have hq:zMW y x=if(zDT y x.1 x.2.1 x.2.2).2=0∧((zDT y x.1 x.2.1 x.2.2).1.st.length:Int)≤40 then(zDT y x.1 x.2.1 x.2.2).1 else y:=rfl
  have hro:=zR3 (k:=x.1) (i:=x.2.1) (n:=x.2.2) hy
  by_cases h0:x.1=0
  ·have d0:decide (x.1=0)=true:=decide_eq_true h0
   have hR:zDT y x.1 x.2.1 x.2.2=stuL y x.2.1 x.2.2:=by unfold zDT;rw[if_pos h0]
   have hcc:=fun s Q hq=>@c10 y x.2.1 x.2.2 s hyl hbx Q hq
   rw[← hR] at hcc
   clear hR h0
   generalize zDT y x.1 x.2.1 x.2.2=p at hcc hq hro
   obtain⟨z,e⟩:=p
   dsimp only at hcc hq hro
   have hzl:=hro.1
   by_cases hz:e=0
   ·have he0:decide (e=0)=true:=decide_eq_true hz
    by_cases hz2:(z.st.length:Int)≤40
    ·have he1:decide ((z.st.length:Int)≤40)=true:=decide_eq_true hz2
     rw[if_pos ⟨hz,hz2⟩] at hq
     rw[hq] at he
     clear hz
     repeat' (first|refine hcc _ _ ?_|simp (disch:=first|assumption|omega) only[go_sem, *]|((first|apply gw_m|apply gw_q);focus (intro hs;(try simp only[nbs] at hs);simp (disch:=first|assumption|omega) only[go_sem, *];rfl))|((first|refine zAC ?_ ?_|refine zAB ?_ ?_|refine sp_C ?_ ?_|refine sp_G ?_ ?_)<;>(intro hs;try simp only[nbs] at hs)))
     generalize hG3:updB (updB (updB (updB (updB G M _) M _) (M+1) _) (M+1) _) 0 (Box.cells 24 (zAN z))=G3
     have f0:G3 0=.cells 24 (zAN z):=by rw[← hG3,zAE]
     have f1:G3 1=.cells 24 [.sl 0 [] .nil,.int .i64 0]:=by rw[← hG3,zAA (by omega),zAA (by omega),zAA (by omega),zAA (by omega),zAA (by omega)];exact e1
     exact hrec (i+1,z,M+1+1,G3) _ _ _ ⟨hlt,hro,by dsimp only;omega,f0,f1,he⟩ (by dsimp only;omega) ⟨rfl,rfl,rfl,rfl,rfl,rfl,trivial⟩ rfl
    ·have he1:decide ((z.st.length:Int)≤40)=false:=decide_eq_false hz2
     rw[if_neg fun h=>hz2 h.2] at hq
     rw[hq] at he
     clear hz
     repeat' (first|refine hcc _ _ ?_|simp (disch:=first|assumption|omega) only[go_sem, *]|((first|apply gw_m|apply gw_q);focus (intro hs;(try simp only[nbs] at hs);simp (disch:=first|assumption|omega) only[go_sem, *];rfl))|((first|refine zAC ?_ ?_|refine zAB ?_ ?_|refine sp_C ?_ ?_|refine sp_G ?_ ?_)<;>(intro hs;try simp only[nbs] at hs)))
     generalize hG3:updB (updB (updB (updB G M _) M _) (M+1) _) (M+1) _=G3
     have f0:G3 0=.cells 24 (zAN y):=by rw[← hG3,zAA (by omega),zAA (by omega),zAA (by omega),zAA (by omega)];exact e0
     have f1:G3 1=.cells 24 [.sl 0 [] .nil,.int .i64 0]:=by rw[← hG3,zAA (by omega),zAA (by omega),zAA (by omega),zAA (by omega)];exact e1
     exact hrec (i+1,y,M+1+1,G3) _ _ _ ⟨hlt,hy,by dsimp only;omega,f0,f1,he⟩ (by dsimp only;omega) ⟨rfl,rfl,rfl,rfl,rfl,rfl,trivial⟩ rfl
   ·have he0:decide (e=0)=false:=decide_eq_false hz
    rw[if_neg fun h=>hz h.1] at hq
    rw[hq] at he
    repeat' (first|refine hcc _ _ ?_|simp (disch:=first|assumption|omega) only[go_sem, *]|((first|apply gw_m|apply gw_q);focus (intro hs;(try simp only[nbs] at hs);simp (disch:=first|assumption|omega) only[go_sem, *];rfl))|((first|refine zAC ?_ ?_|refine zAB ?_ ?_|refine sp_C ?_ ?_|refine sp_G ?_ ?_)<;>(intro hs;try simp only[nbs] at hs)))
    generalize hG3:updB (updB (updB (updB G M _) M _) (M+1) _) (M+1) _=G3
    have f0:G3 0=.cells 24 (zAN y):=by rw[← hG3,zAA (by omega),zAA (by omega),zAA (by omega),zAA (by omega)];exact e0
    have f1:G3 1=.cells 24 [.sl 0 [] .nil,.int .i64 0]:=by rw[← hG3,zAA (by omega),zAA (by omega),zAA (by omega),zAA (by omega)];exact e1
    exact hrec (i+1,y,M+1+1,G3) _ _ _ ⟨hlt,hy,by dsimp only;omega,f0,f1,he⟩ (by dsimp only;omega) ⟨rfl,rfl,rfl,rfl,rfl,rfl,trivial⟩ rfl
  ·have d0:decide (x.1=0)=false:=decide_eq_false h0
   by_cases h1:x.1=1
   ·have d1:decide (x.1=1)=true:=decide_eq_true h1
    have hR:zDT y x.1 x.2.1 x.2.2=zEN y x.2.2:=by unfold zDT;rw[if_neg h0,if_pos h1]
    have hcc:=fun s Q hq=>@c12 y x.2.2 s hyl hbx Q hq
    rw[← hR] at hcc
    clear hR h0 h1
    generalize zDT y x.1 x.2.1 x.2.2=p at hcc hq hro
    obtain⟨z,e⟩:=p
    dsimp only at hcc hq hro
    have hzl:=hro.1
    by_cases hz:e=0
    ·have he0:decide (e=0)=true:=decide_eq_true hz
     by_cases hz2:(z.st.length:Int)≤40
     ·have he1:decide ((z.st.length:Int)≤40)=true:=decide_eq_true hz2
      rw[if_pos ⟨hz,hz2⟩] at hq
      rw[hq] at he
      clear hz
      repeat' (first|refine hcc _ _ ?_|simp (disch:=first|assumption|omega) only[go_sem, *]|((first|apply gw_m|apply gw_q);focus (intro hs;(try simp only[nbs] at hs);simp (disch:=first|assumption|omega) only[go_sem, *];rfl))|((first|refine zAC ?_ ?_|refine zAB ?_ ?_|refine sp_C ?_ ?_|refine sp_G ?_ ?_)<;>(intro hs;try simp only[nbs] at hs)))
      generalize hG3:updB (updB (updB (updB (updB G M _) M _) (M+1) _) (M+1) _) 0 (Box.cells 24 (zAN z))=G3
      have f0:G3 0=.cells 24 (zAN z):=by rw[← hG3,zAE]
      have f1:G3 1=.cells 24 [.sl 0 [] .nil,.int .i64 0]:=by rw[← hG3,zAA (by omega),zAA (by omega),zAA (by omega),zAA (by omega),zAA (by omega)];exact e1
      exact hrec (i+1,z,M+1+1,G3) _ _ _ ⟨hlt,hro,by dsimp only;omega,f0,f1,he⟩ (by dsimp only;omega) ⟨rfl,rfl,rfl,rfl,rfl,rfl,trivial⟩ rfl
     ·have he1:decide ((z.st.length:Int)≤40)=false:=decide_eq_false hz2
      rw[if_neg fun h=>hz2 h.2] at hq
      rw[hq] at he
      clear hz
      repeat' (first|refine hcc _ _ ?_|simp (disch:=first|assumption|omega) only[go_sem, *]|((first|apply gw_m|apply gw_q);focus (intro hs;(try simp only[nbs] at hs);simp (disch:=first|assumption|omega) only[go_sem, *];rfl))|((first|refine zAC ?_ ?_|refine zAB ?_ ?_|refine sp_C ?_ ?_|refine sp_G ?_ ?_)<;>(intro hs;try simp only[nbs] at hs)))
      generalize hG3:updB (updB (updB (updB G M _) M _) (M+1) _) (M+1) _=G3
      have f0:G3 0=.cells 24 (zAN y):=by rw[← hG3,zAA (by omega),zAA (by omega),zAA (by omega),zAA (by omega)];exact e0
      have f1:G3 1=.cells 24 [.sl 0 [] .nil,.int .i64 0]:=by rw[← hG3,zAA (by omega),zAA (by omega),zAA (by omega),zAA (by omega)];exact e1
      exact hrec (i+1,y,M+1+1,G3) _ _ _ ⟨hlt,hy,by dsimp only;omega,f0,f1,he⟩ (by dsimp only;omega) ⟨rfl,rfl,rfl,rfl,rfl,rfl,trivial⟩ rfl
    ·have he0:decide (e=0)=false:=decide_eq_false hz
     rw[if_neg fun h=>hz h.1] at hq
     rw[hq] at he
     repeat' (first|refine hcc _ _ ?_|simp (disch:=first|assumption|omega) only[go_sem, *]|((first|apply gw_m|apply gw_q);focus (intro hs;(try simp only[nbs] at hs);simp (disch:=first|assumption|omega) only[go_sem, *];rfl))|((first|refine zAC ?_ ?_|refine zAB ?_ ?_|refine sp_C ?_ ?_|refine sp_G ?_ ?_)<;>(intro hs;try simp only[nbs] at hs)))
     generalize hG3:updB (updB (updB (updB G M _) M _) (M+1) _) (M+1) _=G3
     have f0:G3 0=.cells 24 (zAN y):=by rw[← hG3,zAA (by omega),zAA (by omega),zAA (by omega),zAA (by omega)];exact e0
     have f1:G3 1=.cells 24 [.sl 0 [] .nil,.int .i64 0]:=by rw[← hG3,zAA (by omega),zAA (by omega),zAA (by omega),zAA (by omega)];exact e1
     exact hrec (i+1,y,M+1+1,G3) _ _ _ ⟨hlt,hy,by dsimp only;omega,f0,f1,he⟩ (by dsimp only;omega) ⟨rfl,rfl,rfl,rfl,rfl,rfl,trivial⟩ rfl
   ·have d1:decide (x.1=1)=false:=decide_eq_false h1
    have hR:zDT y x.1 x.2.1 x.2.2=repL y x.2.2:=by unfold zDT;rw[if_neg h0,if_neg h1]
    have hcc:=fun s Q hq=>@c14 y x.2.2 s hyl hbx Q hq
    rw[← hR] at hcc
    clear hR h0 h1
    generalize zDT y x.1 x.2.1 x.2.2=p at hcc hq hro
    obtain⟨z,e⟩:=p
    dsimp only at hcc hq hro
    have hzl:=hro.1
    by_cases hz:e=0
    ·have he0:decide (e=0)=true:=decide_eq_true hz
     by_cases hz2:(z.st.length:Int)≤40
     ·have he1:decide ((z.st.length:Int)≤40)=true:=decide_eq_true hz2
      rw[if_pos ⟨hz,hz2⟩] at hq
      rw[hq] at he
      clear hz
      repeat' (first|refine hcc _ _ ?_|simp (disch:=first|assumption|omega) only[go_sem, *]|((first|apply gw_m|apply gw_q);focus (intro hs;(try simp only[nbs] at hs);simp (disch:=first|assumption|omega) only[go_sem, *];rfl))|((first|refine zAC ?_ ?_|refine zAB ?_ ?_|refine sp_C ?_ ?_|refine sp_G ?_ ?_)<;>(intro hs;try simp only[nbs] at hs)))
      generalize hG3:updB (updB (updB (updB (updB G M _) M _) (M+1) _) (M+1) _) 0 (Box.cells 24 (zAN z))=G3
      have f0:G3 0=.cells 24 (zAN z):=by rw[← hG3,zAE]
      have f1:G3 1=.cells 24 [.sl 0 [] .nil,.int .i64 0]:=by rw[← hG3,zAA (by omega),zAA (by omega),zAA (by omega),zAA (by omega),zAA (by omega)];exact e1
      exact hrec (i+1,z,M+1+1,G3) _ _ _ ⟨hlt,hro,by dsimp only;omega,f0,f1,he⟩ (by dsimp only;omega) ⟨rfl,rfl,rfl,rfl,rfl,rfl,trivial⟩ rfl
     ·have he1:decide ((z.st.length:Int)≤40)=false:=decide_eq_false hz2
      rw[if_neg fun h=>hz2 h.2] at hq
      rw[hq] at he
      clear hz
      repeat' (first|refine hcc _ _ ?_|simp (disch:=first|assumption|omega) only[go_sem, *]|((first|apply gw_m|apply gw_q);focus (intro hs;(try simp only[nbs] at hs);simp (disch:=first|assumption|omega) only[go_sem, *];rfl))|((first|refine zAC ?_ ?_|refine zAB ?_ ?_|refine sp_C ?_ ?_|refine sp_G ?_ ?_)<;>(intro hs;try simp only[nbs] at hs)))
      generalize hG3:updB (updB (updB (updB G M _) M _) (M+1) _) (M+1) _=G3
      have f0:G3 0=.cells 24 (zAN y):=by rw[← hG3,zAA (by omega),zAA (by omega),zAA (by omega),zAA (by omega)];exact e0
      have f1:G3 1=.cells 24 [.sl 0 [] .nil,.int .i64 0]:=by rw[← hG3,zAA (by omega),zAA (by omega),zAA (by omega),zAA (by omega)];exact e1
      exact hrec (i+1,y,M+1+1,G3) _ _ _ ⟨hlt,hy,by dsimp only;omega,f0,f1,he⟩ (by dsimp only;omega) ⟨rfl,rfl,rfl,rfl,rfl,rfl,trivial⟩ rfl
    ·have he0:decide (e=0)=false:=decide_eq_false hz
     rw[if_neg fun h=>hz h.1] at hq
     rw[hq] at he
     repeat' (first|refine hcc _ _ ?_|simp (disch:=first|assumption|omega) only[go_sem, *]|((first|apply gw_m|apply gw_q);focus (intro hs;(try simp only[nbs] at hs);simp (disch:=first|assumption|omega) only[go_sem, *];rfl))|((first|refine zAC ?_ ?_|refine zAB ?_ ?_|refine sp_C ?_ ?_|refine sp_G ?_ ?_)<;>(intro hs;try simp only[nbs] at hs)))
     generalize hG3:updB (updB (updB (updB G M _) M _) (M+1) _) (M+1) _=G3
     have f0:G3 0=.cells 24 (zAN y):=by rw[← hG3,zAA (by omega),zAA (by omega),zAA (by omega),zAA (by omega)];exact e0
     have f1:G3 1=.cells 24 [.sl 0 [] .nil,.int .i64 0]:=by rw[← hG3,zAA (by omega),zAA (by omega),zAA (by omega),zAA (by omega)];exact e1
     exact hrec (i+1,y,M+1+1,G3) _ _ _ ⟨hlt,hy,by dsimp only;omega,f0,f1,he⟩ (by dsimp only;omega) ⟨rfl,rfl,rfl,rfl,rfl,rfl,trivial⟩ rfl
 ·have hc:decide ((i:Int)<l.length)=false:=decide_eq_false (by omega)
  rw[List.drop_eq_nil_of_le hge] at he
  have he:chL a l=y:=he
  rw[he] at h
  clear hrec
  repeat' (first|simp (disch:=first|assumption|omega) only[go_sem, *]|((first|apply gw_m|apply gw_q);focus (intro hs;(try simp only[nbs] at hs);simp (disch:=first|assumption|omega) only[go_sem, *];rfl))|((first|refine zAC ?_ ?_|refine zAB ?_ ?_|refine sp_C ?_ ?_|refine sp_G ?_ ?_)<;>(intro hs;try simp only[nbs] at hs)))
  show FN true 0 s Q (some (zAK _,_))
  repeat' (first|simp (disch:=first|assumption|omega) only[go_sem, *]|((first|apply gw_m|apply gw_q);focus (intro hs;(try simp only[nbs] at hs);simp (disch:=first|assumption|omega) only[go_sem, *];rfl))|((first|refine zAC ?_ ?_|refine zAB ?_ ?_|refine sp_C ?_ ?_|refine sp_G ?_ ?_)<;>(intro hs;try simp only[nbs] at hs)))
end Go.Ab.X
namespace Pl
theorem zL6 {a:Las}(h:isL a=true)(ho:okA a):∃n,zAU a=(n,0)∧isL n=true∧zAU n=(n,0)∧n.st.length≤a.st.length∧okA n:=by
 obtain⟨j,hj,h1,h2,h3⟩:=zDE h
 have e:=zH7 h hj
 have hi:=zOQ h
 have hk:=zKP ho
 rw[e] at hi hk
 exact⟨_,e,hi.1,hi.2,zGA _ _,hk⟩
theorem eqL_comm (a b:Las):eqL a b=eqL b a:=by
 unfold eqL
 congr 1
 ·exact decide_eq_decide.2 ⟨Eq.symm,Eq.symm⟩
 ·exact decide_eq_decide.2 ⟨Eq.symm,Eq.symm⟩
theorem zT3 (a b:Las):zHW a b=zHW b a:=by unfold zHW;rw[eqL_comm,Bool.and_comm (isL a)]
end Pl
namespace Go.Ab.X
open Go Go.Ab Go.Proofs Pl
set_option maxRecDepth 100000
set_option maxHeartbeats 8000000
theorem c4 {a b:Las}{l:List (Int×Int×Int)}{s:Sto}(ha:okA a)(hb:okA b)(hl:l.length<1073741824)(hbl:∀x∈l,-9223372036854775808≤x.2.2∧x.2.2<9223372036854775808){Q:CR→Sto→Prop}(h:Q (.ret (.bool true)) s):C E1 4 [zAK a,zAK b,.sl 0 (l.map zCL) .shut] s Q:=by
 have hal:a.st.length<1073741824:=Nat.lt_of_le_of_lt ha.1 (by decide)
 have hbl':b.st.length<1073741824:=Nat.lt_of_le_of_lt hb.1 (by decide)
 have hA:=fun s Q hq=>@c20 a s hal Q hq
 have hB:=fun s Q hq=>@c20 b s hbl' Q hq
 cases ea:isL a with
 | false=>
  refine zAF (md:=⟨true,false,false,false⟩) (fn:=Tryz.f4) (n:=130) (rs:=[.tmp 6]) rfl rfl rfl rfl rfl rfl rfl rfl (by simp only[go_sem, *];try rfl) (by rfl) (by simp only[go_sem]) ?_
  repeat' (first|refine c5 ?_|simp (disch:=first|assumption|omega) only[go_sem, *]|((first|apply gw_m|apply gw_q);focus (intro hs;(try simp only[nbs] at hs);simp (disch:=first|assumption|omega) only[go_sem, *];rfl))|((first|refine zAC ?_ ?_|refine zAB ?_ ?_|refine sp_C ?_ ?_|refine sp_G ?_ ?_)<;>(intro hs;try simp only[nbs] at hs)))
  refine c6o ha hb (fun bb=>?_)
  cases bb<;>(repeat' (first|refine hA _ _ ?_|simp (disch:=first|assumption|omega) only[go_sem, *]|((first|apply gw_m|apply gw_q);focus (intro hs;(try simp only[nbs] at hs);simp (disch:=first|assumption|omega) only[go_sem, *];rfl))|((first|refine zAC ?_ ?_|refine zAB ?_ ?_|refine sp_C ?_ ?_|refine sp_G ?_ ?_)<;>(intro hs;try simp only[nbs] at hs))))
 | true=>
  cases eb:isL b with
  | false=>
   refine zAF (md:=⟨true,false,false,false⟩) (fn:=Tryz.f4) (n:=130) (rs:=[.tmp 6]) rfl rfl rfl rfl rfl rfl rfl rfl (by simp only[go_sem, *];try rfl) (by rfl) (by simp only[go_sem]) ?_
   repeat' (first|refine c5 ?_|simp (disch:=first|assumption|omega) only[go_sem, *]|((first|apply gw_m|apply gw_q);focus (intro hs;(try simp only[nbs] at hs);simp (disch:=first|assumption|omega) only[go_sem, *];rfl))|((first|refine zAC ?_ ?_|refine zAB ?_ ?_|refine sp_C ?_ ?_|refine sp_G ?_ ?_)<;>(intro hs;try simp only[nbs] at hs)))
   refine c6o ha hb (fun bb=>?_)
   cases bb<;>(repeat' (first|refine hA _ _ ?_|refine hB _ _ ?_|simp (disch:=first|assumption|omega) only[go_sem, *]|((first|apply gw_m|apply gw_q);focus (intro hs;(try simp only[nbs] at hs);simp (disch:=first|assumption|omega) only[go_sem, *];rfl))|((first|refine zAC ?_ ?_|refine zAB ?_ ?_|refine sp_C ?_ ?_|refine sp_G ?_ ?_)<;>(intro hs;try simp only[nbs] at hs))))
  | true=>
   by_cases hll:10<(l.length:Int)
   ·have hd:decide (10<(l.length:Int))=true:=decide_eq_true hll
    refine zAF (md:=⟨true,false,false,false⟩) (fn:=Tryz.f4) (n:=130) (rs:=[.tmp 6]) rfl rfl rfl rfl rfl rfl rfl rfl (by simp only[go_sem, *];try rfl) (by rfl) (by simp only[go_sem]) ?_
    repeat' (first|refine c5 ?_|simp (disch:=first|assumption|omega) only[go_sem, *]|((first|apply gw_m|apply gw_q);focus (intro hs;(try simp only[nbs] at hs);simp (disch:=first|assumption|omega) only[go_sem, *];rfl))|((first|refine zAC ?_ ?_|refine zAB ?_ ?_|refine sp_C ?_ ?_|refine sp_G ?_ ?_)<;>(intro hs;try simp only[nbs] at hs)))
    refine c6o ha hb (fun bb=>?_)
    cases bb<;>(repeat' (first|refine hA _ _ ?_|refine hB _ _ ?_|simp (disch:=first|assumption|omega) only[go_sem, *]|((first|apply gw_m|apply gw_q);focus (intro hs;(try simp only[nbs] at hs);simp (disch:=first|assumption|omega) only[go_sem, *];rfl))|((first|refine zAC ?_ ?_|refine zAB ?_ ?_|refine sp_C ?_ ?_|refine sp_G ?_ ?_)<;>(intro hs;try simp only[nbs] at hs))))
   ·have hd:decide (10<(l.length:Int))=false:=decide_eq_false hll
    obtain⟨n,n1,n2,n3,n4,n5⟩:=zL6 ea ha
    obtain⟨m,m1,m2,m3,m4,m5⟩:=zL6 eb hb
    have hch:=chL_same (l:=l) ea
    have hco:=chL_ok (l:=l) ha
    have h16a:=fun s Q hq=>@c16 a s hal ha.2 Q hq
    have h16b:=fun s Q hq=>@c16 b s hbl' hb.2 Q hq
    have h16n:=fun s Q hq=>@c16 n s (Nat.lt_of_le_of_lt n5.1 (by decide)) n5.2 Q hq
    have h16c:=fun s Q hq=>@c16 (chL a l) s (Nat.lt_of_le_of_lt hco.1 (by decide)) hco.2 Q hq
    have h21:=fun s Q hq=>@c21 a l s ha hl hbl Q hq
    have h7:=fun s Q hq=>@c7 a 0 s hal Q hq
    rw[zVR ea] at h7
    rw[hch.2] at h16c
    rw[n1] at h16a h16c
    rw[m1] at h16b
    rw[n3] at h16n
    have san:zHW a n=true:=by unfold zHW;rw[ea,n2,n1,n3,zNJ];rfl
    have sab:zHW a b=eqL n m:=by unfold zHW;rw[ea,eb,n1,m1];rfl
    have sba:zHW b a=eqL n m:=by rw[zT3];exact sab
    have h18n:=fun s Q hq=>@c18 a n s ha.1 n5.1 ha.2 n5.2 Q hq
    have h18b:=fun s Q hq=>@c18 a b s ha.1 hb.1 ha.2 hb.2 Q hq
    have h18c:=fun s Q hq=>@c18 b a s hb.1 ha.1 hb.2 ha.2 Q hq
    rw[san] at h18n
    rw[sab] at h18b
    rw[sba] at h18c
    have h9n:=fun s Q hq=>@c9r n s n5 Q hq
    have h9a:=fun s Q hq=>@c9r a s ha Q hq
    have h9m:=fun s Q hq=>@c9 n m s (Nat.lt_of_le_of_lt n5.1 (by decide)) (Nat.lt_of_le_of_lt m5.1 (by decide)) n5.2 m5.2 Q hq
    have hle:decide ((n.st.length:Int)≤a.st.length)=true:=decide_eq_true (by omega)
    generalize eqL n m=enm at h18b h18c h9m
    generalize chL a l=ch at h16c h21
    dsimp only at h7 h16a h16b h16n h16c
    clear san sab sba hch hco m2 m3 m4 n2 n3 n1 m1 hll
    refine zAF (md:=⟨true,false,false,false⟩) (fn:=Tryz.f4) (n:=130) (rs:=[.tmp 6]) rfl rfl rfl rfl rfl rfl rfl rfl (by simp only[go_sem, *];try rfl) (by rfl) (by simp only[go_sem]) ?_
    repeat' (first|refine c5 ?_|simp (disch:=first|assumption|omega) only[go_sem, *]|((first|apply gw_m|apply gw_q);focus (intro hs;(try simp only[nbs] at hs);simp (disch:=first|assumption|omega) only[go_sem, *];rfl))|((first|refine zAC ?_ ?_|refine zAB ?_ ?_|refine sp_C ?_ ?_|refine sp_G ?_ ?_)<;>(intro hs;try simp only[nbs] at hs)))
    refine c6o ha hb (fun bb=>?_)
    cases bb with
    | false=>repeat' (first|simp (disch:=first|assumption|omega) only[go_sem, *]|((first|apply gw_m|apply gw_q);focus (intro hs;(try simp only[nbs] at hs);simp (disch:=first|assumption|omega) only[go_sem, *];rfl))|((first|refine zAC ?_ ?_|refine zAB ?_ ?_|refine sp_C ?_ ?_|refine sp_G ?_ ?_)<;>(intro hs;try simp only[nbs] at hs)))
    | true=>
     repeat' (first|refine hA _ _ ?_|refine hB _ _ ?_|refine h16a _ _ ?_|refine h16b _ _ ?_|refine h16n _ _ ?_|refine h16c _ _ ?_|refine h21 _ _ ?_|refine h7 _ _ ?_|refine h18n _ _ ?_|refine h18b _ _ ?_|refine h18c _ _ ?_|refine h9n _ _ ?_|refine h9a _ _ ?_|refine h9m _ _ ?_|simp (disch:=first|assumption|omega) only[go_sem, *]|((first|apply gw_m|apply gw_q);focus (intro hs;(try simp only[nbs] at hs);simp (disch:=first|assumption|omega) only[go_sem, *];rfl))|((first|refine zAC ?_ ?_|refine zAB ?_ ?_|refine sp_C ?_ ?_|refine sp_G ?_ ?_)<;>(intro hs;try simp only[nbs] at hs)))
end Go.Ab.X
end
