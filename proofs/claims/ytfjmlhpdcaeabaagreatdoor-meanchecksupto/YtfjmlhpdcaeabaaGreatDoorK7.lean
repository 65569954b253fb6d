/- A part. -/
import Derived.Test.YtfjmlhpdcaeabaaGreatDoorK6
set_option linter.all false
noncomputable section
namespace Pl
mutual
def zD8 (sp:Spec)(mp:Int→Bool):List Int→X→Int→Int→Bool×Int
 | sc,.mk k n s v l,deep,nd=>
  if(decide (nd+1≤3000)&&decide (deep≤100)&&zJI sp mp sc (.mk k n s v l))=true then zG7 sp mp sc k n l.length 0 l (deep+1) (nd+1) else(false,nd+1)
def zG7 (sp:Spec)(mp:Int→Bool):List Int→Int→Int→Nat→Nat→List X→Int→Int→Bool×Int
 | _,_,_,_,_,[],_,nd=>(true,nd)
 | sc,k,n,len,i,x :: r,deep,nd=>
  match(if k=6∧0<(params sp n).getD i 0 then zN3 sp mp sc x ((params sp n).getD i 0) deep nd else zD8 sp mp (sc++zeros (binds k n i len)) x deep nd) with
  | (true,nd')=>zG7 sp mp sc k n len (i+1) r deep nd'
  | (false,nd')=>(false,nd')
def zN3 (sp:Spec)(mp:Int→Bool):List Int→X→Int→Int→Int→Bool×Int
 | sc,.mk k n s v l,ar,deep,nd=>
  if(decide (nd+1≤3000)&&decide (deep≤100)&&decide (¬(0:Int)<s.length)&&zFS v)=true then
   (if k=8 then(decide ((l.length:Int)=0)&&decide (0≤n)&&decide (n<sp.defs.length)&&mp n&&decide (((params sp n).length:Int)=ar)&&(params sp n).all (fun p=>decide (p=0)),nd+1)
    else if k=9 then(if n=ar∧(l.length:Int)=1∧(sc.length:Int)+ar≤40 then zSW sp mp (sc++zeros ar) l (deep+1) (nd+1) else(false,nd+1))
    else if k=10 then(decide ((l.length:Int)=0)&&decide (0≤n)&&decide (n<sc.length)&&decide (sc.getD n.toNat 0=ar),nd+1)
    else(false,nd+1))
  else(false,nd+1)
def zSW (sp:Spec)(mp:Int→Bool):List Int→List X→Int→Int→Bool×Int
 | _,[],_,nd=>(false,nd)
 | sc,x :: _,deep,nd=>zD8 sp mp sc x deep nd
end
theorem exprP_eq (sp:Spec)(mp:Int→Bool)(sc:List Int)(e:X)(deep nd:Int):zD8 sp mp sc e deep nd=if(decide (nd+1≤3000)&&decide (deep≤100)&&zJI sp mp sc e)=true then zG7 sp mp sc e.kind e.n e.l.length 0 e.l (deep+1) (nd+1) else(false,nd+1):=by cases e;rfl
theorem zN2 (sp:Spec)(mp:Int→Bool)(sc:List Int)(e:X)(ar deep nd:Int):zN3 sp mp sc e ar deep nd =
  if(decide (nd+1≤3000)&&decide (deep≤100)&&decide (¬(0:Int)<e.s.length)&&zFS e.v)=true then
   (if e.kind=8 then(decide ((e.l.length:Int)=0)&&decide (0≤e.n)&&decide (e.n<sp.defs.length)&&mp e.n&&decide (((params sp e.n).length:Int)=ar)&&(params sp e.n).all (fun p=>decide (p=0)),nd+1)
    else if e.kind=9 then(if e.n=ar∧(e.l.length:Int)=1∧(sc.length:Int)+ar≤40 then zSW sp mp (sc++zeros ar) e.l (deep+1) (nd+1) else(false,nd+1))
    else if e.kind=10 then(decide ((e.l.length:Int)=0)&&decide (0≤e.n)&&decide (e.n<sc.length)&&decide (sc.getD e.n.toNat 0=ar),nd+1)
    else(false,nd+1))
  else(false,nd+1):=by cases e;rfl
theorem szXs_mem2:∀{l:List X} {v:X},v∈l→szX v+l.length≤szXs l
 | x :: r,v,h=>by
  simp only[szXs,List.length_cons]
  have h1:=szXs_len r
  cases h with
  | head=>omega
  | tail _ h=>have:=szXs_mem2 h;omega
theorem zUZ {sp:Spec}{mp:Int→Bool}{sc:List Int}{e:X}(h:zJI sp mp sc e=true)(i:Nat)(hi:i<e.l.length):0≤binds e.kind e.n i e.l.length∧binds e.kind e.n i e.l.length≤e.l.length:=by
 unfold binds
 split
 ·omega
 ·split
  ·rename_i h1 h2
   split
   ·rw[zJI,Bool.and_eq_true] at h
    have h3:=h.2
    rw[if_neg (by omega),if_neg (by omega),if_neg (by omega),if_neg (by omega),if_neg (by omega),if_neg (by omega),if_pos (by omega)] at h3
    simp only[Bool.and_eq_true,decide_eq_true_eq] at h3
    omega
   ·omega
  ·split
   ·split<;>omega
   ·omega
mutual
def okP (sp:Spec)(mp:Int→Bool):List Int→X→Bool
 | sc,.mk k n s v l=>zJI sp mp sc (.mk k n s v l)&&okPL sp mp sc k n l.length 0 l
def okPL (sp:Spec)(mp:Int→Bool):List Int→Int→Int→Nat→Nat→List X→Bool
 | _,_,_,_,_,[]=>true
 | sc,k,n,len,i,x :: r=>(if k=6∧0<(params sp n).getD i 0 then okO sp mp sc x ((params sp n).getD i 0) else okP sp mp (sc++zeros (binds k n i len)) x)&&okPL sp mp sc k n len (i+1) r
def okO (sp:Spec)(mp:Int→Bool):List Int→X→Int→Bool
 | sc,.mk k n s v l,ar=>decide (¬(0:Int)<s.length)&&zFS v &&
   (if k=8 then decide ((l.length:Int)=0)&&decide (0≤n)&&decide (n<sp.defs.length)&&mp n&&decide (((params sp n).length:Int)=ar)&&(params sp n).all (fun p=>decide (p=0))
    else if k=9 then decide (n=ar)&&decide ((l.length:Int)=1)&&decide ((sc.length:Int)+ar≤40)&&okOL sp mp (sc++zeros ar) l
    else if k=10 then decide ((l.length:Int)=0)&&decide (0≤n)&&decide (n<sc.length)&&decide (sc.getD n.toNat 0=ar)
    else false)
def okOL (sp:Spec)(mp:Int→Bool):List Int→List X→Bool
 | _,[]=>false
 | sc,x :: _=>okP sp mp sc x
end
def Law (st:Bool×Int)(ok:Bool)(nd:Int)(cnt:Nat)(deep:Int)(dep:Nat):Prop:=(st.1=true↔(ok=true∧nd+cnt≤3000∧deep+dep≤101))∧(st.1=true→st.2=nd+cnt)
theorem zZS {b ok:Bool}{n nd deep:Int}{cnt dep:Nat}(hb:b=false)(h:¬(ok=true∧nd+cnt≤3000∧deep+dep≤101)):Law (b,n) ok nd cnt deep dep:=by
 subst hb
 exact⟨⟨(fun e=>nomatch e),fun h2=>absurd h2 h⟩,(fun e=>nomatch e)⟩
theorem zQB {st:Bool×Int}{ok:Bool}{nd deep:Int}{cnt dep:Nat}(h:Law st ok nd cnt deep dep)(h0:0≤nd):st.1=true→0≤st.2∧st.2≤3000:=fun ht=>by
 have h1:=h.1.1 ht
 have h2:=h.2 ht
 omega
mutual
theorem zDK (sp:Spec)(mp:Int→Bool):∀(sc:List Int) (e:X)(deep nd:Int),Law (zD8 sp mp sc e deep nd) (okP sp mp sc e) nd (cntX e) deep (depX e)
 | sc,.mk k n s v l,deep,nd=>by
  have ih:=zNB sp mp sc k n l.length 0 l (deep+1) (nd+1)
  unfold zD8 okP cntX depX
  split
  ·rename_i hc
   simp only[Bool.and_eq_true,decide_eq_true_eq] at hc
   obtain⟨⟨h1,h2⟩,h3⟩:=hc
   obtain⟨i1,i2⟩:=ih h1 (by omega)
   rw[h3,Bool.true_and]
   exact⟨by rw[i1];constructor<;>(rintro⟨a,b,c⟩;exact⟨a,by omega,by omega⟩),fun h=>by rw[i2 h];omega⟩
  ·rename_i hc
   refine zZS rfl ?_
   rintro⟨a,b,c⟩
   rw[Bool.and_eq_true] at a
   refine hc ?_
   rw[a.1,decide_eq_true (show nd+1≤3000 by omega),decide_eq_true (show deep≤100 by omega)];rfl
theorem zNB (sp:Spec)(mp:Int→Bool):∀(sc:List Int) (k n:Int) (len i:Nat) (l:List X) (deep nd:Int),nd≤3000→deep≤101→Law (zG7 sp mp sc k n len i l deep nd) (okPL sp mp sc k n len i l) nd (cntXs l) deep (depXs l)
 | sc,k,n,len,i,[],deep,nd,h1,h2=>⟨by simp[zG7,okPL,cntXs,depXs,h1,h2],fun _=>by simp[zG7,cntXs]⟩
 | sc,k,n,len,i,x :: r,deep,nd,h1,h2=>by
  have ix:Law (if k=6∧0<(params sp n).getD i 0 then zN3 sp mp sc x ((params sp n).getD i 0) deep nd else zD8 sp mp (sc++zeros (binds k n i len)) x deep nd) (if k=6∧0<(params sp n).getD i 0 then okO sp mp sc x ((params sp n).getD i 0) else okP sp mp (sc++zeros (binds k n i len)) x) nd (cntX x) deep (depX x):=by
   split
   ·exact zO5 sp mp sc x _ deep nd
   ·exact zDK sp mp _ x deep nd
  have ir:=fun nd h1=>zNB sp mp sc k n len (i+1) r deep nd h1 h2
  unfold zG7 okPL cntXs depXs
  generalize (if k=6∧0<(params sp n).getD i 0 then zN3 sp mp sc x ((params sp n).getD i 0) deep nd else zD8 sp mp (sc++zeros (binds k n i len)) x deep nd)=st at *
  generalize (if k=6∧0<(params sp n).getD i 0 then okO sp mp sc x ((params sp n).getD i 0) else okP sp mp (sc++zeros (binds k n i len)) x)=okx at *
  obtain⟨b,nd1⟩:=st
  cases b with
  | true=>
   obtain⟨i1,i2⟩:=ix
   obtain⟨a1,a2,a3⟩:=i1.1 rfl
   have e:=i2 rfl
   dsimp only at e ⊢
   subst e
   obtain⟨j1,j2⟩:=ir (nd+cntX x) a2
   rw[a1,Bool.true_and]
   exact⟨by rw[j1];constructor<;>(rintro⟨a,b,c⟩;exact⟨a,by omega,by omega⟩),fun h=>by rw[j2 h];omega⟩
  | false=>
   refine zZS rfl ?_
   rintro⟨a,b,c⟩
   rw[Bool.and_eq_true] at a
   exact nomatch (ix.1.2 ⟨a.1,by omega,by omega⟩)
theorem zO5 (sp:Spec)(mp:Int→Bool):∀(sc:List Int) (e:X)(ar deep nd:Int),Law (zN3 sp mp sc e ar deep nd) (okO sp mp sc e ar) nd (cntX e) deep (depX e)
 | sc,.mk k n s v l,ar,deep,nd=>by
  have ih:=zUC sp mp (sc++zeros ar) l (deep+1) (nd+1)
  unfold zN3 okO cntX depX
  split
  ·rename_i hc
   simp only[Bool.and_eq_true,decide_eq_true_eq] at hc
   obtain⟨⟨⟨h1,h2⟩,h3⟩,h4⟩:=hc
   rw[decide_eq_true h3,h4,Bool.true_and]
   have hcl:(l.length:Int)=0→cntXs l=0∧depXs l=0:=fun h=>by cases l with
    | nil=>exact⟨rfl,rfl⟩
    | cons a r=>simp at h;omega
   split
   ·generalize hB:(decide ((l.length:Int)=0)&&decide (0≤n)&&decide (n<sp.defs.length)&&mp n&&decide (((params sp n).length:Int)=ar)&&(params sp n).all fun p=>decide (p=0))=B
    have hB2:B=true→(l.length:Int)=0:=fun h=>by rw[h] at hB;simp only[Bool.and_eq_true,decide_eq_true_eq] at hB;exact hB.1.1.1.1.1
    exact⟨⟨fun h=>by have:=hcl (hB2 h);exact⟨by simpa using h,by omega,by omega⟩,fun h=>by simpa using h.1⟩,fun h=>by have:=hcl (hB2 h);dsimp only;omega⟩
   ·split
    ·split
     ·rename_i hn9
      obtain⟨e1,e2,e3⟩:=hn9
      rw[decide_eq_true e1,decide_eq_true e2,decide_eq_true e3]
      simp only[Bool.true_and]
      obtain⟨i1,i2⟩:=ih e2 h1 (by omega)
      exact⟨by rw[i1];constructor<;>(rintro⟨a,b,c⟩;exact⟨a,by omega,by omega⟩),fun h=>by rw[i2 h];omega⟩
     ·rename_i hn9
      refine zZS rfl ?_
      rintro⟨a,b,c⟩
      simp only[Bool.true_and,Bool.and_eq_true,decide_eq_true_eq] at a
      exact hn9 ⟨a.1.1.1,a.1.1.2,a.1.2⟩
    ·split
     ·generalize hB:(decide ((l.length:Int)=0)&&decide (0≤n)&&decide (n<sc.length)&&decide (sc.getD n.toNat 0=ar))=B
      have hB2:B=true→(l.length:Int)=0:=fun h=>by rw[h] at hB;simp only[Bool.and_eq_true,decide_eq_true_eq] at hB;exact hB.1.1.1
      exact⟨⟨fun h=>by have:=hcl (hB2 h);exact⟨by simpa using h,by omega,by omega⟩,fun h=>by simpa using h.1⟩,fun h=>by have:=hcl (hB2 h);dsimp only;omega⟩
     ·exact zZS rfl (by rintro⟨a,b,c⟩;simp at a)
  ·rename_i hc
   refine zZS rfl ?_
   rintro⟨a,b,c⟩
   rw[Bool.and_eq_true,Bool.and_eq_true] at a
   refine hc ?_
   rw[a.1.1,a.1.2,decide_eq_true (show nd+1≤3000 by omega),decide_eq_true (show deep≤100 by omega)];rfl
theorem zUC (sp:Spec)(mp:Int→Bool):∀(sc:List Int) (l:List X) (deep nd:Int),(l.length:Int)=1→nd≤3000→deep≤101→Law (zSW sp mp sc l deep nd) (okOL sp mp sc l) nd (cntXs l) deep (depXs l)
 | sc,[],deep,nd,h,_,_=>by simp at h
 | sc,x :: r,deep,nd,h,h1,h2=>by
  have ix:=zDK sp mp sc x deep nd
  have hr:r=[]:=by cases r with|nil=>rfl|cons a r=>simp at h;omega
  subst hr
  unfold zSW okOL cntXs depXs cntXs depXs
  simp only[Nat.add_zero,Nat.max_zero]
  exact ix
end
end Pl
namespace Go.Ab.X
open Go Go.Ab Go.Proofs Pl
set_option maxRecDepth 100000
set_option maxHeartbeats 4000000
structure St (sp:Pl.Spec) (j:Nat) (may:AV) (k m0:Nat) (g0:Nat→Box) (u:List (Nat×Nat)) (m:Nat) (g:Nat→Box) (nd:Int):Prop where
 hu:zAS m u=true
 hu2:zAK m u=u
 hk:k<m
 hj:j<m
 hg:g k=.cells 121 (zAJ sp j nd may)
 hgj:g j=.mapb (zB6 shL)
 hm0:m0≤m
 h0:∀i,i<m0→i≠k→g i=g0 i
section
variable {sp:Pl.Spec}{j:Nat}{may:AV}{k m0:Nat}{g0:Nat→Box}{u:List (Nat×Nat)}{m:Nat}{g:Nat→Box}{nd:Int}
theorem St.jk (h:St sp j may k m0 g0 u m g nd):j≠k:=fun e=>by have h1:=h.hg;have h2:=h.hgj;rw[e,h1] at h2;cases h2
theorem St.up (h:St sp j may k m0 g0 u m g nd)(b:Box):St sp j may k m0 g0 u (m+1) (updB g m b) nd:=by
 have hU:=zCT h.hu h.hu2 (Nat.le_succ m)
 have hk:=h.hk;have hj:=h.hj;have hm:=h.hm0
 exact⟨hU.1,hU.2,by omega,by omega,by rw[zAC (by omega)];exact h.hg,by rw[zAC (by omega)];exact h.hgj,by omega,fun i h1 h2=>by rw[zAC (by omega)];exact h.h0 i h1 h2⟩
theorem St.set (h:St sp j may k m0 g0 u m g nd)(n:Int):St sp j may k m0 g0 u m (updB g k (.cells 121 (zAJ sp j n may))) n:=
 ⟨h.hu,h.hu2,h.hk,h.hj,zAD,by rw[zAC h.jk];exact h.hgj,h.hm0,fun i h1 h2=>by rw[zAC h2];exact h.h0 i h1 h2⟩
end
theorem zKA {m k:Nat}{g G:Nat→Box}{u:List (Nat×Nat)}{b:Box}(hk:G k=b)(h:∀i,i<m→i≠k→G i=g i):S m G u=S m (updB g k b) u:=zMC fun i hi=>by
 by_cases e:i=k
 ·rw[e,zAD];exact hk
 ·rw[zAC e];exact h i hi e
theorem leafP {Q:CR→Sto→Prop}{F:Int→Sto}{R:Bool×Int}{b:Bool}{n:Int}(h:Q (.ret (.bool R.1)) (F R.2))(e:R=(b,n)):Q (.ret (.bool b)) (F n):=by subst e;exact h
structure SpOk (sp:Pl.Spec):Prop where
 ml:sp.models.length<1073741824
 dl:sp.defs.length<1073741824
 vl:sp.vars.length<1073741824
 cl:sp.consts.length<1073741824
 pl:∀n,(params sp n).length<1073741824
 p8:∀n p,p∈params sp n→0≤p∧p≤8
theorem c248 {n:Int}{m:Nat}{g:Nat→Box}{u:List (Nat×Nat)}(hu:zAS m u=true)(hu2:zAK m u=u){Q:CR→Sto→Prop}(h:Q (.ret (.bool (!decide (n=0)))) (S m g u)):C E1 248 [iv n] (S m g u) Q:=by
 refine zAG (md:=⟨false,false,false,false⟩) (fn:=Tryz.f248) (n:=5) (rs:=[.tmp 2]) rfl rfl rfl rfl rfl rfl rfl (by simp only[go_sem, *];try rfl) (by rfl) ?_
 repeat' (first|simp (disch:=first|assumption|omega) only[go_sem, *]|((first|apply gw_m|apply gw_q);focus (intro hs;(try simp only[nbs] at hs);simp (disch:=first|assumption|omega) only[go_sem, *];rfl))|((first|refine zAB ?_ ?_|refine zAA ?_ ?_|refine sp_C ?_ ?_|refine sp_G ?_ ?_)<;>(intro hs;try simp only[nbs] at hs)))
theorem c81 {sp:Pl.Spec}{j:Nat}{may:AV}{mp:Int→Bool}{k m0:Nat}{g0:Nat→Box}{u:List (Nat×Nat)}(hsp:SpOk sp)(hmay:MayOk may mp sp.defs.length m0 k g0 u):∀(N:Nat) (e:X),szX e<N→szX e<1073740000→
  (∀(sc:List Int) (deep nd:Int) (m:Nat) (g:Nat→Box),sc.length+szX e<1073741000→0≤deep→deep≤101→0≤nd→nd≤3000→St sp j may k m0 g0 u m g nd→∀Q:CR→Sto→Prop,Q (.ret (.bool (zD8 sp mp sc e deep nd).1)) (S m (updB g k (.cells 121 (zAJ sp j (zD8 sp mp sc e deep nd).2 may))) u)→C E1 81 [.ptr k 0,encX e,.sl 0 (sc.map iv) .shut,.int .i64 deep] (S m g u) Q)∧
  (∀(sc:List Int) (ar deep nd:Int) (m:Nat) (g:Nat→Box),sc.length+szX e<1073741000→1≤ar→ar≤8→0≤deep→deep≤101→0≤nd→nd≤3000→St sp j may k m0 g0 u m g nd→∀Q:CR→Sto→Prop,Q (.ret (.bool (zN3 sp mp sc e ar deep nd).1)) (S m (updB g k (.cells 121 (zAJ sp j (zN3 sp mp sc e ar deep nd).2 may))) u)→C E1 171 [.ptr k 0,encX e,.int .i64 ar,.sl 0 (sc.map iv) .shut,.int .i64 deep] (S m g u) Q):=by
 intro N
 induction N with
 | zero=>intro e h;exact absurd h (Nat.not_lt_zero _)
 | succ N ih=>
  intro e hN hsz
  have hlv:=zIE e
  have hle:=szXs_len e.l
  constructor
  ·intro sc deep nd m g hsc hd0 hd1 hn0 hn1 hSt Q h
   rw[exprP_eq] at h
   have hS1:=hSt.up (.cells 34 (zAO e))
   have hS2:=hS1.set (nd+1)
   obtain⟨g2,hg2⟩:∃g2,updB (updB g m (.cells 34 (zAO e))) k (.cells 121 (zAJ sp j (nd+1) may))=g2:=⟨_,rfl⟩
   have hkm:k<m:=hSt.hk
   have hlow:∀i,i<m→i≠k→g2 i=g i:=fun i h1 h2=>by rw[← hg2,zAC h2,zAC (by omega)]
   have hg2m:g2 m=.cells 34 (zAO e):=by rw[← hg2,zAC (by omega),zAD]
   rw[hg2] at hS2
   have h169:=fun Q hQ=>c169 (deep:=deep) hS1.hu hS1.hu2 hS1.hk hS1.hg ⟨hn0,by omega⟩ (Q:=Q) hQ
   have h170:=fun Q hQ=>c170 (mp:=mp) (sc:=sc) (e:=e) hsp.ml hsp.dl hsp.vl hsp.cl (by omega) (hsp.pl _) (by omega) hS2.hu hS2.hu2 hS2.hk hS2.hj hS2.hg hS2.hgj hS2.hm0 hS2.h0 hmay (Q:=Q) hQ
   rw[hg2] at h169
   have hu:=hSt.hu
   have hu2:=hSt.hu2
   refine zAG (md:=⟨false,false,false,false⟩) (fn:=Tryz.f81) (n:=81) (rs:=[.tmp 8]) rfl rfl rfl rfl rfl rfl rfl (by simp only[go_sem, *];try rfl) (by rfl) ?_
   repeat' (first|refine h169 _ ?_|(refine zEN (fun Q h=>h170 _ h) ?_ ?_;focus (intro hs;(try simp only[nbs] at hs);simp (disch:=first|assumption|omega) only[go_sem, *];first|done|rfl))|simp (disch:=first|assumption|omega) only[go_sem, *]|((first|apply gw_m|apply gw_q);focus (intro hs;(try simp only[nbs] at hs);simp (disch:=first|assumption|omega) only[go_sem, *];rfl))|((first|refine zAB ?_ ?_|refine zAA ?_ ?_|refine sp_C ?_ ?_|refine sp_G ?_ ?_)<;>(intro hs;try simp only[nbs] at hs)))
   ·have hf:(decide (nd+1≤3000)&&decide (deep≤100)&&zJI sp mp sc e)=false:=by clear h h169 h170 ih;grind
    rw[hf,if_neg Bool.false_ne_true] at h
    rw[zKA hS2.hg hlow]
    exact h
   obtain⟨⟨hn2,hd2⟩,hfit⟩:=hs
   rw[if_pos (by rw[hfit,decide_eq_true hn2,decide_eq_true hd2];rfl)] at h
   obtain⟨R,hR⟩:∃R,zG7 sp mp sc e.kind e.n e.l.length 0 e.l (deep+1) (nd+1)=R:=⟨_,rfl⟩
   rw[hR] at h
   have hbinds:=fun(i:Nat) hi=>zUZ hfit i hi
   have hk6:e.kind=6→0≤e.n∧e.n<sp.defs.length∧(e.l.length:Int)=(params sp e.n).length:=fun h6=>by
    rw[zJI,Bool.and_eq_true] at hfit
    have h3:=hfit.2
    rw[if_neg (by omega),if_neg (by omega),if_neg (by omega),if_neg (by omega),if_pos h6] at h3
    simp only[Bool.and_eq_true,decide_eq_true_eq] at h3
    exact⟨h3.1.1.1,h3.1.1.2,h3.2⟩
   clear h169 h170 hS1 hfit
   refine zAL (ι:=Nat×Int×Nat×(Nat→Box)) (fun p=>[(0,.ptr k 0),(2,.sl 0 (sc.map iv) .shut),(3,.int .i64 deep),(5,.ptr m 0),(23,.sl 0 (e.l.map encX) .shut),(24,.int .i64 e.l.length),(25,.int .i64 p.1)]) (fun p=>S p.2.2.1 p.2.2.2 u)
    (fun p=>p.1≤e.l.length∧0≤p.2.1∧p.2.1≤3000∧m+1≤p.2.2.1∧St sp j may k m0 g0 u p.2.2.1 p.2.2.2 p.2.1∧p.2.2.2 m=.cells 34 (zAO e)∧(∀i,i<m→i≠k→p.2.2.2 i=g i)∧zG7 sp mp sc e.kind e.n e.l.length p.1 (e.l.drop p.1) (deep+1) p.2.1=R) (fun p=>e.l.length-p.1) ?_ (0,nd+1,m+1,g2) ⟨Nat.zero_le _,by dsimp only;omega,hn2,Nat.le_refl _,hS2,hg2m,hlow,hR⟩ ⟨rfl,rfl,rfl,rfl,rfl,rfl,rfl,trivial⟩ rfl
   clear hS2 hg2m hlow hR hg2 hSt hn0 hn1 hn2
   clear g2 nd
   rintro⟨i,nd,M,G⟩ b ⟨hi,hn0,hn1,hM,hSt,hGm,hlow,hR⟩ hrec
   dsimp only at hi hn0 hn1 hM hSt hGm hlow hR hrec ⊢
   have hkM:=hSt.hk
   rcases Nat.lt_or_ge i e.l.length with hlt|hge
   ·have hc:decide ((i:Int)<e.l.length)=true:=decide_eq_true (by omega)
    have hx:e.l[i]?=some e.l[i]:=List.getElem?_eq_getElem hlt
    have hmemx:=List.getElem_mem hlt
    have hszx:=szXs_mem2 hmemx
    obtain⟨hb0,hb1⟩:=hbinds i hlt
    rw[List.drop_eq_getElem_cons hlt,zG7] at hR
    have ihx:=ih e.l[i] (by omega) (by omega)
    clear ih hmemx hbinds
    generalize e.l[i]=x at *
    obtain⟨G1,hG1⟩:∃G1,updB G M (.cells 34 (zAO x))=G1:=⟨_,rfl⟩
    have hSt1:=hSt.up (.cells 34 (zAO x))
    rw[hG1] at hSt1
    have hgk1:=hSt1.hg
    have hG1m:G1 m=.cells 34 (zAO e):=by rw[← hG1,zAC (by omega)];exact hGm
    have hG1M:G1 M=.cells 34 (zAO x):=by rw[← hG1,zAD]
    have hlow1:∀i,i<m→i≠k→G1 i=g i:=fun i h1 h2=>by rw[← hG1,zAC (by omega)];exact hlow i h1 h2
    have hd6:e.kind=6→sp.defs[e.n.toNat]?=some (sp.defs.getD e.n.toNat default):=fun h6=>zL7 (hk6 h6).1 (hk6 h6).2.1
    have hd7:e.kind=6→asNat (.int .i64 e.n)=some e.n.toNat:=fun h6=>zF3 (hk6 h6).1
    have hd8:e.kind=6→(sp.defs.getD e.n.toNat default).params[i]?=some ((params sp e.n).getD i 0):=fun h6=>by
     have:=(hk6 h6).2.2
     have hip:i<(params sp e.n).length:=by omega
     show(params sp e.n)[i]?=_
     rw[List.getD_eq_getElem?_getD,List.getElem?_eq_getElem hip];rfl
    have hp8:e.kind=6→0<(params sp e.n).getD i 0→1≤(params sp e.n).getD i 0∧(params sp e.n).getD i 0≤8:=fun h6 h7=>by
     have:=(hk6 h6).2.2
     have hip:i<(params sp e.n).length:=by omega
     rw[List.getD_eq_getElem?_getD,List.getElem?_eq_getElem hip] at h7 ⊢
     have:=hsp.p8 e.n _ (List.getElem_mem hip)
     simp only[Option.getD_some] at h7 ⊢
     omega
    have hl62:e.l.length<4611686018427387904:=by omega
    have h173:=fun(s:Sto) Q hQ=>c173 (e:=e) (i:=(i:Int)) (s:=s) hl62 (Q:=Q) hQ
    have h172:=fun(s:Sto) Q hQ=>c172 (l:=sc) (n:=binds e.kind e.n i e.l.length) (s:=s) ⟨hb0,by omega⟩ (by omega) (Q:=Q) hQ
    have h81:=ihx.1 (sc++zeros (binds e.kind e.n i e.l.length)) (deep+1) nd (M+1) G1 (by rw[List.length_append,zeros,List.length_replicate];omega) (by omega) (by omega) hn0 hn1 hSt1
    have h171:=fun h1 h2=>ihx.2 sc ((params sp e.n).getD i 0) (deep+1) nd (M+1) G1 (by omega) h1 h2 (by omega) (by omega) hn0 hn1 hSt1
    clear ihx hszx hb0 hb1 hk6
    by_cases hop:e.kind=6∧0<(params sp e.n).getD i 0
    ·rw[if_pos hop] at hR
     obtain⟨h6,h7⟩:=hop
     have h171:=h171 (hp8 h6 h7).1 (hp8 h6 h7).2
     clear h81 h172 h173
     have hnd:=zQB (zO5 sp mp sc x ((params sp e.n).getD i 0) (deep+1) nd) hn0
     generalize zN3 sp mp sc x ((params sp e.n).getD i 0) (deep+1) nd=st at *
     obtain⟨b1,nd1⟩:=st
     dsimp only at hR h171 hnd
     have hdc:decide (0<(params sp e.n).getD i 0)=true:=decide_eq_true h7
     repeat' (first|refine h171 _ ?_|simp (disch:=first|assumption|omega) only[go_sem, *]|((first|apply gw_m|apply gw_q);focus (intro hs;(try simp only[nbs] at hs);simp (disch:=first|assumption|omega) only[go_sem, *];rfl))|((first|refine zAB ?_ ?_|refine zAA ?_ ?_|refine sp_C ?_ ?_|refine sp_G ?_ ?_)<;>(intro hs;try simp only[nbs] at hs)))
     ·subst hs
      rw[← hR] at h
      rw[zKA (g:=g) (G:=updB G1 k (.cells 121 (zAJ sp j nd1 may))) zAD (fun i h1 h2=>by rw[zAC h2];exact hlow1 i h1 h2)]
      exact h
     ·subst hs
      have hnd:=hnd rfl
      exact hrec (i+1,nd1,M+1,updB G1 k (.cells 121 (zAJ sp j nd1 may))) _ _ _ ⟨hlt,hnd.1,hnd.2,by dsimp only;omega,hSt1.set nd1,by dsimp only;rw[zAC (by omega)];exact hG1m,fun i h1 h2=>by dsimp only;rw[zAC h2];exact hlow1 i h1 h2,hR⟩ (by dsimp only;omega) ⟨rfl,rfl,rfl,rfl,rfl,rfl,congrArg (fun z=>some (AV.int .i64 z)) (by dsimp only;omega),trivial⟩ rfl
    ·rw[if_neg hop] at hR
     clear h171
     have hnd:=zQB (zDK sp mp (sc++zeros (binds e.kind e.n i e.l.length)) x (deep+1) nd) hn0
     generalize zD8 sp mp (sc++zeros (binds e.kind e.n i e.l.length)) x (deep+1) nd=st at *
     obtain⟨b1,nd1⟩:=st
     dsimp only at hR h81 hnd
     have hdc:e.kind=6→decide (0<(params sp e.n).getD i 0)=false:=fun h6=>decide_eq_false (fun h7=>hop ⟨h6,h7⟩)
     repeat' (first|refine h81 _ ?_|refine h172 _ _ ?_|refine h173 _ _ ?_|simp (disch:=first|assumption|omega) only[go_sem, *]|((first|apply gw_m|apply gw_q);focus (intro hs;(try simp only[nbs] at hs);simp (disch:=first|assumption|omega) only[go_sem, *];rfl))|((first|refine zAB ?_ ?_|refine zAA ?_ ?_|refine sp_C ?_ ?_|refine sp_G ?_ ?_)<;>(intro hs;try simp only[nbs] at hs)))
     ·subst hs
      rw[← hR] at h
      rw[zKA (g:=g) (G:=updB G1 k (.cells 121 (zAJ sp j nd1 may))) zAD (fun i h1 h2=>by rw[zAC h2];exact hlow1 i h1 h2)]
      exact h
     ·subst hs
      have hnd:=hnd rfl
      exact hrec (i+1,nd1,M+1,updB G1 k (.cells 121 (zAJ sp j nd1 may))) _ _ _ ⟨hlt,hnd.1,hnd.2,by dsimp only;omega,hSt1.set nd1,by dsimp only;rw[zAC (by omega)];exact hG1m,fun i h1 h2=>by dsimp only;rw[zAC h2];exact hlow1 i h1 h2,hR⟩ (by dsimp only;omega) ⟨rfl,rfl,rfl,rfl,rfl,rfl,congrArg (fun z=>some (AV.int .i64 z)) (by dsimp only;omega),trivial⟩ rfl
   ·have hc:decide ((i:Int)<e.l.length)=false:=decide_eq_false (by omega)
    clear hrec
    rw[List.drop_eq_nil_of_le hge,zG7] at hR
    rw[← hR] at h
    have hSe:=zKA hSt.hg hlow (u:=u)
    repeat' (first|simp (disch:=first|assumption|omega) only[go_sem, *]|((first|apply gw_m|apply gw_q);focus (intro hs;(try simp only[nbs] at hs);simp (disch:=first|assumption|omega) only[go_sem, *];rfl))|((first|refine zAB ?_ ?_|refine zAA ?_ ?_|refine sp_C ?_ ?_|refine sp_G ?_ ?_)<;>(intro hs;try simp only[nbs] at hs)))
  ·intro sc ar deep nd m g hsc ha1 ha8 hd0 hd1 hn0 hn1 hSt Q h
   have hS1:=hSt.up (.cells 34 (zAO e))
   have hS2:=hS1.set (nd+1)
   obtain⟨g2,hg2⟩:∃g2,updB (updB g m (.cells 34 (zAO e))) k (.cells 121 (zAJ sp j (nd+1) may))=g2:=⟨_,rfl⟩
   have hkm:k<m:=hSt.hk
   have hlow:∀i,i<m→i≠k→g2 i=g i:=fun i h1 h2=>by rw[← hg2,zAC h2,zAC (by omega)]
   have hg2m:g2 m=.cells 34 (zAO e):=by rw[← hg2,zAC (by omega),zAD]
   rw[hg2] at hS2
   have h169:=fun Q hQ=>c169 (deep:=deep) hS1.hu hS1.hu2 hS1.hk hS1.hg ⟨hn0,by omega⟩ (Q:=Q) hQ
   rw[hg2] at h169
   have hu:=hSt.hu
   have hu2:=hSt.hu2
   have hg2k:=hS2.hg
   have hvz:szV e.v<4611686018427387904:=by omega
   have hls:=lens_len e.s
   have hx:=@zL7 sp e.n
   have hy:=@at_sc sc e.n
   have hpl2:(sp.defs.getD e.n.toNat default).params.length<1073741824:=hsp.pl e.n
   have hsdl:=hsp.dl
   have hmy:=hmay (m+1) g2 (by have:=hS1.hm0;omega) hS2.h0 e.n
   have hSe:=zKA hS2.hg hlow (u:=u)
   have hSe2:∀b,S m (updB g2 k b) u=S m (updB g k b) u:=fun b=>zKA zAD (fun i h1 h2=>by rw[zAC h2];exact hlow i h1 h2)
   have h248:∀Q:CR→Sto→Prop,Q (.ret (.bool (!((params sp e.n).all fun p=>decide (p=0))))) (S (m+1) g2 u)→C E1 159 [.sl 0 ((sp.defs.getD e.n.toNat default).params.map iv) .shut,.func 0 (.func 248) [] []] (S (m+1) g2 u) Q:=fun Q hQ=>
    c159p (h:=iv) (q:=fun n=>!decide (n=0)) (by omega) hS2.hu hS2.hu2 (fun _=>rfl) (fun _=>rfl) rfl (fun x _ Q hQ=>zDT rfl (c248 hS2.hu hS2.hu2 hQ)) (by
     have e1:((sp.defs.getD e.n.toNat default).params.any fun n=>!decide (n=0))=!((params sp e.n).all fun p=>decide (p=0)):=by rw[List.all_eq_not_any_not,Bool.not_not];rfl
     rw[e1];exact hQ)
   obtain⟨x0,hx0⟩:∃x0:X,(e.l.length:Int)=1→e.l=[x0]:=by
    cases hl:e.l with
    | nil=>exact⟨default,fun h=>by simp at h⟩
    | cons a r=>exact⟨a,fun h=>by cases r with|nil=>rfl|cons b r=>simp at h;omega⟩
   have hx1:(e.l.length:Int)=1→e.l[0]?=some x0:=fun h=>by rw[hx0 h];rfl
   have h172:=fun(s:Sto) Q hQ=>c172 (l:=sc) (n:=ar) (s:=s) ⟨by omega,by omega⟩ (by omega) (Q:=Q) hQ
   have h81:=fun(h1:(e.l.length:Int)=1) (h2:nd+1≤3000) (h3:deep≤100) (h4:sc.length+ar≤40)=>(ih x0 (by have:=szXs_mem2 (show x0∈e.l by rw[hx0 h1];exact List.mem_cons_self ..);omega) (by have:=szXs_mem2 (show x0∈e.l by rw[hx0 h1];exact List.mem_cons_self ..);omega)).1 (sc++zeros ar) (deep+1) (nd+1) (m+1) g2 (by have:=szXs_mem2 (show x0∈e.l by rw[hx0 h1];exact List.mem_cons_self ..);rw[List.length_append,zeros,List.length_replicate];omega) (by omega) (by omega) (by omega) h2 hS2
   clear ih
   refine zAG (md:=⟨false,false,false,false⟩) (fn:=Tryz.f171) (n:=140) (rs:=[.tmp 10]) rfl rfl rfl rfl rfl rfl rfl (by simp only[go_sem, *];try rfl) (by rfl) ?_
   repeat' (first|refine h169 _ ?_|(refine zEN (fun Q h=>c245 (v:=e.v) hvz h) ?_ ?_;focus (intro hs;(try simp only[nbs] at hs);simp (disch:=first|assumption|omega) only[go_sem, *];first|done|rfl))|refine zJ4 ?_|refine hmy (by omega) (by omega) _ ?_|(refine zEN (fun Q h=>h248 _ h) ?_ ?_;focus (intro hs;(try simp only[nbs] at hs);simp (disch:=first|assumption|omega) only[go_sem, *];first|done|rfl))|refine h172 _ _ ?_|refine h81 (by omega) (by omega) (by omega) (by omega) _ ?_|simp (disch:=first|assumption|omega) only[go_sem, *]|((first|apply gw_m|apply gw_q);focus (intro hs;(try simp only[nbs] at hs);simp (disch:=first|assumption|omega) only[go_sem, *];rfl))|((first|refine zAB ?_ ?_|refine zAA ?_ ?_|refine sp_C ?_ ?_|refine sp_G ?_ ?_)<;>(intro hs;try simp only[nbs] at hs)))
   all_goals clear h169 h248 h172 h81 hmy hx hy hg2 hlow hSe hSe2 hS1 hS2 hSt hmay
   all_goals first
    | exact leafP (F:=fun n=>S m (updB g k (.cells 121 (zAJ sp j n may))) u) h (by clear h;rw[zN2];obtain⟨⟨h1,h2⟩,h3⟩:=hs;rw[hx0 h2,if_pos (by grind),if_neg (by omega),if_pos ‹_›,if_pos ⟨h1,rfl,h3⟩];rfl)
    | exact leafP (F:=fun n=>S m (updB g k (.cells 121 (zAJ sp j n may))) u) h (by clear h;rw[zN2];grind [params])
    | exact leafP (F:=fun n=>S m (updB g k (.cells 121 (zAJ sp j n may))) u) h (by
      clear h
      rw[zN2,if_pos (by grind),if_pos ‹_›]
      simp only[Bool.or_eq_true,decide_eq_true_eq] at hs
      by_cases a:(e.l.length:Int)=0
      ·by_cases b:0≤e.n
       ·rw[decide_eq_false (show ¬e.n<sp.defs.length by omega)];simp
       ·rw[decide_eq_false b];simp
      ·rw[decide_eq_false a];simp)
end Go.Ab.X
namespace Go.Ab.X
open Go Go.Ab Go.Proofs Pl
set_option maxRecDepth 100000
set_option maxHeartbeats 1000000
theorem zRF {ty:TypeId}{es base m k:Nat}{g:Nat→Box}{xs:List AV}(h:gF ty es base g m k xs)(b:Box):gF ty es base (updB g m b) (m+1) k xs:=by
 obtain⟨h1,h2⟩:=h
 refine⟨by omega,?_⟩
 rcases h2 with h2|⟨h3,h4,sl,h5⟩
 ·exact .inl h2
 ·exact .inr ⟨h3,by omega,sl,by rw[zAC (by omega)];exact h5⟩
theorem zKH (s:Sto)(k:Nat)(xs:List AV):zKV s (gs k xs)=zA0 s (gs k xs):=by cases xs<;>rfl
theorem zUY (a:Pl.Const):flatC (zBL a)=true:=rfl
theorem flat_Var (a:Pl.Var):flatC (zCR a)=true:=rfl
theorem zUX (a:Pl.Named):flatC (zBU a)=true:=rfl
theorem flat_Prp (a:Pl.Prp):flatC (zE8 a)=true:=rfl
theorem zX4 (a:Pl.Fair):flatC (zB2 a)=true:=rfl
attribute [go_sem] zUY flat_Var zUX flat_Prp zX4
theorem zIR {l:List Str}{i:Nat}(h:i<l.length):l.take i++[l[i]]=l.take (i+1):=(List.take_succ_eq_append_getElem h).symm
theorem c66 {x:Pl.Const}{m:Nat}{g:Nat→Box}{u:List (Nat×Nat)}(hu:zAS m u=true)(hu2:zAK m u=u){Q:CR→Sto→Prop}(h:Q (.ret (.str x.name)) (S m g u)):C E1 66 [zBE x] (S m g u) Q:=by
 refine zAG (md:=⟨false,false,false,false⟩) (fn:=Tryz.f66) (n:=5) (rs:=[.tmp 2]) rfl rfl rfl rfl rfl rfl rfl (by simp only[go_sem, *];try rfl) (by rfl) ?_
 repeat' (first|simp (disch:=first|assumption|omega) only[go_sem, *]|((first|apply gw_m|apply gw_q);focus (intro hs;(try simp only[nbs] at hs);simp (disch:=first|assumption|omega) only[go_sem, *];rfl))|((first|refine zAB ?_ ?_|refine zAA ?_ ?_|refine sp_C ?_ ?_|refine sp_G ?_ ?_)<;>(intro hs;try simp only[nbs] at hs)))
theorem c65 {l:List Pl.Const}{m:Nat}{g:Nat→Box}{u:List (Nat×Nat)}(hu:zAS m u=true)(hu2:zAK m u=u)(hl:l.length<1073741824){Q:CR→Sto→Prop}(h:Q (.ret (.sl 0 ((l.map (·.name)).map AV.str) .shut)) (S m g u)):C E1 65 [.sl 0 (l.map zBE) .shut,.func 0 (.func 66) [] []] (S m g u) Q:=by
 refine zAG (md:=⟨false,false,false,false⟩) (fn:=Tryz.f65) (n:=22) (rs:=[.tmp 4]) rfl rfl rfl rfl rfl rfl rfl (by simp only[go_sem, *];try rfl) (by rfl) ?_
 repeat' (first|simp (disch:=first|assumption|omega) only[go_sem, *]|((first|apply gw_m|apply gw_q);focus (intro hs;(try simp only[nbs] at hs);simp (disch:=first|assumption|omega) only[go_sem, *];rfl))|((first|refine zAB ?_ ?_|refine zAA ?_ ?_|refine sp_C ?_ ?_|refine sp_G ?_ ?_)<;>(intro hs;try simp only[nbs] at hs)))
 refine zAL (ι:=Nat×Nat×Nat×(Nat→Box)) (fun p=>[(1,.func 0 (.func 66) [] []),(5,gs p.2.2.1 (((l.map (·.name)).take p.1).map AV.str)),(8,.sl 0 (l.map zBE) .shut),(9,.int .i64 l.length),(10,.int .i64 p.1)]) (fun p=>S p.2.1 p.2.2.2 u)
  (fun p=>p.1≤l.length∧gF 9 1 m p.2.2.2 p.2.1 p.2.2.1 (((l.map (·.name)).take p.1).map AV.str)∧∀j,j<m→p.2.2.2 j=g j) (fun p=>l.length-p.1) ?_ (0,m,0,g) ⟨Nat.zero_le _,zM8 (Nat.le_refl _),fun _ _=>rfl⟩ ⟨rfl,rfl,rfl,rfl,rfl,trivial⟩ rfl
 rintro⟨i,M,kx,G⟩ b ⟨hi,hF,hlow⟩ hrec
 dsimp only at hi hF hlow hrec ⊢
 have hm:m≤M:=hF.1
 rcases Nat.lt_or_ge i l.length with hlt|hge
 ·have hc:decide ((i:Int)<l.length)=true:=decide_eq_true (by omega)
  have hx:l[i]?=some l[i]:=List.getElem?_eq_getElem hlt
  have hU3:=zCT hu hu2 (show m≤M+1 by omega)
  have hr:∀(G:Nat→Box) (Q:CR→Sto→Prop),Q (.ret (.str l[i].name)) (S (M+1) G u)→C E1 66 [zBE l[i]] (S (M+1) G u) Q:=fun G Q hQ=>c66 hU3.1 hU3.2 hQ
  obtain⟨g',ha,hF',hlow'⟩:=zI5 (b:=16) (u:=u) (ys:=[AV.str l[i].name]) (zRF hF (.cells 107 (zBL l[i]))) rfl (by simp) (by rw[List.length_map,List.length_take,List.length_map];simp;omega) (by rw[zA6,zD2];rfl)
  have e1:((l.map (·.name)).take i).map AV.str++[AV.str l[i].name]=((l.map (·.name)).take (i+1)).map AV.str:=by
   rw[← zIR (by rw[List.length_map];exact hlt),List.map_append,List.getElem_map];rfl
  rw[e1] at ha hF'
  clear e1
  repeat' (first|refine hr _ _ ?_|simp (disch:=first|assumption|omega) only[go_sem, *]|((first|apply gw_m|apply gw_q);focus (intro hs;(try simp only[nbs] at hs);simp (disch:=first|assumption|omega) only[go_sem, *];rfl))|((first|refine zAB ?_ ?_|refine zAA ?_ ?_|refine sp_C ?_ ?_|refine sp_G ?_ ?_)<;>(intro hs;try simp only[nbs] at hs)))
  exact hrec (i+1,M+1+1,M+1,g') _ _ _ ⟨hlt,hF',fun j hj=>by dsimp only;rw[hlow' j hj,zAC (by omega)];exact hlow j hj⟩ (by dsimp only;omega) ⟨rfl,rfl,rfl,rfl,congrArg (fun z=>some (AV.int .i64 z)) (by dsimp only;omega),trivial⟩ rfl
 ·have hc:decide ((i:Int)<l.length)=false:=decide_eq_false (by omega)
  clear hrec
  rw[List.take_of_length_le (by rw[List.length_map];exact hge)] at hF ⊢
  obtain⟨g',hse,hF',hlow'⟩:=zGQ (u:=u) hF (zD2 _)
  have hS:S m g' u=S m g u:=zMC fun j hj=>by rw[hlow' j hj,hlow j hj]
  repeat' (first|simp (disch:=first|assumption|omega) only[go_sem, *]|((first|apply gw_m|apply gw_q);focus (intro hs;(try simp only[nbs] at hs);simp (disch:=first|assumption|omega) only[go_sem, *];rfl))|((first|refine zAB ?_ ?_|refine zAA ?_ ?_|refine sp_C ?_ ?_|refine sp_G ?_ ?_)<;>(intro hs;try simp only[nbs] at hs)))
  show FN false m (S m g u) Q (zKV (S M G u) (gs kx _))
  rw[zKH,hse]
  repeat' (first|simp (disch:=first|assumption|omega) only[go_sem, *]|((first|apply gw_m|apply gw_q);focus (intro hs;(try simp only[nbs] at hs);simp (disch:=first|assumption|omega) only[go_sem, *];rfl))|((first|refine zAB ?_ ?_|refine zAA ?_ ?_|refine sp_C ?_ ?_|refine sp_G ?_ ?_)<;>(intro hs;try simp only[nbs] at hs)))
theorem c68 {x:Pl.Var}{m:Nat}{g:Nat→Box}{u:List (Nat×Nat)}(hu:zAS m u=true)(hu2:zAK m u=u){Q:CR→Sto→Prop}(h:Q (.ret (.str x.name)) (S m g u)):C E1 68 [zDL x] (S m g u) Q:=by
 refine zAG (md:=⟨false,false,false,false⟩) (fn:=Tryz.f68) (n:=5) (rs:=[.tmp 2]) rfl rfl rfl rfl rfl rfl rfl (by simp only[go_sem, *];try rfl) (by rfl) ?_
 repeat' (first|simp (disch:=first|assumption|omega) only[go_sem, *]|((first|apply gw_m|apply gw_q);focus (intro hs;(try simp only[nbs] at hs);simp (disch:=first|assumption|omega) only[go_sem, *];rfl))|((first|refine zAB ?_ ?_|refine zAA ?_ ?_|refine sp_C ?_ ?_|refine sp_G ?_ ?_)<;>(intro hs;try simp only[nbs] at hs)))
theorem c67 {l:List Pl.Var}{m:Nat}{g:Nat→Box}{u:List (Nat×Nat)}(hu:zAS m u=true)(hu2:zAK m u=u)(hl:l.length<1073741824){Q:CR→Sto→Prop}(h:Q (.ret (.sl 0 ((l.map (·.name)).map AV.str) .shut)) (S m g u)):C E1 67 [.sl 0 (l.map zDL) .shut,.func 0 (.func 68) [] []] (S m g u) Q:=by
 refine zAG (md:=⟨false,false,false,false⟩) (fn:=Tryz.f67) (n:=22) (rs:=[.tmp 4]) rfl rfl rfl rfl rfl rfl rfl (by simp only[go_sem, *];try rfl) (by rfl) ?_
 repeat' (first|simp (disch:=first|assumption|omega) only[go_sem, *]|((first|apply gw_m|apply gw_q);focus (intro hs;(try simp only[nbs] at hs);simp (disch:=first|assumption|omega) only[go_sem, *];rfl))|((first|refine zAB ?_ ?_|refine zAA ?_ ?_|refine sp_C ?_ ?_|refine sp_G ?_ ?_)<;>(intro hs;try simp only[nbs] at hs)))
 refine zAL (ι:=Nat×Nat×Nat×(Nat→Box)) (fun p=>[(1,.func 0 (.func 68) [] []),(5,gs p.2.2.1 (((l.map (·.name)).take p.1).map AV.str)),(8,.sl 0 (l.map zDL) .shut),(9,.int .i64 l.length),(10,.int .i64 p.1)]) (fun p=>S p.2.1 p.2.2.2 u)
  (fun p=>p.1≤l.length∧gF 9 1 m p.2.2.2 p.2.1 p.2.2.1 (((l.map (·.name)).take p.1).map AV.str)∧∀j,j<m→p.2.2.2 j=g j) (fun p=>l.length-p.1) ?_ (0,m,0,g) ⟨Nat.zero_le _,zM8 (Nat.le_refl _),fun _ _=>rfl⟩ ⟨rfl,rfl,rfl,rfl,rfl,trivial⟩ rfl
 rintro⟨i,M,kx,G⟩ b ⟨hi,hF,hlow⟩ hrec
 dsimp only at hi hF hlow hrec ⊢
 have hm:m≤M:=hF.1
 rcases Nat.lt_or_ge i l.length with hlt|hge
 ·have hc:decide ((i:Int)<l.length)=true:=decide_eq_true (by omega)
  have hx:l[i]?=some l[i]:=List.getElem?_eq_getElem hlt
  have hU3:=zCT hu hu2 (show m≤M+1 by omega)
  have hr:∀(G:Nat→Box) (Q:CR→Sto→Prop),Q (.ret (.str l[i].name)) (S (M+1) G u)→C E1 68 [zDL l[i]] (S (M+1) G u) Q:=fun G Q hQ=>c68 hU3.1 hU3.2 hQ
  obtain⟨g',ha,hF',hlow'⟩:=zI5 (b:=16) (u:=u) (ys:=[AV.str l[i].name]) (zRF hF (.cells 82 (zCR l[i]))) rfl (by simp) (by rw[List.length_map,List.length_take,List.length_map];simp;omega) (by rw[zA6,zD2];rfl)
  have e1:((l.map (·.name)).take i).map AV.str++[AV.str l[i].name]=((l.map (·.name)).take (i+1)).map AV.str:=by
   rw[← zIR (by rw[List.length_map];exact hlt),List.map_append,List.getElem_map];rfl
  rw[e1] at ha hF'
  clear e1
  repeat' (first|refine hr _ _ ?_|simp (disch:=first|assumption|omega) only[go_sem, *]|((first|apply gw_m|apply gw_q);focus (intro hs;(try simp only[nbs] at hs);simp (disch:=first|assumption|omega) only[go_sem, *];rfl))|((first|refine zAB ?_ ?_|refine zAA ?_ ?_|refine sp_C ?_ ?_|refine sp_G ?_ ?_)<;>(intro hs;try simp only[nbs] at hs)))
  exact hrec (i+1,M+1+1,M+1,g') _ _ _ ⟨hlt,hF',fun j hj=>by dsimp only;rw[hlow' j hj,zAC (by omega)];exact hlow j hj⟩ (by dsimp only;omega) ⟨rfl,rfl,rfl,rfl,congrArg (fun z=>some (AV.int .i64 z)) (by dsimp only;omega),trivial⟩ rfl
 ·have hc:decide ((i:Int)<l.length)=false:=decide_eq_false (by omega)
  clear hrec
  rw[List.take_of_length_le (by rw[List.length_map];exact hge)] at hF ⊢
  obtain⟨g',hse,hF',hlow'⟩:=zGQ (u:=u) hF (zD2 _)
  have hS:S m g' u=S m g u:=zMC fun j hj=>by rw[hlow' j hj,hlow j hj]
  repeat' (first|simp (disch:=first|assumption|omega) only[go_sem, *]|((first|apply gw_m|apply gw_q);focus (intro hs;(try simp only[nbs] at hs);simp (disch:=first|assumption|omega) only[go_sem, *];rfl))|((first|refine zAB ?_ ?_|refine zAA ?_ ?_|refine sp_C ?_ ?_|refine sp_G ?_ ?_)<;>(intro hs;try simp only[nbs] at hs)))
  show FN false m (S m g u) Q (zKV (S M G u) (gs kx _))
  rw[zKH,hse]
  repeat' (first|simp (disch:=first|assumption|omega) only[go_sem, *]|((first|apply gw_m|apply gw_q);focus (intro hs;(try simp only[nbs] at hs);simp (disch:=first|assumption|omega) only[go_sem, *];rfl))|((first|refine zAB ?_ ?_|refine zAA ?_ ?_|refine sp_C ?_ ?_|refine sp_G ?_ ?_)<;>(intro hs;try simp only[nbs] at hs)))
theorem c73 {x:Pl.Named}{m:Nat}{g:Nat→Box}{u:List (Nat×Nat)}(hu:zAS m u=true)(hu2:zAK m u=u){Q:CR→Sto→Prop}(h:Q (.ret (.str x.name)) (S m g u)):C E1 73 [zBQ x] (S m g u) Q:=by
 refine zAG (md:=⟨false,false,false,false⟩) (fn:=Tryz.f73) (n:=5) (rs:=[.tmp 2]) rfl rfl rfl rfl rfl rfl rfl (by simp only[go_sem, *];try rfl) (by rfl) ?_
 repeat' (first|simp (disch:=first|assumption|omega) only[go_sem, *]|((first|apply gw_m|apply gw_q);focus (intro hs;(try simp only[nbs] at hs);simp (disch:=first|assumption|omega) only[go_sem, *];rfl))|((first|refine zAB ?_ ?_|refine zAA ?_ ?_|refine sp_C ?_ ?_|refine sp_G ?_ ?_)<;>(intro hs;try simp only[nbs] at hs)))
theorem c72 {l:List Pl.Named}{m:Nat}{g:Nat→Box}{u:List (Nat×Nat)}(hu:zAS m u=true)(hu2:zAK m u=u)(hl:l.length<1073741824){Q:CR→Sto→Prop}(h:Q (.ret (.sl 0 ((l.map (·.name)).map AV.str) .shut)) (S m g u)):C E1 72 [.sl 0 (l.map zBQ) .shut,.func 0 (.func 73) [] []] (S m g u) Q:=by
 refine zAG (md:=⟨false,false,false,false⟩) (fn:=Tryz.f72) (n:=22) (rs:=[.tmp 4]) rfl rfl rfl rfl rfl rfl rfl (by simp only[go_sem, *];try rfl) (by rfl) ?_
 repeat' (first|simp (disch:=first|assumption|omega) only[go_sem, *]|((first|apply gw_m|apply gw_q);focus (intro hs;(try simp only[nbs] at hs);simp (disch:=first|assumption|omega) only[go_sem, *];rfl))|((first|refine zAB ?_ ?_|refine zAA ?_ ?_|refine sp_C ?_ ?_|refine sp_G ?_ ?_)<;>(intro hs;try simp only[nbs] at hs)))
 refine zAL (ι:=Nat×Nat×Nat×(Nat→Box)) (fun p=>[(1,.func 0 (.func 73) [] []),(5,gs p.2.2.1 (((l.map (·.name)).take p.1).map AV.str)),(8,.sl 0 (l.map zBQ) .shut),(9,.int .i64 l.length),(10,.int .i64 p.1)]) (fun p=>S p.2.1 p.2.2.2 u)
  (fun p=>p.1≤l.length∧gF 9 1 m p.2.2.2 p.2.1 p.2.2.1 (((l.map (·.name)).take p.1).map AV.str)∧∀j,j<m→p.2.2.2 j=g j) (fun p=>l.length-p.1) ?_ (0,m,0,g) ⟨Nat.zero_le _,zM8 (Nat.le_refl _),fun _ _=>rfl⟩ ⟨rfl,rfl,rfl,rfl,rfl,trivial⟩ rfl
 rintro⟨i,M,kx,G⟩ b ⟨hi,hF,hlow⟩ hrec
 dsimp only at hi hF hlow hrec ⊢
 have hm:m≤M:=hF.1
 rcases Nat.lt_or_ge i l.length with hlt|hge
 ·have hc:decide ((i:Int)<l.length)=true:=decide_eq_true (by omega)
  have hx:l[i]?=some l[i]:=List.getElem?_eq_getElem hlt
  have hU3:=zCT hu hu2 (show m≤M+1 by omega)
  have hr:∀(G:Nat→Box) (Q:CR→Sto→Prop),Q (.ret (.str l[i].name)) (S (M+1) G u)→C E1 73 [zBQ l[i]] (S (M+1) G u) Q:=fun G Q hQ=>c73 hU3.1 hU3.2 hQ
  obtain⟨g',ha,hF',hlow'⟩:=zI5 (b:=16) (u:=u) (ys:=[AV.str l[i].name]) (zRF hF (.cells 114 (zBU l[i]))) rfl (by simp) (by rw[List.length_map,List.length_take,List.length_map];simp;omega) (by rw[zA6,zD2];rfl)
  have e1:((l.map (·.name)).take i).map AV.str++[AV.str l[i].name]=((l.map (·.name)).take (i+1)).map AV.str:=by
   rw[← zIR (by rw[List.length_map];exact hlt),List.map_append,List.getElem_map];rfl
  rw[e1] at ha hF'
  clear e1
  repeat' (first|refine hr _ _ ?_|simp (disch:=first|assumption|omega) only[go_sem, *]|((first|apply gw_m|apply gw_q);focus (intro hs;(try simp only[nbs] at hs);simp (disch:=first|assumption|omega) only[go_sem, *];rfl))|((first|refine zAB ?_ ?_|refine zAA ?_ ?_|refine sp_C ?_ ?_|refine sp_G ?_ ?_)<;>(intro hs;try simp only[nbs] at hs)))
  exact hrec (i+1,M+1+1,M+1,g') _ _ _ ⟨hlt,hF',fun j hj=>by dsimp only;rw[hlow' j hj,zAC (by omega)];exact hlow j hj⟩ (by dsimp only;omega) ⟨rfl,rfl,rfl,rfl,congrArg (fun z=>some (AV.int .i64 z)) (by dsimp only;omega),trivial⟩ rfl
 ·have hc:decide ((i:Int)<l.length)=false:=decide_eq_false (by omega)
  clear hrec
  rw[List.take_of_length_le (by rw[List.length_map];exact hge)] at hF ⊢
  obtain⟨g',hse,hF',hlow'⟩:=zGQ (u:=u) hF (zD2 _)
  have hS:S m g' u=S m g u:=zMC fun j hj=>by rw[hlow' j hj,hlow j hj]
  repeat' (first|simp (disch:=first|assumption|omega) only[go_sem, *]|((first|apply gw_m|apply gw_q);focus (intro hs;(try simp only[nbs] at hs);simp (disch:=first|assumption|omega) only[go_sem, *];rfl))|((first|refine zAB ?_ ?_|refine zAA ?_ ?_|refine sp_C ?_ ?_|refine sp_G ?_ ?_)<;>(intro hs;try simp only[nbs] at hs)))
  show FN false m (S m g u) Q (zKV (S M G u) (gs kx _))
  rw[zKH,hse]
  repeat' (first|simp (disch:=first|assumption|omega) only[go_sem, *]|((first|apply gw_m|apply gw_q);focus (intro hs;(try simp only[nbs] at hs);simp (disch:=first|assumption|omega) only[go_sem, *];rfl))|((first|refine zAB ?_ ?_|refine zAA ?_ ?_|refine sp_C ?_ ?_|refine sp_G ?_ ?_)<;>(intro hs;try simp only[nbs] at hs)))
theorem c75 {x:Pl.Prp}{m:Nat}{g:Nat→Box}{u:List (Nat×Nat)}(hu:zAS m u=true)(hu2:zAK m u=u){Q:CR→Sto→Prop}(h:Q (.ret (.str x.name)) (S m g u)):C E1 75 [zD9 x] (S m g u) Q:=by
 refine zAG (md:=⟨false,false,false,false⟩) (fn:=Tryz.f75) (n:=5) (rs:=[.tmp 2]) rfl rfl rfl rfl rfl rfl rfl (by simp only[go_sem, *];try rfl) (by rfl) ?_
 repeat' (first|simp (disch:=first|assumption|omega) only[go_sem, *]|((first|apply gw_m|apply gw_q);focus (intro hs;(try simp only[nbs] at hs);simp (disch:=first|assumption|omega) only[go_sem, *];rfl))|((first|refine zAB ?_ ?_|refine zAA ?_ ?_|refine sp_C ?_ ?_|refine sp_G ?_ ?_)<;>(intro hs;try simp only[nbs] at hs)))
theorem c74 {l:List Pl.Prp}{m:Nat}{g:Nat→Box}{u:List (Nat×Nat)}(hu:zAS m u=true)(hu2:zAK m u=u)(hl:l.length<1073741824){Q:CR→Sto→Prop}(h:Q (.ret (.sl 0 ((l.map (·.name)).map AV.str) .shut)) (S m g u)):C E1 74 [.sl 0 (l.map zD9) .shut,.func 0 (.func 75) [] []] (S m g u) Q:=by
 refine zAG (md:=⟨false,false,false,false⟩) (fn:=Tryz.f74) (n:=22) (rs:=[.tmp 4]) rfl rfl rfl rfl rfl rfl rfl (by simp only[go_sem, *];try rfl) (by rfl) ?_
 repeat' (first|simp (disch:=first|assumption|omega) only[go_sem, *]|((first|apply gw_m|apply gw_q);focus (intro hs;(try simp only[nbs] at hs);simp (disch:=first|assumption|omega) only[go_sem, *];rfl))|((first|refine zAB ?_ ?_|refine zAA ?_ ?_|refine sp_C ?_ ?_|refine sp_G ?_ ?_)<;>(intro hs;try simp only[nbs] at hs)))
 refine zAL (ι:=Nat×Nat×Nat×(Nat→Box)) (fun p=>[(1,.func 0 (.func 75) [] []),(5,gs p.2.2.1 (((l.map (·.name)).take p.1).map AV.str)),(8,.sl 0 (l.map zD9) .shut),(9,.int .i64 l.length),(10,.int .i64 p.1)]) (fun p=>S p.2.1 p.2.2.2 u)
  (fun p=>p.1≤l.length∧gF 9 1 m p.2.2.2 p.2.1 p.2.2.1 (((l.map (·.name)).take p.1).map AV.str)∧∀j,j<m→p.2.2.2 j=g j) (fun p=>l.length-p.1) ?_ (0,m,0,g) ⟨Nat.zero_le _,zM8 (Nat.le_refl _),fun _ _=>rfl⟩ ⟨rfl,rfl,rfl,rfl,rfl,trivial⟩ rfl
 rintro⟨i,M,kx,G⟩ b ⟨hi,hF,hlow⟩ hrec
 dsimp only at hi hF hlow hrec ⊢
 have hm:m≤M:=hF.1
 rcases Nat.lt_or_ge i l.length with hlt|hge
 ·have hc:decide ((i:Int)<l.length)=true:=decide_eq_true (by omega)
  have hx:l[i]?=some l[i]:=List.getElem?_eq_getElem hlt
  have hU3:=zCT hu hu2 (show m≤M+1 by omega)
  have hr:∀(G:Nat→Box) (Q:CR→Sto→Prop),Q (.ret (.str l[i].name)) (S (M+1) G u)→C E1 75 [zD9 l[i]] (S (M+1) G u) Q:=fun G Q hQ=>c75 hU3.1 hU3.2 hQ
  obtain⟨g',ha,hF',hlow'⟩:=zI5 (b:=16) (u:=u) (ys:=[AV.str l[i].name]) (zRF hF (.cells 136 (zE8 l[i]))) rfl (by simp) (by rw[List.length_map,List.length_take,List.length_map];simp;omega) (by rw[zA6,zD2];rfl)
  have e1:((l.map (·.name)).take i).map AV.str++[AV.str l[i].name]=((l.map (·.name)).take (i+1)).map AV.str:=by
   rw[← zIR (by rw[List.length_map];exact hlt),List.map_append,List.getElem_map];rfl
  rw[e1] at ha hF'
  clear e1
  repeat' (first|refine hr _ _ ?_|simp (disch:=first|assumption|omega) only[go_sem, *]|((first|apply gw_m|apply gw_q);focus (intro hs;(try simp only[nbs] at hs);simp (disch:=first|assumption|omega) only[go_sem, *];rfl))|((first|refine zAB ?_ ?_|refine zAA ?_ ?_|refine sp_C ?_ ?_|refine sp_G ?_ ?_)<;>(intro hs;try simp only[nbs] at hs)))
  exact hrec (i+1,M+1+1,M+1,g') _ _ _ ⟨hlt,hF',fun j hj=>by dsimp only;rw[hlow' j hj,zAC (by omega)];exact hlow j hj⟩ (by dsimp only;omega) ⟨rfl,rfl,rfl,rfl,congrArg (fun z=>some (AV.int .i64 z)) (by dsimp only;omega),trivial⟩ rfl
 ·have hc:decide ((i:Int)<l.length)=false:=decide_eq_false (by omega)
  clear hrec
  rw[List.take_of_length_le (by rw[List.length_map];exact hge)] at hF ⊢
  obtain⟨g',hse,hF',hlow'⟩:=zGQ (u:=u) hF (zD2 _)
  have hS:S m g' u=S m g u:=zMC fun j hj=>by rw[hlow' j hj,hlow j hj]
  repeat' (first|simp (disch:=first|assumption|omega) only[go_sem, *]|((first|apply gw_m|apply gw_q);focus (intro hs;(try simp only[nbs] at hs);simp (disch:=first|assumption|omega) only[go_sem, *];rfl))|((first|refine zAB ?_ ?_|refine zAA ?_ ?_|refine sp_C ?_ ?_|refine sp_G ?_ ?_)<;>(intro hs;try simp only[nbs] at hs)))
  show FN false m (S m g u) Q (zKV (S M G u) (gs kx _))
  rw[zKH,hse]
  repeat' (first|simp (disch:=first|assumption|omega) only[go_sem, *]|((first|apply gw_m|apply gw_q);focus (intro hs;(try simp only[nbs] at hs);simp (disch:=first|assumption|omega) only[go_sem, *];rfl))|((first|refine zAB ?_ ?_|refine zAA ?_ ?_|refine sp_C ?_ ?_|refine sp_G ?_ ?_)<;>(intro hs;try simp only[nbs] at hs)))
theorem c158 {sp:Pl.Spec}{j:Nat}{nd:Int}{may:AV}{k b:Nat}{x:Str}(hml:sp.models.length<1073741824){M:Nat}{G:Nat→Box}{u:List (Nat×Nat)}(hu:zAS M u=true)(hu2:zAK M u=u)(hb:b<M)(hGb:G b=.cells 79 [.ptr k 0])(hk:k<M)(hGk:G k=.cells 121 (zAJ sp j nd may))
  {Q:CR→Sto→Prop} (h:Q (.ret (.bool (!decide (x∈sp.models)))) (S M G u)):C E1 158 [.str x,.ptr b 0] (S M G u) Q:=by
 have hml2:sp.models.length<4611686018427387904:=by omega
 refine zAG (md:=⟨false,false,false,false⟩) (fn:=Tryz.f158) (n:=12) (rs:=[.tmp 3]) rfl rfl rfl rfl rfl rfl rfl (by simp only[go_sem, *];try rfl) (by rfl) ?_
 repeat' (first|refine c153 hml2 ?_|simp (disch:=first|assumption|omega) only[go_sem, *]|((first|apply gw_m|apply gw_q);focus (intro hs;(try simp only[nbs] at hs);simp (disch:=first|assumption|omega) only[go_sem, *];rfl))|((first|refine zAB ?_ ?_|refine zAA ?_ ?_|refine sp_C ?_ ?_|refine sp_G ?_ ?_)<;>(intro hs;try simp only[nbs] at hs)))
theorem flat_lens:∀l:List (List Str),∀x∈l,x.length≤l.flatten.length
 | a :: r,x,h=>by
  rw[List.flatten_cons,List.length_append]
  cases h with
  | head=>omega
  | tail _ h=>have:=flat_lens r x h;omega
theorem c76 {sp:Pl.Spec}{j:Nat}{nd:Int}{may:AV}{k:Nat}(hml:sp.models.length<1073741824)(hgl:sp.groups.length<1073741824)(hfl:lens sp.groups.flatten<1073741000){m:Nat}{g:Nat→Box}{u:List (Nat×Nat)}(hu:zAS m u=true)(hu2:zAK m u=u)(hk:k<m)(hg:g k=.cells 121 (zAJ sp j nd may))
  {Q:CR→Sto→Prop} (h:Q (.ret (.bool (zDY sp))) (S m g u)):C E1 76 [.ptr k 0] (S m g u) Q:=by
 have hfl2:=lens_len sp.groups.flatten
 rw[zDY] at h
 refine zAG (md:=⟨false,false,false,false⟩) (fn:=Tryz.f76) (n:=38) (rs:=[.tmp 2]) rfl rfl rfl rfl rfl rfl rfl (by simp only[go_sem, *];try rfl) (by rfl) ?_
 repeat' (first|simp (disch:=first|assumption|omega) only[go_sem, *]|((first|apply gw_m|apply gw_q);focus (intro hs;(try simp only[nbs] at hs);simp (disch:=first|assumption|omega) only[go_sem, *];rfl))|((first|refine zAB ?_ ?_|refine zAA ?_ ?_|refine sp_C ?_ ?_|refine sp_G ?_ ?_)<;>(intro hs;try simp only[nbs] at hs)))
 ·have hf:decide ((sp.groups.length:Int)≤10)=false:=decide_eq_false (by omega)
  rw[hf] at h
  exact h
 have hten:decide ((sp.groups.length:Int)≤10)=true:=decide_eq_true (by omega)
 rw[hten,Bool.true_and] at h
 refine zAL (ι:=Nat×Nat×Nat×(Nat→Box)) (fun p=>[(1,.ptr m 0),(3,gs p.2.2.1 ((sp.groups.take p.1).flatten.map AV.str)),(17,.sl 0 (sp.groups.map slS) .shut),(18,.int .i64 sp.groups.length),(19,.int .i64 p.1)]) (fun p=>S p.2.1 p.2.2.2 u)
  (fun p=>p.1≤sp.groups.length∧gF 9 1 (m+1) p.2.2.2 p.2.1 p.2.2.1 ((sp.groups.take p.1).flatten.map AV.str)∧(∀i,i<m→p.2.2.2 i=g i)∧p.2.2.2 m=.cells 79 [.ptr k 0]∧(sp.groups.all fun l=>decide (2≤(l.length:Int)))=((sp.groups.drop p.1).all fun l=>decide (2≤(l.length:Int)))) (fun p=>sp.groups.length-p.1) ?_ (0,m+1,0,_) ⟨Nat.zero_le _,zM8 (Nat.le_refl _),fun i hi=>zAC (by omega),zAD,rfl⟩ ⟨rfl,rfl,rfl,rfl,rfl,trivial⟩ rfl
 rintro⟨i,M,kx,G⟩ b ⟨hi,hF,hlow,hGm,hall⟩ hrec
 dsimp only at hi hF hlow hGm hall hrec ⊢
 have hm:m+1≤M:=hF.1
 rcases Nat.lt_or_ge i sp.groups.length with hlt|hge
 ·have hc:decide ((i:Int)<sp.groups.length)=true:=decide_eq_true (by omega)
  have hx:sp.groups[i]?=some sp.groups[i]:=List.getElem?_eq_getElem hlt
  have hxl:=flat_lens sp.groups _ (List.getElem_mem hlt)
  rw[List.drop_eq_getElem_cons hlt,List.all_cons] at hall
  have htl:(sp.groups.take i).flatten.length≤sp.groups.flatten.length:=by
   have:=congrArg (fun l=>(List.flatten l).length) (List.take_append_drop i sp.groups)
   simp only[List.flatten_append,List.length_append] at this
   omega
  have hap:=fun(h0:0<sp.groups[i].length)=>zI5 (b:=16) (u:=u) (ys:=sp.groups[i].map AV.str) hF (zX7 _) (by rw[List.length_map];exact h0) (by rw[List.length_map,List.length_map];omega) (by rw[zA6,zD2,zD2];rfl)
  have e1:((sp.groups.take i).flatten.map AV.str)++(sp.groups[i].map AV.str)=(sp.groups.take (i+1)).flatten.map AV.str:=by
   rw[List.take_succ_eq_append_getElem hlt,List.flatten_append,List.map_append];simp
  rw[e1] at hap
  clear e1
  generalize sp.groups[i]=l at *
  by_cases h2:(l.length:Int)<2
  ·have hd2:decide ((l.length:Int)<2)=true:=decide_eq_true h2
   rw[decide_eq_false (show ¬(2:Int)≤l.length by omega),Bool.false_and] at hall
   rw[hall,Bool.false_and,Bool.false_and] at h
   have hS:S m G u=S m g u:=zMC hlow
   clear hap hrec
   repeat' (first|simp (disch:=first|assumption|omega) only[go_sem, *]|((first|apply gw_m|apply gw_q);focus (intro hs;(try simp only[nbs] at hs);simp (disch:=first|assumption|omega) only[go_sem, *];rfl))|((first|refine zAB ?_ ?_|refine zAA ?_ ?_|refine sp_C ?_ ?_|refine sp_G ?_ ?_)<;>(intro hs;try simp only[nbs] at hs)))
  ·have hd2:decide ((l.length:Int)<2)=false:=decide_eq_false h2
   rw[decide_eq_true (show(2:Int)≤l.length by omega),Bool.true_and] at hall
   obtain⟨g',ha,hF',hlow'⟩:=hap (by omega)
   clear hap h
   repeat' (first|simp (disch:=first|assumption|omega) only[go_sem, *]|((first|apply gw_m|apply gw_q);focus (intro hs;(try simp only[nbs] at hs);simp (disch:=first|assumption|omega) only[go_sem, *];rfl))|((first|refine zAB ?_ ?_|refine zAA ?_ ?_|refine sp_C ?_ ?_|refine sp_G ?_ ?_)<;>(intro hs;try simp only[nbs] at hs)))
   exact hrec (i+1,M+1,M,g') _ _ _ ⟨hlt,hF',fun i hi=>by dsimp only;rw[hlow' i (by omega)];exact hlow i hi,by dsimp only;rw[hlow' m (by omega)];exact hGm,hall⟩ (by dsimp only;omega) ⟨rfl,rfl,rfl,rfl,congrArg (fun z=>some (AV.int .i64 z)) (by dsimp only;omega),trivial⟩ rfl
 ·have hc:decide ((i:Int)<sp.groups.length)=false:=decide_eq_false (by omega)
  clear hrec
  rw[List.drop_eq_nil_of_le hge,List.all_nil] at hall
  rw[hall,Bool.true_and] at h
  rw[List.take_of_length_le hge] at hF ⊢
  obtain⟨g1,hs1,hF1,hlow1⟩:=zGQ (u:=u) hF (zD2 _)
  obtain⟨g2,hs2,hF2,hlow2⟩:=zGQ (u:=u) hF1 (zD2 _)
  have hU3:=zCT hu hu2 (show m≤M by omega)
  have h64:∀Q:CR→Sto→Prop,Q (.ret (.bool (Pl.distinct [] sp.groups.flatten))) (S M g1 u)→C E1 64 [gs kx (sp.groups.flatten.map AV.str)] (S M G u) Q:=fun Q hQ=>
   zHB (args1:=[.sl 0 (sp.groups.flatten.map AV.str) .shut]) (s1:=S M g1 u) rfl rfl rfl (by simp only[zBT,hs1]) rfl (c64 hfl hQ)
  have hg2m:g2 m=.cells 79 [.ptr k 0]:=by rw[hlow2 m (by omega),hlow1 m (by omega)];exact hGm
  have hg2k:g2 k=.cells 121 (zAJ sp j nd may):=by rw[hlow2 k (by omega),hlow1 k (by omega),hlow k hk];exact hg
  have h157:∀Q:CR→Sto→Prop,Q (.ret (.bool (!(sp.groups.flatten.all fun s=>decide (s∈sp.models))))) (S M g2 u)→C E1 157 [gs kx (sp.groups.flatten.map AV.str),.func (m+1) (.func 158) [] [.ptr m 0]] (S M g1 u) Q:=fun Q hQ=>
   zHB (args1:=[.sl 0 (sp.groups.flatten.map AV.str) .shut,.func (m+1) (.func 158) [] [.ptr m 0]]) (s1:=S M g2 u) rfl rfl rfl (by simp only[zBT,hs2];rfl) rfl
    (c157p (h:=AV.str) (q:=fun s=>!decide (s∈sp.models)) (by omega) hU3.1 hU3.2 (fun _=>rfl) (fun _=>rfl) rfl (fun x _ Q hQ=>zDT rfl (c158 hml hU3.1 hU3.2 (by omega) hg2m (by omega) hg2k hQ)) (by rw[List.all_eq_not_any_not,Bool.not_not] at hQ;exact hQ))
  have hS1:S m g1 u=S m g u:=zMC fun i hi=>by rw[hlow1 i (by omega),hlow i hi]
  have hS2:S m g2 u=S m g u:=zMC fun i hi=>by rw[hlow2 i (by omega),hlow1 i (by omega),hlow i hi]
  repeat' (first|refine h64 _ ?_|refine h157 _ ?_|simp (disch:=first|assumption|omega) only[go_sem, *]|((first|apply gw_m|apply gw_q);focus (intro hs;(try simp only[nbs] at hs);simp (disch:=first|assumption|omega) only[go_sem, *];rfl))|((first|refine zAB ?_ ?_|refine zAA ?_ ?_|refine sp_C ?_ ?_|refine sp_G ?_ ?_)<;>(intro hs;try simp only[nbs] at hs)))
  all_goals exact leaf h (congrArg AV.bool (by rw[hs];rfl))
end Go.Ab.X
end
