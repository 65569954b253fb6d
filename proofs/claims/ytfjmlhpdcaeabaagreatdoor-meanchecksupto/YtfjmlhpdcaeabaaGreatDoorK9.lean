/- A part. -/
import Derived.Test.YtfjmlhpdcaeabaaGreatDoorK8
set_option linter.all false
noncomputable section
namespace Go.Ab.X
open Go Go.Ab Go.Proofs Pl
set_option maxRecDepth 100000
set_option maxHeartbeats 16000000
theorem gs_pos {k:Nat}{xs:List AV}(h:0<xs.length):gs k xs=.osl k 0 xs.length:=by cases xs with|nil=>simp at h|cons a r=>rfl
theorem zNN (sp:Pl.Spec):∀(i:Nat) (l:List Pl.Def) (nd:Int),0≤nd→nd≤3000→(zCJ sp i l nd).1=true→0≤(zCJ sp i l nd).2∧(zCJ sp i l nd).2≤3000
 | i,[],nd,h0,h1,_=>⟨h0,h1⟩
 | i,d :: r,nd,h0,h1,h=>by
  have hnd:=zQB (zDK sp (mayP sp i d) d.params d.body 1 nd) h0
  rw[zCJ] at h ⊢
  generalize zD8 sp (mayP sp i d) d.params d.body 1 nd=st at *
  obtain⟨b,nd1⟩:=st
  cases b with
  | true=>have hnd:=hnd rfl;exact zNN sp (i+1) r nd1 hnd.1 hnd.2 h
  | false=>cases h
theorem defsP_nd (sp:Pl.Spec)(nd:Int)(h0:0≤nd)(h1:nd≤3000)(h:(zFK sp nd).1=true):0≤(zFK sp nd).2∧(zFK sp nd).2≤3000:=by
 rw[zFK] at h ⊢
 split at h
 ·rename_i hh;rw[if_pos hh];exact zNN sp 0 sp.defs nd h0 h1 h
 ·cases h
structure Sz (sp:Pl.Spec):Prop where
 ml:sp.models.length<1073741824
 dl:sp.defs.length<1073741824
 vl:sp.vars.length<1073741824
 cl:sp.consts.length<1073741824
 pl:∀n,(params sp n).length<1073741824
 nl:∀x∈sp.defs,x.name.length<1073741824
 bl:∀x∈sp.defs,szX x.body<1073740000
 mn:lens sp.models<1073741000
 cn:lens (sp.consts.map (·.name))<1073741000
 vn:lens (sp.vars.map (·.name))<1073741000
 inm:lens (sp.invs.map (·.name))<1073741000
 pn:lens (sp.props.map (·.name))<1073741000
 cv:∀c∈sp.consts,szV c.v<1073741824
 il:sp.invs.length<1073741824
 pr:sp.props.length<1073741824
 gl:sp.groups.length<1073741824
 gn:lens sp.groups.flatten<1073741000
 al:sp.assume.length<1073741824
 fl:sp.fair.length<1073741824
 col:sp.cons.length<1073741824
 acl:sp.acons.length<1073741824
 vwl:sp.view.length<1073741824
 ex:∀e∈zG6 sp,szX e<1073740000
theorem zX3 (a:Pl.Spec):flatC (zAE a)=true:=rfl
attribute [go_sem] zX3
theorem c37 {sp:Pl.Spec}{j k:Nat}(hz:Sz sp){m:Nat}{g:Nat→Box}(hk:k<m)(hj:j<m)(hg:g k=.cells 121 (zAJ sp j 0 (.func 0 (.func 63) [] [])))(hgj:g j=.mapb (zB6 shL))
  {Q:CR→Sto→Prop} (h:∀m' g' u',Q (.ret (.bool (zJC sp))) (S m' g' u')):C E1 37 [.ptr k 0] (S m g []) Q:=by
 have hu:zAS m []=true:=rfl
 have hu2:zAK m []=[]:=rfl
 obtain⟨G,hG⟩:∃G:Nat→Box,updB (updB g m (.cells 79 [.ptr k 0])) (m+1) (.cells 40 (zAE sp))=G:=⟨_,rfl⟩
 have hGm:G m=.cells 79 [.ptr k 0]:=by rw[← hG,zAC (by omega),zAD]
 have hGs:G (m+1)=.cells 40 (zAE sp):=by rw[← hG,zAD]
 have hGk:G k=.cells 121 (zAJ sp j 0 (.func 0 (.func 63) [] [])):=by rw[← hG,zAC (by omega),zAC (by omega)];exact hg
 have hGj:G j=.mapb (zB6 shL):=by rw[← hG,zAC (by omega),zAC (by omega)];exact hgj
 have hkM:k<m+1+1:=by omega
 have h69:∀Q:CR→Sto→Prop,Q (.ret (.bool (sp.consts.any fun c=>!(zCA c.v&&zDJ sp.models c.v)))) (S (m+1+1) G [])→C E1 69 [.sl 0 (sp.consts.map zBE) .shut,.func (m+1) (.func 70) [] [.ptr m 0]] (S (m+1+1) G []) Q:=fun Q hQ=>
  c69p (h:=zBE) (q:=fun c=>!(zCA c.v&&zDJ sp.models c.v)) (by have:=hz.cl;omega) rfl rfl (fun _=>rfl) (fun _=>zSV) rfl (fun x hx Q hQ=>zDT rfl (c70 hz.ml (hz.cv x hx) rfl rfl (by omega) hGm (by omega) hGk hQ)) hQ
 have hml:=hz.ml
 have hmn:=hz.mn
 have hcn:=hz.cn
 have hvn:=hz.vn
 have hin:=hz.inm
 have hpn:=hz.pn
 have hcl:=hz.cl
 have hvl:=hz.vl
 have hil:=hz.il
 have hpr:=hz.pr
 have hdl:=hz.dl
 have h65:∀Q:CR→Sto→Prop,Q (.ret (.sl 0 ((sp.consts.map (·.name)).map AV.str) .shut)) (S (m+1+1) G [])→C E1 65 [.sl 0 (sp.consts.map zBE) .shut,.func 0 (.func 66) [] []] (S (m+1+1) G []) Q:=fun Q hQ=>c65 rfl rfl hcl hQ
 have h67:∀Q:CR→Sto→Prop,Q (.ret (.sl 0 ((sp.vars.map (·.name)).map AV.str) .shut)) (S (m+1+1) G [])→C E1 67 [.sl 0 (sp.vars.map zDL) .shut,.func 0 (.func 68) [] []] (S (m+1+1) G []) Q:=fun Q hQ=>c67 rfl rfl hvl hQ
 have h72:∀Q:CR→Sto→Prop,Q (.ret (.sl 0 ((sp.invs.map (·.name)).map AV.str) .shut)) (S (m+1+1) G [])→C E1 72 [.sl 0 (sp.invs.map zBQ) .shut,.func 0 (.func 73) [] []] (S (m+1+1) G []) Q:=fun Q hQ=>c72 rfl rfl hil hQ
 have h74:∀Q:CR→Sto→Prop,Q (.ret (.sl 0 ((sp.props.map (·.name)).map AV.str) .shut)) (S (m+1+1) G [])→C E1 74 [.sl 0 (sp.props.map zD9) .shut,.func 0 (.func 75) [] []] (S (m+1+1) G []) Q:=fun Q hQ=>c74 rfl rfl hpr hQ
 have h76:∀Q:CR→Sto→Prop,Q (.ret (.bool (zDY sp))) (S (m+1+1) G [])→C E1 76 [.ptr k 0] (S (m+1+1) G []) Q:=fun Q hQ=>c76 hz.ml hz.gl hz.gn rfl rfl hkM hGk hQ
 have h77:=fun(Q:CR→Sto→Prop) hQ=>c77 (sp:=sp) (j:=j) (nd:=0) (k:=k) (m:=m+1+1) (g:=G) (Q:=Q) hz.ml hz.dl hz.vl hz.cl hz.pl hz.nl hz.bl hkM (by omega) hGk hGj (by omega) (by omega) hQ
 have al:=hz.al
 have fl:=hz.fl
 have col:=hz.col
 have acl:=hz.acl
 have vwl:=hz.vwl
 have hF:∀m' g' u',zLP sp=false→Q (.ret (.bool false)) (S m' g' u'):=fun m' g' u' e=>by have:=h m' g' u';rw[zJC,e] at this;exact this
 refine zAG (md:=⟨false,false,false,false⟩) (fn:=Tryz.f37) (n:=171) (rs:=[.tmp 2]) rfl rfl rfl rfl rfl rfl rfl (by simp only[go_sem, *];try rfl) (by rfl) ?_
 repeat' (first|(refine zEN (fun Q h=>c64 (l:=sp.models) hmn h) ?_ ?_;focus (intro hs;(try simp only[nbs] at hs);simp (disch:=first|assumption|omega) only[go_sem, *];first|done|rfl))|refine h65 _ ?_|refine c64 hcn ?_|(refine zEN (fun Q h=>h67 _ h) ?_ ?_;focus (intro hs;(try simp only[nbs] at hs);simp (disch:=first|assumption|omega) only[go_sem, *];first|done|rfl))|(refine zEN (fun Q h=>c64 (l:=sp.vars.map (·.name)) hvn h) ?_ ?_;focus (intro hs;(try simp only[nbs] at hs);simp (disch:=first|assumption|omega) only[go_sem, *];first|done|rfl))|refine h69 _ ?_|refine h72 _ ?_|refine c64 hin ?_|(refine zEN (fun Q h=>h74 _ h) ?_ ?_;focus (intro hs;(try simp only[nbs] at hs);simp (disch:=first|assumption|omega) only[go_sem, *];first|done|rfl))|(refine zEN (fun Q h=>c64 (l:=sp.props.map (·.name)) hpn h) ?_ ?_;focus (intro hs;(try simp only[nbs] at hs);simp (disch:=first|assumption|omega) only[go_sem, *];first|done|rfl))|(refine zEN (fun Q h=>h76 _ h) ?_ ?_;focus (intro hs;(try simp only[nbs] at hs);simp (disch:=first|assumption|omega) only[go_sem, *];first|done|rfl))|apply h77|simp (disch:=first|assumption|omega) only[go_sem, *]|((first|apply gw_m|apply gw_q);focus (intro hs;(try simp only[nbs] at hs);simp (disch:=first|assumption|omega) only[go_sem, *];rfl))|((first|refine zAB ?_ ?_|refine zAA ?_ ?_|refine sp_C ?_ ?_|refine sp_G ?_ ?_)<;>(intro hs;try simp only[nbs] at hs)))
 ·exact hF _ _ _ (by rw[zLP,hs];rfl)
 ·exact hF _ _ _ (by rw[zLP,hs];simp)
 ·exact hF _ _ _ (by rw[zLP,hs];simp)
 ·exact hF _ _ _ (by rw[zLP,decide_eq_true hs];simp)
 ·exact hF _ _ _ (by rw[zLP,hs];simp)
 rename_i hs1 hs2 hs3 hs4
 have hhd:zLP sp=true:=by
  rw[zLP]
  clear h69 h65 h67 h72 h74 h76 h77 h hF
  simp_all
 clear hs hs1 hs2 hs3 hs4 h69 h65 h67 h72 h74 h76 h77 hF
 rw[zJC,hhd,Bool.true_and] at h
 intro m' g' u' hm' hT
 clear hml hmn hcn hvn hin hpn hcl hdl
 have hnd:=fun hd=>defsP_nd sp 0 (by omega) (by omega) hd
 have hd8:(zFK sp 0).1=true→defHeads [] sp.defs=true:=fun hd=>by
  cases hh:defHeads [] sp.defs with
  | true=>rfl
  | false=>rw[zFK,hh] at hd;cases hd
 generalize zFK sp 0=df at *
 obtain⟨db,nd⟩:=df
 dsimp only at hT h hnd hd8
 cases db with
 | false=>
  clear hT hnd hd8
  rw[Bool.false_and] at h
  repeat' (first|simp (disch:=first|assumption|omega) only[go_sem, *]|((first|apply gw_m|apply gw_q);focus (intro hs;(try simp only[nbs] at hs);simp (disch:=first|assumption|omega) only[go_sem, *];rfl))|((first|refine zAB ?_ ?_|refine zAA ?_ ?_|refine sp_C ?_ ?_|refine sp_G ?_ ?_)<;>(intro hs;try simp only[nbs] at hs)))
  obtain⟨m2,g2,u2,_,e2⟩:=zL1 (b:=m) (t:=0) (g:=g') (u:=u') (show m≤m' by omega)
  rw[e2];exact h _ _ _
 | true=>
  obtain⟨hU1,hU2,hgk,hgj',hlow⟩:=hT rfl
  obtain⟨hn0,hn1⟩:=hnd rfl
  have hsp:SpOk sp:=⟨hz.ml,hz.dl,hz.vl,hz.cl,hz.pl,zKK (hd8 rfl)⟩
  rw[Bool.true_and] at h
  have hm1:m<m':=by omega
  have hm2:m+1<m':=by omega
  have hgm:g' m=.cells 79 [.ptr k 0]:=by rw[hlow m (by omega) (by omega)];exact hGm
  have hgs:g' (m+1)=.cells 40 (zAE sp):=by rw[hlow (m+1) (by omega) (by omega)];exact hGs
  clear hT hnd hd8 hlow hGm hGs hGk hGj hG hg hgj hu hu2 hkM hhd
  obtain⟨L0,hL0⟩:∃L0,([sp.assume,[sp.init,sp.next],sp.cons,sp.acons,sp.view]:List (List X)).flatten=L0:=⟨_,rfl⟩
  have hL0p:0<L0.length:=by rw[← hL0];simp;omega
  have hL0l:L0.length<5368709120:=by rw[← hL0];simp;omega
  have h78:∀Q:CR→Sto→Prop,(∀g2:Nat→Box,g2 m'=.row 34 11 (L0.map encX) false→(∀i,i<m'→g2 i=g' i)→Q (.ret (.osl m' 0 L0.length)) (S (m'+1) g2 u'))→C E1 78 [.sl 0 [.sl 0 (sp.assume.map encX) .shut,.sl 0 [encX sp.init,encX sp.next] .shut,.sl 0 (sp.cons.map encX) .shut,.sl 0 (sp.acons.map encX) .shut,.sl 0 (sp.view.map encX) .shut] .clip] (S m' g' u') Q:=fun Q hQ=>
   zHB (args1:=[.sl 0 (([sp.assume,[sp.init,sp.next],sp.cons,sp.acons,sp.view]:List (List X)).map slX) .shut]) (s1:=S m' g' u') rfl rfl rfl rfl rfl (c78 (by simp) (by rw[hL0];omega) (by rw[hL0];omega) (by rw[hL0];exact hQ))
  have he:zG6 sp=(((L0++sp.vars.map (·.typ))++sp.fair.flatMap (fun x=>[x.a,x.sub]))++sp.invs.map (·.e)):=by rw[zG6,hL0]
  have hex:=hz.ex
  rw[he] at h hex
  clear he hL0
  repeat' (first|apply h78|simp (disch:=first|assumption|omega) only[go_sem, *]|((first|apply gw_m|apply gw_q);focus (intro hs;(try simp only[nbs] at hs);simp (disch:=first|assumption|omega) only[go_sem, *];rfl))|((first|refine zAB ?_ ?_|refine zAA ?_ ?_|refine sp_C ?_ ?_|refine sp_G ?_ ?_)<;>(intro hs;try simp only[nbs] at hs)))
  intro g2 hg2 hlow2
  clear h78
  have hgsp:gs m' (L0.map encX)=.osl m' 0 L0.length:=by rw[gs_pos (by rw[List.length_map];omega),List.length_map]
  repeat' (first|simp (disch:=first|assumption|omega) only[go_sem, *]|((first|apply gw_m|apply gw_q);focus (intro hs;(try simp only[nbs] at hs);simp (disch:=first|assumption|omega) only[go_sem, *];rfl))|((first|refine zAB ?_ ?_|refine zAA ?_ ?_|refine sp_C ?_ ?_|refine sp_G ?_ ?_)<;>(intro hs;try simp only[nbs] at hs)))
  refine zAL (ι:=Nat×Nat×Nat×(Nat→Box)) (fun p=>[(1,.ptr m 0),(3,.ptr (m+1) 0),(4,gs p.2.2.1 ((L0++(sp.vars.map (·.typ)).take p.1).map encX)),(127,.sl 0 (sp.vars.map zDL) .shut),(128,.int .i64 sp.vars.length),(129,.int .i64 p.1)]) (fun p=>S p.2.1 p.2.2.2 u')
   (fun p=>p.1≤sp.vars.length∧gF 34 11 m' p.2.2.2 p.2.1 p.2.2.1 ((L0++(sp.vars.map (·.typ)).take p.1).map encX)∧∀i,i<m'→p.2.2.2 i=g' i) (fun p=>sp.vars.length-p.1) ?_ (0,m'+1,m',g2) ⟨Nat.zero_le _,by dsimp only;rw[List.take_zero,List.append_nil];exact⟨by omega,.inr ⟨Nat.le_refl _,by omega,false,hg2⟩⟩,hlow2⟩ ⟨rfl,rfl,by rw[List.take_zero,List.append_nil,hgsp];rfl,rfl,rfl,rfl,trivial⟩ rfl
  clear hg2 hlow2 hgsp
  clear g2
  rintro⟨i,M,kx,G⟩ b ⟨hi,hF,hlow⟩ hrec
  dsimp only at hi hF hlow hrec ⊢
  have hM:m'≤M:=hF.1
  have hGs:G (m+1)=.cells 40 (zAE sp):=by rw[hlow (m+1) (by omega)];exact hgs
  rcases Nat.lt_or_ge i sp.vars.length with hlt|hge
  ·have hc:decide ((i:Int)<sp.vars.length)=true:=decide_eq_true (by omega)
   have hx:sp.vars[i]?=some sp.vars[i]:=List.getElem?_eq_getElem hlt
   obtain⟨g3,ha,hF',hlow'⟩:=zI5 (b:=176) (u:=u') (ys:=[encX sp.vars[i].typ]) (zRF hF (.cells 82 (zCR sp.vars[i]))) (zM9 [sp.vars[i].typ]) (by simp) (by rw[List.length_map,List.length_append,List.length_take,List.length_map];simp;omega) (by rw[zA6,zGP];exact zGP [sp.vars[i].typ])
   have e1:(L0++(sp.vars.map (·.typ)).take i).map encX++[encX sp.vars[i].typ]=(L0++(sp.vars.map (·.typ)).take (i+1)).map encX:=by
    rw[List.take_succ_eq_append_getElem (by rw[List.length_map];exact hlt),List.getElem_map,← List.append_assoc,List.map_append (l₁:=L0++_)];rfl
   rw[e1] at ha hF'
   clear e1
   generalize sp.vars[i]=x at *
   repeat' (first|simp (disch:=first|assumption|omega) only[go_sem, *]|((first|apply gw_m|apply gw_q);focus (intro hs;(try simp only[nbs] at hs);simp (disch:=first|assumption|omega) only[go_sem, *];rfl))|((first|refine zAB ?_ ?_|refine zAA ?_ ?_|refine sp_C ?_ ?_|refine sp_G ?_ ?_)<;>(intro hs;try simp only[nbs] at hs)))
   exact hrec (i+1,M+1+1,M+1,g3) _ _ _ ⟨hlt,hF',fun i hi=>by dsimp only;rw[hlow' i hi,zAC (by omega)];exact hlow i hi⟩ (by dsimp only;omega) ⟨rfl,rfl,rfl,rfl,rfl,congrArg (fun z=>some (AV.int .i64 z)) (by dsimp only;omega),trivial⟩ rfl
  have hc:decide ((i:Int)<sp.vars.length)=false:=decide_eq_false (by omega)
  clear hrec
  rw[List.take_of_length_le (by rw[List.length_map];exact hge)] at hF ⊢
  obtain⟨L1,hL1⟩:∃L1,L0++sp.vars.map (·.typ)=L1:=⟨_,rfl⟩
  have hL1l:L1.length<6442450944:=by rw[← hL1,List.length_append,List.length_map];omega
  rw[hL1] at h hF hex ⊢
  clear hL1 hL0l hL0p hi hge
  clear L0
  repeat' (first|simp (disch:=first|assumption|omega) only[go_sem, *]|((first|apply gw_m|apply gw_q);focus (intro hs;(try simp only[nbs] at hs);simp (disch:=first|assumption|omega) only[go_sem, *];rfl))|((first|refine zAB ?_ ?_|refine zAA ?_ ?_|refine sp_C ?_ ?_|refine sp_G ?_ ?_)<;>(intro hs;try simp only[nbs] at hs)))
  clear hc
  have kf:∀l:List Pl.Fair,(l.flatMap (fun x=>[x.a,x.sub])).length=2*l.length:=fun l=>by induction l with|nil=>rfl|cons a r ih=>rw[List.flatMap_cons,List.length_append,ih];simp;omega
  refine zAL (ι:=Nat×Nat×Nat×(Nat→Box)) (fun p=>[(1,.ptr m 0),(3,.ptr (m+1) 0),(4,gs p.2.2.1 ((L1++(sp.fair.take p.1).flatMap (fun x=>[x.a,x.sub])).map encX)),(140,.sl 0 (sp.fair.map zEF) .shut),(141,.int .i64 sp.fair.length),(142,.int .i64 p.1)]) (fun p=>S p.2.1 p.2.2.2 u')
   (fun p=>p.1≤sp.fair.length∧gF 34 11 m' p.2.2.2 p.2.1 p.2.2.1 ((L1++(sp.fair.take p.1).flatMap (fun x=>[x.a,x.sub])).map encX)∧∀i,i<m'→p.2.2.2 i=g' i) (fun p=>sp.fair.length-p.1) ?_ (0,M,kx,G) ⟨Nat.zero_le _,by dsimp only;rw[List.take_zero,List.flatMap_nil,List.append_nil];exact hF,hlow⟩ ⟨rfl,rfl,by rw[List.take_zero,List.flatMap_nil,List.append_nil];rfl,rfl,rfl,rfl,trivial⟩ rfl
  clear hF hlow hM hGs
  clear M kx G i
  rintro⟨i,M,kx,G⟩ b ⟨hi,hF,hlow⟩ hrec
  dsimp only at hi hF hlow hrec ⊢
  have hM:m'≤M:=hF.1
  have hGs:G (m+1)=.cells 40 (zAE sp):=by rw[hlow (m+1) (by omega)];exact hgs
  rcases Nat.lt_or_ge i sp.fair.length with hlt|hge
  ·have hc:decide ((i:Int)<sp.fair.length)=true:=decide_eq_true (by omega)
   have hx:sp.fair[i]?=some sp.fair[i]:=List.getElem?_eq_getElem hlt
   obtain⟨g3,ha,hF',hlow'⟩:=zI5 (b:=176) (u:=u') (ys:=[encX sp.fair[i].a,encX sp.fair[i].sub]) (zRF hF (.cells 112 (zB2 sp.fair[i]))) (zM9 [sp.fair[i].a,sp.fair[i].sub]) (by simp) (by rw[List.length_map,List.length_append,kf,List.length_take];simp;omega) (by rw[zA6,zGP];exact zGP [sp.fair[i].a,sp.fair[i].sub])
   have e1:(L1++(sp.fair.take i).flatMap (fun x=>[x.a,x.sub])).map encX++[encX sp.fair[i].a,encX sp.fair[i].sub]=(L1++(sp.fair.take (i+1)).flatMap (fun x=>[x.a,x.sub])).map encX:=by
    rw[List.take_succ_eq_append_getElem hlt,List.flatMap_append,← List.append_assoc,List.map_append (l₁:=L1++_)];rfl
   rw[e1] at ha hF'
   clear e1 kf
   generalize sp.fair[i]=x at *
   repeat' (first|simp (disch:=first|assumption|omega) only[go_sem, *]|((first|apply gw_m|apply gw_q);focus (intro hs;(try simp only[nbs] at hs);simp (disch:=first|assumption|omega) only[go_sem, *];rfl))|((first|refine zAB ?_ ?_|refine zAA ?_ ?_|refine sp_C ?_ ?_|refine sp_G ?_ ?_)<;>(intro hs;try simp only[nbs] at hs)))
   exact hrec (i+1,M+1+1,M+1,g3) _ _ _ ⟨hlt,hF',fun i hi=>by dsimp only;rw[hlow' i hi,zAC (by omega)];exact hlow i hi⟩ (by dsimp only;omega) ⟨rfl,rfl,rfl,rfl,rfl,congrArg (fun z=>some (AV.int .i64 z)) (by dsimp only;omega),trivial⟩ rfl
  have hc:decide ((i:Int)<sp.fair.length)=false:=decide_eq_false (by omega)
  clear hrec
  rw[List.take_of_length_le hge] at hF ⊢
  obtain⟨L2,hL2⟩:∃L2,L1++sp.fair.flatMap (fun x=>[x.a,x.sub])=L2:=⟨_,rfl⟩
  have hL2l:L2.length<8589934592:=by rw[← hL2,List.length_append,kf];omega
  rw[hL2] at h hF hex ⊢
  clear hL2 hL1l hi hge kf
  clear L1
  repeat' (first|simp (disch:=first|assumption|omega) only[go_sem, *]|((first|apply gw_m|apply gw_q);focus (intro hs;(try simp only[nbs] at hs);simp (disch:=first|assumption|omega) only[go_sem, *];rfl))|((first|refine zAB ?_ ?_|refine zAA ?_ ?_|refine sp_C ?_ ?_|refine sp_G ?_ ?_)<;>(intro hs;try simp only[nbs] at hs)))
  clear hc
  refine zAL (ι:=Nat×Nat×Nat×(Nat→Box)) (fun p=>[(1,.ptr m 0),(4,gs p.2.2.1 ((L2++(sp.invs.map (·.e)).take p.1).map encX)),(155,.sl 0 (sp.invs.map zBQ) .shut),(156,.int .i64 sp.invs.length),(157,.int .i64 p.1)]) (fun p=>S p.2.1 p.2.2.2 u')
   (fun p=>p.1≤sp.invs.length∧gF 34 11 m' p.2.2.2 p.2.1 p.2.2.1 ((L2++(sp.invs.map (·.e)).take p.1).map encX)∧∀i,i<m'→p.2.2.2 i=g' i) (fun p=>sp.invs.length-p.1) ?_ (0,M,kx,G) ⟨Nat.zero_le _,by dsimp only;rw[List.take_zero,List.append_nil];exact hF,hlow⟩ ⟨rfl,by rw[List.take_zero,List.append_nil];rfl,rfl,rfl,rfl,trivial⟩ rfl
  clear hF hlow hM hGs
  clear M kx G i
  rintro⟨i,M,kx,G⟩ b ⟨hi,hF,hlow⟩ hrec
  dsimp only at hi hF hlow hrec ⊢
  have hM:m'≤M:=hF.1
  rcases Nat.lt_or_ge i sp.invs.length with hlt|hge
  ·have hc:decide ((i:Int)<sp.invs.length)=true:=decide_eq_true (by omega)
   have hx:sp.invs[i]?=some sp.invs[i]:=List.getElem?_eq_getElem hlt
   obtain⟨g3,ha,hF',hlow'⟩:=zI5 (b:=176) (u:=u') (ys:=[encX sp.invs[i].e]) (zRF hF (.cells 114 (zBU sp.invs[i]))) (zM9 [sp.invs[i].e]) (by simp) (by rw[List.length_map,List.length_append,List.length_take,List.length_map];simp;omega) (by rw[zA6,zGP];exact zGP [sp.invs[i].e])
   have e1:(L2++(sp.invs.map (·.e)).take i).map encX++[encX sp.invs[i].e]=(L2++(sp.invs.map (·.e)).take (i+1)).map encX:=by
    rw[List.take_succ_eq_append_getElem (by rw[List.length_map];exact hlt),List.getElem_map,← List.append_assoc,List.map_append (l₁:=L2++_)];rfl
   rw[e1] at ha hF'
   clear e1
   generalize sp.invs[i]=x at *
   repeat' (first|simp (disch:=first|assumption|omega) only[go_sem, *]|((first|apply gw_m|apply gw_q);focus (intro hs;(try simp only[nbs] at hs);simp (disch:=first|assumption|omega) only[go_sem, *];rfl))|((first|refine zAB ?_ ?_|refine zAA ?_ ?_|refine sp_C ?_ ?_|refine sp_G ?_ ?_)<;>(intro hs;try simp only[nbs] at hs)))
   exact hrec (i+1,M+1+1,M+1,g3) _ _ _ ⟨hlt,hF',fun i hi=>by dsimp only;rw[hlow' i hi,zAC (by omega)];exact hlow i hi⟩ (by dsimp only;omega) ⟨rfl,rfl,rfl,rfl,congrArg (fun z=>some (AV.int .i64 z)) (by dsimp only;omega),trivial⟩ rfl
  have hc:decide ((i:Int)<sp.invs.length)=false:=decide_eq_false (by omega)
  clear hrec
  rw[List.take_of_length_le (by rw[List.length_map];exact hge)] at hF ⊢
  obtain⟨L3,hL3⟩:∃L3,L2++sp.invs.map (·.e)=L3:=⟨_,rfl⟩
  have hL3l:L3.length<9663676416:=by rw[← hL3,List.length_append,List.length_map];omega
  rw[hL3] at h hF hex ⊢
  clear hL3 hL2l hi hge
  clear L2
  obtain⟨g3,hse,hF3,hlow3⟩:=zGQ (u:=u') hF (zGP _)
  have hU3:=zCT hU1 hU2 hM
  have hjk:j≠k:=fun e=>by rw[e,hgk] at hgj';cases hgj'
  have hk':k<m':=by omega
  have hj':j<m':=by omega
  have h3k:g3 k=.cells 121 (zAJ sp j nd (.func 0 (.func 63) [] [])):=by rw[hlow3 k hk',hlow k hk'];exact hgk
  have h3j:g3 j=.mapb (zB6 shL):=by rw[hlow3 j hj',hlow j hj'];exact hgj'
  have h3m:g3 m=.cells 79 [.ptr k 0]:=by rw[hlow3 m hm1,hlow m hm1];exact hgm
  have hself:updB g3 k (.cells 121 (zAJ sp j nd (.func 0 (.func 63) [] [])))=g3:=by
   funext i
   by_cases hi:i=k
   ·rw[hi,zAD,h3k]
   ·rw[zAC hi]
  have hmk:m≠k:=by omega
  have h79:∀Q:CR→Sto→Prop,(∀g4,Q (.ret (.bool (anyS (zNU sp) nd L3).1)) (S M g4 u'))→C E1 79 [gs kx (L3.map encX),.func (m+1) (.func 80) [] [.ptr m 0]] (S M G u') Q:=fun Q hQ=>by
   refine zHB (args1:=[.sl 0 (L3.map encX) .shut,.func (m+1) (.func 80) [] [.ptr m 0]]) (s1:=S M g3 u') rfl rfl rfl (by simp only[zBT,hse,zKU]) (by simp only[zBT,zEQ,zKU]) ?_
   rw[← hself]
   refine c79I (h:=encX) (p:=zNU sp) (G:=fun n=>updB g3 k (.cells 121 (zAJ sp j n (.func 0 (.func 63) [] [])))) (a:=nd) (fun n=>0≤n∧n≤3000) ?_ ⟨hn0,hn1⟩ (by omega) hU3.1 hU3.2 (fun x=>by rw[zA9];rfl) (fun x=>by rw[zA9];exact pk_X) (fun _=>rfl) ?_ (hQ _)
   ·intro x hx a ha hp
    have:=zQB (zDK sp (fun _=>true) [] x 1 a) ha.1
    rw[zNU] at hp ⊢
    exact this (by simpa using hp)
   ·intro x hx a ha Q hQ
    refine zDT rfl (c80 (j:=j) (k:=k) hsp (hex x hx) (show m<M by omega) hmk (by rw[zAC hmk];exact h3m) ha.1 ha.2 ⟨hU3.1,hU3.2,by omega,by omega,zAD,by rw[zAC hjk];exact h3j,Nat.zero_le _,fun _ _ _=>rfl⟩ ?_)
    rw[zKM]
    exact hQ
  clear hF hse hF3 hlow3
  repeat' (first|apply h79|simp (disch:=first|assumption|omega) only[go_sem, *]|((first|apply gw_m|apply gw_q);focus (intro hs;(try simp only[nbs] at hs);simp (disch:=first|assumption|omega) only[go_sem, *];rfl))|((first|refine zAB ?_ ?_|refine zAA ?_ ?_|refine sp_C ?_ ?_|refine sp_G ?_ ?_)<;>(intro hs;try simp only[nbs] at hs)))
  intro g4
  obtain⟨m2,g2,u2,_,e2⟩:=zL1 (b:=m) (t:=0) (g:=g4) (u:=u') (show m≤M by omega)
  rw[e2]
  exact h _ _ _
end Go.Ab.X
namespace Pl
def zJ0 (sp:Spec):Int:=if zJC sp=true then 0 else 6
def zLV (sp:Spec)(e:X)(bound:Int):Bool:=(zD8 sp (fun _=>true) (zeros bound) e 1 0).1
def zHN (sp:Spec)(e:X)(bound:Int):Int:=if zJC sp=false then 6 else if bound<0∨40<bound then 1 else if zLV sp e bound=false then 5 else 0
end Pl
namespace Go.Ab.X
open Go Go.Ab Go.Proofs Pl
set_option maxRecDepth 100000
set_option maxHeartbeats 16000000
theorem c6 {sp:Pl.Spec}(hz:Sz sp){s:Sto}{Q:CR→Sto→Prop}(h:Q (.ret (.int .i64 (zJ0 sp))) s):C E1 6 [zAX sp] s Q:=by
 rw[zJ0] at h
 have h36:=fun(g:Nat→Box) (Q:CR→Sto→Prop) hQ=>c36 (sp:=sp) (m:=1) (g:=g) (u:=[]) (Q:=Q) hQ
 refine zAF (md:=⟨true,false,false,false⟩) (fn:=Tryz.f6) (n:=7) (rs:=[.tmp 2]) rfl rfl rfl rfl rfl rfl rfl (by simp only[go_sem, *];try rfl) (by rfl) (by simp only[go_sem]) ?_
 repeat' (first|apply h36|simp (disch:=first|assumption|omega) only[go_sem, *]|((first|apply gw_m|apply gw_q);focus (intro hs;(try simp only[nbs] at hs);simp (disch:=first|assumption|omega) only[go_sem, *];rfl))|((first|refine zAB ?_ ?_|refine zAA ?_ ?_|refine sp_C ?_ ?_|refine sp_G ?_ ?_)<;>(intro hs;try simp only[nbs] at hs)))
 intro G h3 h2 hlow
 have h37:=fun(Q:CR→Sto→Prop) hQ=>c37 (sp:=sp) (j:=2) (k:=3) hz (m:=4) (g:=G) (by omega) (by omega) h3 h2 (Q:=Q) hQ
 clear h36
 repeat' (first|apply h37|simp (disch:=first|assumption|omega) only[go_sem, *]|((first|apply gw_m|apply gw_q);focus (intro hs;(try simp only[nbs] at hs);simp (disch:=first|assumption|omega) only[go_sem, *];rfl))|((first|refine zAB ?_ ?_|refine zAA ?_ ?_|refine sp_C ?_ ?_|refine sp_G ?_ ?_)<;>(intro hs;try simp only[nbs] at hs)))
 intro m' g' u'
 clear h37
 repeat' (first|simp (disch:=first|assumption|omega) only[go_sem, *]|((first|apply gw_m|apply gw_q);focus (intro hs;(try simp only[nbs] at hs);simp (disch:=first|assumption|omega) only[go_sem, *];rfl))|((first|refine zAB ?_ ?_|refine zAA ?_ ?_|refine sp_C ?_ ?_|refine sp_G ?_ ?_)<;>(intro hs;try simp only[nbs] at hs)))
 ·rw[if_neg (by rw[hs];exact Bool.false_ne_true)] at h;exact h
 ·rw[if_pos hs] at h;exact h
theorem qms {n:Int}(h0:0≤n)(h1:n≤40):zFP E1 143 (some (.int .i64 n)) (some (.int .i64 n))=some (.sl 0 ((zeros n).map iv) .clip):=by
 have e:zBZ E1 143 (some (.int .i64 n)) (some (.int .i64 n)) .empty=.val (.osl 0 0 n.toNat) (Sto.empty.alloc (.row 3 1 (lrep (.int .i64 0) n.toNat) false)):=by
  unfold zBZ
  rw[tyd143]
  simp only[zF3 h0,zCD,Nat.le_refl,decide_true,Bool.true_and,tyb3,tys3]
  rw[decide_eq_true (show n.toNat*8≤limit by rw[limit_eq];omega),decide_eq_true (show n.toNat≤limit by rw[limit_eq];omega)]
  rfl
 unfold zFP
 rw[e]
 simp only[Sto.alloc,Sto.empty,zF3 h0,Nat.beq_refl,cond_true,zDS]
 rw[zSA]
 show some (AV.sl (tops (zs n.toNat)) (zs n.toNat) .clip)=_
 rw[zHV]
theorem c39 {sp:Pl.Spec}{e:X}{n:Int}(hsp:SpOk sp)(he:szX e<1073740000)(h0:0≤n)(h1:n≤40){s:Sto}{Q:CR→Sto→Prop}(h:Q (.ret (.bool (zLV sp e n))) s):C E1 39 [zAX sp,encX e,.int .i64 n] s Q:=by
 rw[zLV] at h
 have h36:=fun(g:Nat→Box) (Q:CR→Sto→Prop) hQ=>c36 (sp:=sp) (m:=2) (g:=g) (u:=[]) (Q:=Q) hQ
 have hq:=qms h0 h1
 refine zAF (md:=⟨true,false,false,false⟩) (fn:=Tryz.f39) (n:=13) (rs:=[.tmp 6]) rfl rfl rfl rfl rfl rfl rfl (by simp only[go_sem, *];try rfl) (by rfl) (by simp only[go_sem]) ?_
 repeat' (first|apply h36|simp (disch:=first|assumption|omega) only[go_sem, *]|((first|apply gw_m|apply gw_q);focus (intro hs;(try simp only[nbs] at hs);simp (disch:=first|assumption|omega) only[go_sem, *];rfl))|((first|refine zAB ?_ ?_|refine zAA ?_ ?_|refine sp_C ?_ ?_|refine sp_G ?_ ?_)<;>(intro hs;try simp only[nbs] at hs)))
 intro G h4 h3 hlow
 clear h36
 have hG1:G 1=.cells 34 (zAO e):=by rw[hlow 1 (by omega)];rfl
 have hSt:St sp 3 (.func 0 (.func 63) [] []) 4 0 G [] 5 G 0:=⟨rfl,rfl,by omega,by omega,h4,h3,by omega,fun _ _ _=>rfl⟩
 have h81:=(c81 hsp (zZH (len:=sp.defs.length) (k:=4) (g0:=G) (u:=[])) (szX e+1) e (by omega) he).1 (zeros n) 1 0 5 G (by rw[zeros,List.length_replicate];omega) (by omega) (by omega) (by omega) (by omega) hSt
 have h81s:∀Q:CR→Sto→Prop,Q (.ret (.bool (zD8 sp (fun _=>true) (zeros n) e 1 0).1)) (S 5 (updB G 4 (.cells 121 (zAJ sp 3 (zD8 sp (fun _=>true) (zeros n) e 1 0).2 (.func 0 (.func 63) [] [])))) [])→C E1 81 [.ptr 4 0,encX e,.sl 0 ((zeros n).map iv) .clip,.int .i64 1] (S 5 G []) Q:=fun Q hQ=>
  zHB (args1:=[.ptr 4 0,encX e,.sl 0 ((zeros n).map iv) .shut,.int .i64 1]) (s1:=S 5 G []) rfl rfl rfl (by simp only[zBT,zEQ,zEM,zIH,zDF]) (by simp only[zBT,zEQ,zEM,zIH,zDF]) (h81 Q hQ)
 clear h81 hSt
 generalize zD8 sp (fun _=>true) (zeros n) e 1 0=st at *
 repeat' (first|refine h81s _ ?_|simp (disch:=first|assumption|omega) only[go_sem, *]|((first|apply gw_m|apply gw_q);focus (intro hs;(try simp only[nbs] at hs);simp (disch:=first|assumption|omega) only[go_sem, *];rfl))|((first|refine zAB ?_ ?_|refine zAA ?_ ?_|refine sp_C ?_ ?_|refine sp_G ?_ ?_)<;>(intro hs;try simp only[nbs] at hs)))
theorem c8 {sp:Pl.Spec}{e:X}{n:Int}(hz:Sz sp)(hsp:zJC sp=true→SpOk sp)(he:szX e<1073740000){s:Sto}{Q:CR→Sto→Prop}(h:Q (.ret (.int .i64 (zHN sp e n))) s):C E1 8 [zAX sp,encX e,.int .i64 n] s Q:=by
 rw[zHN] at h
 have h39:=fun(h1:zJC sp=true) (h2:0≤n) (h3:n≤40) (s:Sto) (Q:CR→Sto→Prop) hQ=>c39 (hsp h1) he h2 h3 (s:=s) (Q:=Q) hQ
 rcases hb:zJC sp with _|_
 ·have hc:zJ0 sp=6:=by rw[zJ0,hb];rfl
  rw[if_pos hb] at h
  refine zAF (md:=⟨true,false,false,false⟩) (fn:=Tryz.f8) (n:=24) (rs:=[.tmp 6]) rfl rfl rfl rfl rfl rfl rfl (by simp only[go_sem, *];try rfl) (by rfl) (by simp only[go_sem]) ?_
  repeat' (first|refine c6 hz ?_|simp (disch:=first|assumption|omega) only[go_sem, *]|((first|apply gw_m|apply gw_q);focus (intro hs;(try simp only[nbs] at hs);simp (disch:=first|assumption|omega) only[go_sem, *];rfl))|((first|refine zAB ?_ ?_|refine zAA ?_ ?_|refine sp_C ?_ ?_|refine sp_G ?_ ?_)<;>(intro hs;try simp only[nbs] at hs)))
 ·have hc:zJ0 sp=0:=by rw[zJ0,hb];rfl
  rw[if_neg (by rw[hb];exact fun h=>nomatch h)] at h
  have h39:=h39 hb
  refine zAF (md:=⟨true,false,false,false⟩) (fn:=Tryz.f8) (n:=24) (rs:=[.tmp 6]) rfl rfl rfl rfl rfl rfl rfl (by simp only[go_sem, *];try rfl) (by rfl) (by simp only[go_sem]) ?_
  repeat' (first|refine c6 hz ?_|refine h39 (by omega) (by omega) _ _ ?_|simp (disch:=first|assumption|omega) only[go_sem, *]|((first|apply gw_m|apply gw_q);focus (intro hs;(try simp only[nbs] at hs);simp (disch:=first|assumption|omega) only[go_sem, *];rfl))|((first|refine zAB ?_ ?_|refine zAA ?_ ?_|refine sp_C ?_ ?_|refine sp_G ?_ ?_)<;>(intro hs;try simp only[nbs] at hs)))
  ·rw[if_pos (by simpa only[Bool.or_eq_true,decide_eq_true_eq] using hs)] at h;exact h
  ·rw[if_neg (by omega),if_pos hs] at h;exact h
  ·rw[if_neg (by omega),if_neg (by rw[hs];exact fun h=>nomatch h)] at h;exact h
end Go.Ab.X
namespace Go.Ab.X
open Go Go.Ab Go.Proofs Pl
set_option maxRecDepth 100000
set_option maxHeartbeats 16000000
theorem Lapp_c {α:Type}(a:α)(l r:List α):List.append (a :: l) r=a :: List.append l r:=rfl
theorem Lapp_n {α:Type}(r:List α):List.append [] r=r:=rfl
attribute [go_sem] Lapp_c Lapp_n
structure Sm (sp:Pl.Spec):Prop where
 defs:sp.defs.length<1073741824
 models:lens sp.models<1073741824
 modn:sp.models.length<1073741824
 vars:sp.vars.length<1073741824
 consts:sp.consts.length<1073741824
 assume:sp.assume.length<1073741824
 fair:sp.fair.length<1073741824
 invs:sp.invs.length<1073741824
 props:sp.props.length<1073741824
 cons:sp.cons.length<1073741824
 acons:sp.acons.length<1073741824
 view:sp.view.length<1073741824
 groups:sp.groups.length<1073741824
 flat:sp.groups.flatten.length<1073741824
 cnames:lens (sp.consts.map (·.name))<1073741824
 vnames:lens (sp.vars.map (·.name))<1073741824
 inames:lens (sp.invs.map (·.name))<1073741824
 pnames:lens (sp.props.map (·.name))<1073741824
 cvals:∀c∈sp.consts,szV c.v<1073741824
 params:∀n,(Pl.params sp n).length<2000000
 dnames:∀x∈sp.defs,x.name.length<1073741824
 bodies:∀x∈sp.defs,szX x.body<1073741824
 exprs:∀x∈Pl.exprs sp,szX x<1073741824
 exprn:(Pl.exprs sp).length<1073741824
 tot:cntXs (sp.defs.map (·.body))+cntXs (Pl.exprs sp)<1073741824
def isHd (sp:Pl.Spec):Bool:=
 decide ((40:Int)<sp.models.length)||decide ((20:Int)<sp.consts.length)||decide ((sp.vars.length:Int)<1)||decide ((16:Int)<sp.vars.length)||decide ((100:Int)<sp.defs.length)||decide ((40:Int)<sp.assume.length)||decide ((40:Int)<sp.fair.length)||decide ((40:Int)<sp.invs.length)||decide ((40:Int)<sp.cons.length)||decide ((40:Int)<sp.acons.length)||decide ((40:Int)<sp.props.length)||decide ((1:Int)<sp.view.length)
def isMd (sp:Pl.Spec):Bool:=
 !Pl.distinct [] sp.models||!(zDA sp.models (sp.consts.map (·.v))&&(Pl.distinct [] (sp.consts.map (·.name))&&Pl.distinct [] (sp.vars.map (·.name))&&Pl.distinct [] (sp.invs.map (·.name))&&Pl.distinct [] (sp.props.map (·.name))))||!(grpM sp.models [] sp.groups&&decide ((sp.groups.length:Int)≤10))||!(defHeads [] sp.defs&&bodies sp 0 sp.defs)
def isR (sp:Pl.Spec):Bool:=
 !isHd sp&&!isMd sp&&(sp.defs.all fun d=>decide ((depX d.body:Int)≤100))&&((Pl.exprs sp).all fun e=>ok sp (-1) [] e 0&&decide ((depX e:Int)≤100))&&decide (((cntXs (sp.defs.map (·.body))+cntXs (Pl.exprs sp):Nat):Int)≤3000)
theorem zA5 (a b:Int):decide (a≤b)=!decide (b<a):=by
 by_cases h:a≤b
 ·rw[decide_eq_true h,decide_eq_false (by omega)];rfl
 ·rw[decide_eq_false h,decide_eq_true (by omega)];rfl
theorem zZK {α:Type}(p q:α→Bool):∀l:List α,(l.all fun x=>p x&&q x)=(l.all p&&l.all q)
 | []=>rfl
 | a :: r=>by simp only[List.all_cons,zZK p q r];cases p a<;>cases q a<;>cases r.all p<;>rfl
theorem isR_eq (sp:Pl.Spec):isR sp=zC2 sp:=by
 have hd1:(sp.defs.all fun d=>decide ((depX d.body:Int)≤100))=(sp.defs.all fun d=>decide (depX d.body≤100)):=by
  congr 1;funext d;rw[decide_eq_decide];omega
 have hd2:((Pl.exprs sp).all fun e=>ok sp (-1) [] e 0&&decide ((depX e:Int)≤100))=(((Pl.exprs sp).all fun e=>ok sp (-1) [] e 0)&&((Pl.exprs sp).all fun e=>decide (depX e≤100))):=by
  rw[zZK];congr 2;funext d;rw[decide_eq_decide];omega
 have hd3:decide (((cntXs (sp.defs.map (·.body))+cntXs (Pl.exprs sp):Nat):Int)≤3000)=decide (cntXs (sp.defs.map (·.body))+cntXs (Pl.exprs sp)≤3000):=by rw[decide_eq_decide];omega
 rw[isR,hd1,hd2,hd3,zC2]
 have hdm:Pl.distinct [] sp.models=true→(grpM sp.models [] sp.groups&&decide ((sp.groups.length:Int)≤10))=zDY sp:=zX0
 simp only[isHd,isMd,zM6]
 generalize (grpM sp.models [] sp.groups&&decide ((sp.groups.length:Int)≤10))=gm at *
 simp only[zA5 (sp.models.length),zA5 (sp.consts.length),zA5 1 (sp.vars.length),zA5 (sp.vars.length),zA5 (sp.defs.length),zA5 (sp.view.length),zA5 (sp.assume.length),zA5 (sp.fair.length),zA5 (sp.invs.length),zA5 (sp.cons.length),zA5 (sp.acons.length),zA5 (sp.props.length)]
 generalize decide ((40:Int)<sp.models.length)=b1
 generalize decide ((20:Int)<sp.consts.length)=b2
 generalize decide ((sp.vars.length:Int)<1)=b3
 generalize decide ((16:Int)<sp.vars.length)=b4
 generalize decide ((100:Int)<sp.defs.length)=b5
 generalize decide ((40:Int)<sp.assume.length)=b6
 generalize decide ((40:Int)<sp.fair.length)=b7
 generalize decide ((40:Int)<sp.invs.length)=b8
 generalize decide ((40:Int)<sp.cons.length)=b9
 generalize decide ((40:Int)<sp.acons.length)=b10
 generalize decide ((40:Int)<sp.props.length)=b11
 generalize decide ((1:Int)<sp.view.length)=b12
 generalize Pl.distinct [] sp.models=c1 at *
 generalize zDY sp=c2 at *
 generalize zDA sp.models (sp.consts.map (·.v))=c3
 generalize Pl.distinct [] (sp.consts.map (·.name))=c4
 generalize Pl.distinct [] (sp.vars.map (·.name))=c5
 generalize Pl.distinct [] (sp.invs.map (·.name))=c6
 generalize Pl.distinct [] (sp.props.map (·.name))=c7
 generalize defHeads [] sp.defs=c8
 generalize bodies sp 0 sp.defs=c9
 rw[Bool.eq_iff_iff]
 simp only[Bool.and_eq_true,Bool.not_eq_true',Bool.or_eq_false_iff,Bool.not_eq_false']
 constructor
 ·intro h;simp_all
 ·intro h;simp_all
theorem c174 {sp:Pl.Spec}{s:Sto}(hs:Sm sp){Q:CR→Sto→Prop}(h:Q (.ret (.bool (zC2 sp))) s):C E1 174 [zAX sp] s Q:=by
 obtain⟨a1,a2,a3,a4,a5,a6,a7,a8,a9,a10,a11,a12,a13,a14,a15,a16,a17,a18,a19,a20,a21,a22,a23,a24,a25⟩:=hs
 rw[← isR_eq,isR] at h
 refine zAF (md:=⟨true,false,false,false⟩) (fn:=Tryz.f174) (n:=156) (rs:=[.tmp 2]) rfl rfl rfl rfl rfl rfl rfl (by simp only[go_sem, *];try rfl) (by rfl) (by simp only[go_sem]) ?_
 repeat' (first|refine c250 a2 ?_|(refine zEN (fun Q h=>c251 a4 a5 a8 a9 a15 a16 a17 a18 a3 a19 h) ?_ ?_;focus (intro hs;(try simp only[nbs] at hs);simp (disch:=first|assumption|omega) only[go_sem, *];first|done|rfl))|(refine zEN (fun Q h=>c252 a13 a14 a3 h) ?_ ?_;focus (intro hs;(try simp only[nbs] at hs);simp (disch:=first|assumption|omega) only[go_sem, *];first|done|rfl))|(refine zEN (fun Q h=>c253 a1 a3 a4 a5 a20 a21 a22 h) ?_ ?_;focus (intro hs;(try simp only[nbs] at hs);simp (disch:=first|assumption|omega) only[go_sem, *];first|done|rfl))|simp (disch:=first|assumption|omega) only[go_sem, *]|((first|apply gw_m|apply gw_q);focus (intro hs;(try simp only[nbs] at hs);simp (disch:=first|assumption|omega) only[go_sem, *];rfl))|((first|refine zAB ?_ ?_|refine zAA ?_ ?_|refine sp_C ?_ ?_|refine sp_G ?_ ?_)<;>(intro hs;try simp only[nbs] at hs)))
 ·rw[show isHd sp=true from hs] at h;exact h
 ·rw[show isMd sp=true from hs,Bool.not_true,Bool.and_false,Bool.false_and,Bool.false_and,Bool.false_and] at h;exact h
 rename_i hs1
 have hhd:isHd sp=false:=by
  rw[isHd]
  simp only[Bool.or_eq_false_iff,decide_eq_false_iff_not]
  exact hs1
 have hmd:isMd sp=false:=by
  rw[isMd]
  simp only[Bool.or_eq_false_iff,Bool.and_eq_true,Bool.not_eq_false']
  clear h
  simp_all
 rw[hhd,hmd,Bool.not_false,Bool.true_and,Bool.true_and] at h
 clear hs hs1 hhd hmd
 have hct:∀(l:List X) i,cntXs (l.take i)≤cntXs l:=fun l i=>by
  have:=cntXs_append (l.take i) (l.drop i)
  rw[List.take_append_drop] at this
  omega
 refine zAL (ι:=Nat) (fun i=>[(1,.ptr 0 0),(3,.int .i64 (cntXs ((sp.defs.map (·.body)).take i):Nat)),(4,.int .i64 i)]) (fun _=>S 1 (updB g0 0 (.cells 40 (zAE sp))) []) (fun i=>i≤sp.defs.length∧(sp.defs.all fun d=>decide ((depX d.body:Int)≤100))=((sp.defs.drop i).all fun d=>decide ((depX d.body:Int)≤100))) (fun i=>sp.defs.length-i) ?_ 0 ⟨Nat.zero_le _,rfl⟩ ⟨rfl,rfl,rfl,trivial⟩ rfl
 rintro i b ⟨hi,he⟩ hrec
 rcases Nat.lt_or_ge i sp.defs.length with hlt|hge
 ·have hc:decide ((i:Int)<sp.defs.length)=true:=decide_eq_true (by omega)
  have hx:sp.defs[i]?=some sp.defs[i]:=List.getElem?_eq_getElem hlt
  have hb:=a22 _ (List.getElem_mem hlt)
  have hcl:=hct (sp.defs.map (·.body)) i
  rw[List.drop_eq_getElem_cons hlt,List.all_cons] at he
  have hnx:cntXs ((sp.defs.map (·.body)).take i)+cntX sp.defs[i].body=cntXs ((sp.defs.map (·.body)).take (i+1)):=by
   rw[List.take_succ_eq_append_getElem (by rw[List.length_map];exact hlt),cntXs_append,List.getElem_map];rfl
  generalize sp.defs[i]=d at *
  have h254:=fun(s:Sto) (Q:CR→Sto→Prop) hQ=>c254 (a:=cntXs ((sp.defs.map (·.body)).take i)) (e:=d.body) (s:=s) (by omega) hb (Q:=Q) hQ
  rw[hnx] at h254
  clear hnx
  repeat' (first|refine h254 _ _ ?_|simp (disch:=first|assumption|omega) only[go_sem, *]|((first|apply gw_m|apply gw_q);focus (intro hs;(try simp only[nbs] at hs);simp (disch:=first|assumption|omega) only[go_sem, *];rfl))|((first|refine zAB ?_ ?_|refine zAA ?_ ?_|refine sp_C ?_ ?_|refine sp_G ?_ ?_)<;>(intro hs;try simp only[nbs] at hs)))
  ·rw[decide_eq_false (by omega),Bool.false_and] at he
   rw[he] at h
   exact h
  ·rw[decide_eq_true (by omega),Bool.true_and] at he
   exact hrec (i+1) _ _ _ ⟨hlt,he⟩ (by omega) ⟨rfl,rfl,congrArg (fun z=>some (AV.int .i64 z)) (by omega),trivial⟩ rfl
 have hc:decide ((i:Int)<sp.defs.length)=false:=decide_eq_false (by omega)
 clear hrec
 rw[List.drop_eq_nil_of_le hge,List.all_nil] at he
 rw[he,Bool.true_and] at h
 rw[List.take_of_length_le (by rw[List.length_map];exact hge)]
 clear he hi hge
 obtain⟨N0,hN0⟩:∃N0,cntXs (sp.defs.map (·.body))=N0:=⟨_,rfl⟩
 rw[hN0] at h a25 ⊢
 repeat' (first|refine c255 a4 a6 a7 a8 a10 a11 a12 ?_|simp (disch:=first|assumption|omega) only[go_sem, *]|((first|apply gw_m|apply gw_q);focus (intro hs;(try simp only[nbs] at hs);simp (disch:=first|assumption|omega) only[go_sem, *];rfl))|((first|refine zAB ?_ ?_|refine zAA ?_ ?_|refine sp_C ?_ ?_|refine sp_G ?_ ?_)<;>(intro hs;try simp only[nbs] at hs)))
 obtain⟨l,hl⟩:∃l,Pl.exprs sp=l:=⟨_,rfl⟩
 rw[hl] at h a23 a24 a25 ⊢
 clear hc
 refine zAL (ι:=Nat) (fun i=>[(1,.ptr 0 0),(3,.int .i64 (N0+cntXs (l.take i):Nat)),(7,.sl 0 (l.map encX) .shut),(8,.int .i64 i)]) (fun _=>S 1 (updB g0 0 (.cells 40 (zAE sp))) []) (fun i=>i≤l.length∧(l.all fun e=>ok sp (-1) [] e 0&&decide ((depX e:Int)≤100))=((l.drop i).all fun e=>ok sp (-1) [] e 0&&decide ((depX e:Int)≤100))) (fun i=>l.length-i) ?_ 0 ⟨Nat.zero_le _,rfl⟩ ⟨rfl,rfl,rfl,rfl,trivial⟩ rfl
 clear hl
 rintro i b ⟨hi,he⟩ hrec
 rcases Nat.lt_or_ge i l.length with hlt|hge
 ·have hc:decide ((i:Int)<l.length)=true:=decide_eq_true (by omega)
  have hx:l[i]?=some l[i]:=List.getElem?_eq_getElem hlt
  have hb:=a23 _ (List.getElem_mem hlt)
  have hcl:=hct l i
  rw[List.drop_eq_getElem_cons hlt,List.all_cons] at he
  have hnx:N0+cntXs (l.take i)+cntX l[i]=N0+cntXs (l.take (i+1)):=by
   rw[List.take_succ_eq_append_getElem hlt,cntXs_append];simp only[cntXs];omega
  generalize l[i]=e at *
  have hr:∀(s:Sto) (Q:CR→Sto→Prop),(∀p:List Int,Q (.ret (.tuple [.sl 0 (p.map iv) .shut,.bool (!ok sp (-1) [] e 0)])) s)→C E1 256 [.agg (zDN sp (-1) [.sl 0 [] .nil]),encX e,.int .i64 0,.sl 0 [] .nil] s Q:=fun s Q hQ=>
   zHB (args1:=[zFY sp (-1) [],encX e,.int .i64 0,.sl 0 [] .shut]) (s1:=s) rfl rfl rfl (by simp only[zBT,zIH,zDF,zEQ,zV8,seal1];rfl) (by simp only[zBT,zIH,zDF,zEQ,zV7])
    (c256 (by omega) a1 a3 a4 a5 (fun n=>by have:=a20 n;omega) _ (path:=[]) (pv:=.sl 0 [] .shut) (s1:=s) rfl (Nat.lt_succ_self _) (by simp;omega) (by simp) hQ)
  have hbl:∀s,bld248 [(0,zAX sp),(1,.int .i64 (-1)),(2,.sl 0 [] .nil)] s=.val (.agg (zDN sp (-1) [.sl 0 [] .nil])) s:=fun s=>rfl
  have h254:=fun(s:Sto) (Q:CR→Sto→Prop) hQ=>c254 (a:=N0+cntXs (l.take i)) (e:=e) (s:=s) (by omega) hb (Q:=Q) hQ
  rw[hnx] at h254
  clear hnx
  repeat' (first|apply hr|simp (disch:=first|assumption|omega) only[go_sem, *]|((first|apply gw_m|apply gw_q);focus (intro hs;(try simp only[nbs] at hs);simp (disch:=first|assumption|omega) only[go_sem, *];rfl))|((first|refine zAB ?_ ?_|refine zAA ?_ ?_|refine sp_C ?_ ?_|refine sp_G ?_ ?_)<;>(intro hs;try simp only[nbs] at hs)))
  intro p
  clear hr hbl
  generalize ok sp (-1) [] e 0=okb at *
  cases okb with
  | false=>
   rw[Bool.false_and,Bool.false_and] at he
   rw[he] at h
   clear hrec h254
   repeat' (first|simp (disch:=first|assumption|omega) only[go_sem, *]|((first|apply gw_m|apply gw_q);focus (intro hs;(try simp only[nbs] at hs);simp (disch:=first|assumption|omega) only[go_sem, *];rfl))|((first|refine zAB ?_ ?_|refine zAA ?_ ?_|refine sp_C ?_ ?_|refine sp_G ?_ ?_)<;>(intro hs;try simp only[nbs] at hs)))
   all_goals exact h
  | true=>
   rw[Bool.true_and] at he
   repeat' (first|refine h254 _ _ ?_|simp (disch:=first|assumption|omega) only[go_sem, *]|((first|apply gw_m|apply gw_q);focus (intro hs;(try simp only[nbs] at hs);simp (disch:=first|assumption|omega) only[go_sem, *];rfl))|((first|refine zAB ?_ ?_|refine zAA ?_ ?_|refine sp_C ?_ ?_|refine sp_G ?_ ?_)<;>(intro hs;try simp only[nbs] at hs)))
   ·rw[decide_eq_false (by omega),Bool.false_and] at he
    rw[he] at h
    exact h
   ·rw[decide_eq_true (by omega),Bool.true_and] at he
    exact hrec (i+1) _ _ _ ⟨hlt,he⟩ (by omega) ⟨rfl,rfl,rfl,congrArg (fun z=>some (AV.int .i64 z)) (by omega),trivial⟩ rfl
 ·have hc:decide ((i:Int)<l.length)=false:=decide_eq_false (by omega)
  clear hrec
  rw[List.drop_eq_nil_of_le hge,List.all_nil] at he
  rw[he,Bool.true_and] at h
  rw[List.take_of_length_le hge]
  clear he hi hge
  repeat' (first|simp (disch:=first|assumption|omega) only[go_sem, *]|((first|apply gw_m|apply gw_q);focus (intro hs;(try simp only[nbs] at hs);simp (disch:=first|assumption|omega) only[go_sem, *];rfl))|((first|refine zAB ?_ ?_|refine zAA ?_ ?_|refine sp_C ?_ ?_|refine sp_G ?_ ?_)<;>(intro hs;try simp only[nbs] at hs)))
theorem c82 {sp:Pl.Spec}{s:Sto}(hs:Sm sp){Q:CR→Sto→Prop}(h:Q (.ret (.int .i64 (if zC2 sp=true then 0 else 6))) s):C E1 82 [zAX sp] s Q:=by
 have h174:=fun(s:Sto) (Q:CR→Sto→Prop) hQ=>c174 (s:=s) hs (Q:=Q) hQ
 clear hs
 refine zAF (md:=⟨true,false,false,false⟩) (fn:=Tryz.f82) (n:=6) (rs:=[.tmp 2]) rfl rfl rfl rfl rfl rfl rfl (by simp only[go_sem, *];try rfl) (by rfl) (by simp only[go_sem]) ?_
 repeat' (first|refine h174 _ _ ?_|simp (disch:=first|assumption|omega) only[go_sem, *]|((first|apply gw_m|apply gw_q);focus (intro hs;(try simp only[nbs] at hs);simp (disch:=first|assumption|omega) only[go_sem, *];rfl))|((first|refine zAB ?_ ?_|refine zAA ?_ ?_|refine sp_C ?_ ?_|refine sp_G ?_ ?_)<;>(intro hs;try simp only[nbs] at hs)))
 all_goals (rw[hs] at h;exact h)
theorem c86 {sp:Pl.Spec}{e:X}{n:Int}{s:Sto}(hs:Sm sp)(he:szX e<1073741824){Q:CR→Sto→Prop}(h:Q (.ret (.int .i64 (if zC2 sp=false then 6 else if n<0∨40<n then 1 else if(ok sp (-1) (zeros n) e 0&&decide (cntX e≤3000)&&decide (depX e≤100))=false then 5 else 0))) s):C E1 86 [zAX sp,encX e,.int .i64 n] s Q:=by
 have h174:=fun(s:Sto) (Q:CR→Sto→Prop) hQ=>c174 (s:=s) hs (Q:=Q) hQ
 have h177:=fun(hn:n<100000) (s:Sto) (Q:CR→Sto→Prop) hQ=>c177 (sp:=sp) (e:=e) (n:=n) (s:=s) hs.defs hs.modn hs.vars hs.consts (fun n=>by have:=hs.params n;omega) he hn (Q:=Q) hQ
 clear hs
 generalize zC2 sp=wo at *
 generalize (ok sp (-1) (zeros n) e 0&&decide (cntX e≤3000)&&decide (depX e≤100))=eo at *
 refine zAF (md:=⟨true,false,false,false⟩) (fn:=Tryz.f86) (n:=21) (rs:=[.tmp 6]) rfl rfl rfl rfl rfl rfl rfl (by simp only[go_sem, *];try rfl) (by rfl) (by simp only[go_sem]) ?_
 repeat' (first|refine h174 _ _ ?_|refine h177 (by omega) _ _ ?_|simp (disch:=first|assumption|omega) only[go_sem, *]|((first|apply gw_m|apply gw_q);focus (intro hs;(try simp only[nbs] at hs);simp (disch:=first|assumption|omega) only[go_sem, *];rfl))|((first|refine zAB ?_ ?_|refine zAA ?_ ?_|refine sp_C ?_ ?_|refine sp_G ?_ ?_)<;>(intro hs;try simp only[nbs] at hs)))
 ·rw[if_pos hs] at h;exact h
 ·subst wo
  rw[if_neg (fun h=>nomatch h),if_pos (by simpa only[Bool.or_eq_true,decide_eq_true_eq] using hs)] at h;exact h
 ·subst wo eo
  rw[if_neg (fun h=>nomatch h),if_neg (by omega),if_pos rfl] at h;exact h
 ·subst wo eo
  rw[if_neg (fun h=>nomatch h),if_neg (by omega),if_neg (fun h=>nomatch h)] at h;exact h
def zQ9 (sp:Pl.Spec):Bool:=
 !(!zC2 sp||!lits sp.init||!lits sp.next||!litsL sp.assume||!litsL sp.cons||!litsL sp.acons||!litsL sp.view)&&(sp.consts.all fun x=>zCA x.v)&&(sp.vars.all fun x=>lits x.typ)&&(sp.defs.all fun x=>lits x.body)&&(sp.fair.all fun x=>lits x.a&&lits x.sub)&&(sp.invs.all fun x=>lits x.e)
theorem flat_lits:∀l:List Pl.Fair,((l.flatMap fun x=>[x.a,x.sub]).all lits)=(l.all fun x=>lits x.a&&lits x.sub)
 | []=>rfl
 | x :: r=>by rw[List.flatMap_cons,List.all_append,flat_lits r,List.all_cons];simp only[List.all_cons,List.all_nil,Bool.and_true]
theorem zUT (sp:Pl.Spec):zQ9 sp=zHR sp:=by
 have h1:((Pl.exprs sp).all lits)=((sp.vars.all fun x=>lits x.typ)&&sp.assume.all lits&&(lits sp.init&&lits sp.next)&&(sp.fair.all fun x=>lits x.a&&lits x.sub)&&(sp.invs.all fun x=>lits x.e)&&sp.cons.all lits&&sp.acons.all lits&&sp.view.all lits):=by
  rw[Pl.exprs]
  simp only[List.all_append,List.all_map,flat_lits,List.all_cons,List.all_nil,Bool.and_true]
  rfl
 rw[zQ9,zHR,h1]
 simp only[zLD]
 generalize zC2 sp=a1
 generalize lits sp.init=a2
 generalize lits sp.next=a3
 generalize sp.assume.all lits=a4
 generalize sp.cons.all lits=a5
 generalize sp.acons.all lits=a6
 generalize sp.view.all lits=a7
 generalize (sp.vars.all fun x=>lits x.typ)=a8
 generalize (sp.fair.all fun x=>lits x.a&&lits x.sub)=a9
 generalize (sp.invs.all fun x=>lits x.e)=a10
 generalize (sp.consts.all fun x=>zCA x.v)=a11
 generalize (sp.defs.all fun x=>lits x.body)=a12
 rw[Bool.eq_iff_iff]
 simp only[Bool.and_eq_true,Bool.not_eq_true',Bool.or_eq_false_iff,Bool.not_eq_false']
 constructor
 ·intro h;simp_all
 ·intro h;simp_all
structure Sl (sp:Pl.Spec):Prop where
 init:szX sp.init<1073741824
 next:szX sp.next<1073741824
 assume:szXs sp.assume<1073741824
 cons:szXs sp.cons<1073741824
 acons:szXs sp.acons<1073741824
 view:szXs sp.view<1073741824
 typ:∀x∈sp.vars,szX x.typ<1073741824
 fa:∀x∈sp.fair,szX x.a<1073741824
 fs:∀x∈sp.fair,szX x.sub<1073741824
 inv:∀x∈sp.invs,szX x.e<1073741824
theorem c38 {sp:Pl.Spec}{s:Sto}(hs:Sm sp)(hl:Sl sp){Q:CR→Sto→Prop}(h:Q (.ret (.bool (zHR sp))) s):C E1 38 [zAX sp] s Q:=by
 have h82:=fun(s:Sto) (Q:CR→Sto→Prop) hQ=>c82 (s:=s) hs (Q:=Q) hQ
 have l1:=hs.consts
 have l2:=hs.vars
 have l3:=hs.defs
 have l4:=hs.fair
 have l5:=hs.invs
 have hcv:=hs.cvals
 have hdb:=hs.bodies
 clear hs
 have lt:∀(e:X),szX e<1073741824→∀(s:Sto) (Q:CR→Sto→Prop),Q (.ret (.bool (lits e))) s→C E1 83 [encX e] s Q:=fun e he s Q hQ=>c83 (szX e+1) (by omega) (by omega) hQ
 have ll:∀(l:List X),szXs l<1073741824→∀(s:Sto) (Q:CR→Sto→Prop),Q (.ret (.bool (litsL l))) s→C E1 84 [.sl 0 (l.map encX) .shut] s Q:=fun l he s Q hQ=>c84 (by omega) (by rw[zLD] at hQ;exact hQ)
 have lv:∀(v:V),szV v<1073741824→∀(s:Sto) (Q:CR→Sto→Prop),Q (.ret (.bool (zCA v))) s→C E1 85 [encV v] s Q:=fun v he s Q hQ=>c85 (by omega) hQ
 rw[← zUT,zQ9] at h
 have hi:=lt _ hl.init
 have hn:=lt _ hl.next
 have ha:=ll _ hl.assume
 have hc:=ll _ hl.cons
 have hac:=ll _ hl.acons
 have hv:=ll _ hl.view
 refine zAF (md:=⟨true,false,false,false⟩) (fn:=Tryz.f38) (n:=132) (rs:=[.tmp 2]) rfl rfl rfl rfl rfl rfl rfl (by simp only[go_sem, *];try rfl) (by rfl) (by simp only[go_sem]) ?_
 repeat' (first|refine h82 _ _ ?_|(refine zEN (fun Q h=>hi _ _ h) ?_ ?_;focus (intro hs;(try simp only[nbs] at hs);simp (disch:=first|assumption|omega) only[go_sem, *];first|done|rfl))|(refine zEN (fun Q h=>hn _ _ h) ?_ ?_;focus (intro hs;(try simp only[nbs] at hs);simp (disch:=first|assumption|omega) only[go_sem, *];first|done|rfl))|(refine zEN (fun Q h=>ha _ _ h) ?_ ?_;focus (intro hs;(try simp only[nbs] at hs);simp (disch:=first|assumption|omega) only[go_sem, *];first|done|rfl))|(refine zEN (fun Q h=>hc _ _ h) ?_ ?_;focus (intro hs;(try simp only[nbs] at hs);simp (disch:=first|assumption|omega) only[go_sem, *];first|done|rfl))|(refine zEN (fun Q h=>hac _ _ h) ?_ ?_;focus (intro hs;(try simp only[nbs] at hs);simp (disch:=first|assumption|omega) only[go_sem, *];first|done|rfl))|(refine zEN (fun Q h=>hv _ _ h) ?_ ?_;focus (intro hs;(try simp only[nbs] at hs);simp (disch:=first|assumption|omega) only[go_sem, *];first|done|rfl))|simp (disch:=first|assumption|omega) only[go_sem, *]|((first|apply gw_m|apply gw_q);focus (intro hs;(try simp only[nbs] at hs);simp (disch:=first|assumption|omega) only[go_sem, *];rfl))|((first|refine zAB ?_ ?_|refine zAA ?_ ?_|refine sp_C ?_ ?_|refine sp_G ?_ ?_)<;>(intro hs;try simp only[nbs] at hs)))
 ·have e:(!zC2 sp||!lits sp.init||!lits sp.next||!litsL sp.assume||!litsL sp.cons||!litsL sp.acons||!litsL sp.view)=true:=by
   clear h h82 hi hn ha hc hac hv lt ll lv
   generalize zC2 sp=w at *
   cases w<;>simp_all
  rw[e] at h;exact h
 have e:(!zC2 sp||!lits sp.init||!lits sp.next||!litsL sp.assume||!litsL sp.cons||!litsL sp.acons||!litsL sp.view)=false:=by
  clear h h82 hi hn ha hc hac hv lt ll lv
  generalize zC2 sp=w at *
  cases w<;>simp_all
 rw[e,Bool.not_false,Bool.true_and] at h
 clear e hs h82 hi hn ha hc hac hv ll
 refine zAL (ι:=Nat) (fun i=>[(1,.ptr 0 0),(3,.int .i64 i)]) (fun _=>S 1 (updB g0 0 (.cells 40 (zAE sp))) []) (fun i=>i≤sp.consts.length∧(sp.consts.all fun x=>zCA x.v)=((sp.consts.drop i).all fun x=>zCA x.v)) (fun i=>sp.consts.length-i) ?_ 0 ⟨Nat.zero_le _,rfl⟩ ⟨rfl,rfl,trivial⟩ rfl
 rintro i b ⟨hi,he⟩ hrec
 rcases Nat.lt_or_ge i sp.consts.length with hlt|hge
 ·have hc:decide ((i:Int)<sp.consts.length)=true:=decide_eq_true (by omega)
  have hx:sp.consts[i]?=some sp.consts[i]:=List.getElem?_eq_getElem hlt
  have hb:=lv _ (hcv _ (List.getElem_mem hlt))
  rw[List.drop_eq_getElem_cons hlt,List.all_cons] at he
  generalize sp.consts[i]=x at *
  clear lt lv
  repeat' (first|refine hb _ _ ?_|simp (disch:=first|assumption|omega) only[go_sem, *]|((first|apply gw_m|apply gw_q);focus (intro hs;(try simp only[nbs] at hs);simp (disch:=first|assumption|omega) only[go_sem, *];rfl))|((first|refine zAB ?_ ?_|refine zAA ?_ ?_|refine sp_C ?_ ?_|refine sp_G ?_ ?_)<;>(intro hs;try simp only[nbs] at hs)))
  ·rw[hs,Bool.false_and] at he
   rw[he] at h
   exact leaf h (congrArg AV.bool (by simp))
  ·rw[hs,Bool.true_and] at he
   exact hrec (i+1) _ _ _ ⟨hlt,he⟩ (by omega) ⟨rfl,congrArg (fun z=>some (AV.int .i64 z)) (by omega),trivial⟩ rfl
 have hc:decide ((i:Int)<sp.consts.length)=false:=decide_eq_false (by omega)
 clear hrec
 rw[List.drop_eq_nil_of_le hge,List.all_nil] at he
 rw[he] at h
 rw[Bool.true_and] at h
 clear he hi hge
 repeat' (first|simp (disch:=first|assumption|omega) only[go_sem, *]|((first|apply gw_m|apply gw_q);focus (intro hs;(try simp only[nbs] at hs);simp (disch:=first|assumption|omega) only[go_sem, *];rfl))|((first|refine zAB ?_ ?_|refine zAA ?_ ?_|refine sp_C ?_ ?_|refine sp_G ?_ ?_)<;>(intro hs;try simp only[nbs] at hs)))
 clear hc
 refine zAL (ι:=Nat) (fun i=>[(1,.ptr 0 0),(4,.int .i64 i)]) (fun _=>S 1 (updB g0 0 (.cells 40 (zAE sp))) []) (fun i=>i≤sp.vars.length∧(sp.vars.all fun x=>lits x.typ)=((sp.vars.drop i).all fun x=>lits x.typ)) (fun i=>sp.vars.length-i) ?_ 0 ⟨Nat.zero_le _,rfl⟩ ⟨rfl,rfl,trivial⟩ rfl
 rintro i b ⟨hi,he⟩ hrec
 rcases Nat.lt_or_ge i sp.vars.length with hlt|hge
 ·have hc:decide ((i:Int)<sp.vars.length)=true:=decide_eq_true (by omega)
  have hx:sp.vars[i]?=some sp.vars[i]:=List.getElem?_eq_getElem hlt
  have hb:=lt _ (hl.typ _ (List.getElem_mem hlt))
  rw[List.drop_eq_getElem_cons hlt,List.all_cons] at he
  generalize sp.vars[i]=x at *
  clear lt lv
  repeat' (first|refine hb _ _ ?_|simp (disch:=first|assumption|omega) only[go_sem, *]|((first|apply gw_m|apply gw_q);focus (intro hs;(try simp only[nbs] at hs);simp (disch:=first|assumption|omega) only[go_sem, *];rfl))|((first|refine zAB ?_ ?_|refine zAA ?_ ?_|refine sp_C ?_ ?_|refine sp_G ?_ ?_)<;>(intro hs;try simp only[nbs] at hs)))
  ·rw[hs,Bool.false_and] at he
   rw[he] at h
   exact leaf h (congrArg AV.bool (by simp))
  ·rw[hs,Bool.true_and] at he
   exact hrec (i+1) _ _ _ ⟨hlt,he⟩ (by omega) ⟨rfl,congrArg (fun z=>some (AV.int .i64 z)) (by omega),trivial⟩ rfl
 have hc:decide ((i:Int)<sp.vars.length)=false:=decide_eq_false (by omega)
 clear hrec
 rw[List.drop_eq_nil_of_le hge,List.all_nil] at he
 rw[he] at h
 rw[Bool.true_and] at h
 clear he hi hge
 repeat' (first|simp (disch:=first|assumption|omega) only[go_sem, *]|((first|apply gw_m|apply gw_q);focus (intro hs;(try simp only[nbs] at hs);simp (disch:=first|assumption|omega) only[go_sem, *];rfl))|((first|refine zAB ?_ ?_|refine zAA ?_ ?_|refine sp_C ?_ ?_|refine sp_G ?_ ?_)<;>(intro hs;try simp only[nbs] at hs)))
 clear hc
 refine zAL (ι:=Nat) (fun i=>[(1,.ptr 0 0),(5,.int .i64 i)]) (fun _=>S 1 (updB g0 0 (.cells 40 (zAE sp))) []) (fun i=>i≤sp.defs.length∧(sp.defs.all fun x=>lits x.body)=((sp.defs.drop i).all fun x=>lits x.body)) (fun i=>sp.defs.length-i) ?_ 0 ⟨Nat.zero_le _,rfl⟩ ⟨rfl,rfl,trivial⟩ rfl
 rintro i b ⟨hi,he⟩ hrec
 rcases Nat.lt_or_ge i sp.defs.length with hlt|hge
 ·have hc:decide ((i:Int)<sp.defs.length)=true:=decide_eq_true (by omega)
  have hx:sp.defs[i]?=some sp.defs[i]:=List.getElem?_eq_getElem hlt
  have hb:=lt _ (hdb _ (List.getElem_mem hlt))
  rw[List.drop_eq_getElem_cons hlt,List.all_cons] at he
  generalize sp.defs[i]=x at *
  clear lt lv
  repeat' (first|refine hb _ _ ?_|simp (disch:=first|assumption|omega) only[go_sem, *]|((first|apply gw_m|apply gw_q);focus (intro hs;(try simp only[nbs] at hs);simp (disch:=first|assumption|omega) only[go_sem, *];rfl))|((first|refine zAB ?_ ?_|refine zAA ?_ ?_|refine sp_C ?_ ?_|refine sp_G ?_ ?_)<;>(intro hs;try simp only[nbs] at hs)))
  ·rw[hs,Bool.false_and] at he
   rw[he] at h
   exact leaf h (congrArg AV.bool (by simp))
  ·rw[hs,Bool.true_and] at he
   exact hrec (i+1) _ _ _ ⟨hlt,he⟩ (by omega) ⟨rfl,congrArg (fun z=>some (AV.int .i64 z)) (by omega),trivial⟩ rfl
 have hc:decide ((i:Int)<sp.defs.length)=false:=decide_eq_false (by omega)
 clear hrec
 rw[List.drop_eq_nil_of_le hge,List.all_nil] at he
 rw[he] at h
 rw[Bool.true_and] at h
 clear he hi hge
 repeat' (first|simp (disch:=first|assumption|omega) only[go_sem, *]|((first|apply gw_m|apply gw_q);focus (intro hs;(try simp only[nbs] at hs);simp (disch:=first|assumption|omega) only[go_sem, *];rfl))|((first|refine zAB ?_ ?_|refine zAA ?_ ?_|refine sp_C ?_ ?_|refine sp_G ?_ ?_)<;>(intro hs;try simp only[nbs] at hs)))
 clear hc
 refine zAL (ι:=Nat) (fun i=>[(1,.ptr 0 0),(6,.int .i64 i)]) (fun _=>S 1 (updB g0 0 (.cells 40 (zAE sp))) []) (fun i=>i≤sp.fair.length∧(sp.fair.all fun x=>(lits x.a&&lits x.sub))=((sp.fair.drop i).all fun x=>(lits x.a&&lits x.sub))) (fun i=>sp.fair.length-i) ?_ 0 ⟨Nat.zero_le _,rfl⟩ ⟨rfl,rfl,trivial⟩ rfl
 rintro i b ⟨hi,he⟩ hrec
 rcases Nat.lt_or_ge i sp.fair.length with hlt|hge
 ·have hc:decide ((i:Int)<sp.fair.length)=true:=decide_eq_true (by omega)
  have hx:sp.fair[i]?=some sp.fair[i]:=List.getElem?_eq_getElem hlt
  have hb:=lt _ (hl.fa _ (List.getElem_mem hlt))
  have hb2:=lt _ (hl.fs _ (List.getElem_mem hlt))
  rw[List.drop_eq_getElem_cons hlt,List.all_cons] at he
  generalize sp.fair[i]=x at *
  clear lt lv
  repeat' (first|refine hb _ _ ?_|(refine zEN (fun Q h=>hb2 _ _ h) ?_ ?_;focus (intro hs;(try simp only[nbs] at hs);simp (disch:=first|assumption|omega) only[go_sem, *];first|done|rfl))|simp (disch:=first|assumption|omega) only[go_sem, *]|((first|apply gw_m|apply gw_q);focus (intro hs;(try simp only[nbs] at hs);simp (disch:=first|assumption|omega) only[go_sem, *];rfl))|((first|refine zAB ?_ ?_|refine zAA ?_ ?_|refine sp_C ?_ ?_|refine sp_G ?_ ?_)<;>(intro hs;try simp only[nbs] at hs)))
  ·rw[show(lits x.a&&lits x.sub)=false from by(clear h hrec hb hb2;generalize lits x.a=p at *;generalize lits x.sub=q at *;cases p<;>cases q<;>simp_all),Bool.false_and] at he
   rw[he] at h
   exact leaf h (congrArg AV.bool (by simp))
  ·rw[show(lits x.a&&lits x.sub)=true from by(clear h hrec hb hb2;generalize lits x.a=p at *;generalize lits x.sub=q at *;cases p<;>cases q<;>simp_all),Bool.true_and] at he
   exact hrec (i+1) _ _ _ ⟨hlt,he⟩ (by omega) ⟨rfl,congrArg (fun z=>some (AV.int .i64 z)) (by omega),trivial⟩ rfl
 have hc:decide ((i:Int)<sp.fair.length)=false:=decide_eq_false (by omega)
 clear hrec
 rw[List.drop_eq_nil_of_le hge,List.all_nil] at he
 rw[he] at h
 rw[Bool.true_and] at h
 clear he hi hge
 repeat' (first|simp (disch:=first|assumption|omega) only[go_sem, *]|((first|apply gw_m|apply gw_q);focus (intro hs;(try simp only[nbs] at hs);simp (disch:=first|assumption|omega) only[go_sem, *];rfl))|((first|refine zAB ?_ ?_|refine zAA ?_ ?_|refine sp_C ?_ ?_|refine sp_G ?_ ?_)<;>(intro hs;try simp only[nbs] at hs)))
 clear hc
 refine zAL (ι:=Nat) (fun i=>[(1,.ptr 0 0),(7,.int .i64 i)]) (fun _=>S 1 (updB g0 0 (.cells 40 (zAE sp))) []) (fun i=>i≤sp.invs.length∧(sp.invs.all fun x=>lits x.e)=((sp.invs.drop i).all fun x=>lits x.e)) (fun i=>sp.invs.length-i) ?_ 0 ⟨Nat.zero_le _,rfl⟩ ⟨rfl,rfl,trivial⟩ rfl
 rintro i b ⟨hi,he⟩ hrec
 rcases Nat.lt_or_ge i sp.invs.length with hlt|hge
 ·have hc:decide ((i:Int)<sp.invs.length)=true:=decide_eq_true (by omega)
  have hx:sp.invs[i]?=some sp.invs[i]:=List.getElem?_eq_getElem hlt
  have hb:=lt _ (hl.inv _ (List.getElem_mem hlt))
  rw[List.drop_eq_getElem_cons hlt,List.all_cons] at he
  generalize sp.invs[i]=x at *
  clear lt lv
  repeat' (first|refine hb _ _ ?_|simp (disch:=first|assumption|omega) only[go_sem, *]|((first|apply gw_m|apply gw_q);focus (intro hs;(try simp only[nbs] at hs);simp (disch:=first|assumption|omega) only[go_sem, *];rfl))|((first|refine zAB ?_ ?_|refine zAA ?_ ?_|refine sp_C ?_ ?_|refine sp_G ?_ ?_)<;>(intro hs;try simp only[nbs] at hs)))
  ·rw[hs,Bool.false_and] at he
   rw[he] at h
   exact leaf h (congrArg AV.bool (by simp))
  ·rw[hs,Bool.true_and] at he
   exact hrec (i+1) _ _ _ ⟨hlt,he⟩ (by omega) ⟨rfl,congrArg (fun z=>some (AV.int .i64 z)) (by omega),trivial⟩ rfl
 have hc:decide ((i:Int)<sp.invs.length)=false:=decide_eq_false (by omega)
 clear hrec
 rw[List.drop_eq_nil_of_le hge,List.all_nil] at he
 rw[he] at h
 skip
 clear he hi hge
 repeat' (first|simp (disch:=first|assumption|omega) only[go_sem, *]|((first|apply gw_m|apply gw_q);focus (intro hs;(try simp only[nbs] at hs);simp (disch:=first|assumption|omega) only[go_sem, *];rfl))|((first|refine zAB ?_ ?_|refine zAA ?_ ?_|refine sp_C ?_ ?_|refine sp_G ?_ ?_)<;>(intro hs;try simp only[nbs] at hs)))
theorem c7 {sp:Pl.Spec}{s:Sto}(hs:Sm sp)(hl:Sl sp){Q:CR→Sto→Prop}(h:Q (.ret (.int .i64 (Pl.check sp))) s):C E1 7 [zAX sp] s Q:=by
 have h38:=fun(s:Sto) (Q:CR→Sto→Prop) hQ=>c38 (s:=s) hs hl (Q:=Q) hQ
 rw[Pl.check] at h
 clear hs hl
 refine zAF (md:=⟨true,false,false,false⟩) (fn:=Tryz.f7) (n:=6) (rs:=[.tmp 2]) rfl rfl rfl rfl rfl rfl rfl (by simp only[go_sem, *];try rfl) (by rfl) (by simp only[go_sem]) ?_
 repeat' (first|refine h38 _ _ ?_|simp (disch:=first|assumption|omega) only[go_sem, *]|((first|apply gw_m|apply gw_q);focus (intro hs;(try simp only[nbs] at hs);simp (disch:=first|assumption|omega) only[go_sem, *];rfl))|((first|refine zAB ?_ ?_|refine zAA ?_ ?_|refine sp_C ?_ ?_|refine sp_G ?_ ?_)<;>(intro hs;try simp only[nbs] at hs)))
 ·rw[hs] at h;exact h
 ·rw[hs] at h;exact h
theorem c40 {sp:Pl.Spec}{e:X}{n:Int}{s:Sto}(hs:Sm sp)(he:szX e<1073741824)(hw:zC2 sp=true)(h0:0≤n)(h1:n≤40){Q:CR→Sto→Prop}(h:Q (.ret (.bool (zNC sp e n))) s):C E1 40 [zAX sp,encX e,.int .i64 n] s Q:=by
 have h86:=fun(s:Sto) (Q:CR→Sto→Prop) hQ=>c86 (e:=e) (n:=n) (s:=s) hs he (Q:=Q) hQ
 rw[hw,if_neg (fun h=>nomatch h),if_neg (by omega)] at h86
 rw[zNC] at h
 have lt:∀(s:Sto) (Q:CR→Sto→Prop),Q (.ret (.bool (lits e))) s→C E1 83 [encX e] s Q:=fun s Q hQ=>c83 (szX e+1) (by omega) (by omega) hQ
 clear hs
 generalize (ok sp (-1) (zeros n) e 0&&decide (cntX e≤3000)&&decide (depX e≤100))=eo at *
 refine zAF (md:=⟨true,false,false,false⟩) (fn:=Tryz.f40) (n:=16) (rs:=[.tmp 6]) rfl rfl rfl rfl rfl rfl rfl (by simp only[go_sem, *];try rfl) (by rfl) (by simp only[go_sem]) ?_
 repeat' (first|refine h86 _ _ ?_|(refine zEN (fun Q h=>lt _ _ h) ?_ ?_;focus (intro hs;(try simp only[nbs] at hs);simp (disch:=first|assumption|omega) only[go_sem, *];first|done|rfl))|simp (disch:=first|assumption|omega) only[go_sem, *]|((first|apply gw_m|apply gw_q);focus (intro hs;(try simp only[nbs] at hs);simp (disch:=first|assumption|omega) only[go_sem, *];rfl))|((first|refine zAB ?_ ?_|refine zAA ?_ ?_|refine sp_C ?_ ?_|refine sp_G ?_ ?_)<;>(intro hs;try simp only[nbs] at hs)))
 exact zA1 h (by(try clear hrec);(try clear h);cases eo<;>rfl)
theorem c9 {sp:Pl.Spec}{e:X}{n:Int}{s:Sto}(hs:Sm sp)(hl:Sl sp)(he:szX e<1073741824){Q:CR→Sto→Prop}(h:Q (.ret (.int .i64 (Pl.checkExpr sp e n))) s):C E1 9 [zAX sp,encX e,.int .i64 n] s Q:=by
 have h38:=fun(s:Sto) (Q:CR→Sto→Prop) hQ=>c38 (s:=s) hs hl (Q:=Q) hQ
 have h40:=fun(hw:zHR sp=true) (h0:0≤n) (h1:n≤40) (s:Sto) (Q:CR→Sto→Prop) hQ=>c40 (e:=e) (n:=n) (s:=s) hs he (by rw[zHR] at hw;simp only[Bool.and_eq_true] at hw;exact hw.1.1.1) h0 h1 (Q:=Q) hQ
 rw[Pl.checkExpr] at h
 clear hs hl
 cases hb:zHR sp with
 | false=>
  rw[hb,if_pos (by rfl)] at h
  clear h40
  refine zAF (md:=⟨true,false,false,false⟩) (fn:=Tryz.f9) (n:=21) (rs:=[.tmp 6]) rfl rfl rfl rfl rfl rfl rfl (by simp only[go_sem, *];try rfl) (by rfl) (by simp only[go_sem]) ?_
  repeat' (first|refine h38 _ _ ?_|simp (disch:=first|assumption|omega) only[go_sem, *]|((first|apply gw_m|apply gw_q);focus (intro hs;(try simp only[nbs] at hs);simp (disch:=first|assumption|omega) only[go_sem, *];rfl))|((first|refine zAB ?_ ?_|refine zAA ?_ ?_|refine sp_C ?_ ?_|refine sp_G ?_ ?_)<;>(intro hs;try simp only[nbs] at hs)))
 | true=>
  rw[hb,if_neg (fun h=>nomatch h)] at h
  have h40:=h40 hb
  refine zAF (md:=⟨true,false,false,false⟩) (fn:=Tryz.f9) (n:=21) (rs:=[.tmp 6]) rfl rfl rfl rfl rfl rfl rfl (by simp only[go_sem, *];try rfl) (by rfl) (by simp only[go_sem]) ?_
  repeat' (first|refine h38 _ _ ?_|refine h40 (by omega) (by omega) _ _ ?_|simp (disch:=first|assumption|omega) only[go_sem, *]|((first|apply gw_m|apply gw_q);focus (intro hs;(try simp only[nbs] at hs);simp (disch:=first|assumption|omega) only[go_sem, *];rfl))|((first|refine zAB ?_ ?_|refine zAA ?_ ?_|refine sp_C ?_ ?_|refine sp_G ?_ ?_)<;>(intro hs;try simp only[nbs] at hs)))
  ·rw[if_pos (by simpa only[Bool.or_eq_true,decide_eq_true_eq] using hs)] at h;exact h
  ·rw[if_neg (by omega),hs,if_pos (by rfl)] at h;exact h
  ·rw[if_neg (by omega),hs,if_neg (fun h=>nomatch h)] at h;exact h
end Go.Ab.X
end
