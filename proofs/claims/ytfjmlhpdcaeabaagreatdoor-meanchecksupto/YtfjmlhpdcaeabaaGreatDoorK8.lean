/- A part. -/
import Derived.Test.YtfjmlhpdcaeabaaGreatDoorK7
set_option linter.all false
noncomputable section
namespace Pl
def mayP (sp:Spec)(i:Nat)(d:Def)(n:Int):Bool:=decide (n<i)||(d.recu&&(sp.defs.getD n.toNat default).recu)
def zCJ (sp:Spec):Nat→List Def→Int→Bool×Int
 | _,[],nd=>(true,nd)
 | i,d :: r,nd=>match zD8 sp (mayP sp i d) d.params d.body 1 nd with
  | (true,nd')=>zCJ sp (i+1) r nd'
  | (false,nd')=>(false,nd')
def zFK (sp:Spec)(nd:Int):Bool×Int:=if defHeads [] sp.defs=true then zCJ sp 0 sp.defs nd else(false,nd)
end Pl
namespace Go.Ab.X
open Go Go.Ab Go.Proofs Pl
set_option maxRecDepth 100000
set_option maxHeartbeats 4000000
theorem c160 {n:Int}{m:Nat}{g:Nat→Box}{u:List (Nat×Nat)}(hu:zAS m u=true)(hu2:zAK m u=u){Q:CR→Sto→Prop}(h:Q (.ret (.bool (decide (n<0)||decide (8<n)))) (S m g u)):C E1 160 [iv n] (S m g u) Q:=by
 refine zAG (md:=⟨false,false,false,false⟩) (fn:=Tryz.f160) (n:=9) (rs:=[.tmp 2]) rfl rfl rfl rfl rfl rfl rfl (by simp only[go_sem, *];try rfl) (by rfl) ?_
 repeat' (first|simp (disch:=first|assumption|omega) only[go_sem, *]|((first|apply gw_m|apply gw_q);focus (intro hs;(try simp only[nbs] at hs);simp (disch:=first|assumption|omega) only[go_sem, *];rfl))|((first|refine zAB ?_ ?_|refine zAA ?_ ?_|refine sp_C ?_ ?_|refine sp_G ?_ ?_)<;>(intro hs;try simp only[nbs] at hs)))
def u8v (c:UInt8):AV:=.int .u8 c.toNat
theorem conv_sb (x:Str)(s:Sto):zHH E1 9 176 (some (.str x)) s=.val (.sl 0 (byteVs x) .shut) s:=rfl
attribute [go_sem] conv_sb
theorem byteVs_map:∀l:List UInt8,byteVs l=l.map u8v
 | []=>rfl
 | c :: r=>by rw[byteVs,byteVs_map r];rfl
theorem c162 {c:UInt8}{m:Nat}{g:Nat→Box}{u:List (Nat×Nat)}(hu:zAS m u=true)(hu2:zAK m u=u){Q:CR→Sto→Prop}(h:Q (.ret (.bool (decide ((c.toNat:Int)<33)||decide (126<(c.toNat:Int))))) (S m g u)):C E1 162 [u8v c] (S m g u) Q:=by
 unfold u8v
 refine zAG (md:=⟨false,false,false,false⟩) (fn:=Tryz.f162) (n:=9) (rs:=[.tmp 2]) rfl rfl rfl rfl rfl rfl rfl (by simp only[go_sem, *];try rfl) (by rfl) ?_
 repeat' (first|simp (disch:=first|assumption|omega) only[go_sem, *]|((first|apply gw_m|apply gw_q);focus (intro hs;(try simp only[nbs] at hs);simp (disch:=first|assumption|omega) only[go_sem, *];rfl))|((first|refine zAB ?_ ?_|refine zAA ?_ ?_|refine sp_C ?_ ?_|refine sp_G ?_ ?_)<;>(intro hs;try simp only[nbs] at hs)))
theorem c164 {d x:Pl.Def}{b:Nat}{m:Nat}{g:Nat→Box}{u:List (Nat×Nat)}(hu:zAS m u=true)(hu2:zAK m u=u)(hb:b<m)(hg:g b=.cells 110 (zBC d)){Q:CR→Sto→Prop}(h:Q (.ret (.bool (decide (x.name=d.name)))) (S m g u)):C E1 164 [zCH x,.ptr b 0] (S m g u) Q:=by
 refine zAG (md:=⟨false,false,false,false⟩) (fn:=Tryz.f164) (n:=9) (rs:=[.tmp 3]) rfl rfl rfl rfl rfl rfl rfl (by simp only[go_sem, *];try rfl) (by rfl) ?_
 repeat' (first|simp (disch:=first|assumption|omega) only[go_sem, *]|((first|apply gw_m|apply gw_q);focus (intro hs;(try simp only[nbs] at hs);simp (disch:=first|assumption|omega) only[go_sem, *];rfl))|((first|refine zAB ?_ ?_|refine zAA ?_ ?_|refine sp_C ?_ ?_|refine sp_G ?_ ?_)<;>(intro hs;try simp only[nbs] at hs)))
theorem c165 {sp:Pl.Spec}{d:Pl.Def}{i:Nat}{n:Int}{a b c:Nat}{m:Nat}{g:Nat→Box}{u:List (Nat×Nat)}(hu:zAS m u=true)(hu2:zAK m u=u)(ha:a<m)(hb:b<m)(hc:c<m)(hga:g a=.cells 3 [.int .i64 i])(hgb:g b=.cells 110 (zBC d))(hgc:g c=.cells 25 [.sl 0 (sp.defs.map zCH) .shut])
  (h0:0≤n) (h1:n<sp.defs.length) {Q:CR→Sto→Prop} (h:Q (.ret (.bool (mayP sp i d n))) (S m g u)):C E1 165 [.int .i64 n,.ptr a 0,.ptr b 0,.ptr c 0] (S m g u) Q:=by
 rw[mayP] at h
 have hx:=zL7 h0 h1
 refine zAG (md:=⟨false,false,false,false⟩) (fn:=Tryz.f165) (n:=20) (rs:=[.tmp 5]) rfl rfl rfl rfl rfl rfl rfl (by simp only[go_sem, *];try rfl) (by rfl) ?_
 repeat' (first|simp (disch:=first|assumption|omega) only[go_sem, *]|((first|apply gw_m|apply gw_q);focus (intro hs;(try simp only[nbs] at hs);simp (disch:=first|assumption|omega) only[go_sem, *];rfl))|((first|refine zAB ?_ ?_|refine zAA ?_ ?_|refine sp_C ?_ ?_|refine sp_G ?_ ?_)<;>(intro hs;try simp only[nbs] at hs)))
theorem c166 (sc:List Int)(hsc:sc.length<1073741824){m:Nat}{g:Nat→Box}{u:List (Nat×Nat)}(hu:zAS m u=true)(hu2:zAK m u=u) :
  ∃v m' g' g'',m≤m'∧(∀i,i<m→g' i=g i)∧(∀i,i<m→g'' i=g i)∧zA0 (S m' g' u) v=some (.sl 0 (sc.map iv) .shut,S m' g'' u)∧∀Q:CR→Sto→Prop,Q (.ret v) (S m' g' u)→C E1 166 [.sl 0 (sc.map iv) .shut] (S m g u) Q:=by
 cases sc with
 | nil=>exact⟨.sl 0 [] .clip,m,g,g,Nat.le_refl _,fun _ _=>rfl,fun _ _=>rfl,rfl,fun Q hQ=>zZX rfl hQ⟩
 | cons a r=>
  have hap:∀g,zAT 3 1 8 (.sl 0 [] .clip) ((a :: r).map iv) (S m g u)=some (.osl m 0 ((a :: r).map iv).length,S (m+1) (updB g m (.row 3 1 ((a :: r).map iv) false)) u):=fun g=>by
   rw[zTG (xs:=[]) rfl (zPR _) (by simp) (by rw[List.length_map];simp only[List.length_nil];omega) (by rw[List.nil_append];exact zFB _)]
   simp
  refine⟨.osl m 0 ((a :: r).map iv).length,m+1,updB g m (.row 3 1 ((a :: r).map iv) false),_,Nat.le_succ m,fun i hi=>zAC (by omega),fun i hi=>?_,zE5 (Nat.lt_succ_self m) zAD rfl (zFB _),fun Q hQ=>?_⟩
  ·rw[zAC (by omega),zAC (by omega)]
  ·have hT:∀g u,(S (m+1) g u).done m (Nat.succ m)=S (m+1) g u:=fun _ _=>zIC (Nat.lt_succ_self m)
   have hne:∀c s,binA E1 .eql 27 c (.sl 0 ((a :: r).map iv) .shut) (.sl 0 [] .nil) s=some (.bool false):=fun _ _=>rfl
   rw[List.map_cons,show iv a=AV.int .i64 a from rfl] at *
   generalize hr:r.map iv=rr at *
   refine zAG (md:=⟨false,false,true,false⟩) (fn:=Tryz.f166) (n:=8) (rs:=[.tmp 2]) rfl rfl rfl rfl rfl rfl rfl (by simp only[go_sem, *];try rfl) (by rfl) ?_
   repeat' (first|simp (disch:=first|assumption|omega) only[go_sem, *]|((first|apply gw_m|apply gw_q);focus (intro hs;(try simp only[nbs] at hs);simp (disch:=first|assumption|omega) only[go_sem, *];rfl))|((first|refine zAB ?_ ?_|refine zAA ?_ ?_|refine sp_C ?_ ?_|refine sp_G ?_ ?_)<;>(intro hs;try simp only[nbs] at hs)))
   exact hQ
theorem zL1 {n b t:Nat}{g:Nat→Box}{u:List (Nat×Nat)}(hb:b≤n):∃m' g' u',b≤m'∧(S n g u).done b t=S m' g' u':=by
 by_cases h1:t≤b
 ·cases h2:zAS b u with
  | true=>exact⟨_,_,_,Nat.le_refl _,zZO hb h1 h2⟩
  | false=>exact⟨_,_,_,hb,zZN h2⟩
 ·exact⟨_,_,_,hb,zIC (by omega)⟩
def uOf (k:Nat):Option Nat→List (Nat×Nat)
 | none=>[]
 | some t=>[(k,t)]
theorem zSE {k M:Nat}{o:Option Nat}(hk:k<M)(ho:∀t,o=some t→t≤M):zAS M (uOf k o)=true∧zAK M (uOf k o)=uOf k o:=by
 cases o with
 | none=>exact⟨rfl,rfl⟩
 | some t=>
  have:=ho t rfl
  simp only[uOf,zAS,zAK,zGI,zCD,decide_eq_true hk,decide_eq_true this,cond_true,and_self]
theorem uOf_ins {k T:Nat}{o:Option Nat}(ho:∀t,o=some t→t≤T):zJA k T (uOf k o)=uOf k (some T):=by
 cases o with
 | none=>rfl
 | some t=>
  have:=ho t rfl
  simp only[uOf,zJA,Nat.beq_refl,cond_true]
  rw[show Nat.max t T=T from Nat.max_eq_right this]
theorem C_gen {E:Env}{f:FuncId}{args:List AV}{m:Nat}{G:Nat→Box}{u:List (Nat×Nat)}{Q:CR→Sto→Prop}(h:∀G2:Nat→Box,(∀i,G2 i=G i)→C E f args (S m G2 u) Q):C E f args (S m G u) Q:=h G fun _=>rfl
theorem zZH {len k:Nat}{g0:Nat→Box}{u:List (Nat×Nat)}:MayOk (.func 0 (.func 63) [] []) (fun _=>true) len 0 k g0 u:=fun M G _ _ n _ _ Q hQ=>zDT rfl (c63 hQ)
theorem heads_p8:∀(pre l:List Pl.Def),defHeads pre l=true→∀d∈l,d.params.length≤8∧∀p∈d.params,0≤p∧p≤8
 | pre,d :: r,h,x,hx=>by
  rw[defHeads] at h
  simp only[Bool.and_eq_true,decide_eq_true_eq,List.all_eq_true] at h
  cases hx with
  | head=>exact⟨by omega,fun p hp=>h.1.1.2 p hp⟩
  | tail _ hx=>exact heads_p8 _ r h.2 x hx
theorem zKK {sp:Pl.Spec}(h:defHeads [] sp.defs=true)(n p:Int)(hp:p∈params sp n):0≤p∧p≤8:=by
 rw[params,List.getD_eq_getElem?_getD] at hp
 cases hd:sp.defs[n.toNat]? with
 | none=>rw[hd] at hp;cases hp
 | some d=>rw[hd] at hp;exact(heads_p8 [] sp.defs h d (List.mem_of_getElem? hd)).2 p hp
theorem c77 {sp:Pl.Spec}{j:Nat}{nd:Int}{may0:AV}{k:Nat}(hml:sp.models.length<1073741824)(hdl:sp.defs.length<1073741824)(hvl:sp.vars.length<1073741824)(hcl:sp.consts.length<1073741824)(hpl:∀n,(params sp n).length<1073741824)(hnl:∀x∈sp.defs,x.name.length<1073741824)(hbl:∀x∈sp.defs,szX x.body<1073740000)
  {m:Nat} {g:Nat→Box} (hk:k<m) (hj:j<m) (hg:g k=.cells 121 (zAJ sp j nd may0)) (hgj:g j=.mapb (zB6 shL)) (hn0:0≤nd) (hn1:nd≤3000)
  {Q:CR→Sto→Prop} (h:∀m' g' u',m≤m'→((zFK sp nd).1=true→zAS m' u'=true∧zAK m' u'=u'∧g' k=.cells 121 (zAJ sp j (zFK sp nd).2 (.func 0 (.func 63) [] []))∧g' j=.mapb (zB6 shL)∧∀i,i<m→i≠k→g' i=g i)→Q (.ret (.bool (zFK sp nd).1)) (S m' g' u')):C E1 77 [.ptr k 0] (S m g []) Q:=by
 have hu:zAS m []=true:=rfl
 have hu2:zAK m []=[]:=rfl
 have hfalse:∀(nd':Int) (n t:Nat) (g:Nat→Box) (u:List (Nat×Nat)),m≤n→zFK sp nd=(false,nd')→Q (.ret (.bool false)) ((S n g u).done m t):=fun nd' n t g u hn e=>by
  obtain⟨m',g',u',e1,e2⟩:=zL1 (t:=t) (g:=g) (u:=u) hn
  rw[e2]
  rw[e] at h
  exact h m' g' u' e1 (fun h=>nomatch h)
 have hfalse0:∀(nd':Int) (g:Nat→Box),zFK sp nd=(false,nd')→Q (.ret (.bool false)) (S m g []):=fun nd' g e=>by
  rw[e] at h
  exact h m g [] (Nat.le_refl _) (fun h=>nomatch h)
 refine zAG (md:=⟨false,false,false,false⟩) (fn:=Tryz.f77) (n:=76) (rs:=[.tmp 2]) rfl rfl rfl rfl rfl rfl rfl (by simp only[go_sem, *];try rfl) (by rfl) ?_
 repeat' (first|simp (disch:=first|assumption|omega) only[go_sem, *]|((first|apply gw_m|apply gw_q);focus (intro hs;(try simp only[nbs] at hs);simp (disch:=first|assumption|omega) only[go_sem, *];rfl))|((first|refine zAB ?_ ?_|refine zAA ?_ ?_|refine sp_C ?_ ?_|refine sp_G ?_ ?_)<;>(intro hs;try simp only[nbs] at hs)))
 refine zAL (ι:=Nat×Nat×(Nat→Box)) (fun p=>[(0,.ptr k 0),(3,.ptr m 0),(13,.sl 0 (sp.defs.map zCH) .shut),(14,.int .i64 sp.defs.length),(15,.int .i64 p.1)]) (fun p=>S p.2.1 p.2.2 [])
  (fun p=>p.1≤sp.defs.length∧m+1≤p.2.1∧(∀i,i<m→p.2.2 i=g i)∧p.2.2 m=.cells 25 [.sl 0 (sp.defs.map zCH) .shut]∧defHeads [] sp.defs=defHeads (sp.defs.take p.1) (sp.defs.drop p.1)) (fun p=>sp.defs.length-p.1) ?_ (0,m+1,_) ⟨Nat.zero_le _,Nat.le_refl _,fun i hi=>zAC (by omega),zAD,rfl⟩ ⟨rfl,rfl,rfl,rfl,rfl,trivial⟩ rfl
 rintro⟨i,M,G⟩ b ⟨hi,hM,hlow,hGm,he⟩ hrec
 dsimp only at hi hM hlow hGm he hrec ⊢
 rcases Nat.lt_or_ge i sp.defs.length with hlt|hge
 ·have hc:decide ((i:Int)<sp.defs.length)=true:=decide_eq_true (by omega)
  have hx:sp.defs[i]?=some sp.defs[i]:=List.getElem?_eq_getElem hlt
  have hnl:=hnl _ (List.getElem_mem hlt)
  rw[List.drop_eq_getElem_cons hlt,defHeads,← List.take_succ_eq_append_getElem hlt] at he
  have hpl2:sp.defs[i].params.length<1073741824:=by have:=hpl i;rw[params,Int.toNat_natCast,List.getD_eq_getElem?_getD,hx] at this;exact this
  generalize sp.defs[i]=d at *
  obtain⟨G1,hG1⟩:∃G1,updB G M (.cells 110 (zBC d))=G1:=⟨_,rfl⟩
  have hG1m:G1 m=.cells 25 [.sl 0 (sp.defs.map zCH) .shut]:=by rw[← hG1,zAC (by omega)];exact hGm
  have hG1M:G1 M=.cells 110 (zBC d):=by rw[← hG1,zAD]
  have hlow1:∀i,i<m→G1 i=g i:=fun i h1=>by rw[← hG1,zAC (by omega)];exact hlow i h1
  have h159:∀Q:CR→Sto→Prop,Q (.ret (.bool (!(d.params.all fun p=>decide (0≤p)&&decide (p≤8))))) (S (M+1) G1 [])→C E1 159 [.sl 0 (d.params.map iv) .shut,.func 0 (.func 160) [] []] (S (M+1) G1 []) Q:=fun Q hQ=>
   c159p (h:=iv) (q:=fun n=>decide (n<0)||decide (8<n)) (by omega) rfl rfl (fun _=>rfl) (fun _=>rfl) rfl (fun x _ Q hQ=>zDT rfl (c160 rfl rfl hQ)) (by
    have e1:(d.params.any fun n=>decide (n<0)||decide (8<n))=!(d.params.all fun p=>decide (0≤p)&&decide (p≤8)):=by
     rw[List.all_eq_not_any_not,Bool.not_not]
     congr 1;funext p;grind
    rw[e1];exact hQ)
  have h161:∀Q:CR→Sto→Prop,Q (.ret (.bool (!(d.name.all fun c=>decide ((33:Int)≤c.toNat)&&decide ((c.toNat:Int)≤126))))) (S (M+1) G1 [])→C E1 161 [.sl 0 (byteVs d.name) .shut,.func 0 (.func 162) [] []] (S (M+1) G1 []) Q:=fun Q hQ=>by
   rw[byteVs_map]
   exact c161p (h:=u8v) (q:=fun c=>decide ((c.toNat:Int)<33)||decide (126<(c.toNat:Int))) (by omega) rfl rfl (fun _=>rfl) (fun _=>rfl) rfl (fun x _ Q hQ=>zDT rfl (c162 rfl rfl hQ)) (by
    have e1:(d.name.any fun c=>decide ((c.toNat:Int)<33)||decide (126<(c.toNat:Int)))=!(d.name.all fun c=>decide ((33:Int)≤c.toNat)&&decide ((c.toNat:Int)≤126)):=by
     rw[List.all_eq_not_any_not,Bool.not_not]
     congr 1;funext p;grind
    rw[e1];exact hQ)
  have h163:∀Q:CR→Sto→Prop,Q (.ret (.bool ((sp.defs.take i).any fun x=>decide (x.name=d.name)))) (S (M+1) G1 [])→C E1 163 [.sl 0 ((sp.defs.take i).map zCH) .shut,.func (M+1) (.func 164) [] [.ptr M 0]] (S (M+1) G1 []) Q:=fun Q hQ=>
   c163p (h:=zCH) (q:=fun x=>decide (x.name=d.name)) (by rw[List.length_take];omega) rfl rfl (fun _=>rfl) (fun _=>pk_Def) rfl (fun x _ Q hQ=>zDT rfl (c164 (d:=d) rfl rfl (by omega) hG1M hQ)) hQ
  repeat' (first|(refine zEN (fun Q h=>h159 _ h) ?_ ?_;focus (intro hs;(try simp only[nbs] at hs);simp (disch:=first|assumption|omega) only[go_sem, *];first|done|rfl))|refine h161 _ ?_|(refine zEN (fun Q h=>h163 _ h) ?_ ?_;focus (intro hs;(try simp only[nbs] at hs);simp (disch:=first|assumption|omega) only[go_sem, *];first|done|rfl))|simp (disch:=first|assumption|omega) only[go_sem, *]|((first|apply gw_m|apply gw_q);focus (intro hs;(try simp only[nbs] at hs);simp (disch:=first|assumption|omega) only[go_sem, *];rfl))|((first|refine zAB ?_ ?_|refine zAA ?_ ?_|refine sp_C ?_ ?_|refine sp_G ?_ ?_)<;>(intro hs;try simp only[nbs] at hs)))
  all_goals clear h159 h161 h163
  ·have hf:defHeads [] sp.defs=false:=by
    rw[he]
    generalize (d.params.all fun p=>decide (0≤p)&&decide (p≤8))=pa at *
    simp only[zQ2]
    grind
   exact hfalse0 nd G1 (by rw[zFK,hf];rfl)
  ·have hf:defHeads [] sp.defs=false:=by
    rw[he]
    simp only[zQ2]
    generalize (d.name.all fun c=>decide ((33:Int)≤c.toNat)&&decide ((c.toNat:Int)≤126))=na at *
    generalize ((sp.defs.take i).any fun x=>decide (x.name=d.name))=pr at *
    clear h hrec hfalse hfalse0
    cases na<;>cases pr<;>simp_all
   exact hfalse0 nd G1 (by rw[zFK,hf];rfl)
  ·obtain⟨h1,h2⟩:=hs
   have hT:defHeads [] sp.defs=defHeads (sp.defs.take (i+1)) (sp.defs.drop (i+1)):=by
    rw[he]
    simp only[zQ2]
    rw[h1,h2]
    clear h hrec hfalse hfalse0
    grind
   exact hrec (i+1,M+1,G1) _ _ _ ⟨hlt,by dsimp only;omega,hlow1,hG1m,hT⟩ (by dsimp only;omega) ⟨rfl,rfl,rfl,rfl,congrArg (fun z=>some (AV.int .i64 z)) (by dsimp only;omega),trivial⟩ rfl
 ·have hc:decide ((i:Int)<sp.defs.length)=false:=decide_eq_false (by omega)
  clear hrec hfalse0
  rw[List.drop_eq_nil_of_le hge,defHeads] at he
  have hR0:zFK sp nd=zCJ sp 0 sp.defs nd:=by rw[zFK,if_pos he]
  have hsp:SpOk sp:=⟨hml,hdl,hvl,hcl,hpl,zKK he⟩
  rw[hR0] at h hfalse
  clear hR0
  obtain⟨R,hR⟩:∃R,zCJ sp 0 sp.defs nd=R:=⟨_,rfl⟩
  rw[hR] at h hfalse
  repeat' (first|simp (disch:=first|assumption|omega) only[go_sem, *]|((first|apply gw_m|apply gw_q);focus (intro hs;(try simp only[nbs] at hs);simp (disch:=first|assumption|omega) only[go_sem, *];rfl))|((first|refine zAB ?_ ?_|refine zAA ?_ ?_|refine sp_C ?_ ?_|refine sp_G ?_ ?_)<;>(intro hs;try simp only[nbs] at hs)))
  refine zAL (ι:=Nat×Int×Nat×Option Nat×(Nat→Box)) (fun p=>[(0,.ptr k 0),(3,.ptr m 0),(53,.sl 0 (sp.defs.map zCH) .shut),(54,.int .i64 sp.defs.length),(55,.int .i64 p.1)]) (fun p=>S p.2.2.1 p.2.2.2.2 (uOf k p.2.2.2.1))
   (fun p=>p.1≤sp.defs.length∧0≤p.2.1∧p.2.1≤3000∧m+1≤p.2.2.1∧(∀t,p.2.2.2.1=some t→t≤p.2.2.1)∧(∀i,i<m→i≠k→p.2.2.2.2 i=g i)∧p.2.2.2.2 m=.cells 25 [.sl 0 (sp.defs.map zCH) .shut]∧(∃may,p.2.2.2.2 k=.cells 121 (zAJ sp j p.2.1 may))∧p.2.2.2.2 j=.mapb (zB6 shL)∧zCJ sp p.1 (sp.defs.drop p.1) p.2.1=R) (fun p=>sp.defs.length-p.1) ?_ (0,nd,M,none,G) ⟨Nat.zero_le _,hn0,hn1,hM,(fun t h=>nomatch h),fun i h1 _=>hlow i h1,hGm,⟨may0,by dsimp only;rw[hlow k hk];exact hg⟩,by dsimp only;rw[hlow j hj];exact hgj,hR⟩ ⟨rfl,rfl,rfl,rfl,rfl,trivial⟩ rfl
  clear hn0 hn1 hlow hGm hR hi hM hge hc
  have hjk:j≠k:=fun e=>by rw[e,hg] at hgj;cases hgj
  clear hg hgj
  clear nd M G i
  rintro⟨i,nd,M,o,G⟩ b ⟨hi,hn0,hn1,hM,ho,hlow,hGm,⟨may,hGk⟩,hGj,hR⟩ hrec
  dsimp only at hi hn0 hn1 hM ho hlow hGm hGk hGj hR hrec ⊢
  have hU:=zSE (k:=k) (o:=o) (M:=M) (by omega) ho
  rcases Nat.lt_or_ge i sp.defs.length with hlt|hge
  ·have hc:decide ((i:Int)<sp.defs.length)=true:=decide_eq_true (by omega)
   have hx:sp.defs[i]?=some sp.defs[i]:=List.getElem?_eq_getElem hlt
   have hbl:=hbl _ (List.getElem_mem hlt)
   have hd8:=(heads_p8 [] sp.defs he _ (List.getElem_mem hlt)).1
   rw[List.drop_eq_getElem_cons hlt,zCJ] at hR
   generalize sp.defs[i]=d at *
   have hmx1:(M+1+1).max (m+1)=M+1+1:=Nat.max_eq_left (by omega)
   have hmx2:(M+1).max (M+1+1)=M+1+1:=Nat.max_eq_right (by omega)
   have hN:∀g u,(S (M+1+1) g u).note k (M+1+1)=S (M+1+1) g (zJA k (M+1+1) u):=fun g u=>zR6 (by omega)
   have hup:zJA k (M+1+1) (uOf k o)=uOf k (some (M+1+1)):=uOf_ins (fun t h=>by have:=ho t h;omega)
   have hkM:k<M+1+1:=by omega
   have hneM:k≠M:=by omega
   have hneM1:k≠M+1:=by omega
   repeat' (first|simp (disch:=first|assumption|omega) only[go_sem, *]|((first|apply gw_m|apply gw_q);focus (intro hs;(try simp only[nbs] at hs);simp (disch:=first|assumption|omega) only[go_sem, *];rfl))|((first|refine zAB ?_ ?_|refine zAA ?_ ?_|refine sp_C ?_ ?_|refine sp_G ?_ ?_)<;>(intro hs;try simp only[nbs] at hs)))
   refine C_gen ?_
   intro G2 hG2
   have hG2k:G2 k=.cells 121 (zAJ sp j nd (.func (M+1+1) (.func 165) [] [.ptr M 0,.ptr (M+1) 0,.ptr m 0])):=(by rw[hG2];(repeat (first|rw[zAD]|rw[zAC (by omega)]));try assumption)
   have hG2M:G2 M=.cells 3 [.int .i64 i]:=(by rw[hG2];(repeat (first|rw[zAD]|rw[zAC (by omega)]));try assumption)
   have hG2M1:G2 (M+1)=.cells 110 (zBC d):=(by rw[hG2];(repeat (first|rw[zAD]|rw[zAC (by omega)]));try assumption)
   have hG2m:G2 m=.cells 25 [.sl 0 (sp.defs.map zCH) .shut]:=(by rw[hG2];(repeat (first|rw[zAD]|rw[zAC (by omega)]));try assumption)
   have hG2j:G2 j=.mapb (zB6 shL):=(by rw[hG2];(repeat (first|rw[zAD]|rw[zAC (by omega)]));try assumption)
   have hlow2:∀i,i<m→i≠k→G2 i=g i:=fun i h1 h2=>by rw[hG2];(repeat (first|rw[zAD]|rw[zAC (by omega)]));exact hlow i h1 h2
   clear hG2 hup hN hmx1 hmx2 hU hGk hGj hGm hlow ho
   have hU:=zSE (k:=k) (o:=some (M+1+1)) (M:=M+1+1) (by omega) (fun t h=>by cases h;exact Nat.le_refl _)
   obtain⟨v,m',g',g'',hm',hg',hg'',hse,hcl⟩:=c166 d.params (by omega) (g:=G2) hU.1 hU.2
   refine hcl _ ?_
   clear hcl
   have hU':=zSE (k:=k) (o:=some (M+1+1)) (M:=m') (by omega) (fun t h=>by cases h;exact hm')
   have hSt:St sp j (.func (M+1+1) (.func 165) [] [.ptr M 0,.ptr (M+1) 0,.ptr m 0]) k (M+1+1) G2 (uOf k (some (M+1+1))) m' g'' nd:=
    ⟨hU'.1,hU'.2,by omega,by omega,by rw[hg'' k hkM];exact hG2k,by rw[hg'' j (by omega)];exact hG2j,hm',fun i h1 _=>hg'' i h1⟩
   have hmay:MayOk (.func (M+1+1) (.func 165) [] [.ptr M 0,.ptr (M+1) 0,.ptr m 0]) (mayP sp i d) sp.defs.length (M+1+1) k G2 (uOf k (some (M+1+1))):=fun M' G' hM' hG' n h0 h1 Q hQ=>by
    have hU3:=zSE (k:=k) (o:=some (M+1+1)) (M:=M') (by omega) (fun t h=>by cases h;exact hM')
    exact zDT rfl (c165 hU3.1 hU3.2 (by omega) (by omega) (by omega) (by rw[hG' M (by omega) (by omega)];exact hG2M) (by rw[hG' (M+1) (by omega) (by omega)];exact hG2M1) (by rw[hG' m (by omega) (by omega)];exact hG2m) h0 h1 hQ)
   have h81:=(c81 hsp hmay (szX d.body+1) d.body (by omega) (by omega)).1 d.params 1 nd m' g'' (by omega) (by omega) (by omega) hn0 hn1 hSt
   have h81s:∀Q:CR→Sto→Prop,Q (.ret (.bool (zD8 sp (mayP sp i d) d.params d.body 1 nd).1)) (S m' (updB g'' k (.cells 121 (zAJ sp j (zD8 sp (mayP sp i d) d.params d.body 1 nd).2 (.func (M+1+1) (.func 165) [] [.ptr M 0,.ptr (M+1) 0,.ptr m 0])))) (uOf k (some (M+1+1))))→C E1 81 [.ptr k 0,encX d.body,v,.int .i64 1] (S m' g' (uOf k (some (M+1+1)))) Q:=fun Q hQ=>
    zHB (args1:=[.ptr k 0,encX d.body,.sl 0 (d.params.map iv) .shut,.int .i64 1]) (s1:=S m' g'' (uOf k (some (M+1+1)))) rfl rfl rfl (by simp only[zBT,hse,zEM,zIH,zDF]) (by simp only[zBT,zEQ,zEM,zIH,zDF]) (h81 Q hQ)
   have hnd:=zQB (zDK sp (mayP sp i d) d.params d.body 1 nd) hn0
   clear h81 hmay hSt hse hU
   generalize zD8 sp (mayP sp i d) d.params d.body 1 nd=st at *
   obtain⟨b1,nd1⟩:=st
   dsimp only at hR h81s hnd
   repeat' (first|refine h81s _ ?_|simp (disch:=first|assumption|omega) only[go_sem, *]|((first|apply gw_m|apply gw_q);focus (intro hs;(try simp only[nbs] at hs);simp (disch:=first|assumption|omega) only[go_sem, *];rfl))|((first|refine zAB ?_ ?_|refine zAA ?_ ?_|refine sp_C ?_ ?_|refine sp_G ?_ ?_)<;>(intro hs;try simp only[nbs] at hs)))
   ·subst hs
    exact hfalse nd1 _ _ _ _ (by omega) hR.symm
   ·subst hs
    have hnd:=hnd rfl
    exact hrec (i+1,nd1,m',some (M+1+1),updB g'' k (.cells 121 (zAJ sp j nd1 (.func (M+1+1) (.func 165) [] [.ptr M 0,.ptr (M+1) 0,.ptr m 0])))) _ _ _
     ⟨hlt,hnd.1,hnd.2,by dsimp only;omega,fun t h=>by cases h;exact hm',fun i h1 h2=>by dsimp only;rw[zAC h2,hg'' i (by omega)];exact hlow2 i h1 h2,by dsimp only;rw[zAC (by omega),hg'' m (by omega)];exact hG2m,⟨_,zAD⟩,by dsimp only;rw[zAC hjk,hg'' j (by omega)];exact hG2j,hR⟩ (by dsimp only;omega) ⟨rfl,rfl,rfl,rfl,congrArg (fun z=>some (AV.int .i64 z)) (by dsimp only;omega),trivial⟩ rfl
  ·have hc:decide ((i:Int)<sp.defs.length)=false:=decide_eq_false (by omega)
   clear hrec
   rw[List.drop_eq_nil_of_le hge,zCJ] at hR
   have hkM:k<M:=by omega
   repeat' (first|simp (disch:=first|assumption|omega) only[go_sem, *]|((first|apply gw_m|apply gw_q);focus (intro hs;(try simp only[nbs] at hs);simp (disch:=first|assumption|omega) only[go_sem, *];rfl))|((first|refine zAB ?_ ?_|refine zAA ?_ ?_|refine sp_C ?_ ?_|refine sp_G ?_ ?_)<;>(intro hs;try simp only[nbs] at hs)))
   rw[← hR] at h
   generalize hG':updB G k (.cells 121 (zAJ sp j nd (.func 0 (.func 63) [] [])))=G'
   have hf1:G' k=.cells 121 (zAJ sp j nd (.func 0 (.func 63) [] [])):=by rw[← hG',zAD]
   have hf2:G' j=.mapb (zB6 shL):=by rw[← hG',zAC hjk];exact hGj
   have hf3:∀i,i<m→i≠k→G' i=g i:=fun i h1 h2=>by rw[← hG',zAC h2];exact hlow i h1 h2
   cases hq:zAS m (uOf k o) with
   | true=>
    have hcut:zAK m (uOf k o)=uOf k o:=by
     cases o with
     | none=>rfl
     | some t=>simp only[uOf,zAK,zGI,decide_eq_true hk,cond_true]
    rw[zZO (by omega) (Nat.zero_le _) hq,hcut]
    exact h m G' _ (Nat.le_refl _) fun _=>⟨hq,hcut,hf1,hf2,hf3⟩
   | false=>
    rw[zZN hq]
    exact h M G' _ (by omega) fun _=>⟨hU.1,hU.2,hf1,hf2,hf3⟩
end Go.Ab.X
namespace Pl
abbrev Sh:=Int×Bool×Bool×Bool
def putL (k:Int)(x:Sh):List (Int×Sh)→List (Int×Sh)
 | []=>[(k,x)]
 | (j,y) :: r=>if k=j then(j,x) :: r else(j,y) :: putL k x r
def zD6 (x:Sh):List Int→List (Int×Sh)→List (Int×Sh)
 | [],l=>l
 | k :: r,l=>zD6 x r (putL k x l)
theorem zC5 (x:Sh)(k:Int):∀(ks:List Int) (l:List (Int×Sh)),zD6 x (ks++[k]) l=putL k x (zD6 x ks l)
 | [],l=>rfl
 | j :: r,l=>by rw[List.cons_append,zD6,zD6,zC5 x k r]
end Pl
namespace Go.Ab.X
open Go Go.Ab Go.Proofs Pl
set_option maxRecDepth 100000
set_option maxHeartbeats 4000000
theorem zWP (k:Int)(x:Sh):∀l:List (Int×Sh),zJW (.int .i64 k) (zMO x) (zB6 l)=some (zB6 (putL k x l))
 | []=>rfl
 | (j,y) :: r=>by
  show(match zJ5 (.int .i64 k) (.int .i64 j) with|some b=>bif b then some ((AV.int .i64 j,zMO x) :: zB6 r) else(match zJW (.int .i64 k) (zMO x) (zB6 r) with|some r=>some ((AV.int .i64 j,zMO y) :: r)|none=>none)|none=>none)=_
  rw[zWP k x r]
  simp only[zJ5,zC1,cond_true,zHU]
  by_cases h:k=j
  ·rw[decide_eq_true h,show putL k x ((j,y) :: r)=(j,x) :: r from if_pos h];rfl
  ·rw[decide_eq_false h,show putL k x ((j,y) :: r)=(j,y) :: putL k x r from if_neg h];rfl
def upB (b:Box)(j:Nat)(k:Int)(v:AV)(m:Nat)(g:Nat→Box)(u:List (Nat×Nat)):Nx:=match b with
 | .mapb es=>(match zJW (.int .i64 k) v es with|some es=>.val Ab.undef ((S m (updB g j (.mapb es)) u).note j (top v))|none=>.no)
 | _=>.no
theorem up_sh {m j:Nat}{g:Nat→Box}{u:List (Nat×Nat)}{k a:Int}{b c d:Bool}(hj:j<m):zDI E1 117 (some (.map j)) (some (.int .i64 k)) (some (.agg [.int .i64 a,.bool b,.bool c,.bool d])) (S m g u)=upB (g j) j k (.agg [.int .i64 a,.bool b,.bool c,.bool d]) m g u:=by
 unfold zDI
 rw[tyd117]
 simp only
 rw[show zH4 (E1.types 3).d (.int .i64 k)=true from rfl]
 simp only[cond_true]
 rw[show zA0 (S m g u) (.agg [.int .i64 a,.bool b,.bool c,.bool d])=some (.agg [.int .i64 a,.bool b,.bool c,.bool d],S m g u) from rfl]
 simp only
 rw[zE1 hj]
 unfold upB
 cases g j with
 | mapb es=>
  simp only
  cases zJW (AV.int .i64 k) (AV.agg [.int .i64 a,.bool b,.bool c,.bool d]) es with
  | none=>rfl
  | some es'=>simp only;rw[zI6 hj]
 | _=>rfl
theorem upB_sh {m j:Nat}{g:Nat→Box}{u:List (Nat×Nat)}{k a:Int}{b c d:Bool}{l:List (Int×Sh)}:upB (.mapb (zB6 l)) j k (.agg [.int .i64 a,.bool b,.bool c,.bool d]) m g u=.val Ab.undef (S m (updB g j (.mapb (zB6 (putL k (a,b,c,d) l)))) u):=by
 unfold upB
 simp only
 rw[show AV.agg [.int .i64 a,.bool b,.bool c,.bool d]=zMO (a,b,c,d) from rfl,zWP]
 simp only
 rw[zMB (by exact Nat.zero_le _)]
theorem enc_nil:Box.mapb []=.mapb (zB6 []):=rfl
theorem zY8 (fr:Fr)(ps:List (Nat×Operand))(s:Sto):zEH E1 fr 168 ps s=(match zB5 fr ps with|some ps=>bldT 168 ps s|none=>.no):=rfl
theorem b168_a (s:Sto):bldT 168 [(3,.bool true)] s=.val (.agg [.int .i64 0,.bool false,.bool false,.bool true]) s:=rfl
theorem b168_b (n:Int)(s:Sto):bldT 168 [(0,.int .i64 n),(1,.bool true)] s=.val (.agg [.int .i64 n,.bool true,.bool false,.bool false]) s:=rfl
theorem b168_c (n:Int)(s:Sto):bldT 168 [(0,.int .i64 n),(2,.bool true)] s=.val (.agg [.int .i64 n,.bool false,.bool true,.bool false]) s:=rfl
theorem b168_d (s:Sto):bldT 168 [(1,.bool true)] s=.val (.agg [.int .i64 0,.bool true,.bool false,.bool false]) s:=rfl
theorem b168_e (n:Int)(s:Sto):bldT 168 [(0,.int .i64 n)] s=.val (.agg [.int .i64 n,.bool false,.bool false,.bool false]) s:=rfl
attribute [go_sem] up_sh upB_sh enc_nil zY8 b168_a b168_b b168_c b168_d b168_e
theorem c62 {m:Nat}{g:Nat→Box}{u:List (Nat×Nat)}{Q:CR→Sto→Prop}(h:Q (.ret (.map m)) (S (m+1) (updB g m (.mapb (zB6 shL))) u)):C E1 62 [] (S m g u) Q:=by
 have hT:∀g u,(S (m+1) g u).done m (Nat.succ m)=S (m+1) g u:=fun _ _=>zIC (Nat.lt_succ_self m)
 have hmm:m<m+1:=Nat.lt_succ_self m
 refine zAG (md:=⟨false,false,false,false⟩) (fn:=Tryz.f62) (n:=86) (rs:=[.tmp 0]) rfl rfl rfl rfl rfl rfl rfl (by simp only[go_sem, *];try rfl) (by rfl) ?_
 repeat' (first|simp (disch:=first|assumption|omega) only[go_sem, *]|((first|apply gw_m|apply gw_q);focus (intro hs;(try simp only[nbs] at hs);simp (disch:=first|assumption|omega) only[go_sem, *];rfl))|((first|refine zAB ?_ ?_|refine zAA ?_ ?_|refine sp_C ?_ ?_|refine sp_G ?_ ?_)<;>(intro hs;try simp only[nbs] at hs)))
 obtain⟨L0,hL0⟩:∃L:List (Int×Sh),putL 37 (1,false,true,false) (putL 36 (-1,false,true,false) (putL 35 (-1,false,true,false) (putL 7 (-1,true,false,false) (putL 6 (-1,true,false,false) (putL 41 (-1,true,false,false) (putL 46 (-1,true,false,false) (putL 47 (-1,true,false,false) (putL 1 (0,false,false,true) []))))))))=L:=⟨_,rfl⟩
 rw[hL0]
 obtain⟨ks0,hk0⟩:∃ks:List Int,([2,3,4]:List Int)=ks:=⟨_,rfl⟩
 have hlen:ks0.length=3:=by rw[← hk0];rfl
 refine zAL (ι:=Nat) (fun i=>[(1,.map m),(25,.sl 0 (ks0.map iv) .clip),(26,.int .i64 3),(27,.int .i64 i)]) (fun i=>S (m+1) (updB g m (.mapb (zB6 (zD6 (0,true,false,false) (ks0.take i) L0)))) u) (fun i=>i≤3) (fun i=>3-i) ?_ 0 (Nat.zero_le _) ⟨rfl,by rw[← hk0];rfl,rfl,rfl,trivial⟩ rfl
 intro i b hi hrec
 rcases Nat.lt_or_ge i 3 with hlt|hge
 ·have hc:decide ((i:Int)<3)=true:=decide_eq_true (by omega)
  have hx:ks0[i]?=some (ks0[i]'(by omega)):=List.getElem?_eq_getElem (by omega)
  have hp:=zC5 (0,true,false,false) (ks0[i]'(by omega)) (ks0.take i) L0
  rw[← List.take_succ_eq_append_getElem (by omega)] at hp
  generalize ks0[i]'(by omega)=x at *
  replace hp:=hp.symm
  repeat' (first|simp (disch:=first|assumption|omega) only[go_sem, *]|((first|apply gw_m|apply gw_q);focus (intro hs;(try simp only[nbs] at hs);simp (disch:=first|assumption|omega) only[go_sem, *];rfl))|((first|refine zAB ?_ ?_|refine zAA ?_ ?_|refine sp_C ?_ ?_|refine sp_G ?_ ?_)<;>(intro hs;try simp only[nbs] at hs)))
  exact hrec (i+1) _ _ _ (by omega) (by omega) ⟨rfl,rfl,rfl,congrArg (fun z=>some (AV.int .i64 z)) (by omega),trivial⟩ rfl
 have hc:decide ((i:Int)<3)=false:=decide_eq_false (by omega)
 clear hrec
 rw[List.take_of_length_le (by omega)]
 clear hlen hi hge
 repeat' (first|simp (disch:=first|assumption|omega) only[go_sem, *]|((first|apply gw_m|apply gw_q);focus (intro hs;(try simp only[nbs] at hs);simp (disch:=first|assumption|omega) only[go_sem, *];rfl))|((first|refine zAB ?_ ?_|refine zAA ?_ ?_|refine sp_C ?_ ?_|refine sp_G ?_ ?_)<;>(intro hs;try simp only[nbs] at hs)))
 clear hc
 rw[← hk0]
 clear hk0
 obtain⟨L1,hL1⟩:∃L:List (Int×Sh),zD6 (0,true,false,false) ([2,3,4]:List Int) L0=L:=⟨_,rfl⟩
 rw[hL1]
 obtain⟨ks1,hk1⟩:∃ks:List Int,([16,17,24,30]:List Int)=ks:=⟨_,rfl⟩
 have hlen:ks1.length=4:=by rw[← hk1];rfl
 refine zAL (ι:=Nat) (fun i=>[(1,.map m),(35,.sl 0 (ks1.map iv) .clip),(36,.int .i64 4),(37,.int .i64 i)]) (fun i=>S (m+1) (updB g m (.mapb (zB6 (zD6 (-1,true,false,false) (ks1.take i) L1)))) u) (fun i=>i≤4) (fun i=>4-i) ?_ 0 (Nat.zero_le _) ⟨rfl,by rw[← hk1];rfl,rfl,rfl,trivial⟩ rfl
 intro i b hi hrec
 rcases Nat.lt_or_ge i 4 with hlt|hge
 ·have hc:decide ((i:Int)<4)=true:=decide_eq_true (by omega)
  have hx:ks1[i]?=some (ks1[i]'(by omega)):=List.getElem?_eq_getElem (by omega)
  have hp:=zC5 (-1,true,false,false) (ks1[i]'(by omega)) (ks1.take i) L1
  rw[← List.take_succ_eq_append_getElem (by omega)] at hp
  generalize ks1[i]'(by omega)=x at *
  replace hp:=hp.symm
  repeat' (first|simp (disch:=first|assumption|omega) only[go_sem, *]|((first|apply gw_m|apply gw_q);focus (intro hs;(try simp only[nbs] at hs);simp (disch:=first|assumption|omega) only[go_sem, *];rfl))|((first|refine zAB ?_ ?_|refine zAA ?_ ?_|refine sp_C ?_ ?_|refine sp_G ?_ ?_)<;>(intro hs;try simp only[nbs] at hs)))
  exact hrec (i+1) _ _ _ (by omega) (by omega) ⟨rfl,rfl,rfl,congrArg (fun z=>some (AV.int .i64 z)) (by omega),trivial⟩ rfl
 have hc:decide ((i:Int)<4)=false:=decide_eq_false (by omega)
 clear hrec
 rw[List.take_of_length_le (by omega)]
 clear hlen hi hge
 repeat' (first|simp (disch:=first|assumption|omega) only[go_sem, *]|((first|apply gw_m|apply gw_q);focus (intro hs;(try simp only[nbs] at hs);simp (disch:=first|assumption|omega) only[go_sem, *];rfl))|((first|refine zAB ?_ ?_|refine zAA ?_ ?_|refine sp_C ?_ ?_|refine sp_G ?_ ?_)<;>(intro hs;try simp only[nbs] at hs)))
 clear hc
 rw[← hk1]
 clear hk1
 obtain⟨L2,hL2⟩:∃L:List (Int×Sh),zD6 (-1,true,false,false) ([16,17,24,30]:List Int) L1=L:=⟨_,rfl⟩
 rw[hL2]
 obtain⟨ks2,hk2⟩:∃ks:List Int,([11,12,22,38,39]:List Int)=ks:=⟨_,rfl⟩
 have hlen:ks2.length=5:=by rw[← hk2];rfl
 refine zAL (ι:=Nat) (fun i=>[(1,.map m),(45,.sl 0 (ks2.map iv) .clip),(46,.int .i64 5),(47,.int .i64 i)]) (fun i=>S (m+1) (updB g m (.mapb (zB6 (zD6 (-1,false,false,false) (ks2.take i) L2)))) u) (fun i=>i≤5) (fun i=>5-i) ?_ 0 (Nat.zero_le _) ⟨rfl,by rw[← hk2];rfl,rfl,rfl,trivial⟩ rfl
 intro i b hi hrec
 rcases Nat.lt_or_ge i 5 with hlt|hge
 ·have hc:decide ((i:Int)<5)=true:=decide_eq_true (by omega)
  have hx:ks2[i]?=some (ks2[i]'(by omega)):=List.getElem?_eq_getElem (by omega)
  have hp:=zC5 (-1,false,false,false) (ks2[i]'(by omega)) (ks2.take i) L2
  rw[← List.take_succ_eq_append_getElem (by omega)] at hp
  generalize ks2[i]'(by omega)=x at *
  replace hp:=hp.symm
  repeat' (first|simp (disch:=first|assumption|omega) only[go_sem, *]|((first|apply gw_m|apply gw_q);focus (intro hs;(try simp only[nbs] at hs);simp (disch:=first|assumption|omega) only[go_sem, *];rfl))|((first|refine zAB ?_ ?_|refine zAA ?_ ?_|refine sp_C ?_ ?_|refine sp_G ?_ ?_)<;>(intro hs;try simp only[nbs] at hs)))
  exact hrec (i+1) _ _ _ (by omega) (by omega) ⟨rfl,rfl,rfl,congrArg (fun z=>some (AV.int .i64 z)) (by omega),trivial⟩ rfl
 have hc:decide ((i:Int)<5)=false:=decide_eq_false (by omega)
 clear hrec
 rw[List.take_of_length_le (by omega)]
 clear hlen hi hge
 repeat' (first|simp (disch:=first|assumption|omega) only[go_sem, *]|((first|apply gw_m|apply gw_q);focus (intro hs;(try simp only[nbs] at hs);simp (disch:=first|assumption|omega) only[go_sem, *];rfl))|((first|refine zAB ?_ ?_|refine zAA ?_ ?_|refine sp_C ?_ ?_|refine sp_G ?_ ?_)<;>(intro hs;try simp only[nbs] at hs)))
 clear hc
 rw[← hk2]
 clear hk2
 obtain⟨L3,hL3⟩:∃L:List (Int×Sh),zD6 (-1,false,false,false) ([11,12,22,38,39]:List Int) L2=L:=⟨_,rfl⟩
 rw[hL3]
 obtain⟨ks3,hk3⟩:∃ks:List Int,([5,13,25,26,32,43,45]:List Int)=ks:=⟨_,rfl⟩
 have hlen:ks3.length=7:=by rw[← hk3];rfl
 refine zAL (ι:=Nat) (fun i=>[(1,.map m),(55,.sl 0 (ks3.map iv) .clip),(56,.int .i64 7),(57,.int .i64 i)]) (fun i=>S (m+1) (updB g m (.mapb (zB6 (zD6 (1,false,false,false) (ks3.take i) L3)))) u) (fun i=>i≤7) (fun i=>7-i) ?_ 0 (Nat.zero_le _) ⟨rfl,by rw[← hk3];rfl,rfl,rfl,trivial⟩ rfl
 intro i b hi hrec
 rcases Nat.lt_or_ge i 7 with hlt|hge
 ·have hc:decide ((i:Int)<7)=true:=decide_eq_true (by omega)
  have hx:ks3[i]?=some (ks3[i]'(by omega)):=List.getElem?_eq_getElem (by omega)
  have hp:=zC5 (1,false,false,false) (ks3[i]'(by omega)) (ks3.take i) L3
  rw[← List.take_succ_eq_append_getElem (by omega)] at hp
  generalize ks3[i]'(by omega)=x at *
  replace hp:=hp.symm
  repeat' (first|simp (disch:=first|assumption|omega) only[go_sem, *]|((first|apply gw_m|apply gw_q);focus (intro hs;(try simp only[nbs] at hs);simp (disch:=first|assumption|omega) only[go_sem, *];rfl))|((first|refine zAB ?_ ?_|refine zAA ?_ ?_|refine sp_C ?_ ?_|refine sp_G ?_ ?_)<;>(intro hs;try simp only[nbs] at hs)))
  exact hrec (i+1) _ _ _ (by omega) (by omega) ⟨rfl,rfl,rfl,congrArg (fun z=>some (AV.int .i64 z)) (by omega),trivial⟩ rfl
 have hc:decide ((i:Int)<7)=false:=decide_eq_false (by omega)
 clear hrec
 rw[List.take_of_length_le (by omega)]
 clear hlen hi hge
 repeat' (first|simp (disch:=first|assumption|omega) only[go_sem, *]|((first|apply gw_m|apply gw_q);focus (intro hs;(try simp only[nbs] at hs);simp (disch:=first|assumption|omega) only[go_sem, *];rfl))|((first|refine zAB ?_ ?_|refine zAA ?_ ?_|refine sp_C ?_ ?_|refine sp_G ?_ ?_)<;>(intro hs;try simp only[nbs] at hs)))
 clear hc
 rw[← hk3]
 clear hk3
 obtain⟨L4,hL4⟩:∃L:List (Int×Sh),zD6 (1,false,false,false) ([5,13,25,26,32,43,45]:List Int) L3=L:=⟨_,rfl⟩
 rw[hL4]
 obtain⟨ks4,hk4⟩:∃ks:List Int,([14,15,18,19,20,21,23,27,28,29,31,33,42,44]:List Int)=ks:=⟨_,rfl⟩
 have hlen:ks4.length=14:=by rw[← hk4];rfl
 refine zAL (ι:=Nat) (fun i=>[(1,.map m),(65,.sl 0 (ks4.map iv) .clip),(66,.int .i64 14),(67,.int .i64 i)]) (fun i=>S (m+1) (updB g m (.mapb (zB6 (zD6 (2,false,false,false) (ks4.take i) L4)))) u) (fun i=>i≤14) (fun i=>14-i) ?_ 0 (Nat.zero_le _) ⟨rfl,by rw[← hk4];rfl,rfl,rfl,trivial⟩ rfl
 intro i b hi hrec
 rcases Nat.lt_or_ge i 14 with hlt|hge
 ·have hc:decide ((i:Int)<14)=true:=decide_eq_true (by omega)
  have hx:ks4[i]?=some (ks4[i]'(by omega)):=List.getElem?_eq_getElem (by omega)
  have hp:=zC5 (2,false,false,false) (ks4[i]'(by omega)) (ks4.take i) L4
  rw[← List.take_succ_eq_append_getElem (by omega)] at hp
  generalize ks4[i]'(by omega)=x at *
  replace hp:=hp.symm
  repeat' (first|simp (disch:=first|assumption|omega) only[go_sem, *]|((first|apply gw_m|apply gw_q);focus (intro hs;(try simp only[nbs] at hs);simp (disch:=first|assumption|omega) only[go_sem, *];rfl))|((first|refine zAB ?_ ?_|refine zAA ?_ ?_|refine sp_C ?_ ?_|refine sp_G ?_ ?_)<;>(intro hs;try simp only[nbs] at hs)))
  exact hrec (i+1) _ _ _ (by omega) (by omega) ⟨rfl,rfl,rfl,congrArg (fun z=>some (AV.int .i64 z)) (by omega),trivial⟩ rfl
 have hc:decide ((i:Int)<14)=false:=decide_eq_false (by omega)
 clear hrec
 rw[List.take_of_length_le (by omega)]
 clear hlen hi hge
 repeat' (first|simp (disch:=first|assumption|omega) only[go_sem, *]|((first|apply gw_m|apply gw_q);focus (intro hs;(try simp only[nbs] at hs);simp (disch:=first|assumption|omega) only[go_sem, *];rfl))|((first|refine zAB ?_ ?_|refine zAA ?_ ?_|refine sp_C ?_ ?_|refine sp_G ?_ ?_)<;>(intro hs;try simp only[nbs] at hs)))
 clear hc
 rw[← hk4]
 clear hk4
 obtain⟨L5,hL5⟩:∃L:List (Int×Sh),zD6 (2,false,false,false) ([14,15,18,19,20,21,23,27,28,29,31,33,42,44]:List Int) L4=L:=⟨_,rfl⟩
 rw[hL5]
 obtain⟨ks5,hk5⟩:∃ks:List Int,([34,40]:List Int)=ks:=⟨_,rfl⟩
 have hlen:ks5.length=2:=by rw[← hk5];rfl
 refine zAL (ι:=Nat) (fun i=>[(1,.map m),(75,.sl 0 (ks5.map iv) .clip),(76,.int .i64 2),(77,.int .i64 i)]) (fun i=>S (m+1) (updB g m (.mapb (zB6 (zD6 (3,false,false,false) (ks5.take i) L5)))) u) (fun i=>i≤2) (fun i=>2-i) ?_ 0 (Nat.zero_le _) ⟨rfl,by rw[← hk5];rfl,rfl,rfl,trivial⟩ rfl
 intro i b hi hrec
 rcases Nat.lt_or_ge i 2 with hlt|hge
 ·have hc:decide ((i:Int)<2)=true:=decide_eq_true (by omega)
  have hx:ks5[i]?=some (ks5[i]'(by omega)):=List.getElem?_eq_getElem (by omega)
  have hp:=zC5 (3,false,false,false) (ks5[i]'(by omega)) (ks5.take i) L5
  rw[← List.take_succ_eq_append_getElem (by omega)] at hp
  generalize ks5[i]'(by omega)=x at *
  replace hp:=hp.symm
  repeat' (first|simp (disch:=first|assumption|omega) only[go_sem, *]|((first|apply gw_m|apply gw_q);focus (intro hs;(try simp only[nbs] at hs);simp (disch:=first|assumption|omega) only[go_sem, *];rfl))|((first|refine zAB ?_ ?_|refine zAA ?_ ?_|refine sp_C ?_ ?_|refine sp_G ?_ ?_)<;>(intro hs;try simp only[nbs] at hs)))
  exact hrec (i+1) _ _ _ (by omega) (by omega) ⟨rfl,rfl,rfl,congrArg (fun z=>some (AV.int .i64 z)) (by omega),trivial⟩ rfl
 have hc:decide ((i:Int)<2)=false:=decide_eq_false (by omega)
 clear hrec
 rw[List.take_of_length_le (by omega)]
 clear hlen hi hge
 repeat' (first|simp (disch:=first|assumption|omega) only[go_sem, *]|((first|apply gw_m|apply gw_q);focus (intro hs;(try simp only[nbs] at hs);simp (disch:=first|assumption|omega) only[go_sem, *];rfl))|((first|refine zAB ?_ ?_|refine zAA ?_ ?_|refine sp_C ?_ ?_|refine sp_G ?_ ?_)<;>(intro hs;try simp only[nbs] at hs)))
 clear hc
 rw[← hk5]
 clear hk5
 have hfin:zD6 (3,false,false,false) ([34,40]:List Int) L5=shL:=by rw[← hL5,← hL4,← hL3,← hL2,← hL1,← hL0];decide
 rw[hfin]
 exact h
end Go.Ab.X
namespace Go.Ab.X
open Go Go.Ab Go.Proofs Pl
set_option maxRecDepth 100000
set_option maxHeartbeats 4000000
theorem tops_Ck (sp:Pl.Spec)(j:Nat)(nd:Int)(may:AV):tops (zAJ sp j nd may)=max (j+1) (top may):=by
 rw[zAJ,zA6,show tops (zAE sp)=0 from rfl]
 show max 0 (max (j+1) (max 0 (max (top may) 0)))=_
 omega
theorem flat_Ck (sp:Pl.Spec)(j:Nat)(nd:Int)(t:Nat)(f:Fn)(a b:List AV):flatC (zAJ sp j nd (.func t f a b))=true:=rfl
theorem zY9 (fr:Fr)(ps:List (Nat×Operand))(s:Sto):zEH E1 fr 121 ps s=(match zB5 fr ps with|some ps=>bldT 121 ps s|none=>.no):=rfl
theorem b121 (sp:Pl.Spec)(j:Nat)(t:Nat)(f:Fn)(a b:List AV)(s:Sto):bldT 121 [(0,zAX sp),(1,.map j),(3,.func t f a b)] s=.val (.agg (zAJ sp j 0 (.func t f a b))) s:=rfl
attribute [go_sem] tops_Ck flat_Ck zY9 b121
theorem c36 {sp:Pl.Spec}{m:Nat}{g:Nat→Box}{u:List (Nat×Nat)}{Q:CR→Sto→Prop}(h:∀G:Nat→Box,G (m+2)=.cells 121 (zAJ sp (m+1) 0 (.func 0 (.func 63) [] []))→G (m+1)=.mapb (zB6 shL)→(∀i,i<m→G i=g i)→Q (.ret (.ptr (m+2) 0)) (S (m+3) G u)):C E1 36 [zAX sp] (S m g u) Q:=by
 have hT:∀g u,(S (m+1+1+1) g u).done m (Nat.succ (m+1+1))=S (m+1+1+1) g u:=fun _ _=>zIC (by omega)
 have hmx:max (m+1+1) 0=m+1+1:=Nat.max_eq_left (by omega)
 refine zAG (md:=⟨false,false,false,false⟩) (fn:=Tryz.f36) (n:=7) (rs:=[.tmp 2]) rfl rfl rfl rfl rfl rfl rfl (by simp only[go_sem, *];try rfl) (by rfl) ?_
 repeat' (first|apply c62|simp (disch:=first|assumption|omega) only[go_sem, *]|((first|apply gw_m|apply gw_q);focus (intro hs;(try simp only[nbs] at hs);simp (disch:=first|assumption|omega) only[go_sem, *];rfl))|((first|refine zAB ?_ ?_|refine zAA ?_ ?_|refine sp_C ?_ ?_|refine sp_G ?_ ?_)<;>(intro hs;try simp only[nbs] at hs)))
 refine h _ zAD ?_ ?_
 ·rw[zAC (by omega),zAD]
 ·intro i hi
  rw[zAC (by omega),zAC (by omega),zAC (by omega)]
theorem app_in {ty:TypeId}{es b m k n:Nat}{g:Nat→Box}{u:List (Nat×Nat)}{xs ys:List AV}(hk:k<m)(hg:g k=.row ty es xs false)(hf:zBN es ys=true)(hn:n+ys.length≤xs.length)(ht:tops ys=0) :
  ∃g',zAT ty es b (.osl k 0 n) ys (S m g u)=some (.osl k 0 (n+ys.length),S m g' u)∧g' k=.row ty es (xs.take n++(ys++xs.drop (n+ys.length))) false∧∀i,i≠k→g' i=g i:=by
 cases ys with
 | nil=>exact⟨g,rfl,by rw[hg];simp,fun _ _=>rfl⟩
 | cons a r=>
  refine⟨updB g k (.row ty es (splice xs n (a :: r)) false),?_,by rw[zAD];simp only[splice,zBM,zCK,zC0,zAM],fun i hi=>zAC hi⟩
  simp only[zAT,hf,cond_true,zHA,zE1 hk,hg,Nat.beq_refl,Bool.true_and,zAM,Nat.zero_add,zCD]
  rw[decide_eq_true (show n≤xs.length by omega),decide_eq_true hn]
  simp only[cond_true,cond_false,zI6 hk]
  rw[zMB (by rw[ht];omega)]
def zX:AV:=zAP (E1.types 34)
theorem fits_zX (n:Nat):zBN 11 (List.replicate n zX)=true:=by
 induction n with
 | zero=>rfl
 | succ n ih=>rw[List.replicate_succ];show(bif _ then zBN 11 (List.replicate n zX) else false)=true;rw[ih];rfl
theorem tops_zX (n:Nat):tops (List.replicate n zX)=0:=by
 induction n with
 | zero=>rfl
 | succ n ih=>rw[List.replicate_succ];show max (top zX) (tops (List.replicate n zX))=0;rw[ih];rfl
theorem c167 {n:Nat}{m:Nat}{g:Nat→Box}{u:List (Nat×Nat)}(h0:0<n)(hn:n<10000000000){Q:CR→Sto→Prop}(h:Q (.ret (.osl m 0 0)) (S (m+1) (updB g m (.row 34 11 (List.replicate n zX) false)) u)):C E1 167 [.sl 0 [] .nil,.int .i64 n] (S m g u) Q:=by
 have hT:∀g u,(S (m+1) g u).done m (Nat.succ m)=S (m+1) g u:=fun _ _=>zIC (by omega)
 have hap:zAT 34 11 176 (.sl 0 [] .nil) (lrep (zAP (E1.types 34)) n) (S m g u)=some (.osl m 0 n,S (m+1) (updB g m (.row 34 11 (List.replicate n zX) false)) u):=by
  rw[zDS]
  show zAT 34 11 176 (.sl 0 [] .nil) (List.replicate n zX) (S m g u)=_
  rw[zGJ (fits_zX n) (by rw[List.length_replicate];exact h0) (by rw[List.length_replicate];omega) (tops_zX n),List.length_replicate]
 have hl1:decide (n*176≤limit)=true:=decide_eq_true (by rw[limit_eq];omega)
 have hl2:decide (n≤limit)=true:=decide_eq_true (by rw[limit_eq];omega)
 have hp:decide ((0:Int)<n)=true:=decide_eq_true (by omega)
 have hs1:∀s,zIG 11 (.sl 0 [] .nil) none (some 0) none s=some (.sl 0 [] .nil,s):=fun s=>rfl
 have hc:∀s,bCap E1 26 [.sl 0 [] .nil] s=.val (.int .i64 0) s:=fun s=>rfl
 have hs2:zIG 11 (.osl m 0 n) none (some 0) none (S (m+1) (updB g m (.row 34 11 (List.replicate n zX) false)) u)=some (.osl m 0 0,S (m+1) (updB g m (.row 34 11 (List.replicate n zX) false)) u):=by
  show zE4 11 m 0 n none (some 0) none _=_
  unfold zE4
  rw[zE1 (by omega),zAD]
  simp only[Nat.beq_refl,cond_true,zDM,zCD,Nat.zero_le,decide_true,Bool.and_self,Nat.sub_self,Nat.add_zero]
 have hneg:decide ((n:Int)<0)=false:=decide_eq_false (by omega)
 have hsub:(n:Int)-0=n:=Int.sub_zero _
 refine zAG (md:=⟨false,true,true,false⟩) (fn:=Tryz.f167) (n:=27) (rs:=[.tmp 4]) rfl rfl rfl rfl rfl rfl rfl (by simp only[go_sem, *];try rfl) (by rfl) ?_
 repeat' (first|simp (disch:=first|assumption|omega) only[go_sem, *]|((first|apply gw_m|apply gw_q);focus (intro hs;(try simp only[nbs] at hs);simp (disch:=first|assumption|omega) only[go_sem, *];rfl))|((first|refine zAB ?_ ?_|refine zAA ?_ ?_|refine sp_C ?_ ?_|refine sp_G ?_ ?_)<;>(intro hs;try simp only[nbs] at hs)))
def slX (l:List X):AV:=.sl 0 (l.map encX) .shut
attribute [go_sem] slX
theorem c78 {ls:List (List X)}{m:Nat}{g:Nat→Box}{u:List (Nat×Nat)}(hls:ls.length<1073741824)(h0:0<ls.flatten.length)(hn:ls.flatten.length<10000000000){Q:CR→Sto→Prop}(h:∀g':Nat→Box,g' m=.row 34 11 (ls.flatten.map encX) false→(∀i,i<m→g' i=g i)→Q (.ret (.osl m 0 ls.flatten.length)) (S (m+1) g' u)):C E1 78 [.sl 0 (ls.map slX) .shut] (S m g u) Q:=by
 have hT:∀g u,(S (m+1) g u).done m (Nat.succ m)=S (m+1) g u:=fun _ _=>zIC (by omega)
 have htk:∀i,(ls.take i).flatten.length≤ls.flatten.length:=fun i=>by
  have:=congrArg (fun l=>(List.flatten l).length) (List.take_append_drop i ls)
  simp only[List.flatten_append,List.length_append] at this
  omega
 have hsn:∀i (hi:i<ls.length),(ls.take i).flatten++ls[i]=(ls.take (i+1)).flatten:=fun i hi=>by
  rw[List.take_succ_eq_append_getElem hi,List.flatten_append];simp
 refine zAG (md:=⟨false,false,true,false⟩) (fn:=Tryz.f78) (n:=36) (rs:=[.tmp 2]) rfl rfl rfl rfl rfl rfl rfl (by simp only[go_sem, *];try rfl) (by rfl) ?_
 repeat' (first|simp (disch:=first|assumption|omega) only[go_sem, *]|((first|apply gw_m|apply gw_q);focus (intro hs;(try simp only[nbs] at hs);simp (disch:=first|assumption|omega) only[go_sem, *];rfl))|((first|refine zAB ?_ ?_|refine zAA ?_ ?_|refine sp_C ?_ ?_|refine sp_G ?_ ?_)<;>(intro hs;try simp only[nbs] at hs)))
 refine zAL (ι:=Nat) (fun i=>[(0,.sl 0 (ls.map slX) .shut),(3,.int .i64 (ls.take i).flatten.length),(9,.sl 0 (ls.map slX) .shut),(10,.int .i64 ls.length),(11,.int .i64 i)]) (fun _=>S m g u) (fun i=>i≤ls.length) (fun i=>ls.length-i) ?_ 0 (Nat.zero_le _) ⟨rfl,rfl,rfl,rfl,rfl,trivial⟩ rfl
 intro i b hi hrec
 rcases Nat.lt_or_ge i ls.length with hlt|hge
 ·have hc:decide ((i:Int)<ls.length)=true:=decide_eq_true (by omega)
  have hx:ls[i]?=some ls[i]:=List.getElem?_eq_getElem hlt
  have hs1:=hsn i hlt
  have hle:=htk (i+1)
  have hlen:((ls.take i).flatten.length:Int)+ls[i].length=(ls.take (i+1)).flatten.length:=by rw[← hs1,List.length_append];omega
  have hneg:decide (((ls.take (i+1)).flatten.length:Int)<0)=false:=decide_eq_false (by omega)
  clear hsn htk hs1 h
  generalize ls[i]=l at *
  repeat' (first|simp (disch:=first|assumption|omega) only[go_sem, *]|((first|apply gw_m|apply gw_q);focus (intro hs;(try simp only[nbs] at hs);simp (disch:=first|assumption|omega) only[go_sem, *];rfl))|((first|refine zAB ?_ ?_|refine zAA ?_ ?_|refine sp_C ?_ ?_|refine sp_G ?_ ?_)<;>(intro hs;try simp only[nbs] at hs)))
  exact hrec (i+1) _ _ _ hlt (by omega) ⟨rfl,rfl,rfl,rfl,congrArg (fun z=>some (AV.int .i64 z)) (by omega),trivial⟩ rfl
 have hc:decide ((i:Int)<ls.length)=false:=decide_eq_false (by omega)
 clear hrec
 rw[List.take_of_length_le (by omega)]
 repeat' (first|refine c167 h0 hn ?_|simp (disch:=first|assumption|omega) only[go_sem, *]|((first|apply gw_m|apply gw_q);focus (intro hs;(try simp only[nbs] at hs);simp (disch:=first|assumption|omega) only[go_sem, *];rfl))|((first|refine zAB ?_ ?_|refine zAA ?_ ?_|refine sp_C ?_ ?_|refine sp_G ?_ ?_)<;>(intro hs;try simp only[nbs] at hs)))
 clear hi hge hc
 refine zAL (ι:=Nat×(Nat→Box)) (fun p=>[(6,.osl m 0 (ls.take p.1).flatten.length),(25,.sl 0 (ls.map slX) .shut),(26,.int .i64 ls.length),(27,.int .i64 p.1)]) (fun p=>S (m+1) p.2 u) (fun p=>p.1≤ls.length∧p.2 m=.row 34 11 ((ls.take p.1).flatten.map encX++List.replicate (ls.flatten.length-(ls.take p.1).flatten.length) zX) false∧∀i,i<m→p.2 i=g i) (fun p=>ls.length-p.1) ?_ (0,_) ⟨Nat.zero_le _,zAD,fun i hi=>zAC (by omega)⟩ ⟨rfl,rfl,rfl,rfl,trivial⟩ rfl
 rintro⟨i,G⟩ b ⟨hi,hGm,hlow⟩ hrec
 dsimp only at hi hGm hlow hrec ⊢
 rcases Nat.lt_or_ge i ls.length with hlt|hge
 ·have hc:decide ((i:Int)<ls.length)=true:=decide_eq_true (by omega)
  have hx:ls[i]?=some ls[i]:=List.getElem?_eq_getElem hlt
  have hs1:=hsn i hlt
  have hle:=htk (i+1)
  have hlen:(ls.take i).flatten.length+ls[i].length=(ls.take (i+1)).flatten.length:=by rw[← hs1,List.length_append]
  obtain⟨g',ha,hg1,hg2⟩:=app_in (b:=176) (u:=u) (n:=(ls.take i).flatten.length) (ys:=ls[i].map encX) (Nat.lt_succ_self m) hGm (zM9 _) (by rw[List.length_append,List.length_map,List.length_map,List.length_replicate];omega) (zGP _)
  rw[List.length_map,hlen] at ha
  have hg3:g' m=.row 34 11 ((ls.take (i+1)).flatten.map encX++List.replicate (ls.flatten.length-(ls.take (i+1)).flatten.length) zX) false:=by
   rw[hg1,List.take_left' (by rw[List.length_map]),List.length_map,hlen,← hs1,List.map_append,List.append_assoc]
   congr 3
   rw[List.drop_append,List.drop_eq_nil_of_le (by rw[List.length_map,List.length_append];omega),List.nil_append,List.length_map,List.drop_replicate]
   congr 1
   rw[List.length_append];omega
  clear hsn htk hs1 h hg1 hGm
  generalize ls[i]=l at *
  repeat' (first|simp (disch:=first|assumption|omega) only[go_sem, *]|((first|apply gw_m|apply gw_q);focus (intro hs;(try simp only[nbs] at hs);simp (disch:=first|assumption|omega) only[go_sem, *];rfl))|((first|refine zAB ?_ ?_|refine zAA ?_ ?_|refine sp_C ?_ ?_|refine sp_G ?_ ?_)<;>(intro hs;try simp only[nbs] at hs)))
  exact hrec (i+1,g') _ _ _ ⟨hlt,hg3,fun i hi=>by dsimp only;rw[hg2 i (by omega)];exact hlow i hi⟩ (by dsimp only;omega) ⟨rfl,rfl,rfl,congrArg (fun z=>some (AV.int .i64 z)) (by dsimp only;omega),trivial⟩ rfl
 ·have hc:decide ((i:Int)<ls.length)=false:=decide_eq_false (by omega)
  clear hrec
  rw[List.take_of_length_le (by omega)] at hGm ⊢
  rw[Nat.sub_self,List.replicate_zero,List.append_nil] at hGm
  have hq:=h G hGm hlow
  clear h
  repeat' (first|simp (disch:=first|assumption|omega) only[go_sem, *]|((first|apply gw_m|apply gw_q);focus (intro hs;(try simp only[nbs] at hs);simp (disch:=first|assumption|omega) only[go_sem, *];rfl))|((first|refine zAB ?_ ?_|refine zAA ?_ ?_|refine sp_C ?_ ?_|refine sp_G ?_ ?_)<;>(intro hs;try simp only[nbs] at hs)))
end Go.Ab.X
namespace Pl
def zG6 (sp:Spec):List X:=((((([sp.assume,[sp.init,sp.next],sp.cons,sp.acons,sp.view]:List (List X)).flatten++sp.vars.map (·.typ))++sp.fair.flatMap (fun x=>[x.a,x.sub]))++sp.invs.map (·.e)))
def zNU (sp:Spec)(nd:Int)(e:X):Bool×Int:=(!(zD8 sp (fun _=>true) [] e 1 nd).1,(zD8 sp (fun _=>true) [] e 1 nd).2)
def zLP (sp:Spec):Bool:=
 !(decide ((40:Int)<sp.models.length)||!distinct [] sp.models||decide ((20:Int)<sp.consts.length)||decide ((sp.vars.length:Int)<1)||decide ((16:Int)<sp.vars.length)||decide ((100:Int)<sp.defs.length)||decide ((1:Int)<sp.view.length)) &&
 !(!distinct [] (sp.consts.map (·.name))||!distinct [] (sp.vars.map (·.name))) &&
 !(sp.consts.any fun c=>!(zCA c.v&&zDJ sp.models c.v)) &&
 !decide ((40:Int)<max (max (max (max (max (sp.assume.length:Int) sp.fair.length) sp.invs.length) sp.cons.length) sp.acons.length) sp.props.length) &&
 !(!distinct [] (sp.invs.map (·.name))||!distinct [] (sp.props.map (·.name))||!zDY sp)
def zJC (sp:Spec):Bool:=zLP sp&&(zFK sp 0).1&&!(anyS (zNU sp) (zFK sp 0).2 (zG6 sp)).1
end Pl
namespace Go.Ab
theorem mxb (x y:Int):(bif ilt x y then y else x)=max x y:=by rw[zG1,cond_eq_ite];simp only[decide_eq_true_eq,Int.max_def];split<;>split<;>omega
theorem max_6 {k:IntKind}{a b c d e f:Int}{s:Sto}:bMax [.int k a,.int k b,.int k c,.int k d,.int k e,.int k f] s=.val (.int k (max (max (max (max (max a b) c) d) e) f)) s:=by simp only[bMax,foldMax,mxb]
attribute [go_sem] max_6
end Go.Ab
namespace Go.Ab.X
open Go Go.Ab Go.Proofs Pl
set_option maxRecDepth 100000
set_option maxHeartbeats 4000000
theorem c168I {α σ:Type}{h:α→AV}{l:List α}{fv:AV}{p:σ→α→Bool×σ}{G:σ→Nat→Box}{a:σ}{m:Nat}{u:List (Nat×Nat)}(I:σ→Prop)(hI:∀x∈l,∀a,I a→(p a x).1=false→I (p a x).2)(hIa:I a)(hl:l.length<4611686018427387904)(hu:zAS m u=true)(hu2:zAK m u=u)
  (hsz:∀x,llen (cellsOf (h x))=11) (hld:∀x,pick1 (E1.types 34) (cellsOf (h x)) 0=some (h x)) (hfv:∀a,zA0 (S m (G a) u) fv=some (fv,S m (G a) u))
  (hp:∀x∈l,∀a,I a→∀Q:CR→Sto→Prop,Q (.ret (.bool (p a x).1)) (S m (G (p a x).2) u)→CV E1 fv [h x] (S m (G a) u) Q) {Q:CR→Sto→Prop}
  (hq:∀i:Int,(0≤i↔(anyS p a l).1=true)→Q (.ret (.int .i64 i)) (S m (G (anyS p a l).2) u)):C E1 168 [.sl 0 (l.map h) .shut,fv] (S m (G a) u) Q:=by
 have hfv:=hfv a
 refine zAG (md:=⟨false,false,false,false⟩) (fn:=Tryz.f168) (n:=19) (rs:=[.tmp 4]) rfl rfl rfl rfl rfl rfl rfl (by simp only[go_sem, *];try rfl) (by rfl) ?_
 repeat' (first|simp (disch:=first|assumption|omega) only[go_sem, *]|((first|apply gw_m|apply gw_q);focus (intro hb;(try simp only[nbw] at hb);simp (disch:=first|assumption|omega) only[go_sem, *];rfl))|((first|refine zAB ?_ ?_|refine zAA ?_ ?_|refine sp_C ?_ ?_|refine sp_G ?_ ?_)<;>intro _))
 refine zAL (ι:=Nat×σ) (fun i=>[(8,.int .i64 i.1),(7,.int .i64 l.length),(1,fv),(0,.sl 0 (l.map h) .shut)]) (fun i=>S m (G i.2) u) (fun i=>i.1≤l.length∧I i.2∧anyS p i.2 (l.drop i.1)=anyS p a l) (fun i=>l.length-i.1) ?_ (0,a) ⟨Nat.zero_le _,hIa,rfl⟩ ⟨rfl,rfl,rfl,rfl,trivial⟩ rfl
 rintro⟨i,a1⟩ b ⟨hi,hI1,he⟩ hrec
 simp only at hi hI1 he
 rcases Nat.lt_or_ge i l.length with hlt|hge
 ·have hx:l[i]?=some l[i]:=List.getElem?_eq_getElem hlt
  have hmem:l[i]∈l:=List.getElem_mem hlt
  rw[List.drop_eq_getElem_cons hlt,anyS] at he
  have hc:decide ((i:Int)<l.length)=true:=by simpa using hlt
  repeat' (first|refine zJ4 ?_|refine hp _ hmem _ hI1 _ ?_|simp (disch:=first|assumption|omega) only[go_sem, *]|((first|apply gw_m|apply gw_q);focus (intro hb;(try simp only[nbw] at hb);simp (disch:=first|assumption|omega) only[go_sem, *];rfl))|((first|refine zAB ?_ ?_|refine zAA ?_ ?_|refine sp_C ?_ ?_|refine sp_G ?_ ?_)<;>intro _))
  ·rename_i hpt
   rw[if_pos hpt] at he
   have:=hq i (by rw[← he];simp)
   rw[← he] at this
   exact this
  ·rename_i hpf
   rw[if_neg (by rw[hpf];simp)] at he
   exact hrec (i+1,(p a1 l[i]).2) _ _ _ ⟨hlt,hI _ hmem _ hI1 hpf,he⟩ (by simp only;omega) ⟨rfl,rfl,rfl,rfl,trivial⟩ rfl
 ·have hc:decide ((i:Int)<l.length)=false:=by simpa using hge
  rw[List.drop_eq_nil_of_le hge,anyS] at he
  repeat' (first|simp (disch:=first|assumption|omega) only[go_sem, *]|((first|apply gw_m|apply gw_q);focus (intro hb;(try simp only[nbw] at hb);simp (disch:=first|assumption|omega) only[go_sem, *];rfl))|((first|refine zAB ?_ ?_|refine zAA ?_ ?_|refine sp_C ?_ ?_|refine sp_G ?_ ?_)<;>intro _))
  have:=hq (-1) (by rw[← he];simp)
  rw[← he] at this
  exact this
theorem c79I {α σ:Type}{h:α→AV}{l:List α}{fv:AV}{p:σ→α→Bool×σ}{G:σ→Nat→Box}{a:σ}{m:Nat}{u:List (Nat×Nat)}(I:σ→Prop)(hI:∀x∈l,∀a,I a→(p a x).1=false→I (p a x).2)(hIa:I a)(hl:l.length<4611686018427387904)(hu:zAS m u=true)(hu2:zAK m u=u)
  (hsz:∀x,llen (cellsOf (h x))=11) (hld:∀x,pick1 (E1.types 34) (cellsOf (h x)) 0=some (h x)) (hfv:∀a,zA0 (S m (G a) u) fv=some (fv,S m (G a) u))
  (hp:∀x∈l,∀a,I a→∀Q:CR→Sto→Prop,Q (.ret (.bool (p a x).1)) (S m (G (p a x).2) u)→CV E1 fv [h x] (S m (G a) u) Q) {Q:CR→Sto→Prop}
  (hq:Q (.ret (.bool (anyS p a l).1)) (S m (G (anyS p a l).2) u)):C E1 79 [.sl 0 (l.map h) .shut,fv] (S m (G a) u) Q:=by
 have hfv0:=hfv a
 refine zAG (md:=⟨false,false,false,false⟩) (fn:=Tryz.f79) (n:=9) (rs:=[.tmp 4]) rfl rfl rfl rfl rfl rfl rfl (by simp only[go_sem, *];try rfl) (by rfl) ?_
 repeat' (first|simp (disch:=first|assumption|omega) only[go_sem, *]|((first|apply gw_m|apply gw_q);focus (intro hb;(try simp only[nbw] at hb);simp (disch:=first|assumption|omega) only[go_sem, *];rfl))|((first|refine zAB ?_ ?_|refine zAA ?_ ?_|refine sp_C ?_ ?_|refine sp_G ?_ ?_)<;>intro _))
 refine c168I (p:=p) (G:=G) (a:=a) I hI hIa hl hu hu2 hsz hld hfv hp (fun i hi=>?_)
 repeat' (first|simp (disch:=first|assumption|omega) only[go_sem, *]|((first|apply gw_m|apply gw_q);focus (intro hb;(try simp only[nbw] at hb);simp (disch:=first|assumption|omega) only[go_sem, *];rfl))|((first|refine zAB ?_ ?_|refine zAA ?_ ?_|refine sp_C ?_ ?_|refine sp_G ?_ ?_)<;>intro _))
 exact leaf hq (by simp)
theorem c70 {sp:Pl.Spec}{j:Nat}{nd:Int}{may:AV}{k b:Nat}{x:Pl.Const}(hml:sp.models.length<1073741824)(hx:szV x.v<1073741824){M:Nat}{G:Nat→Box}{u:List (Nat×Nat)}(hu:zAS M u=true)(hu2:zAK M u=u)(hb:b<M)(hGb:G b=.cells 79 [.ptr k 0])(hk:k<M)(hGk:G k=.cells 121 (zAJ sp j nd may))
  {Q:CR→Sto→Prop} (h:Q (.ret (.bool (!(zCA x.v&&zDJ sp.models x.v)))) (S M G u)):C E1 70 [zBE x,.ptr b 0] (S M G u) Q:=by
 have hU3:=zCT hu hu2 (show M≤M+1 by omega)
 have hr:∀Q:CR→Sto→Prop,Q (.ret (.bool (zCA x.v&&zDJ sp.models x.v))) (S (M+1) (updB G M (.cells 107 (zBL x))) u)→C E1 71 [.ptr k 0,encV x.v] (S (M+1) (updB G M (.cells 107 (zBL x))) u) Q:=fun Q hQ=>c71 hml hx hU3.1 hU3.2 (by omega) (by rw[zAC (by omega)];exact hGk) hQ
 have hbM:b≠M:=by omega
 refine zAG (md:=⟨false,false,false,false⟩) (fn:=Tryz.f70) (n:=9) (rs:=[.tmp 3]) rfl rfl rfl rfl rfl rfl rfl (by simp only[go_sem, *];try rfl) (by rfl) ?_
 repeat' (first|refine hr _ ?_|simp (disch:=first|assumption|omega) only[go_sem, *]|((first|apply gw_m|apply gw_q);focus (intro hs;(try simp only[nbs] at hs);simp (disch:=first|assumption|omega) only[go_sem, *];rfl))|((first|refine zAB ?_ ?_|refine zAA ?_ ?_|refine sp_C ?_ ?_|refine sp_G ?_ ?_)<;>(intro hs;try simp only[nbs] at hs)))
theorem c80 {sp:Pl.Spec}{j:Nat}{nd:Int}{k b:Nat}{x:X}(hsp:SpOk sp)(hx:szX x<1073740000){M:Nat}{G:Nat→Box}{u:List (Nat×Nat)}(hb:b<M)(hbk:b≠k)(hGb:G b=.cells 79 [.ptr k 0])(hn0:0≤nd)(hn1:nd≤3000)(hSt:St sp j (.func 0 (.func 63) [] []) k 0 G u M G nd)
  {Q:CR→Sto→Prop} (h:Q (.ret (.bool (zNU sp nd x).1)) (S M (updB G k (.cells 121 (zAJ sp j (zNU sp nd x).2 (.func 0 (.func 63) [] [])))) u)):C E1 80 [encX x,.ptr b 0] (S M G u) Q:=by
 rw[zNU] at h
 have hS1:=hSt.up (.cells 34 (zAO x))
 have hS2:St sp j (.func 0 (.func 63) [] []) k 0 (updB G M (.cells 34 (zAO x))) u (M+1) (updB G M (.cells 34 (zAO x))) nd:=⟨hS1.hu,hS1.hu2,hS1.hk,hS1.hj,hS1.hg,hS1.hgj,hS1.hm0,fun _ _ _=>rfl⟩
 have h81:=(c81 hsp (zZH (len:=sp.defs.length) (k:=k) (g0:=updB G M (.cells 34 (zAO x))) (u:=u)) (szX x+1) x (by omega) hx).1 [] 1 nd (M+1) _ (by simp only[List.length_nil];omega) (by omega) (by omega) hn0 hn1 hS2
 have h81s:∀Q:CR→Sto→Prop,Q (.ret (.bool (zD8 sp (fun _=>true) [] x 1 nd).1)) (S (M+1) (updB (updB G M (.cells 34 (zAO x))) k (.cells 121 (zAJ sp j (zD8 sp (fun _=>true) [] x 1 nd).2 (.func 0 (.func 63) [] [])))) u)→C E1 81 [.ptr k 0,encX x,.sl 0 [] .nil,.int .i64 1] (S (M+1) (updB G M (.cells 34 (zAO x))) u) Q:=fun Q hQ=>
  zHB (args1:=[.ptr k 0,encX x,.sl 0 [] .shut,.int .i64 1]) (s1:=S (M+1) (updB G M (.cells 34 (zAO x))) u) rfl rfl rfl (by simp only[zBT,zEQ,zEM,zIH,zDF]) (by simp only[zBT,zEQ,zEM,zIH,zDF]) (h81 Q hQ)
 have hu:=hSt.hu
 have hu2:=hSt.hu2
 have hkM:=hSt.hk
 have hbM:b≠M:=by omega
 generalize zD8 sp (fun _=>true) [] x 1 nd=st at *
 refine zAG (md:=⟨false,false,false,false⟩) (fn:=Tryz.f80) (n:=8) (rs:=[.tmp 3]) rfl rfl rfl rfl rfl rfl rfl (by simp only[go_sem, *];try rfl) (by rfl) ?_
 repeat' (first|refine h81s _ ?_|simp (disch:=first|assumption|omega) only[go_sem, *]|((first|apply gw_m|apply gw_q);focus (intro hs;(try simp only[nbs] at hs);simp (disch:=first|assumption|omega) only[go_sem, *];rfl))|((first|refine zAB ?_ ?_|refine zAA ?_ ?_|refine sp_C ?_ ?_|refine sp_G ?_ ?_)<;>(intro hs;try simp only[nbs] at hs)))
end Go.Ab.X
end
