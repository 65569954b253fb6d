/- A part. -/
import Derived.Test.YtodldpffhfgicaaGreatDoorK5
set_option linter.all false
noncomputable section
namespace Pl
def mayP (sp:Spec)(i:Nat)(d:Def)(n:Int):Bool:=decide (n<i)||(d.recu&&(sp.defs.getD n.toNat default).recu)
def zCS (sp:Spec):Nat→List Def→Int→Bool×Int
 | _,[],nd=>(true,nd)
 | i,d :: r,nd=>match zEL sp (mayP sp i d) d.params d.body 1 nd with
  | (true,nd')=>zCS sp (i+1) r nd'
  | (false,nd')=>(false,nd')
def zFW (sp:Spec)(nd:Int):Bool×Int:=if defHeads [] sp.defs=true then zCS sp 0 sp.defs nd else(false,nd)
end Pl
namespace Go.Ab.X
open Go Go.Ab Go.Proofs Pl
set_option maxRecDepth 100000
set_option maxHeartbeats 4000000
theorem c193 {n:Int}{m:Nat}{g:Nat→Box}{u:List (Nat×Nat)}(hu:zAQ m u=true)(hu2:zAJ m u=u){Q:CR→Sto→Prop}(h:Q (.ret (.bool (decide (n<0)||decide (8<n)))) (S m g u)):C E1 193 [iv n] (S m g u) Q:=by
 refine cn ⟨false,false,false,false⟩ Tryz.f193 9 [.tmp 2] ?_
 repeat' (first|refine wk ?_|refine fk ?_ ?_<;>intro hs|exact⟨⟩|fail)
def u8v (c:UInt8):AV:=.int .u8 c.toNat
theorem conv_sb (x:Str)(s:Sto):zHY E1 9 232 (some (.str x)) s=.val (.sl 0 (byteVs x) .shut) s:=rfl
attribute [go_sem] conv_sb
theorem byteVs_map:∀l:List UInt8,byteVs l=l.map u8v
 | []=>rfl
 | c :: r=>by rw[byteVs,byteVs_map r];rfl
theorem c195 {c:UInt8}{m:Nat}{g:Nat→Box}{u:List (Nat×Nat)}(hu:zAQ m u=true)(hu2:zAJ m u=u){Q:CR→Sto→Prop}(h:Q (.ret (.bool (decide ((c.toNat:Int)<33)||decide (126<(c.toNat:Int))))) (S m g u)):C E1 195 [u8v c] (S m g u) Q:=by
 unfold u8v
 refine cn ⟨false,false,false,false⟩ Tryz.f195 9 [.tmp 2] ?_
 repeat' (first|refine wk ?_|refine fk ?_ ?_<;>intro hs|exact⟨⟩|fail)
theorem c197 {d x:Pl.Def}{b:Nat}{m:Nat}{g:Nat→Box}{u:List (Nat×Nat)}(hu:zAQ m u=true)(hu2:zAJ m u=u)(hb:b<m)(hg:g b=.cells 128 (zBG d)){Q:CR→Sto→Prop}(h:Q (.ret (.bool (decide (x.name=d.name)))) (S m g u)):C E1 197 [zCO x,.ptr b 0] (S m g u) Q:=by
 refine cn ⟨false,false,false,false⟩ Tryz.f197 9 [.tmp 3] ?_
 repeat' (first|refine wk ?_|refine fk ?_ ?_<;>intro hs|exact⟨⟩|fail)
theorem c198 {sp:Pl.Spec}{d:Pl.Def}{i:Nat}{n:Int}{a b c:Nat}{m:Nat}{g:Nat→Box}{u:List (Nat×Nat)}(hu:zAQ m u=true)(hu2:zAJ m u=u)(ha:a<m)(hb:b<m)(hc:c<m)(hga:g a=.cells 3 [.int .i64 i])(hgb:g b=.cells 128 (zBG d))(hgc:g c=.cells 25 [.sl 0 (sp.defs.map zCO) .shut])
  (h0:0≤n) (h1:n<sp.defs.length) {Q:CR→Sto→Prop} (h:Q (.ret (.bool (mayP sp i d n))) (S m g u)):C E1 198 [.int .i64 n,.ptr a 0,.ptr b 0,.ptr c 0] (S m g u) Q:=by
 rw[mayP] at h
 have hx:=zMK h0 h1
 refine cn ⟨false,false,false,false⟩ Tryz.f198 20 [.tmp 5] ?_
 repeat' (first|refine wk ?_|refine fk ?_ ?_<;>intro hs|exact⟨⟩|fail)
theorem c199 (sc:List Int)(hsc:sc.length<1073741824){m:Nat}{g:Nat→Box}{u:List (Nat×Nat)}(hu:zAQ m u=true)(hu2:zAJ m u=u) :
  ∃v m' g' g'',m≤m'∧(∀i,i<m→g' i=g i)∧(∀i,i<m→g'' i=g i)∧zBC (S m' g' u) v=some (.sl 0 (sc.map iv) .shut,S m' g'' u)∧∀Q:CR→Sto→Prop,Q (.ret v) (S m' g' u)→C E1 199 [.sl 0 (sc.map iv) .shut] (S m g u) Q:=by
 cases sc with
 | nil=>exact⟨.sl 0 [] .clip,m,g,g,Nat.le_refl _,fun _ _=>rfl,fun _ _=>rfl,rfl,fun Q hQ=>yAL rfl hQ⟩
 | cons a r=>
  have hap:∀g,zAR 3 1 8 (.sl 0 [] .clip) ((a :: r).map iv) (S m g u)=some (.osl m 0 ((a :: r).map iv).length,S (m+1) (updB g m (.row 3 1 ((a :: r).map iv) false)) u):=fun g=>by
   rw[zTS (xs:=[]) rfl (zP3 _) (by simp) (by rw[List.length_map];simp only[List.length_nil];omega) (by rw[List.nil_append];exact zFM _)]
   simp
  refine⟨.osl m 0 ((a :: r).map iv).length,m+1,updB g m (.row 3 1 ((a :: r).map iv) false),_,Nat.le_succ m,fun i hi=>zAA (by omega),fun i hi=>?_,zFG (Nat.lt_succ_self m) zAB rfl (zFM _),fun Q hQ=>?_⟩
  ·rw[zAA (by omega),zAA (by omega)]
  ·have hT:∀g u,(S (m+1) g u).done m (Nat.succ m)=S (m+1) g u:=fun _ _=>zHT (Nat.lt_succ_self m)
   have hne:∀c s,binA E1 .eql 27 c (.sl 0 ((a :: r).map iv) .shut) (.sl 0 [] .nil) s=some (.bool false):=fun _ _=>rfl
   rw[List.map_cons,show iv a=AV.int .i64 a from rfl] at *
   generalize hr:r.map iv=rr at *
   refine cn ⟨false,false,true,false⟩ Tryz.f199 8 [.tmp 2] ?_
   repeat' (first|refine wk ?_|refine fk ?_ ?_<;>intro hs|exact⟨⟩|fail)
   exact hQ
theorem zMD {n b t:Nat}{g:Nat→Box}{u:List (Nat×Nat)}(hb:b≤n):∃m' g' u',b≤m'∧(S n g u).done b t=S m' g' u':=by
 by_cases h1:t≤b
 ·cases h2:zAQ b u with
  | true=>exact⟨_,_,_,Nat.le_refl _,yAB hb h1 h2⟩
  | false=>exact⟨_,_,_,hb,yAA h2⟩
 ·exact⟨_,_,_,hb,zHT (by omega)⟩
def uOf (k:Nat):Option Nat→List (Nat×Nat)
 | none=>[]
 | some t=>[(k,t)]
theorem zSS {k M:Nat}{o:Option Nat}(hk:k<M)(ho:∀t,o=some t→t≤M):zAQ M (uOf k o)=true∧zAJ M (uOf k o)=uOf k o:=by
 cases o with
 | none=>exact⟨rfl,rfl⟩
 | some t=>
  have:=ho t rfl
  simp only[uOf,zAQ,zAJ,zGV,zCK,decide_eq_true hk,decide_eq_true this,cond_true,and_self]
theorem uOf_ins {k T:Nat}{o:Option Nat}(ho:∀t,o=some t→t≤T):zJO k T (uOf k o)=uOf k (some T):=by
 cases o with
 | none=>rfl
 | some t=>
  have:=ho t rfl
  simp only[uOf,zJO,Nat.beq_refl,cond_true]
  rw[show Nat.max t T=T from Nat.max_eq_right this]
theorem C_gen {E:Env}{f:FuncId}{args:List AV}{m:Nat}{G:Nat→Box}{u:List (Nat×Nat)}{Q:CR→Sto→Prop}(h:∀G2:Nat→Box,(∀i,G2 i=G i)→C E f args (S m G2 u) Q):C E f args (S m G u) Q:=h G fun _=>rfl
theorem zZ4 {len k:Nat}{g0:Nat→Box}{u:List (Nat×Nat)}:MayOk (.func 0 (.func 140) [] []) (fun _=>true) len 0 k g0 u:=fun M G _ _ n _ _ Q hQ=>zB1 rfl (c140 hQ)
theorem heads_p8:∀(pre l:List Pl.Def),defHeads pre l=true→∀d∈l,d.params.length≤8∧∀p∈d.params,0≤p∧p≤8
 | pre,d :: r,h,x,hx=>by
  rw[defHeads] at h
  simp only[Bool.and_eq_true,decide_eq_true_eq,List.all_eq_true] at h
  cases hx with
  | head=>exact⟨by omega,fun p hp=>h.1.1.2 p hp⟩
  | tail _ hx=>exact heads_p8 _ r h.2 x hx
theorem zKX {sp:Pl.Spec}(h:defHeads [] sp.defs=true)(n p:Int)(hp:p∈params sp n):0≤p∧p≤8:=by
 rw[params,List.getD_eq_getElem?_getD] at hp
 cases hd:sp.defs[n.toNat]? with
 | none=>rw[hd] at hp;cases hp
 | some d=>rw[hd] at hp;exact(heads_p8 [] sp.defs h d (List.mem_of_getElem? hd)).2 p hp
theorem c154 {sp:Pl.Spec}{j:Nat}{nd:Int}{may0:AV}{k:Nat}(hml:sp.models.length<1073741824)(hdl:sp.defs.length<1073741824)(hvl:sp.vars.length<1073741824)(hcl:sp.consts.length<1073741824)(hpl:∀n,(params sp n).length<1073741824)(hnl:∀x∈sp.defs,x.name.length<1073741824)(hbl:∀x∈sp.defs,szX x.body<1073740000)
  {m:Nat} {g:Nat→Box} (hk:k<m) (hj:j<m) (hg:g k=.cells 183 (zAI sp j nd may0)) (hgj:g j=.mapb (zA8 shL)) (hn0:0≤nd) (hn1:nd≤3000)
  {Q:CR→Sto→Prop} (h:∀m' g' u',m≤m'→((zFW sp nd).1=true→zAQ m' u'=true∧zAJ m' u'=u'∧g' k=.cells 183 (zAI sp j (zFW sp nd).2 (.func 0 (.func 140) [] []))∧g' j=.mapb (zA8 shL)∧∀i,i<m→i≠k→g' i=g i)→Q (.ret (.bool (zFW sp nd).1)) (S m' g' u')):C E1 154 [.ptr k 0] (S m g []) Q:=by
 have hu:zAQ m []=true:=rfl
 have hu2:zAJ m []=[]:=rfl
 have hfalse:∀(nd':Int) (n t:Nat) (g:Nat→Box) (u:List (Nat×Nat)),m≤n→zFW sp nd=(false,nd')→Q (.ret (.bool false)) ((S n g u).done m t):=fun nd' n t g u hn e=>by
  obtain⟨m',g',u',e1,e2⟩:=zMD (t:=t) (g:=g) (u:=u) hn
  rw[e2]
  rw[e] at h
  exact h m' g' u' e1 (fun h=>nomatch h)
 have hfalse0:∀(nd':Int) (g:Nat→Box),zFW sp nd=(false,nd')→Q (.ret (.bool false)) (S m g []):=fun nd' g e=>by
  rw[e] at h
  exact h m g [] (Nat.le_refl _) (fun h=>nomatch h)
 refine cn ⟨false,false,false,false⟩ Tryz.f154 76 [.tmp 2] ?_
 repeat' (first|refine wk ?_|refine fk ?_ ?_<;>intro hs|exact⟨⟩|fail)
 refine zAF (ι:=Nat×Nat×(Nat→Box)) (fun p=>[(0,.ptr k 0),(3,.ptr m 0),(13,.sl 0 (sp.defs.map zCO) .shut),(14,.int .i64 sp.defs.length),(15,.int .i64 p.1)]) (fun p=>S p.2.1 p.2.2 [])
  (fun p=>p.1≤sp.defs.length∧m+1≤p.2.1∧(∀i,i<m→p.2.2 i=g i)∧p.2.2 m=.cells 25 [.sl 0 (sp.defs.map zCO) .shut]∧defHeads [] sp.defs=defHeads (sp.defs.take p.1) (sp.defs.drop p.1)) (fun p=>sp.defs.length-p.1) ?_ (0,m+1,_) ⟨Nat.zero_le _,Nat.le_refl _,fun i hi=>zAA (by omega),zAB,rfl⟩ ⟨rfl,rfl,rfl,rfl,rfl,trivial⟩ rfl
 rintro⟨i,M,G⟩ b ⟨hi,hM,hlow,hGm,he⟩ hrec
 dsimp only at hi hM hlow hGm he hrec ⊢
 rcases Nat.lt_or_ge i sp.defs.length with hlt|hge
 ·have hc:decide ((i:Int)<sp.defs.length)=true:=decide_eq_true (by omega)
  have hx:sp.defs[i]?=some sp.defs[i]:=List.getElem?_eq_getElem hlt
  have hnl:=hnl _ (List.getElem_mem hlt)
  rw[List.drop_eq_getElem_cons hlt,defHeads,← List.take_succ_eq_append_getElem hlt] at he
  have hpl2:sp.defs[i].params.length<1073741824:=by have:=hpl i;rw[params,Int.toNat_natCast,List.getD_eq_getElem?_getD,hx] at this;exact this
  generalize sp.defs[i]=d at *
  obtain⟨G1,hG1⟩:∃G1,updB G M (.cells 128 (zBG d))=G1:=⟨_,rfl⟩
  have hG1m:G1 m=.cells 25 [.sl 0 (sp.defs.map zCO) .shut]:=by rw[← hG1,zAA (by omega)];exact hGm
  have hG1M:G1 M=.cells 128 (zBG d):=by rw[← hG1,zAB]
  have hlow1:∀i,i<m→G1 i=g i:=fun i h1=>by rw[← hG1,zAA (by omega)];exact hlow i h1
  have h159:∀Q:CR→Sto→Prop,Q (.ret (.bool (!(d.params.all fun p=>decide (0≤p)&&decide (p≤8))))) (S (M+1) G1 [])→C E1 192 [.sl 0 (d.params.map iv) .shut,.func 0 (.func 193) [] []] (S (M+1) G1 []) Q:=fun Q hQ=>
   c192p (h:=iv) (q:=fun n=>decide (n<0)||decide (8<n)) (by omega) rfl rfl (fun _=>rfl) (fun _=>rfl) rfl (fun x _ Q hQ=>zB1 rfl (c193 rfl rfl hQ)) (by
    have e1:(d.params.any fun n=>decide (n<0)||decide (8<n))=!(d.params.all fun p=>decide (0≤p)&&decide (p≤8)):=by
     rw[List.all_eq_not_any_not,Bool.not_not]
     congr 1;funext p;grind
    rw[e1];exact hQ)
  have h161:∀Q:CR→Sto→Prop,Q (.ret (.bool (!(d.name.all fun c=>decide ((33:Int)≤c.toNat)&&decide ((c.toNat:Int)≤126))))) (S (M+1) G1 [])→C E1 194 [.sl 0 (byteVs d.name) .shut,.func 0 (.func 195) [] []] (S (M+1) G1 []) Q:=fun Q hQ=>by
   rw[byteVs_map]
   exact c194p (h:=u8v) (q:=fun c=>decide ((c.toNat:Int)<33)||decide (126<(c.toNat:Int))) (by omega) rfl rfl (fun _=>rfl) (fun _=>rfl) rfl (fun x _ Q hQ=>zB1 rfl (c195 rfl rfl hQ)) (by
    have e1:(d.name.any fun c=>decide ((c.toNat:Int)<33)||decide (126<(c.toNat:Int)))=!(d.name.all fun c=>decide ((33:Int)≤c.toNat)&&decide ((c.toNat:Int)≤126)):=by
     rw[List.all_eq_not_any_not,Bool.not_not]
     congr 1;funext p;grind
    rw[e1];exact hQ)
  have h163:∀Q:CR→Sto→Prop,Q (.ret (.bool ((sp.defs.take i).any fun x=>decide (x.name=d.name)))) (S (M+1) G1 [])→C E1 196 [.sl 0 ((sp.defs.take i).map zCO) .shut,.func (M+1) (.func 197) [] [.ptr M 0]] (S (M+1) G1 []) Q:=fun Q hQ=>
   c196p (h:=zCO) (q:=fun x=>decide (x.name=d.name)) (by rw[List.length_take];omega) rfl rfl (fun _=>rfl) (fun _=>pk_Def) rfl (fun x _ Q hQ=>zB1 rfl (c197 (d:=d) rfl rfl (by omega) hG1M hQ)) hQ
  repeat' (first|(refine zEX (fun Q h=>h159 _ h) ?_ ?_;focus (intro hs;(try simp only[nbs] at hs);simp (disch:=first|assumption|omega) only[go_sem, *];first|done|rfl))|refine h161 _ ?_|(refine zEX (fun Q h=>h163 _ h) ?_ ?_;focus (intro hs;(try simp only[nbs] at hs);simp (disch:=first|assumption|omega) only[go_sem, *];first|done|rfl))|refine wk ?_|refine fk ?_ ?_<;>intro hs|exact⟨⟩|fail)
  all_goals clear h159 h161 h163
  ·have hf:defHeads [] sp.defs=false:=by
    rw[he]
    generalize (d.params.all fun p=>decide (0≤p)&&decide (p≤8))=pa at *
    simp only[zRG]
    grind
   exact hfalse0 nd G1 (by rw[zFW,hf];rfl)
  ·have hf:defHeads [] sp.defs=false:=by
    rw[he]
    simp only[zRG]
    generalize (d.name.all fun c=>decide ((33:Int)≤c.toNat)&&decide ((c.toNat:Int)≤126))=na at *
    generalize ((sp.defs.take i).any fun x=>decide (x.name=d.name))=pr at *
    clear h hrec hfalse hfalse0
    cases na<;>cases pr<;>simp_all
   exact hfalse0 nd G1 (by rw[zFW,hf];rfl)
  ·obtain⟨h1,h2⟩:=hs
   have hT:defHeads [] sp.defs=defHeads (sp.defs.take (i+1)) (sp.defs.drop (i+1)):=by
    rw[he]
    simp only[zRG]
    rw[h1,h2]
    clear h hrec hfalse hfalse0
    grind
   exact hrec (i+1,M+1,G1) _ _ _ ⟨hlt,by dsimp only;omega,hlow1,hG1m,hT⟩ (by dsimp only;omega) ⟨rfl,rfl,rfl,rfl,congrArg (fun z=>some (AV.int .i64 z)) (by dsimp only;omega),trivial⟩ rfl
 ·have hc:decide ((i:Int)<sp.defs.length)=false:=decide_eq_false (by omega)
  clear hrec hfalse0
  rw[List.drop_eq_nil_of_le hge,defHeads] at he
  have hR0:zFW sp nd=zCS sp 0 sp.defs nd:=by rw[zFW,if_pos he]
  have hsp:SpOk sp:=⟨hml,hdl,hvl,hcl,hpl,zKX he⟩
  rw[hR0] at h hfalse
  clear hR0
  obtain⟨R,hR⟩:∃R,zCS sp 0 sp.defs nd=R:=⟨_,rfl⟩
  rw[hR] at h hfalse
  repeat' (first|refine wk ?_|refine fk ?_ ?_<;>intro hs|exact⟨⟩|fail)
  refine zAF (ι:=Nat×Int×Nat×Option Nat×(Nat→Box)) (fun p=>[(0,.ptr k 0),(3,.ptr m 0),(53,.sl 0 (sp.defs.map zCO) .shut),(54,.int .i64 sp.defs.length),(55,.int .i64 p.1)]) (fun p=>S p.2.2.1 p.2.2.2.2 (uOf k p.2.2.2.1))
   (fun p=>p.1≤sp.defs.length∧0≤p.2.1∧p.2.1≤3000∧m+1≤p.2.2.1∧(∀t,p.2.2.2.1=some t→t≤p.2.2.1)∧(∀i,i<m→i≠k→p.2.2.2.2 i=g i)∧p.2.2.2.2 m=.cells 25 [.sl 0 (sp.defs.map zCO) .shut]∧(∃may,p.2.2.2.2 k=.cells 183 (zAI sp j p.2.1 may))∧p.2.2.2.2 j=.mapb (zA8 shL)∧zCS sp p.1 (sp.defs.drop p.1) p.2.1=R) (fun p=>sp.defs.length-p.1) ?_ (0,nd,M,none,G) ⟨Nat.zero_le _,hn0,hn1,hM,(fun t h=>nomatch h),fun i h1 _=>hlow i h1,hGm,⟨may0,by dsimp only;rw[hlow k hk];exact hg⟩,by dsimp only;rw[hlow j hj];exact hgj,hR⟩ ⟨rfl,rfl,rfl,rfl,rfl,trivial⟩ rfl
  clear hn0 hn1 hlow hGm hR hi hM hge hc
  have hjk:j≠k:=fun e=>by rw[e,hg] at hgj;cases hgj
  clear hg hgj
  clear nd M G i
  rintro⟨i,nd,M,o,G⟩ b ⟨hi,hn0,hn1,hM,ho,hlow,hGm,⟨may,hGk⟩,hGj,hR⟩ hrec
  dsimp only at hi hn0 hn1 hM ho hlow hGm hGk hGj hR hrec ⊢
  have hU:=zSS (k:=k) (o:=o) (M:=M) (by omega) ho
  rcases Nat.lt_or_ge i sp.defs.length with hlt|hge
  ·have hc:decide ((i:Int)<sp.defs.length)=true:=decide_eq_true (by omega)
   have hx:sp.defs[i]?=some sp.defs[i]:=List.getElem?_eq_getElem hlt
   have hbl:=hbl _ (List.getElem_mem hlt)
   have hd8:=(heads_p8 [] sp.defs he _ (List.getElem_mem hlt)).1
   rw[List.drop_eq_getElem_cons hlt,zCS] at hR
   generalize sp.defs[i]=d at *
   have hmx1:(M+1+1).max (m+1)=M+1+1:=Nat.max_eq_left (by omega)
   have hmx2:(M+1).max (M+1+1)=M+1+1:=Nat.max_eq_right (by omega)
   have hN:∀g u,(S (M+1+1) g u).note k (M+1+1)=S (M+1+1) g (zJO k (M+1+1) u):=fun g u=>zSL (by omega)
   have hup:zJO k (M+1+1) (uOf k o)=uOf k (some (M+1+1)):=uOf_ins (fun t h=>by have:=ho t h;omega)
   have hkM:k<M+1+1:=by omega
   have hneM:k≠M:=by omega
   have hneM1:k≠M+1:=by omega
   repeat' (first|refine wk ?_|refine fk ?_ ?_<;>intro hs|exact⟨⟩|fail)
   refine C_gen ?_
   intro G2 hG2
   have hG2k:G2 k=.cells 183 (zAI sp j nd (.func (M+1+1) (.func 198) [] [.ptr M 0,.ptr (M+1) 0,.ptr m 0])):=(by rw[hG2];(repeat (first|rw[zAB]|rw[zAA (by omega)]));try assumption)
   have hG2M:G2 M=.cells 3 [.int .i64 i]:=(by rw[hG2];(repeat (first|rw[zAB]|rw[zAA (by omega)]));try assumption)
   have hG2M1:G2 (M+1)=.cells 128 (zBG d):=(by rw[hG2];(repeat (first|rw[zAB]|rw[zAA (by omega)]));try assumption)
   have hG2m:G2 m=.cells 25 [.sl 0 (sp.defs.map zCO) .shut]:=(by rw[hG2];(repeat (first|rw[zAB]|rw[zAA (by omega)]));try assumption)
   have hG2j:G2 j=.mapb (zA8 shL):=(by rw[hG2];(repeat (first|rw[zAB]|rw[zAA (by omega)]));try assumption)
   have hlow2:∀i,i<m→i≠k→G2 i=g i:=fun i h1 h2=>by rw[hG2];(repeat (first|rw[zAB]|rw[zAA (by omega)]));exact hlow i h1 h2
   clear hG2 hup hN hmx1 hmx2 hU hGk hGj hGm hlow ho
   have hU:=zSS (k:=k) (o:=some (M+1+1)) (M:=M+1+1) (by omega) (fun t h=>by cases h;exact Nat.le_refl _)
   obtain⟨v,m',g',g'',hm',hg',hg'',hse,hcl⟩:=c199 d.params (by omega) (g:=G2) hU.1 hU.2
   refine hcl _ ?_
   clear hcl
   have hU':=zSS (k:=k) (o:=some (M+1+1)) (M:=m') (by omega) (fun t h=>by cases h;exact hm')
   have hSt:St sp j (.func (M+1+1) (.func 198) [] [.ptr M 0,.ptr (M+1) 0,.ptr m 0]) k (M+1+1) G2 (uOf k (some (M+1+1))) m' g'' nd:=
    ⟨hU'.1,hU'.2,by omega,by omega,by rw[hg'' k hkM];exact hG2k,by rw[hg'' j (by omega)];exact hG2j,hm',fun i h1 _=>hg'' i h1⟩
   have hmay:MayOk (.func (M+1+1) (.func 198) [] [.ptr M 0,.ptr (M+1) 0,.ptr m 0]) (mayP sp i d) sp.defs.length (M+1+1) k G2 (uOf k (some (M+1+1))):=fun M' G' hM' hG' n h0 h1 Q hQ=>by
    have hU3:=zSS (k:=k) (o:=some (M+1+1)) (M:=M') (by omega) (fun t h=>by cases h;exact hM')
    exact zB1 rfl (c198 hU3.1 hU3.2 (by omega) (by omega) (by omega) (by rw[hG' M (by omega) (by omega)];exact hG2M) (by rw[hG' (M+1) (by omega) (by omega)];exact hG2M1) (by rw[hG' m (by omega) (by omega)];exact hG2m) h0 h1 hQ)
   have h81:=(c156 hsp hmay (szX d.body+1) d.body (by omega) (by omega)).1 d.params 1 nd m' g'' (by omega) (by omega) (by omega) hn0 hn1 hSt
   have h81s:∀Q:CR→Sto→Prop,Q (.ret (.bool (zEL sp (mayP sp i d) d.params d.body 1 nd).1)) (S m' (updB g'' k (.cells 183 (zAI sp j (zEL sp (mayP sp i d) d.params d.body 1 nd).2 (.func (M+1+1) (.func 198) [] [.ptr M 0,.ptr (M+1) 0,.ptr m 0])))) (uOf k (some (M+1+1))))→C E1 156 [.ptr k 0,encX d.body,v,.int .i64 1] (S m' g' (uOf k (some (M+1+1)))) Q:=fun Q hQ=>
    zG3 (args1:=[.ptr k 0,encX d.body,.sl 0 (d.params.map iv) .shut,.int .i64 1]) (s1:=S m' g'' (uOf k (some (M+1+1)))) rfl rfl rfl rfl rfl (by simp only[zBO,hse,zGJ,zIT,zEW]) (by simp only[zBO,zFN,zGJ,zIT,zEW]) (h81 Q hQ)
   have hnd:=zQP (zDW sp (mayP sp i d) d.params d.body 1 nd) hn0
   clear h81 hmay hSt hse hU
   generalize zEL sp (mayP sp i d) d.params d.body 1 nd=st at *
   obtain⟨b1,nd1⟩:=st
   dsimp only at hR h81s hnd
   repeat' (first|refine h81s _ ?_|refine wk ?_|refine fk ?_ ?_<;>intro hs|exact⟨⟩|fail)
   ·subst hs
    exact hfalse nd1 _ _ _ _ (by omega) hR.symm
   ·subst hs
    have hnd:=hnd rfl
    exact hrec (i+1,nd1,m',some (M+1+1),updB g'' k (.cells 183 (zAI sp j nd1 (.func (M+1+1) (.func 198) [] [.ptr M 0,.ptr (M+1) 0,.ptr m 0])))) _ _ _
     ⟨hlt,hnd.1,hnd.2,by dsimp only;omega,fun t h=>by cases h;exact hm',fun i h1 h2=>by dsimp only;rw[zAA h2,hg'' i (by omega)];exact hlow2 i h1 h2,by dsimp only;rw[zAA (by omega),hg'' m (by omega)];exact hG2m,⟨_,zAB⟩,by dsimp only;rw[zAA hjk,hg'' j (by omega)];exact hG2j,hR⟩ (by dsimp only;omega) ⟨rfl,rfl,rfl,rfl,congrArg (fun z=>some (AV.int .i64 z)) (by dsimp only;omega),trivial⟩ rfl
  ·have hc:decide ((i:Int)<sp.defs.length)=false:=decide_eq_false (by omega)
   clear hrec
   rw[List.drop_eq_nil_of_le hge,zCS] at hR
   have hkM:k<M:=by omega
   repeat' (first|refine wk ?_|refine fk ?_ ?_<;>intro hs|exact⟨⟩|fail)
   rw[← hR] at h
   generalize hG':updB G k (.cells 183 (zAI sp j nd (.func 0 (.func 140) [] [])))=G'
   have hf1:G' k=.cells 183 (zAI sp j nd (.func 0 (.func 140) [] [])):=by rw[← hG',zAB]
   have hf2:G' j=.mapb (zA8 shL):=by rw[← hG',zAA hjk];exact hGj
   have hf3:∀i,i<m→i≠k→G' i=g i:=fun i h1 h2=>by rw[← hG',zAA h2];exact hlow i h1 h2
   cases hq:zAQ m (uOf k o) with
   | true=>
    have hcut:zAJ m (uOf k o)=uOf k o:=by
     cases o with
     | none=>rfl
     | some t=>simp only[uOf,zAJ,zGV,decide_eq_true hk,cond_true]
    rw[yAB (by omega) (Nat.zero_le _) hq,hcut]
    exact h m G' _ (Nat.le_refl _) fun _=>⟨hq,hcut,hf1,hf2,hf3⟩
   | false=>
    rw[yAA hq]
    exact h M G' _ (by omega) fun _=>⟨hU.1,hU.2,hf1,hf2,hf3⟩
end Go.Ab.X
namespace Pl
abbrev Sh:=Int×Bool×Bool×Bool
def putL (k:Int)(x:Sh):List (Int×Sh)→List (Int×Sh)
 | []=>[(k,x)]
 | (j,y) :: r=>if k=j then(j,x) :: r else(j,y) :: putL k x r
def zCM (x:Sh):List Int→List (Int×Sh)→List (Int×Sh)
 | [],l=>l
 | k :: r,l=>zCM x r (putL k x l)
theorem zBZ (x:Sh)(k:Int):∀(ks:List Int) (l:List (Int×Sh)),zCM x (ks++[k]) l=putL k x (zCM x ks l)
 | [],l=>rfl
 | j :: r,l=>by rw[List.cons_append,zCM,zCM,zBZ x k r]
end Pl
namespace Go.Ab.X
open Go Go.Ab Go.Proofs Pl
set_option maxRecDepth 100000
set_option maxHeartbeats 4000000
theorem zW6 (k:Int)(x:Sh):∀l:List (Int×Sh),zI4 (.int .i64 k) (zL9 x) (zA8 l)=some (zA8 (putL k x l))
 | []=>rfl
 | (j,y) :: r=>by
  show(match zKJ (.int .i64 k) (.int .i64 j) with|some b=>bif b then some ((AV.int .i64 j,zL9 x) :: zA8 r) else(match zI4 (.int .i64 k) (zL9 x) (zA8 r) with|some r=>some ((AV.int .i64 j,zL9 y) :: r)|none=>none)|none=>none)=_
  rw[zW6 k x r]
  simp only[zKJ,zDV,cond_true,zJC]
  by_cases h:k=j
  ·rw[decide_eq_true h,show putL k x ((j,y) :: r)=(j,x) :: r from if_pos h];rfl
  ·rw[decide_eq_false h,show putL k x ((j,y) :: r)=(j,y) :: putL k x r from if_neg h];rfl
def upB (b:Box)(j:Nat)(k:Int)(v:AV)(m:Nat)(g:Nat→Box)(u:List (Nat×Nat)):Nx:=match b with
 | .mapb es=>(match zI4 (.int .i64 k) v es with|some es=>.val Ab.undef ((S m (updB g j (.mapb es)) u).note j (top v))|none=>.no)
 | _=>.no
theorem up_sh {m j:Nat}{g:Nat→Box}{u:List (Nat×Nat)}{k a:Int}{b c d:Bool}(hj:j<m):zC9 E1 180 (some (.map j)) (some (.int .i64 k)) (some (.agg [.int .i64 a,.bool b,.bool c,.bool d])) (S m g u)=upB (g j) j k (.agg [.int .i64 a,.bool b,.bool c,.bool d]) m g u:=by
 unfold zC9
 rw[tyd180]
 simp only
 rw[show zH6 (E1.types 3).d (.int .i64 k)=true from rfl]
 simp only[cond_true]
 rw[show zBC (S m g u) (.agg [.int .i64 a,.bool b,.bool c,.bool d])=some (.agg [.int .i64 a,.bool b,.bool c,.bool d],S m g u) from rfl]
 simp only
 rw[zEY hj]
 unfold upB
 cases g j with
 | mapb es=>
  simp only
  cases zI4 (AV.int .i64 k) (AV.agg [.int .i64 a,.bool b,.bool c,.bool d]) es with
  | none=>rfl
  | some es'=>simp only;rw[zIP hj]
 | _=>rfl
theorem upB_sh {m j:Nat}{g:Nat→Box}{u:List (Nat×Nat)}{k a:Int}{b c d:Bool}{l:List (Int×Sh)}:upB (.mapb (zA8 l)) j k (.agg [.int .i64 a,.bool b,.bool c,.bool d]) m g u=.val Ab.undef (S m (updB g j (.mapb (zA8 (putL k (a,b,c,d) l)))) u):=by
 unfold upB
 simp only
 rw[show AV.agg [.int .i64 a,.bool b,.bool c,.bool d]=zL9 (a,b,c,d) from rfl,zW6]
 simp only
 rw[zMO (by exact Nat.zero_le _)]
theorem enc_nil:Box.mapb []=.mapb (zA8 []):=rfl
theorem zZS (fr:Fr)(ps:List (Nat×Operand))(s:Sto):zDL E1 fr 227 ps s=(match zBW fr ps with|some ps=>bldT 227 ps s|none=>.no):=rfl
theorem b227_a (s:Sto):bldT 227 [(3,.bool true)] s=.val (.agg [.int .i64 0,.bool false,.bool false,.bool true]) s:=rfl
theorem b227_b (n:Int)(s:Sto):bldT 227 [(0,.int .i64 n),(1,.bool true)] s=.val (.agg [.int .i64 n,.bool true,.bool false,.bool false]) s:=rfl
theorem b227_c (n:Int)(s:Sto):bldT 227 [(0,.int .i64 n),(2,.bool true)] s=.val (.agg [.int .i64 n,.bool false,.bool true,.bool false]) s:=rfl
theorem b227_d (s:Sto):bldT 227 [(1,.bool true)] s=.val (.agg [.int .i64 0,.bool true,.bool false,.bool false]) s:=rfl
theorem b227_e (n:Int)(s:Sto):bldT 227 [(0,.int .i64 n)] s=.val (.agg [.int .i64 n,.bool false,.bool false,.bool false]) s:=rfl
attribute [go_sem] up_sh upB_sh enc_nil zZS b227_a b227_b b227_c b227_d b227_e
theorem c139 {m:Nat}{g:Nat→Box}{u:List (Nat×Nat)}{Q:CR→Sto→Prop}(h:Q (.ret (.map m)) (S (m+1) (updB g m (.mapb (zA8 shL))) u)):C E1 139 [] (S m g u) Q:=by
 have hT:∀g u,(S (m+1) g u).done m (Nat.succ m)=S (m+1) g u:=fun _ _=>zHT (Nat.lt_succ_self m)
 have hmm:m<m+1:=Nat.lt_succ_self m
 refine cn ⟨false,false,false,false⟩ Tryz.f139 86 [.tmp 0] ?_
 repeat' (first|refine wk ?_|refine fk ?_ ?_<;>intro hs|exact⟨⟩|fail)
 obtain⟨L0,hL0⟩:∃L:List (Int×Sh),putL 37 (1,false,true,false) (putL 36 (-1,false,true,false) (putL 35 (-1,false,true,false) (putL 7 (-1,true,false,false) (putL 6 (-1,true,false,false) (putL 41 (-1,true,false,false) (putL 46 (-1,true,false,false) (putL 47 (-1,true,false,false) (putL 1 (0,false,false,true) []))))))))=L:=⟨_,rfl⟩
 rw[hL0]
 obtain⟨ks0,hk0⟩:∃ks:List Int,([2,3,4]:List Int)=ks:=⟨_,rfl⟩
 have hlen:ks0.length=3:=by rw[← hk0];rfl
 refine zAF (ι:=Nat) (fun i=>[(1,.map m),(25,.sl 0 (ks0.map iv) .clip),(26,.int .i64 3),(27,.int .i64 i)]) (fun i=>S (m+1) (updB g m (.mapb (zA8 (zCM (0,true,false,false) (ks0.take i) L0)))) u) (fun i=>i≤3) (fun i=>3-i) ?_ 0 (Nat.zero_le _) ⟨rfl,by rw[← hk0];rfl,rfl,rfl,trivial⟩ rfl
 intro i b hi hrec
 rcases Nat.lt_or_ge i 3 with hlt|hge
 ·have hc:decide ((i:Int)<3)=true:=decide_eq_true (by omega)
  have hx:ks0[i]?=some (ks0[i]'(by omega)):=List.getElem?_eq_getElem (by omega)
  have hp:=zBZ (0,true,false,false) (ks0[i]'(by omega)) (ks0.take i) L0
  rw[← List.take_succ_eq_append_getElem (by omega)] at hp
  generalize ks0[i]'(by omega)=x at *
  replace hp:=hp.symm
  repeat' (first|refine wk ?_|refine fk ?_ ?_<;>intro hs|exact⟨⟩|fail)
  exact hrec (i+1) _ _ _ (by omega) (by omega) ⟨rfl,rfl,rfl,congrArg (fun z=>some (AV.int .i64 z)) (by omega),trivial⟩ rfl
 have hc:decide ((i:Int)<3)=false:=decide_eq_false (by omega)
 clear hrec
 rw[List.take_of_length_le (by omega)]
 clear hlen hi hge
 repeat' (first|refine wk ?_|refine fk ?_ ?_<;>intro hs|exact⟨⟩|fail)
 clear hc
 rw[← hk0]
 clear hk0
 obtain⟨L1,hL1⟩:∃L:List (Int×Sh),zCM (0,true,false,false) ([2,3,4]:List Int) L0=L:=⟨_,rfl⟩
 rw[hL1]
 obtain⟨ks1,hk1⟩:∃ks:List Int,([16,17,24,30]:List Int)=ks:=⟨_,rfl⟩
 have hlen:ks1.length=4:=by rw[← hk1];rfl
 refine zAF (ι:=Nat) (fun i=>[(1,.map m),(35,.sl 0 (ks1.map iv) .clip),(36,.int .i64 4),(37,.int .i64 i)]) (fun i=>S (m+1) (updB g m (.mapb (zA8 (zCM (-1,true,false,false) (ks1.take i) L1)))) u) (fun i=>i≤4) (fun i=>4-i) ?_ 0 (Nat.zero_le _) ⟨rfl,by rw[← hk1];rfl,rfl,rfl,trivial⟩ rfl
 intro i b hi hrec
 rcases Nat.lt_or_ge i 4 with hlt|hge
 ·have hc:decide ((i:Int)<4)=true:=decide_eq_true (by omega)
  have hx:ks1[i]?=some (ks1[i]'(by omega)):=List.getElem?_eq_getElem (by omega)
  have hp:=zBZ (-1,true,false,false) (ks1[i]'(by omega)) (ks1.take i) L1
  rw[← List.take_succ_eq_append_getElem (by omega)] at hp
  generalize ks1[i]'(by omega)=x at *
  replace hp:=hp.symm
  repeat' (first|refine wk ?_|refine fk ?_ ?_<;>intro hs|exact⟨⟩|fail)
  exact hrec (i+1) _ _ _ (by omega) (by omega) ⟨rfl,rfl,rfl,congrArg (fun z=>some (AV.int .i64 z)) (by omega),trivial⟩ rfl
 have hc:decide ((i:Int)<4)=false:=decide_eq_false (by omega)
 clear hrec
 rw[List.take_of_length_le (by omega)]
 clear hlen hi hge
 repeat' (first|refine wk ?_|refine fk ?_ ?_<;>intro hs|exact⟨⟩|fail)
 clear hc
 rw[← hk1]
 clear hk1
 obtain⟨L2,hL2⟩:∃L:List (Int×Sh),zCM (-1,true,false,false) ([16,17,24,30]:List Int) L1=L:=⟨_,rfl⟩
 rw[hL2]
 obtain⟨ks2,hk2⟩:∃ks:List Int,([11,12,22,38,39]:List Int)=ks:=⟨_,rfl⟩
 have hlen:ks2.length=5:=by rw[← hk2];rfl
 refine zAF (ι:=Nat) (fun i=>[(1,.map m),(45,.sl 0 (ks2.map iv) .clip),(46,.int .i64 5),(47,.int .i64 i)]) (fun i=>S (m+1) (updB g m (.mapb (zA8 (zCM (-1,false,false,false) (ks2.take i) L2)))) u) (fun i=>i≤5) (fun i=>5-i) ?_ 0 (Nat.zero_le _) ⟨rfl,by rw[← hk2];rfl,rfl,rfl,trivial⟩ rfl
 intro i b hi hrec
 rcases Nat.lt_or_ge i 5 with hlt|hge
 ·have hc:decide ((i:Int)<5)=true:=decide_eq_true (by omega)
  have hx:ks2[i]?=some (ks2[i]'(by omega)):=List.getElem?_eq_getElem (by omega)
  have hp:=zBZ (-1,false,false,false) (ks2[i]'(by omega)) (ks2.take i) L2
  rw[← List.take_succ_eq_append_getElem (by omega)] at hp
  generalize ks2[i]'(by omega)=x at *
  replace hp:=hp.symm
  repeat' (first|refine wk ?_|refine fk ?_ ?_<;>intro hs|exact⟨⟩|fail)
  exact hrec (i+1) _ _ _ (by omega) (by omega) ⟨rfl,rfl,rfl,congrArg (fun z=>some (AV.int .i64 z)) (by omega),trivial⟩ rfl
 have hc:decide ((i:Int)<5)=false:=decide_eq_false (by omega)
 clear hrec
 rw[List.take_of_length_le (by omega)]
 clear hlen hi hge
 repeat' (first|refine wk ?_|refine fk ?_ ?_<;>intro hs|exact⟨⟩|fail)
 clear hc
 rw[← hk2]
 clear hk2
 obtain⟨L3,hL3⟩:∃L:List (Int×Sh),zCM (-1,false,false,false) ([11,12,22,38,39]:List Int) L2=L:=⟨_,rfl⟩
 rw[hL3]
 obtain⟨ks3,hk3⟩:∃ks:List Int,([5,13,25,26,32,43,45]:List Int)=ks:=⟨_,rfl⟩
 have hlen:ks3.length=7:=by rw[← hk3];rfl
 refine zAF (ι:=Nat) (fun i=>[(1,.map m),(55,.sl 0 (ks3.map iv) .clip),(56,.int .i64 7),(57,.int .i64 i)]) (fun i=>S (m+1) (updB g m (.mapb (zA8 (zCM (1,false,false,false) (ks3.take i) L3)))) u) (fun i=>i≤7) (fun i=>7-i) ?_ 0 (Nat.zero_le _) ⟨rfl,by rw[← hk3];rfl,rfl,rfl,trivial⟩ rfl
 intro i b hi hrec
 rcases Nat.lt_or_ge i 7 with hlt|hge
 ·have hc:decide ((i:Int)<7)=true:=decide_eq_true (by omega)
  have hx:ks3[i]?=some (ks3[i]'(by omega)):=List.getElem?_eq_getElem (by omega)
  have hp:=zBZ (1,false,false,false) (ks3[i]'(by omega)) (ks3.take i) L3
  rw[← List.take_succ_eq_append_getElem (by omega)] at hp
  generalize ks3[i]'(by omega)=x at *
  replace hp:=hp.symm
  repeat' (first|refine wk ?_|refine fk ?_ ?_<;>intro hs|exact⟨⟩|fail)
  exact hrec (i+1) _ _ _ (by omega) (by omega) ⟨rfl,rfl,rfl,congrArg (fun z=>some (AV.int .i64 z)) (by omega),trivial⟩ rfl
 have hc:decide ((i:Int)<7)=false:=decide_eq_false (by omega)
 clear hrec
 rw[List.take_of_length_le (by omega)]
 clear hlen hi hge
 repeat' (first|refine wk ?_|refine fk ?_ ?_<;>intro hs|exact⟨⟩|fail)
 clear hc
 rw[← hk3]
 clear hk3
 obtain⟨L4,hL4⟩:∃L:List (Int×Sh),zCM (1,false,false,false) ([5,13,25,26,32,43,45]:List Int) L3=L:=⟨_,rfl⟩
 rw[hL4]
 obtain⟨ks4,hk4⟩:∃ks:List Int,([14,15,18,19,20,21,23,27,28,29,31,33,42,44]:List Int)=ks:=⟨_,rfl⟩
 have hlen:ks4.length=14:=by rw[← hk4];rfl
 refine zAF (ι:=Nat) (fun i=>[(1,.map m),(65,.sl 0 (ks4.map iv) .clip),(66,.int .i64 14),(67,.int .i64 i)]) (fun i=>S (m+1) (updB g m (.mapb (zA8 (zCM (2,false,false,false) (ks4.take i) L4)))) u) (fun i=>i≤14) (fun i=>14-i) ?_ 0 (Nat.zero_le _) ⟨rfl,by rw[← hk4];rfl,rfl,rfl,trivial⟩ rfl
 intro i b hi hrec
 rcases Nat.lt_or_ge i 14 with hlt|hge
 ·have hc:decide ((i:Int)<14)=true:=decide_eq_true (by omega)
  have hx:ks4[i]?=some (ks4[i]'(by omega)):=List.getElem?_eq_getElem (by omega)
  have hp:=zBZ (2,false,false,false) (ks4[i]'(by omega)) (ks4.take i) L4
  rw[← List.take_succ_eq_append_getElem (by omega)] at hp
  generalize ks4[i]'(by omega)=x at *
  replace hp:=hp.symm
  repeat' (first|refine wk ?_|refine fk ?_ ?_<;>intro hs|exact⟨⟩|fail)
  exact hrec (i+1) _ _ _ (by omega) (by omega) ⟨rfl,rfl,rfl,congrArg (fun z=>some (AV.int .i64 z)) (by omega),trivial⟩ rfl
 have hc:decide ((i:Int)<14)=false:=decide_eq_false (by omega)
 clear hrec
 rw[List.take_of_length_le (by omega)]
 clear hlen hi hge
 repeat' (first|refine wk ?_|refine fk ?_ ?_<;>intro hs|exact⟨⟩|fail)
 clear hc
 rw[← hk4]
 clear hk4
 obtain⟨L5,hL5⟩:∃L:List (Int×Sh),zCM (2,false,false,false) ([14,15,18,19,20,21,23,27,28,29,31,33,42,44]:List Int) L4=L:=⟨_,rfl⟩
 rw[hL5]
 obtain⟨ks5,hk5⟩:∃ks:List Int,([34,40]:List Int)=ks:=⟨_,rfl⟩
 have hlen:ks5.length=2:=by rw[← hk5];rfl
 refine zAF (ι:=Nat) (fun i=>[(1,.map m),(75,.sl 0 (ks5.map iv) .clip),(76,.int .i64 2),(77,.int .i64 i)]) (fun i=>S (m+1) (updB g m (.mapb (zA8 (zCM (3,false,false,false) (ks5.take i) L5)))) u) (fun i=>i≤2) (fun i=>2-i) ?_ 0 (Nat.zero_le _) ⟨rfl,by rw[← hk5];rfl,rfl,rfl,trivial⟩ rfl
 intro i b hi hrec
 rcases Nat.lt_or_ge i 2 with hlt|hge
 ·have hc:decide ((i:Int)<2)=true:=decide_eq_true (by omega)
  have hx:ks5[i]?=some (ks5[i]'(by omega)):=List.getElem?_eq_getElem (by omega)
  have hp:=zBZ (3,false,false,false) (ks5[i]'(by omega)) (ks5.take i) L5
  rw[← List.take_succ_eq_append_getElem (by omega)] at hp
  generalize ks5[i]'(by omega)=x at *
  replace hp:=hp.symm
  repeat' (first|refine wk ?_|refine fk ?_ ?_<;>intro hs|exact⟨⟩|fail)
  exact hrec (i+1) _ _ _ (by omega) (by omega) ⟨rfl,rfl,rfl,congrArg (fun z=>some (AV.int .i64 z)) (by omega),trivial⟩ rfl
 have hc:decide ((i:Int)<2)=false:=decide_eq_false (by omega)
 clear hrec
 rw[List.take_of_length_le (by omega)]
 clear hlen hi hge
 repeat' (first|refine wk ?_|refine fk ?_ ?_<;>intro hs|exact⟨⟩|fail)
 clear hc
 rw[← hk5]
 clear hk5
 have hfin:zCM (3,false,false,false) ([34,40]:List Int) L5=shL:=by rw[← hL5,← hL4,← hL3,← hL2,← hL1,← hL0];decide
 rw[hfin]
 exact h
end Go.Ab.X
namespace Go.Ab.X
open Go Go.Ab Go.Proofs Pl
set_option maxRecDepth 100000
set_option maxHeartbeats 4000000
theorem tops_Ck (sp:Pl.Spec)(j:Nat)(nd:Int)(may:AV):tops (zAI sp j nd may)=max (j+1) (top may):=by
 rw[zAI,zAV,show tops (zAC sp)=0 from rfl]
 show max 0 (max (j+1) (max 0 (max (top may) 0)))=_
 omega
theorem flat_Ck (sp:Pl.Spec)(j:Nat)(nd:Int)(t:Nat)(f:Fn)(a b:List AV):flatC (zAI sp j nd (.func t f a b))=true:=rfl
theorem zZU (fr:Fr)(ps:List (Nat×Operand))(s:Sto):zDL E1 fr 183 ps s=(match zBW fr ps with|some ps=>bldT 183 ps s|none=>.no):=rfl
theorem b183 (sp:Pl.Spec)(j:Nat)(t:Nat)(f:Fn)(a b:List AV)(s:Sto):bldT 183 [(0,zAN sp),(1,.map j),(3,.func t f a b)] s=.val (.agg (zAI sp j 0 (.func t f a b))) s:=rfl
attribute [go_sem] tops_Ck flat_Ck zZU b183
theorem c95 {sp:Pl.Spec}{m:Nat}{g:Nat→Box}{u:List (Nat×Nat)}{Q:CR→Sto→Prop}(h:∀G:Nat→Box,G (m+2)=.cells 183 (zAI sp (m+1) 0 (.func 0 (.func 140) [] []))→G (m+1)=.mapb (zA8 shL)→(∀i,i<m→G i=g i)→Q (.ret (.ptr (m+2) 0)) (S (m+3) G u)):C E1 95 [zAN sp] (S m g u) Q:=by
 have hT:∀g u,(S (m+1+1+1) g u).done m (Nat.succ (m+1+1))=S (m+1+1+1) g u:=fun _ _=>zHT (by omega)
 have hmx:max (m+1+1) 0=m+1+1:=Nat.max_eq_left (by omega)
 refine cn ⟨false,false,false,false⟩ Tryz.f95 7 [.tmp 2] ?_
 repeat' (first|apply c139|refine wk ?_|refine fk ?_ ?_<;>intro hs|exact⟨⟩|fail)
 refine h _ zAB ?_ ?_
 ·rw[zAA (by omega),zAB]
 ·intro i hi
  rw[zAA (by omega),zAA (by omega),zAA (by omega)]
theorem app_in {ty:TypeId}{es b m k n:Nat}{g:Nat→Box}{u:List (Nat×Nat)}{xs ys:List AV}(hk:k<m)(hg:g k=.row ty es xs false)(hf:zBK es ys=true)(hn:n+ys.length≤xs.length)(ht:tops ys=0) :
  ∃g',zAR ty es b (.osl k 0 n) ys (S m g u)=some (.osl k 0 (n+ys.length),S m g' u)∧g' k=.row ty es (xs.take n++(ys++xs.drop (n+ys.length))) false∧∀i,i≠k→g' i=g i:=by
 cases ys with
 | nil=>exact⟨g,rfl,by rw[hg];simp,fun _ _=>rfl⟩
 | cons a r=>
  refine⟨updB g k (.row ty es (splice xs n (a :: r)) false),?_,by rw[zAB];simp only[splice,zBP,zCA,zCZ,zAH],fun i hi=>zAA hi⟩
  simp only[zAR,hf,cond_true,zHS,zEY hk,hg,Nat.beq_refl,Bool.true_and,zAH,Nat.zero_add,zCK]
  rw[decide_eq_true (show n≤xs.length by omega),decide_eq_true hn]
  simp only[cond_true,cond_false,zIP hk]
  rw[zMO (by rw[ht];omega)]
def zX:AV:=zAK (E1.types 34)
theorem fits_zX (n:Nat):zBK 11 (List.replicate n zX)=true:=by
 induction n with
 | zero=>rfl
 | succ n ih=>rw[List.replicate_succ];show(bif _ then zBK 11 (List.replicate n zX) else false)=true;rw[ih];rfl
theorem tops_zX (n:Nat):tops (List.replicate n zX)=0:=by
 induction n with
 | zero=>rfl
 | succ n ih=>rw[List.replicate_succ];show max (top zX) (tops (List.replicate n zX))=0;rw[ih];rfl
theorem c134 {n:Nat}{m:Nat}{g:Nat→Box}{u:List (Nat×Nat)}(h0:0<n)(hn:n<10000000000){Q:CR→Sto→Prop}(h:Q (.ret (.osl m 0 0)) (S (m+1) (updB g m (.row 34 11 (List.replicate n zX) false)) u)):C E1 134 [.sl 0 [] .nil,.int .i64 n] (S m g u) Q:=by
 have hT:∀g u,(S (m+1) g u).done m (Nat.succ m)=S (m+1) g u:=fun _ _=>zHT (by omega)
 have hap:zAR 34 11 176 (.sl 0 [] .nil) (lrep (zAK (E1.types 34)) n) (S m g u)=some (.osl m 0 n,S (m+1) (updB g m (.row 34 11 (List.replicate n zX) false)) u):=by
  rw[zD7]
  show zAR 34 11 176 (.sl 0 [] .nil) (List.replicate n zX) (S m g u)=_
  rw[zGW (fits_zX n) (by rw[List.length_replicate];exact h0) (by rw[List.length_replicate];omega) (tops_zX n),List.length_replicate]
 have hl1:decide (n*176≤limit)=true:=decide_eq_true (by rw[limit_eq];omega)
 have hl2:decide (n≤limit)=true:=decide_eq_true (by rw[limit_eq];omega)
 have hp:decide ((0:Int)<n)=true:=decide_eq_true (by omega)
 have hs1:∀s,zIS 11 (.sl 0 [] .nil) none (some 0) none s=some (.sl 0 [] .nil,s):=fun s=>rfl
 have hc:∀s,bCap E1 26 [.sl 0 [] .nil] s=.val (.int .i64 0) s:=fun s=>rfl
 have hs2:zIS 11 (.osl m 0 n) none (some 0) none (S (m+1) (updB g m (.row 34 11 (List.replicate n zX) false)) u)=some (.osl m 0 0,S (m+1) (updB g m (.row 34 11 (List.replicate n zX) false)) u):=by
  show zFF 11 m 0 n none (some 0) none _=_
  unfold zFF
  rw[zEY (by omega),zAB]
  simp only[Nat.beq_refl,cond_true,zDY,zCK,Nat.zero_le,decide_true,Bool.and_self,Nat.sub_self,Nat.add_zero]
 have hneg:decide ((n:Int)<0)=false:=decide_eq_false (by omega)
 have hsub:(n:Int)-0=n:=Int.sub_zero _
 refine cn ⟨false,true,true,false⟩ Tryz.f134 27 [.tmp 4] ?_
 repeat' (first|refine wk ?_|refine fk ?_ ?_<;>intro hs|exact⟨⟩|fail)
def slX (l:List X):AV:=.sl 0 (l.map encX) .shut
attribute [go_sem] slX
theorem c88 {ls:List (List X)}{m:Nat}{g:Nat→Box}{u:List (Nat×Nat)}(hls:ls.length<1073741824)(h0:0<ls.flatten.length)(hn:ls.flatten.length<10000000000){Q:CR→Sto→Prop}(h:∀g':Nat→Box,g' m=.row 34 11 (ls.flatten.map encX) false→(∀i,i<m→g' i=g i)→Q (.ret (.osl m 0 ls.flatten.length)) (S (m+1) g' u)):C E1 88 [.sl 0 (ls.map slX) .shut] (S m g u) Q:=by
 have hT:∀g u,(S (m+1) g u).done m (Nat.succ m)=S (m+1) g u:=fun _ _=>zHT (by omega)
 have htk:∀i,(ls.take i).flatten.length≤ls.flatten.length:=fun i=>by
  have:=congrArg (fun l=>(List.flatten l).length) (List.take_append_drop i ls)
  simp only[List.flatten_append,List.length_append] at this
  omega
 have hsn:∀i (hi:i<ls.length),(ls.take i).flatten++ls[i]=(ls.take (i+1)).flatten:=fun i hi=>by
  rw[List.take_succ_eq_append_getElem hi,List.flatten_append];simp
 refine cn ⟨false,false,true,false⟩ Tryz.f88 36 [.tmp 2] ?_
 repeat' (first|refine wk ?_|refine fk ?_ ?_<;>intro hs|exact⟨⟩|fail)
 refine zAF (ι:=Nat) (fun i=>[(0,.sl 0 (ls.map slX) .shut),(3,.int .i64 (ls.take i).flatten.length),(9,.sl 0 (ls.map slX) .shut),(10,.int .i64 ls.length),(11,.int .i64 i)]) (fun _=>S m g u) (fun i=>i≤ls.length) (fun i=>ls.length-i) ?_ 0 (Nat.zero_le _) ⟨rfl,rfl,rfl,rfl,rfl,trivial⟩ rfl
 intro i b hi hrec
 rcases Nat.lt_or_ge i ls.length with hlt|hge
 ·have hc:decide ((i:Int)<ls.length)=true:=decide_eq_true (by omega)
  have hx:ls[i]?=some ls[i]:=List.getElem?_eq_getElem hlt
  have hs1:=hsn i hlt
  have hle:=htk (i+1)
  have hlen:((ls.take i).flatten.length:Int)+ls[i].length=(ls.take (i+1)).flatten.length:=by rw[← hs1,List.length_append];omega
  have hneg:decide (((ls.take (i+1)).flatten.length:Int)<0)=false:=decide_eq_false (by omega)
  clear hsn htk hs1 h
  generalize ls[i]=l at *
  repeat' (first|refine wk ?_|refine fk ?_ ?_<;>intro hs|exact⟨⟩|fail)
  exact hrec (i+1) _ _ _ hlt (by omega) ⟨rfl,rfl,rfl,rfl,congrArg (fun z=>some (AV.int .i64 z)) (by omega),trivial⟩ rfl
 have hc:decide ((i:Int)<ls.length)=false:=decide_eq_false (by omega)
 clear hrec
 rw[List.take_of_length_le (by omega)]
 repeat' (first|refine c134 h0 hn ?_|refine wk ?_|refine fk ?_ ?_<;>intro hs|exact⟨⟩|fail)
 clear hi hge hc
 refine zAF (ι:=Nat×(Nat→Box)) (fun p=>[(6,.osl m 0 (ls.take p.1).flatten.length),(25,.sl 0 (ls.map slX) .shut),(26,.int .i64 ls.length),(27,.int .i64 p.1)]) (fun p=>S (m+1) p.2 u) (fun p=>p.1≤ls.length∧p.2 m=.row 34 11 ((ls.take p.1).flatten.map encX++List.replicate (ls.flatten.length-(ls.take p.1).flatten.length) zX) false∧∀i,i<m→p.2 i=g i) (fun p=>ls.length-p.1) ?_ (0,_) ⟨Nat.zero_le _,zAB,fun i hi=>zAA (by omega)⟩ ⟨rfl,rfl,rfl,rfl,trivial⟩ rfl
 rintro⟨i,G⟩ b ⟨hi,hGm,hlow⟩ hrec
 dsimp only at hi hGm hlow hrec ⊢
 rcases Nat.lt_or_ge i ls.length with hlt|hge
 ·have hc:decide ((i:Int)<ls.length)=true:=decide_eq_true (by omega)
  have hx:ls[i]?=some ls[i]:=List.getElem?_eq_getElem hlt
  have hs1:=hsn i hlt
  have hle:=htk (i+1)
  have hlen:(ls.take i).flatten.length+ls[i].length=(ls.take (i+1)).flatten.length:=by rw[← hs1,List.length_append]
  obtain⟨g',ha,hg1,hg2⟩:=app_in (b:=176) (u:=u) (n:=(ls.take i).flatten.length) (ys:=ls[i].map encX) (Nat.lt_succ_self m) hGm (zHK _) (by rw[List.length_append,List.length_map,List.length_map,List.length_replicate];omega) (zC4 _)
  rw[List.length_map,hlen] at ha
  have hg3:g' m=.row 34 11 ((ls.take (i+1)).flatten.map encX++List.replicate (ls.flatten.length-(ls.take (i+1)).flatten.length) zX) false:=by
   rw[hg1,List.take_left' (by rw[List.length_map]),List.length_map,hlen,← hs1,List.map_append,List.append_assoc]
   congr 3
   rw[List.drop_append,List.drop_eq_nil_of_le (by rw[List.length_map,List.length_append];omega),List.nil_append,List.length_map,List.drop_replicate]
   congr 1
   rw[List.length_append];omega
  clear hsn htk hs1 h hg1 hGm
  generalize ls[i]=l at *
  repeat' (first|refine wk ?_|refine fk ?_ ?_<;>intro hs|exact⟨⟩|fail)
  exact hrec (i+1,g') _ _ _ ⟨hlt,hg3,fun i hi=>by dsimp only;rw[hg2 i (by omega)];exact hlow i hi⟩ (by dsimp only;omega) ⟨rfl,rfl,rfl,congrArg (fun z=>some (AV.int .i64 z)) (by dsimp only;omega),trivial⟩ rfl
 ·have hc:decide ((i:Int)<ls.length)=false:=decide_eq_false (by omega)
  clear hrec
  rw[List.take_of_length_le (by omega)] at hGm ⊢
  rw[Nat.sub_self,List.replicate_zero,List.append_nil] at hGm
  have hq:=h G hGm hlow
  clear h
  repeat' (first|refine wk ?_|refine fk ?_ ?_<;>intro hs|exact⟨⟩|fail)
end Go.Ab.X
namespace Pl
def zHN (sp:Spec):List X:=((((([sp.assume,[sp.init,sp.next],sp.cons,sp.acons,sp.view]:List (List X)).flatten++sp.vars.map (·.typ))++sp.fair.flatMap (fun x=>[x.a,x.sub]))++sp.invs.map (·.e)))
def zN3 (sp:Spec)(nd:Int)(e:X):Bool×Int:=(!(zEL sp (fun _=>true) [] e 1 nd).1,(zEL sp (fun _=>true) [] e 1 nd).2)
def zL0 (sp:Spec):Bool:=
 !(decide ((40:Int)<sp.models.length)||!distinct [] sp.models||decide ((20:Int)<sp.consts.length)||decide ((sp.vars.length:Int)<1)||decide ((16:Int)<sp.vars.length)||decide ((100:Int)<sp.defs.length)||decide ((1:Int)<sp.view.length)) &&
 !(!distinct [] (sp.consts.map (·.name))||!distinct [] (sp.vars.map (·.name))) &&
 !(sp.consts.any fun c=>!(zBD c.v&&zDU sp.models c.v)) &&
 !decide ((40:Int)<max (max (max (max (max (sp.assume.length:Int) sp.fair.length) sp.invs.length) sp.cons.length) sp.acons.length) sp.props.length) &&
 !(!distinct [] (sp.invs.map (·.name))||!distinct [] (sp.props.map (·.name))||!zEC sp)
def zG4 (sp:Spec):Bool:=zL0 sp&&(zFW sp 0).1&&!(anyS (zN3 sp) (zFW sp 0).2 (zHN sp)).1
end Pl
namespace Go.Ab
theorem mxb (x y:Int):(bif ilt x y then y else x)=max x y:=by rw[zHH,cond_eq_ite];simp only[decide_eq_true_eq,Int.max_def];split<;>split<;>omega
theorem max_6 {k:IntKind}{a b c d e f:Int}{s:Sto}:bMax [.int k a,.int k b,.int k c,.int k d,.int k e,.int k f] s=.val (.int k (max (max (max (max (max a b) c) d) e) f)) s:=by simp only[bMax,foldMax,mxb]
attribute [go_sem] max_6
end Go.Ab
namespace Go.Ab.X
open Go Go.Ab Go.Proofs Pl
set_option maxRecDepth 100000
set_option maxHeartbeats 4000000
def c89I:=@CX.anyI _ _ _ cx89
theorem c147 {sp:Pl.Spec}{j:Nat}{nd:Int}{may:AV}{k b:Nat}{x:Pl.Const}(hml:sp.models.length<1073741824)(hx:szV x.v<1073741824){M:Nat}{G:Nat→Box}{u:List (Nat×Nat)}(hu:zAQ M u=true)(hu2:zAJ M u=u)(hb:b<M)(hGb:G b=.cells 135 [.ptr k 0])(hk:k<M)(hGk:G k=.cells 183 (zAI sp j nd may))
  {Q:CR→Sto→Prop} (h:Q (.ret (.bool (!(zBD x.v&&zDU sp.models x.v)))) (S M G u)):C E1 147 [zBF x,.ptr b 0] (S M G u) Q:=by
 have hU3:=zB6 hu hu2 (show M≤M+1 by omega)
 have hr:∀Q:CR→Sto→Prop,Q (.ret (.bool (zBD x.v&&zDU sp.models x.v))) (S (M+1) (updB G M (.cells 126 (zBX x))) u)→C E1 148 [.ptr k 0,encV x.v] (S (M+1) (updB G M (.cells 126 (zBX x))) u) Q:=fun Q hQ=>c148 hml hx hU3.1 hU3.2 (by omega) (by rw[zAA (by omega)];exact hGk) hQ
 have hbM:b≠M:=by omega
 refine cn ⟨false,false,false,false⟩ Tryz.f147 9 [.tmp 3] ?_
 repeat' (first|refine hr _ ?_|refine wk ?_|refine fk ?_ ?_<;>intro hs|exact⟨⟩|fail)
theorem c155 {sp:Pl.Spec}{j:Nat}{nd:Int}{k b:Nat}{x:X}(hsp:SpOk sp)(hx:szX x<1073740000){M:Nat}{G:Nat→Box}{u:List (Nat×Nat)}(hb:b<M)(hbk:b≠k)(hGb:G b=.cells 135 [.ptr k 0])(hn0:0≤nd)(hn1:nd≤3000)(hSt:St sp j (.func 0 (.func 140) [] []) k 0 G u M G nd)
  {Q:CR→Sto→Prop} (h:Q (.ret (.bool (zN3 sp nd x).1)) (S M (updB G k (.cells 183 (zAI sp j (zN3 sp nd x).2 (.func 0 (.func 140) [] [])))) u)):C E1 155 [encX x,.ptr b 0] (S M G u) Q:=by
 rw[zN3] at h
 have hS1:=hSt.up (.cells 34 (zAL x))
 have hS2:St sp j (.func 0 (.func 140) [] []) k 0 (updB G M (.cells 34 (zAL x))) u (M+1) (updB G M (.cells 34 (zAL x))) nd:=⟨hS1.hu,hS1.hu2,hS1.hk,hS1.hj,hS1.hg,hS1.hgj,hS1.hm0,fun _ _ _=>rfl⟩
 have h81:=(c156 hsp (zZ4 (len:=sp.defs.length) (k:=k) (g0:=updB G M (.cells 34 (zAL x))) (u:=u)) (szX x+1) x (by omega) hx).1 [] 1 nd (M+1) _ (by simp only[List.length_nil];omega) (by omega) (by omega) hn0 hn1 hS2
 have h81s:∀Q:CR→Sto→Prop,Q (.ret (.bool (zEL sp (fun _=>true) [] x 1 nd).1)) (S (M+1) (updB (updB G M (.cells 34 (zAL x))) k (.cells 183 (zAI sp j (zEL sp (fun _=>true) [] x 1 nd).2 (.func 0 (.func 140) [] [])))) u)→C E1 156 [.ptr k 0,encX x,.sl 0 [] .nil,.int .i64 1] (S (M+1) (updB G M (.cells 34 (zAL x))) u) Q:=fun Q hQ=>
  zG3 (args1:=[.ptr k 0,encX x,.sl 0 [] .shut,.int .i64 1]) (s1:=S (M+1) (updB G M (.cells 34 (zAL x))) u) rfl rfl rfl rfl rfl (by simp only[zBO,zFN,zGJ,zIT,zEW]) (by simp only[zBO,zFN,zGJ,zIT,zEW]) (h81 Q hQ)
 have hu:=hSt.hu
 have hu2:=hSt.hu2
 have hkM:=hSt.hk
 have hbM:b≠M:=by omega
 generalize zEL sp (fun _=>true) [] x 1 nd=st at *
 refine cn ⟨false,false,false,false⟩ Tryz.f155 8 [.tmp 3] ?_
 repeat' (first|refine h81s _ ?_|refine wk ?_|refine fk ?_ ?_<;>intro hs|exact⟨⟩|fail)
end Go.Ab.X
namespace Go.Ab.X
open Go Go.Ab Go.Proofs Pl
set_option maxRecDepth 100000
set_option maxHeartbeats 16000000
theorem gs_pos {k:Nat}{xs:List AV}(h:0<xs.length):gs k xs=.osl k 0 xs.length:=by cases xs with|nil=>simp at h|cons a r=>rfl
theorem zNW (sp:Pl.Spec):∀(i:Nat) (l:List Pl.Def) (nd:Int),0≤nd→nd≤3000→(zCS sp i l nd).1=true→0≤(zCS sp i l nd).2∧(zCS sp i l nd).2≤3000
 | i,[],nd,h0,h1,_=>⟨h0,h1⟩
 | i,d :: r,nd,h0,h1,h=>by
  have hnd:=zQP (zDW sp (mayP sp i d) d.params d.body 1 nd) h0
  rw[zCS] at h ⊢
  generalize zEL sp (mayP sp i d) d.params d.body 1 nd=st at *
  obtain⟨b,nd1⟩:=st
  cases b with
  | true=>have hnd:=hnd rfl;exact zNW sp (i+1) r nd1 hnd.1 hnd.2 h
  | false=>cases h
theorem defsP_nd (sp:Pl.Spec)(nd:Int)(h0:0≤nd)(h1:nd≤3000)(h:(zFW sp nd).1=true):0≤(zFW sp nd).2∧(zFW sp nd).2≤3000:=by
 rw[zFW] at h ⊢
 split at h
 ·rename_i hh;rw[if_pos hh];exact zNW sp 0 sp.defs nd h0 h1 h
 ·cases h
structure Sz (sp:Pl.Spec):Prop where
 ml:sp.models.length<1073741824
 dl:sp.defs.length<1073741824
 vl:sp.vars.length<1073741824
 cl:sp.consts.length<1073741824
 pl:∀n,(params sp n).length<1073741824
 nl:∀x∈sp.defs,x.name.length<1073741824
 bl:∀x∈sp.defs,szX x.body<1073740000
 mn:lens sp.models<1073741000
 cn:lens (sp.consts.map (·.name))<1073741000
 vn:lens (sp.vars.map (·.name))<1073741000
 inm:lens (sp.invs.map (·.name))<1073741000
 pn:lens (sp.props.map (·.name))<1073741000
 cv:∀c∈sp.consts,szV c.v<1073741824
 il:sp.invs.length<1073741824
 pr:sp.props.length<1073741824
 gl:sp.groups.length<1073741824
 gn:lens sp.groups.flatten<1073741000
 al:sp.assume.length<1073741824
 fl:sp.fair.length<1073741824
 col:sp.cons.length<1073741824
 acl:sp.acons.length<1073741824
 vwl:sp.view.length<1073741824
 ex:∀e∈zHN sp,szX e<1073740000
theorem zYO (a:Pl.Spec):flatC (zAC a)=true:=rfl
attribute [go_sem] zYO
theorem c96 {sp:Pl.Spec}{j k:Nat}(hz:Sz sp){m:Nat}{g:Nat→Box}(hk:k<m)(hj:j<m)(hg:g k=.cells 183 (zAI sp j 0 (.func 0 (.func 140) [] [])))(hgj:g j=.mapb (zA8 shL))
  {Q:CR→Sto→Prop} (h:∀m' g' u',Q (.ret (.bool (zG4 sp))) (S m' g' u')):C E1 96 [.ptr k 0] (S m g []) Q:=by
 have hu:zAQ m []=true:=rfl
 have hu2:zAJ m []=[]:=rfl
 obtain⟨G,hG⟩:∃G:Nat→Box,updB (updB g m (.cells 135 [.ptr k 0])) (m+1) (.cells 40 (zAC sp))=G:=⟨_,rfl⟩
 have hGm:G m=.cells 135 [.ptr k 0]:=by rw[← hG,zAA (by omega),zAB]
 have hGs:G (m+1)=.cells 40 (zAC sp):=by rw[← hG,zAB]
 have hGk:G k=.cells 183 (zAI sp j 0 (.func 0 (.func 140) [] [])):=by rw[← hG,zAA (by omega),zAA (by omega)];exact hg
 have hGj:G j=.mapb (zA8 shL):=by rw[← hG,zAA (by omega),zAA (by omega)];exact hgj
 have hkM:k<m+1+1:=by omega
 have h69:∀Q:CR→Sto→Prop,Q (.ret (.bool (sp.consts.any fun c=>!(zBD c.v&&zDU sp.models c.v)))) (S (m+1+1) G [])→C E1 146 [.sl 0 (sp.consts.map zBF) .shut,.func (m+1) (.func 147) [] [.ptr m 0]] (S (m+1+1) G []) Q:=fun Q hQ=>
  c146p (h:=zBF) (q:=fun c=>!(zBD c.v&&zDU sp.models c.v)) (by have:=hz.cl;omega) rfl rfl (fun _=>rfl) (fun _=>zS8) rfl (fun x hx Q hQ=>zB1 rfl (c147 hz.ml (hz.cv x hx) rfl rfl (by omega) hGm (by omega) hGk hQ)) hQ
 have hml:=hz.ml
 have hmn:=hz.mn
 have hcn:=hz.cn
 have hvn:=hz.vn
 have hin:=hz.inm
 have hpn:=hz.pn
 have hcl:=hz.cl
 have hvl:=hz.vl
 have hil:=hz.il
 have hpr:=hz.pr
 have hdl:=hz.dl
 have h65:∀Q:CR→Sto→Prop,Q (.ret (.sl 0 ((sp.consts.map (·.name)).map AV.str) .shut)) (S (m+1+1) G [])→C E1 142 [.sl 0 (sp.consts.map zBF) .shut,.func 0 (.func 143) [] []] (S (m+1+1) G []) Q:=fun Q hQ=>c142 rfl rfl hcl hQ
 have h67:∀Q:CR→Sto→Prop,Q (.ret (.sl 0 ((sp.vars.map (·.name)).map AV.str) .shut)) (S (m+1+1) G [])→C E1 144 [.sl 0 (sp.vars.map zDX) .shut,.func 0 (.func 145) [] []] (S (m+1+1) G []) Q:=fun Q hQ=>c144 rfl rfl hvl hQ
 have h72:∀Q:CR→Sto→Prop,Q (.ret (.sl 0 ((sp.invs.map (·.name)).map AV.str) .shut)) (S (m+1+1) G [])→C E1 149 [.sl 0 (sp.invs.map zBU) .shut,.func 0 (.func 150) [] []] (S (m+1+1) G []) Q:=fun Q hQ=>c149 rfl rfl hil hQ
 have h74:∀Q:CR→Sto→Prop,Q (.ret (.sl 0 ((sp.props.map (·.name)).map AV.str) .shut)) (S (m+1+1) G [])→C E1 151 [.sl 0 (sp.props.map zDB) .shut,.func 0 (.func 152) [] []] (S (m+1+1) G []) Q:=fun Q hQ=>c151 rfl rfl hpr hQ
 have h76:∀Q:CR→Sto→Prop,Q (.ret (.bool (zEC sp))) (S (m+1+1) G [])→C E1 153 [.ptr k 0] (S (m+1+1) G []) Q:=fun Q hQ=>c153 hz.ml hz.gl hz.gn rfl rfl hkM hGk hQ
 have h77:=fun(Q:CR→Sto→Prop) hQ=>c154 (sp:=sp) (j:=j) (nd:=0) (k:=k) (m:=m+1+1) (g:=G) (Q:=Q) hz.ml hz.dl hz.vl hz.cl hz.pl hz.nl hz.bl hkM (by omega) hGk hGj (by omega) (by omega) hQ
 have al:=hz.al
 have fl:=hz.fl
 have col:=hz.col
 have acl:=hz.acl
 have vwl:=hz.vwl
 have hF:∀m' g' u',zL0 sp=false→Q (.ret (.bool false)) (S m' g' u'):=fun m' g' u' e=>by have:=h m' g' u';rw[zG4,e] at this;exact this
 refine cn ⟨false,false,false,false⟩ Tryz.f96 171 [.tmp 2] ?_
 repeat' (first|(refine zEX (fun Q h=>c141 (l:=sp.models) hmn h) ?_ ?_;focus (intro hs;(try simp only[nbs] at hs);simp (disch:=first|assumption|omega) only[go_sem, *];first|done|rfl))|refine h65 _ ?_|refine c141 hcn ?_|(refine zEX (fun Q h=>h67 _ h) ?_ ?_;focus (intro hs;(try simp only[nbs] at hs);simp (disch:=first|assumption|omega) only[go_sem, *];first|done|rfl))|(refine zEX (fun Q h=>c141 (l:=sp.vars.map (·.name)) hvn h) ?_ ?_;focus (intro hs;(try simp only[nbs] at hs);simp (disch:=first|assumption|omega) only[go_sem, *];first|done|rfl))|refine h69 _ ?_|refine h72 _ ?_|refine c141 hin ?_|(refine zEX (fun Q h=>h74 _ h) ?_ ?_;focus (intro hs;(try simp only[nbs] at hs);simp (disch:=first|assumption|omega) only[go_sem, *];first|done|rfl))|(refine zEX (fun Q h=>c141 (l:=sp.props.map (·.name)) hpn h) ?_ ?_;focus (intro hs;(try simp only[nbs] at hs);simp (disch:=first|assumption|omega) only[go_sem, *];first|done|rfl))|(refine zEX (fun Q h=>h76 _ h) ?_ ?_;focus (intro hs;(try simp only[nbs] at hs);simp (disch:=first|assumption|omega) only[go_sem, *];first|done|rfl))|apply h77|refine wk ?_|refine fk ?_ ?_<;>intro hs|exact⟨⟩|fail)
 ·exact hF _ _ _ (by rw[zL0,hs];rfl)
 ·exact hF _ _ _ (by rw[zL0,hs];simp)
 ·exact hF _ _ _ (by rw[zL0,hs];simp)
 ·exact hF _ _ _ (by rw[zL0,decide_eq_true hs];simp)
 ·exact hF _ _ _ (by rw[zL0,hs];simp)
 rename_i hs1 hs2 hs3 hs4
 have hhd:zL0 sp=true:=by
  rw[zL0]
  clear h69 h65 h67 h72 h74 h76 h77 h hF
  simp_all
 clear hs hs1 hs2 hs3 hs4 h69 h65 h67 h72 h74 h76 h77 hF
 rw[zG4,hhd,Bool.true_and] at h
 intro m' g' u' hm' hT
 clear hml hmn hcn hvn hin hpn hcl hdl
 have hnd:=fun hd=>defsP_nd sp 0 (by omega) (by omega) hd
 have hd8:(zFW sp 0).1=true→defHeads [] sp.defs=true:=fun hd=>by
  cases hh:defHeads [] sp.defs with
  | true=>rfl
  | false=>rw[zFW,hh] at hd;cases hd
 generalize zFW sp 0=df at *
 obtain⟨db,nd⟩:=df
 dsimp only at hT h hnd hd8
 cases db with
 | false=>
  clear hT hnd hd8
  rw[Bool.false_and] at h
  repeat' (first|refine wk ?_|refine fk ?_ ?_<;>intro hs|exact⟨⟩|fail)
  obtain⟨m2,g2,u2,_,e2⟩:=zMD (b:=m) (t:=0) (g:=g') (u:=u') (show m≤m' by omega)
  rw[e2];exact h _ _ _
 | true=>
  obtain⟨hU1,hU2,hgk,hgj',hlow⟩:=hT rfl
  obtain⟨hn0,hn1⟩:=hnd rfl
  have hsp:SpOk sp:=⟨hz.ml,hz.dl,hz.vl,hz.cl,hz.pl,zKX (hd8 rfl)⟩
  rw[Bool.true_and] at h
  have hm1:m<m':=by omega
  have hm2:m+1<m':=by omega
  have hgm:g' m=.cells 135 [.ptr k 0]:=by rw[hlow m (by omega) (by omega)];exact hGm
  have hgs:g' (m+1)=.cells 40 (zAC sp):=by rw[hlow (m+1) (by omega) (by omega)];exact hGs
  clear hT hnd hd8 hlow hGm hGs hGk hGj hG hg hgj hu hu2 hkM hhd
  obtain⟨L0,hL0⟩:∃L0,([sp.assume,[sp.init,sp.next],sp.cons,sp.acons,sp.view]:List (List X)).flatten=L0:=⟨_,rfl⟩
  have hL0p:0<L0.length:=by rw[← hL0];simp;omega
  have hL0l:L0.length<5368709120:=by rw[← hL0];simp;omega
  have h78:∀Q:CR→Sto→Prop,(∀g2:Nat→Box,g2 m'=.row 34 11 (L0.map encX) false→(∀i,i<m'→g2 i=g' i)→Q (.ret (.osl m' 0 L0.length)) (S (m'+1) g2 u'))→C E1 88 [.sl 0 [.sl 0 (sp.assume.map encX) .shut,.sl 0 [encX sp.init,encX sp.next] .shut,.sl 0 (sp.cons.map encX) .shut,.sl 0 (sp.acons.map encX) .shut,.sl 0 (sp.view.map encX) .shut] .clip] (S m' g' u') Q:=fun Q hQ=>
   zG3 (args1:=[.sl 0 (([sp.assume,[sp.init,sp.next],sp.cons,sp.acons,sp.view]:List (List X)).map slX) .shut]) (s1:=S m' g' u') rfl rfl rfl rfl rfl rfl rfl (c88 (by simp) (by rw[hL0];omega) (by rw[hL0];omega) (by rw[hL0];exact hQ))
  have he:zHN sp=(((L0++sp.vars.map (·.typ))++sp.fair.flatMap (fun x=>[x.a,x.sub]))++sp.invs.map (·.e)):=by rw[zHN,hL0]
  have hex:=hz.ex
  rw[he] at h hex
  clear he hL0
  repeat' (first|apply h78|refine wk ?_|refine fk ?_ ?_<;>intro hs|exact⟨⟩|fail)
  intro g2 hg2 hlow2
  clear h78
  have hgsp:gs m' (L0.map encX)=.osl m' 0 L0.length:=by rw[gs_pos (by rw[List.length_map];omega),List.length_map]
  repeat' (first|refine wk ?_|refine fk ?_ ?_<;>intro hs|exact⟨⟩|fail)
  refine zAF (ι:=Nat×Nat×Nat×(Nat→Box)) (fun p=>[(1,.ptr m 0),(3,.ptr (m+1) 0),(4,gs p.2.2.1 ((L0++(sp.vars.map (·.typ)).take p.1).map encX)),(127,.sl 0 (sp.vars.map zDX) .shut),(128,.int .i64 sp.vars.length),(129,.int .i64 p.1)]) (fun p=>S p.2.1 p.2.2.2 u')
   (fun p=>p.1≤sp.vars.length∧gF 34 11 m' p.2.2.2 p.2.1 p.2.2.1 ((L0++(sp.vars.map (·.typ)).take p.1).map encX)∧∀i,i<m'→p.2.2.2 i=g' i) (fun p=>sp.vars.length-p.1) ?_ (0,m'+1,m',g2) ⟨Nat.zero_le _,by dsimp only;rw[List.take_zero,List.append_nil];exact⟨by omega,.inr ⟨Nat.le_refl _,by omega,false,hg2⟩⟩,hlow2⟩ ⟨rfl,rfl,by rw[List.take_zero,List.append_nil,hgsp];rfl,rfl,rfl,rfl,trivial⟩ rfl
  clear hg2 hlow2 hgsp
  clear g2
  rintro⟨i,M,kx,G⟩ b ⟨hi,hF,hlow⟩ hrec
  dsimp only at hi hF hlow hrec ⊢
  have hM:m'≤M:=hF.1
  have hGs:G (m+1)=.cells 40 (zAC sp):=by rw[hlow (m+1) (by omega)];exact hgs
  rcases Nat.lt_or_ge i sp.vars.length with hlt|hge
  ·have hc:decide ((i:Int)<sp.vars.length)=true:=decide_eq_true (by omega)
   have hx:sp.vars[i]?=some sp.vars[i]:=List.getElem?_eq_getElem hlt
   obtain⟨g3,ha,hF',hlow'⟩:=zFJ (b:=176) (u:=u') (ys:=[encX sp.vars[i].typ]) (zKM hF (.cells 108 (zDD sp.vars[i]))) (zHK [sp.vars[i].typ]) (by simp) (by rw[List.length_map,List.length_append,List.length_take,List.length_map];simp;omega) (by rw[zAV,zC4];exact zC4 [sp.vars[i].typ])
   have e1:(L0++(sp.vars.map (·.typ)).take i).map encX++[encX sp.vars[i].typ]=(L0++(sp.vars.map (·.typ)).take (i+1)).map encX:=by
    rw[List.take_succ_eq_append_getElem (by rw[List.length_map];exact hlt),List.getElem_map,← List.append_assoc,List.map_append (l₁:=L0++_)];rfl
   rw[e1] at ha hF'
   clear e1
   generalize sp.vars[i]=x at *
   repeat' (first|refine wk ?_|refine fk ?_ ?_<;>intro hs|exact⟨⟩|fail)
   exact hrec (i+1,M+1+1,M+1,g3) _ _ _ ⟨hlt,hF',fun i hi=>by dsimp only;rw[hlow' i hi,zAA (by omega)];exact hlow i hi⟩ (by dsimp only;omega) ⟨rfl,rfl,rfl,rfl,rfl,congrArg (fun z=>some (AV.int .i64 z)) (by dsimp only;omega),trivial⟩ rfl
  have hc:decide ((i:Int)<sp.vars.length)=false:=decide_eq_false (by omega)
  clear hrec
  rw[List.take_of_length_le (by rw[List.length_map];exact hge)] at hF ⊢
  obtain⟨L1,hL1⟩:∃L1,L0++sp.vars.map (·.typ)=L1:=⟨_,rfl⟩
  have hL1l:L1.length<6442450944:=by rw[← hL1,List.length_append,List.length_map];omega
  rw[hL1] at h hF hex ⊢
  clear hL1 hL0l hL0p hi hge
  clear L0
  repeat' (first|refine wk ?_|refine fk ?_ ?_<;>intro hs|exact⟨⟩|fail)
  clear hc
  have kf:∀l:List Pl.Fair,(l.flatMap (fun x=>[x.a,x.sub])).length=2*l.length:=fun l=>by induction l with|nil=>rfl|cons a r ih=>rw[List.flatMap_cons,List.length_append,ih];simp;omega
  refine zAF (ι:=Nat×Nat×Nat×(Nat→Box)) (fun p=>[(1,.ptr m 0),(3,.ptr (m+1) 0),(4,gs p.2.2.1 ((L1++(sp.fair.take p.1).flatMap (fun x=>[x.a,x.sub])).map encX)),(140,.sl 0 (sp.fair.map zEO) .shut),(141,.int .i64 sp.fair.length),(142,.int .i64 p.1)]) (fun p=>S p.2.1 p.2.2.2 u')
   (fun p=>p.1≤sp.fair.length∧gF 34 11 m' p.2.2.2 p.2.1 p.2.2.1 ((L1++(sp.fair.take p.1).flatMap (fun x=>[x.a,x.sub])).map encX)∧∀i,i<m'→p.2.2.2 i=g' i) (fun p=>sp.fair.length-p.1) ?_ (0,M,kx,G) ⟨Nat.zero_le _,by dsimp only;rw[List.take_zero,List.flatMap_nil,List.append_nil];exact hF,hlow⟩ ⟨rfl,rfl,by rw[List.take_zero,List.flatMap_nil,List.append_nil];rfl,rfl,rfl,rfl,trivial⟩ rfl
  clear hF hlow hM hGs
  clear M kx G i
  rintro⟨i,M,kx,G⟩ b ⟨hi,hF,hlow⟩ hrec
  dsimp only at hi hF hlow hrec ⊢
  have hM:m'≤M:=hF.1
  have hGs:G (m+1)=.cells 40 (zAC sp):=by rw[hlow (m+1) (by omega)];exact hgs
  rcases Nat.lt_or_ge i sp.fair.length with hlt|hge
  ·have hc:decide ((i:Int)<sp.fair.length)=true:=decide_eq_true (by omega)
   have hx:sp.fair[i]?=some sp.fair[i]:=List.getElem?_eq_getElem hlt
   obtain⟨g3,ha,hF',hlow'⟩:=zFJ (b:=176) (u:=u') (ys:=[encX sp.fair[i].a,encX sp.fair[i].sub]) (zKM hF (.cells 110 (zCD sp.fair[i]))) (zHK [sp.fair[i].a,sp.fair[i].sub]) (by simp) (by rw[List.length_map,List.length_append,kf,List.length_take];simp;omega) (by rw[zAV,zC4];exact zC4 [sp.fair[i].a,sp.fair[i].sub])
   have e1:(L1++(sp.fair.take i).flatMap (fun x=>[x.a,x.sub])).map encX++[encX sp.fair[i].a,encX sp.fair[i].sub]=(L1++(sp.fair.take (i+1)).flatMap (fun x=>[x.a,x.sub])).map encX:=by
    rw[List.take_succ_eq_append_getElem hlt,List.flatMap_append,← List.append_assoc,List.map_append (l₁:=L1++_)];rfl
   rw[e1] at ha hF'
   clear e1 kf
   generalize sp.fair[i]=x at *
   repeat' (first|refine wk ?_|refine fk ?_ ?_<;>intro hs|exact⟨⟩|fail)
   exact hrec (i+1,M+1+1,M+1,g3) _ _ _ ⟨hlt,hF',fun i hi=>by dsimp only;rw[hlow' i hi,zAA (by omega)];exact hlow i hi⟩ (by dsimp only;omega) ⟨rfl,rfl,rfl,rfl,rfl,congrArg (fun z=>some (AV.int .i64 z)) (by dsimp only;omega),trivial⟩ rfl
  have hc:decide ((i:Int)<sp.fair.length)=false:=decide_eq_false (by omega)
  clear hrec
  rw[List.take_of_length_le hge] at hF ⊢
  obtain⟨L2,hL2⟩:∃L2,L1++sp.fair.flatMap (fun x=>[x.a,x.sub])=L2:=⟨_,rfl⟩
  have hL2l:L2.length<8589934592:=by rw[← hL2,List.length_append,kf];omega
  rw[hL2] at h hF hex ⊢
  clear hL2 hL1l hi hge kf
  clear L1
  repeat' (first|refine wk ?_|refine fk ?_ ?_<;>intro hs|exact⟨⟩|fail)
  clear hc
  refine zAF (ι:=Nat×Nat×Nat×(Nat→Box)) (fun p=>[(1,.ptr m 0),(4,gs p.2.2.1 ((L2++(sp.invs.map (·.e)).take p.1).map encX)),(155,.sl 0 (sp.invs.map zBU) .shut),(156,.int .i64 sp.invs.length),(157,.int .i64 p.1)]) (fun p=>S p.2.1 p.2.2.2 u')
   (fun p=>p.1≤sp.invs.length∧gF 34 11 m' p.2.2.2 p.2.1 p.2.2.1 ((L2++(sp.invs.map (·.e)).take p.1).map encX)∧∀i,i<m'→p.2.2.2 i=g' i) (fun p=>sp.invs.length-p.1) ?_ (0,M,kx,G) ⟨Nat.zero_le _,by dsimp only;rw[List.take_zero,List.append_nil];exact hF,hlow⟩ ⟨rfl,by rw[List.take_zero,List.append_nil];rfl,rfl,rfl,rfl,trivial⟩ rfl
  clear hF hlow hM hGs
  clear M kx G i
  rintro⟨i,M,kx,G⟩ b ⟨hi,hF,hlow⟩ hrec
  dsimp only at hi hF hlow hrec ⊢
  have hM:m'≤M:=hF.1
  rcases Nat.lt_or_ge i sp.invs.length with hlt|hge
  ·have hc:decide ((i:Int)<sp.invs.length)=true:=decide_eq_true (by omega)
   have hx:sp.invs[i]?=some sp.invs[i]:=List.getElem?_eq_getElem hlt
   obtain⟨g3,ha,hF',hlow'⟩:=zFJ (b:=176) (u:=u') (ys:=[encX sp.invs[i].e]) (zKM hF (.cells 130 (zB5 sp.invs[i]))) (zHK [sp.invs[i].e]) (by simp) (by rw[List.length_map,List.length_append,List.length_take,List.length_map];simp;omega) (by rw[zAV,zC4];exact zC4 [sp.invs[i].e])
   have e1:(L2++(sp.invs.map (·.e)).take i).map encX++[encX sp.invs[i].e]=(L2++(sp.invs.map (·.e)).take (i+1)).map encX:=by
    rw[List.take_succ_eq_append_getElem (by rw[List.length_map];exact hlt),List.getElem_map,← List.append_assoc,List.map_append (l₁:=L2++_)];rfl
   rw[e1] at ha hF'
   clear e1
   generalize sp.invs[i]=x at *
   repeat' (first|refine wk ?_|refine fk ?_ ?_<;>intro hs|exact⟨⟩|fail)
   exact hrec (i+1,M+1+1,M+1,g3) _ _ _ ⟨hlt,hF',fun i hi=>by dsimp only;rw[hlow' i hi,zAA (by omega)];exact hlow i hi⟩ (by dsimp only;omega) ⟨rfl,rfl,rfl,rfl,congrArg (fun z=>some (AV.int .i64 z)) (by dsimp only;omega),trivial⟩ rfl
  have hc:decide ((i:Int)<sp.invs.length)=false:=decide_eq_false (by omega)
  clear hrec
  rw[List.take_of_length_le (by rw[List.length_map];exact hge)] at hF ⊢
  obtain⟨L3,hL3⟩:∃L3,L2++sp.invs.map (·.e)=L3:=⟨_,rfl⟩
  have hL3l:L3.length<9663676416:=by rw[← hL3,List.length_append,List.length_map];omega
  rw[hL3] at h hF hex ⊢
  clear hL3 hL2l hi hge
  clear L2
  obtain⟨g3,hse,hF3,hlow3⟩:=zGK (u:=u') hF (zC4 _)
  have hU3:=zB6 hU1 hU2 hM
  have hjk:j≠k:=fun e=>by rw[e,hgk] at hgj';cases hgj'
  have hk':k<m':=by omega
  have hj':j<m':=by omega
  have h3k:g3 k=.cells 183 (zAI sp j nd (.func 0 (.func 140) [] [])):=by rw[hlow3 k hk',hlow k hk'];exact hgk
  have h3j:g3 j=.mapb (zA8 shL):=by rw[hlow3 j hj',hlow j hj'];exact hgj'
  have h3m:g3 m=.cells 135 [.ptr k 0]:=by rw[hlow3 m hm1,hlow m hm1];exact hgm
  have hself:updB g3 k (.cells 183 (zAI sp j nd (.func 0 (.func 140) [] [])))=g3:=by
   funext i
   by_cases hi:i=k
   ·rw[hi,zAB,h3k]
   ·rw[zAA hi]
  have hmk:m≠k:=by omega
  have h79:∀Q:CR→Sto→Prop,(∀g4,Q (.ret (.bool (anyS (zN3 sp) nd L3).1)) (S M g4 u'))→C E1 89 [gs kx (L3.map encX),.func (m+1) (.func 155) [] [.ptr m 0]] (S M G u') Q:=fun Q hQ=>by
   refine zG3 (args1:=[.sl 0 (L3.map encX) .shut,.func (m+1) (.func 155) [] [.ptr m 0]]) (s1:=S M g3 u') rfl rfl rfl rfl rfl (by simp only[zBO,hse,zG6]) (by simp only[zBO,zFN,zG6]) ?_
   rw[← hself]
   refine c89I (h:=encX) (p:=zN3 sp) (G:=fun n=>updB g3 k (.cells 183 (zAI sp j n (.func 0 (.func 140) [] [])))) (a:=nd) (fun n=>0≤n∧n≤3000) ?_ ⟨hn0,hn1⟩ (by omega) hU3.1 hU3.2 (fun x=>by rw[zA2];rfl) (fun x=>by rw[zA2];exact pk_X) (fun _=>rfl) ?_ (hQ _)
   ·intro x hx a ha hp
    have:=zQP (zDW sp (fun _=>true) [] x 1 a) ha.1
    rw[zN3] at hp ⊢
    exact this (by simpa using hp)
   ·intro x hx a ha Q hQ
    refine zB1 rfl (c155 (j:=j) (k:=k) hsp (hex x hx) (show m<M by omega) hmk (by rw[zAA hmk];exact h3m) ha.1 ha.2 ⟨hU3.1,hU3.2,by omega,by omega,zAB,by rw[zAA hjk];exact h3j,Nat.zero_le _,fun _ _ _=>rfl⟩ ?_)
    rw[zEF]
    exact hQ
  clear hF hse hF3 hlow3
  repeat' (first|apply h79|refine wk ?_|refine fk ?_ ?_<;>intro hs|exact⟨⟩|fail)
  intro g4
  obtain⟨m2,g2,u2,_,e2⟩:=zMD (b:=m) (t:=0) (g:=g4) (u:=u') (show m≤M by omega)
  rw[e2]
  exact h _ _ _
end Go.Ab.X
namespace Pl
def zFB (sp:Spec):Int:=if zG4 sp=true then 0 else 6
def zL6 (sp:Spec)(e:X)(bound:Int):Bool:=(zEL sp (fun _=>true) (zeros bound) e 1 0).1
def zGB (sp:Spec)(e:X)(bound:Int):Int:=if zG4 sp=false then 6 else if bound<0∨40<bound then 1 else if zL6 sp e bound=false then 5 else 0
end Pl
namespace Go.Ab.X
open Go Go.Ab Go.Proofs Pl
set_option maxRecDepth 100000
set_option maxHeartbeats 16000000
theorem c48 {sp:Pl.Spec}(hz:Sz sp){s:Sto}{Q:CR→Sto→Prop}(h:Q (.ret (.int .i64 (zFB sp))) s):C E1 48 [zAN sp] s Q:=by
 rw[zFB] at h
 have h36:=fun(g:Nat→Box) (Q:CR→Sto→Prop) hQ=>c95 (sp:=sp) (m:=1) (g:=g) (u:=[]) (Q:=Q) hQ
 refine ci Tryz.f48 7 [.tmp 2] ?_
 repeat' (first|apply h36|refine wk ?_|refine fk ?_ ?_<;>intro hs|exact⟨⟩|fail)
 intro G h3 h2 hlow
 have h37:=fun(Q:CR→Sto→Prop) hQ=>c96 (sp:=sp) (j:=2) (k:=3) hz (m:=4) (g:=G) (by omega) (by omega) h3 h2 (Q:=Q) hQ
 clear h36
 repeat' (first|apply h37|refine wk ?_|refine fk ?_ ?_<;>intro hs|exact⟨⟩|fail)
 intro m' g' u'
 clear h37
 repeat' (first|refine wk ?_|refine fk ?_ ?_<;>intro hs|exact⟨⟩|fail)
 ·rw[if_neg (by rw[hs];exact Bool.false_ne_true)] at h;exact h
 ·rw[if_pos hs] at h;exact h
theorem qms {n:Int}(h0:0≤n)(h1:n≤40):zF1 E1 237 (some (.int .i64 n)) (some (.int .i64 n))=some (.sl 0 ((zeros n).map iv) .clip):=by
 have e:zB3 E1 237 (some (.int .i64 n)) (some (.int .i64 n)) .empty=.val (.osl 0 0 n.toNat) (Sto.empty.alloc (.row 3 1 (lrep (.int .i64 0) n.toNat) false)):=by
  unfold zB3
  rw[tyd237]
  simp only[zGF h0,zCK,Nat.le_refl,decide_true,Bool.true_and,tyb3,tys3]
  rw[decide_eq_true (show n.toNat*8≤limit by rw[limit_eq];omega),decide_eq_true (show n.toNat≤limit by rw[limit_eq];omega)]
  rfl
 unfold zF1
 rw[e]
 simp only[Sto.alloc,Sto.empty,zGF h0,Nat.beq_refl,cond_true,zD7]
 rw[zSO]
 show some (AV.sl (tops (zs n.toNat)) (zs n.toNat) .clip)=_
 rw[zH9]
theorem c252 {sp:Pl.Spec}{e:X}{n:Int}(hsp:SpOk sp)(he:szX e<1073740000)(h0:0≤n)(h1:n≤40){s:Sto}{Q:CR→Sto→Prop}(h:Q (.ret (.bool (zL6 sp e n))) s):C E1 252 [zAN sp,encX e,.int .i64 n] s Q:=by
 rw[zL6] at h
 have h36:=fun(g:Nat→Box) (Q:CR→Sto→Prop) hQ=>c95 (sp:=sp) (m:=2) (g:=g) (u:=[]) (Q:=Q) hQ
 have hq:=qms h0 h1
 refine ci Tryz.f252 13 [.tmp 6] ?_
 repeat' (first|apply h36|refine wk ?_|refine fk ?_ ?_<;>intro hs|exact⟨⟩|fail)
 intro G h4 h3 hlow
 clear h36
 have hG1:G 1=.cells 34 (zAL e):=by rw[hlow 1 (by omega)];rfl
 have hSt:St sp 3 (.func 0 (.func 140) [] []) 4 0 G [] 5 G 0:=⟨rfl,rfl,by omega,by omega,h4,h3,by omega,fun _ _ _=>rfl⟩
 have h81:=(c156 hsp (zZ4 (len:=sp.defs.length) (k:=4) (g0:=G) (u:=[])) (szX e+1) e (by omega) he).1 (zeros n) 1 0 5 G (by rw[zeros,List.length_replicate];omega) (by omega) (by omega) (by omega) (by omega) hSt
 have h81s:∀Q:CR→Sto→Prop,Q (.ret (.bool (zEL sp (fun _=>true) (zeros n) e 1 0).1)) (S 5 (updB G 4 (.cells 183 (zAI sp 3 (zEL sp (fun _=>true) (zeros n) e 1 0).2 (.func 0 (.func 140) [] [])))) [])→C E1 156 [.ptr 4 0,encX e,.sl 0 ((zeros n).map iv) .clip,.int .i64 1] (S 5 G []) Q:=fun Q hQ=>
  zG3 (args1:=[.ptr 4 0,encX e,.sl 0 ((zeros n).map iv) .shut,.int .i64 1]) (s1:=S 5 G []) rfl rfl rfl rfl rfl (by simp only[zBO,zFN,zGJ,zIT,zEW]) (by simp only[zBO,zFN,zGJ,zIT,zEW]) (h81 Q hQ)
 clear h81 hSt
 generalize zEL sp (fun _=>true) (zeros n) e 1 0=st at *
 repeat' (first|refine h81s _ ?_|refine wk ?_|refine fk ?_ ?_<;>intro hs|exact⟨⟩|fail)
theorem c206 {sp:Pl.Spec}{e:X}{n:Int}(hz:Sz sp)(hsp:zG4 sp=true→SpOk sp)(he:szX e<1073740000){s:Sto}{Q:CR→Sto→Prop}(h:Q (.ret (.int .i64 (zGB sp e n))) s):C E1 206 [zAN sp,encX e,.int .i64 n] s Q:=by
 rw[zGB] at h
 have h39:=fun(h1:zG4 sp=true) (h2:0≤n) (h3:n≤40) (s:Sto) (Q:CR→Sto→Prop) hQ=>c252 (hsp h1) he h2 h3 (s:=s) (Q:=Q) hQ
 rcases hb:zG4 sp with _|_
 ·have hc:zFB sp=6:=by rw[zFB,hb];rfl
  rw[if_pos hb] at h
  refine ci Tryz.f206 24 [.tmp 6] ?_
  repeat' (first|refine c48 hz ?_|refine wk ?_|refine fk ?_ ?_<;>intro hs|exact⟨⟩|fail)
 ·have hc:zFB sp=0:=by rw[zFB,hb];rfl
  rw[if_neg (by rw[hb];exact fun h=>nomatch h)] at h
  have h39:=h39 hb
  refine ci Tryz.f206 24 [.tmp 6] ?_
  repeat' (first|refine c48 hz ?_|refine h39 (by omega) (by omega) _ _ ?_|refine wk ?_|refine fk ?_ ?_<;>intro hs|exact⟨⟩|fail)
  ·rw[if_pos (by simpa only[Bool.or_eq_true,decide_eq_true_eq] using hs)] at h;exact h
  ·rw[if_neg (by omega),if_pos hs] at h;exact h
  ·rw[if_neg (by omega),if_neg (by rw[hs];exact fun h=>nomatch h)] at h;exact h
end Go.Ab.X
end
