/- A part. -/
import Derived.Test.YtodldpffhfgicaaGreatDoorK6
set_option linter.all false
noncomputable section
namespace Go.Ab.X
open Go Go.Ab Go.Proofs Pl
set_option maxRecDepth 100000
set_option maxHeartbeats 16000000
theorem Lapp_c {α:Type}(a:α)(l r:List α):List.append (a :: l) r=a :: List.append l r:=rfl
theorem Lapp_n {α:Type}(r:List α):List.append [] r=r:=rfl
attribute [go_sem] Lapp_c Lapp_n
structure Sm (sp:Pl.Spec):Prop where
 defs:sp.defs.length<1073741824
 models:lens sp.models<1073741824
 modn:sp.models.length<1073741824
 vars:sp.vars.length<1073741824
 consts:sp.consts.length<1073741824
 assume:sp.assume.length<1073741824
 fair:sp.fair.length<1073741824
 invs:sp.invs.length<1073741824
 props:sp.props.length<1073741824
 cons:sp.cons.length<1073741824
 acons:sp.acons.length<1073741824
 view:sp.view.length<1073741824
 groups:sp.groups.length<1073741824
 flat:sp.groups.flatten.length<1073741824
 cnames:lens (sp.consts.map (·.name))<1073741824
 vnames:lens (sp.vars.map (·.name))<1073741824
 inames:lens (sp.invs.map (·.name))<1073741824
 pnames:lens (sp.props.map (·.name))<1073741824
 cvals:∀c∈sp.consts,szV c.v<1073741824
 params:∀n,(Pl.params sp n).length<2000000
 dnames:∀x∈sp.defs,x.name.length<1073741824
 bodies:∀x∈sp.defs,szX x.body<1073741824
 exprs:∀x∈Pl.exprs sp,szX x<1073741824
 exprn:(Pl.exprs sp).length<1073741824
 tot:cntXs (sp.defs.map (·.body))+cntXs (Pl.exprs sp)<1073741824
def isHd (sp:Pl.Spec):Bool:=
 decide ((40:Int)<sp.models.length)||decide ((20:Int)<sp.consts.length)||decide ((sp.vars.length:Int)<1)||decide ((16:Int)<sp.vars.length)||decide ((100:Int)<sp.defs.length)||decide ((40:Int)<sp.assume.length)||decide ((40:Int)<sp.fair.length)||decide ((40:Int)<sp.invs.length)||decide ((40:Int)<sp.cons.length)||decide ((40:Int)<sp.acons.length)||decide ((40:Int)<sp.props.length)||decide ((1:Int)<sp.view.length)
def isMd (sp:Pl.Spec):Bool:=
 !Pl.distinct [] sp.models||!(zDM sp.models (sp.consts.map (·.v))&&(Pl.distinct [] (sp.consts.map (·.name))&&Pl.distinct [] (sp.vars.map (·.name))&&Pl.distinct [] (sp.invs.map (·.name))&&Pl.distinct [] (sp.props.map (·.name))))||!(grpM sp.models [] sp.groups&&decide ((sp.groups.length:Int)≤10))||!(defHeads [] sp.defs&&bodies sp 0 sp.defs)
def isR (sp:Pl.Spec):Bool:=
 !isHd sp&&!isMd sp&&(sp.defs.all fun d=>decide ((depX d.body:Int)≤100))&&((Pl.exprs sp).all fun e=>ok sp (-1) [] e 0&&decide ((depX e:Int)≤100))&&decide (((cntXs (sp.defs.map (·.body))+cntXs (Pl.exprs sp):Nat):Int)≤3000)
theorem zA5 (a b:Int):decide (a≤b)=!decide (b<a):=by
 by_cases h:a≤b
 ·rw[decide_eq_true h,decide_eq_false (by omega)];rfl
 ·rw[decide_eq_false h,decide_eq_true (by omega)];rfl
theorem zZ7 {α:Type}(p q:α→Bool):∀l:List α,(l.all fun x=>p x&&q x)=(l.all p&&l.all q)
 | []=>rfl
 | a :: r=>by simp only[List.all_cons,zZ7 p q r];cases p a<;>cases q a<;>cases r.all p<;>rfl
theorem isR_eq (sp:Pl.Spec):isR sp=zCQ sp:=by
 have hd1:(sp.defs.all fun d=>decide ((depX d.body:Int)≤100))=(sp.defs.all fun d=>decide (depX d.body≤100)):=by
  congr 1;funext d;rw[decide_eq_decide];omega
 have hd2:((Pl.exprs sp).all fun e=>ok sp (-1) [] e 0&&decide ((depX e:Int)≤100))=(((Pl.exprs sp).all fun e=>ok sp (-1) [] e 0)&&((Pl.exprs sp).all fun e=>decide (depX e≤100))):=by
  rw[zZ7];congr 2;funext d;rw[decide_eq_decide];omega
 have hd3:decide (((cntXs (sp.defs.map (·.body))+cntXs (Pl.exprs sp):Nat):Int)≤3000)=decide (cntXs (sp.defs.map (·.body))+cntXs (Pl.exprs sp)≤3000):=by rw[decide_eq_decide];omega
 rw[isR,hd1,hd2,hd3,zCQ]
 have hdm:Pl.distinct [] sp.models=true→(grpM sp.models [] sp.groups&&decide ((sp.groups.length:Int)≤10))=zEC sp:=zYK
 simp only[isHd,isMd,zNJ]
 generalize (grpM sp.models [] sp.groups&&decide ((sp.groups.length:Int)≤10))=gm at *
 simp only[zA5 (sp.models.length),zA5 (sp.consts.length),zA5 1 (sp.vars.length),zA5 (sp.vars.length),zA5 (sp.defs.length),zA5 (sp.view.length),zA5 (sp.assume.length),zA5 (sp.fair.length),zA5 (sp.invs.length),zA5 (sp.cons.length),zA5 (sp.acons.length),zA5 (sp.props.length)]
 generalize decide ((40:Int)<sp.models.length)=b1
 generalize decide ((20:Int)<sp.consts.length)=b2
 generalize decide ((sp.vars.length:Int)<1)=b3
 generalize decide ((16:Int)<sp.vars.length)=b4
 generalize decide ((100:Int)<sp.defs.length)=b5
 generalize decide ((40:Int)<sp.assume.length)=b6
 generalize decide ((40:Int)<sp.fair.length)=b7
 generalize decide ((40:Int)<sp.invs.length)=b8
 generalize decide ((40:Int)<sp.cons.length)=b9
 generalize decide ((40:Int)<sp.acons.length)=b10
 generalize decide ((40:Int)<sp.props.length)=b11
 generalize decide ((1:Int)<sp.view.length)=b12
 generalize Pl.distinct [] sp.models=c9991 at *
 generalize zEC sp=c9992 at *
 generalize zDM sp.models (sp.consts.map (·.v))=c9999993
 generalize Pl.distinct [] (sp.consts.map (·.name))=c9999994
 generalize Pl.distinct [] (sp.vars.map (·.name))=c9999995
 generalize Pl.distinct [] (sp.invs.map (·.name))=c48
 generalize Pl.distinct [] (sp.props.map (·.name))=c9999997
 generalize defHeads [] sp.defs=c206
 generalize bodies sp 0 sp.defs=c9999999
 rw[Bool.eq_iff_iff]
 simp only[Bool.and_eq_true,Bool.not_eq_true',Bool.or_eq_false_iff,Bool.not_eq_false']
 constructor
 ·intro h;simp_all
 ·intro h;simp_all
theorem c159 {sp:Pl.Spec}{s:Sto}(hs:Sm sp){Q:CR→Sto→Prop}(h:Q (.ret (.bool (zCQ sp))) s):C E1 159 [zAN sp] s Q:=by
 obtain⟨a1,a2,a3,a4,a5,a6,a7,a8,a9,a10,a11,a12,a13,a14,a15,a16,a17,a18,a19,a20,a21,a22,a23,a24,a25⟩:=hs
 rw[← isR_eq,isR] at h
 refine ci Tryz.f159 156 [.tmp 2] ?_
 repeat' (first|refine c208 a2 ?_|(refine zEX (fun Q h=>c209 a4 a5 a8 a9 a15 a16 a17 a18 a3 a19 h) ?_ ?_;focus (intro hs;(try simp only[nbs] at hs);simp (disch:=first|assumption|omega) only[go_sem, *];first|done|rfl))|(refine zEX (fun Q h=>c210 a13 a14 a3 h) ?_ ?_;focus (intro hs;(try simp only[nbs] at hs);simp (disch:=first|assumption|omega) only[go_sem, *];first|done|rfl))|(refine zEX (fun Q h=>c211 a1 a3 a4 a5 a20 a21 a22 h) ?_ ?_;focus (intro hs;(try simp only[nbs] at hs);simp (disch:=first|assumption|omega) only[go_sem, *];first|done|rfl))|refine wk ?_|refine fk ?_ ?_<;>intro hs|exact⟨⟩|fail)
 ·rw[show isHd sp=true from hs] at h;exact h
 ·rw[show isMd sp=true from hs,Bool.not_true,Bool.and_false,Bool.false_and,Bool.false_and,Bool.false_and] at h;exact h
 rename_i hs1
 have hhd:isHd sp=false:=by
  rw[isHd]
  simp only[Bool.or_eq_false_iff,decide_eq_false_iff_not]
  exact hs1
 have hmd:isMd sp=false:=by
  rw[isMd]
  simp only[Bool.or_eq_false_iff,Bool.and_eq_true,Bool.not_eq_false']
  clear h
  simp_all
 rw[hhd,hmd,Bool.not_false,Bool.true_and,Bool.true_and] at h
 clear hs hs1 hhd hmd
 have hct:∀(l:List X) i,cntXs (l.take i)≤cntXs l:=fun l i=>by
  have:=cntXs_append (l.take i) (l.drop i)
  rw[List.take_append_drop] at this
  omega
 refine zAF (ι:=Nat) (fun i=>[(1,.ptr 0 0),(3,.int .i64 (cntXs ((sp.defs.map (·.body)).take i):Nat)),(4,.int .i64 i)]) (fun _=>S 1 (updB g0 0 (.cells 40 (zAC sp))) []) (fun i=>i≤sp.defs.length∧(sp.defs.all fun d=>decide ((depX d.body:Int)≤100))=((sp.defs.drop i).all fun d=>decide ((depX d.body:Int)≤100))) (fun i=>sp.defs.length-i) ?_ 0 ⟨Nat.zero_le _,rfl⟩ ⟨rfl,rfl,rfl,trivial⟩ rfl
 rintro i b ⟨hi,he⟩ hrec
 rcases Nat.lt_or_ge i sp.defs.length with hlt|hge
 ·have hc:decide ((i:Int)<sp.defs.length)=true:=decide_eq_true (by omega)
  have hx:sp.defs[i]?=some sp.defs[i]:=List.getElem?_eq_getElem hlt
  have hb:=a22 _ (List.getElem_mem hlt)
  have hcl:=hct (sp.defs.map (·.body)) i
  rw[List.drop_eq_getElem_cons hlt,List.all_cons] at he
  have hnx:cntXs ((sp.defs.map (·.body)).take i)+cntX sp.defs[i].body=cntXs ((sp.defs.map (·.body)).take (i+1)):=by
   rw[List.take_succ_eq_append_getElem (by rw[List.length_map];exact hlt),cntXs_append,List.getElem_map];rfl
  generalize sp.defs[i]=d at *
  have h254:=fun(s:Sto) (Q:CR→Sto→Prop) hQ=>c212 (a:=cntXs ((sp.defs.map (·.body)).take i)) (e:=d.body) (s:=s) (by omega) hb (Q:=Q) hQ
  rw[hnx] at h254
  clear hnx
  repeat' (first|refine h254 _ _ ?_|refine wk ?_|refine fk ?_ ?_<;>intro hs|exact⟨⟩|fail)
  ·rw[decide_eq_false (by omega),Bool.false_and] at he
   rw[he] at h
   exact h
  ·rw[decide_eq_true (by omega),Bool.true_and] at he
   exact hrec (i+1) _ _ _ ⟨hlt,he⟩ (by omega) ⟨rfl,rfl,congrArg (fun z=>some (AV.int .i64 z)) (by omega),trivial⟩ rfl
 have hc:decide ((i:Int)<sp.defs.length)=false:=decide_eq_false (by omega)
 clear hrec
 rw[List.drop_eq_nil_of_le hge,List.all_nil] at he
 rw[he,Bool.true_and] at h
 rw[List.take_of_length_le (by rw[List.length_map];exact hge)]
 clear he hi hge
 obtain⟨N0,hN0⟩:∃N0,cntXs (sp.defs.map (·.body))=N0:=⟨_,rfl⟩
 rw[hN0] at h a25 ⊢
 repeat' (first|refine c213 a4 a6 a7 a8 a10 a11 a12 ?_|refine wk ?_|refine fk ?_ ?_<;>intro hs|exact⟨⟩|fail)
 obtain⟨l,hl⟩:∃l,Pl.exprs sp=l:=⟨_,rfl⟩
 rw[hl] at h a23 a24 a25 ⊢
 clear hc
 refine zAF (ι:=Nat) (fun i=>[(1,.ptr 0 0),(3,.int .i64 (N0+cntXs (l.take i):Nat)),(7,.sl 0 (l.map encX) .shut),(8,.int .i64 i)]) (fun _=>S 1 (updB g0 0 (.cells 40 (zAC sp))) []) (fun i=>i≤l.length∧(l.all fun e=>ok sp (-1) [] e 0&&decide ((depX e:Int)≤100))=((l.drop i).all fun e=>ok sp (-1) [] e 0&&decide ((depX e:Int)≤100))) (fun i=>l.length-i) ?_ 0 ⟨Nat.zero_le _,rfl⟩ ⟨rfl,rfl,rfl,rfl,trivial⟩ rfl
 clear hl
 rintro i b ⟨hi,he⟩ hrec
 rcases Nat.lt_or_ge i l.length with hlt|hge
 ·have hc:decide ((i:Int)<l.length)=true:=decide_eq_true (by omega)
  have hx:l[i]?=some l[i]:=List.getElem?_eq_getElem hlt
  have hb:=a23 _ (List.getElem_mem hlt)
  have hcl:=hct l i
  rw[List.drop_eq_getElem_cons hlt,List.all_cons] at he
  have hnx:N0+cntXs (l.take i)+cntX l[i]=N0+cntXs (l.take (i+1)):=by
   rw[List.take_succ_eq_append_getElem hlt,cntXs_append];simp only[cntXs];omega
  generalize l[i]=e at *
  have hr:∀(s:Sto) (Q:CR→Sto→Prop),(∀p:List Int,Q (.ret (.tuple [.sl 0 (p.map iv) .shut,.bool (!ok sp (-1) [] e 0)])) s)→C E1 214 [.agg (zDZ sp (-1) [.sl 0 [] .nil]),encX e,.int .i64 0,.sl 0 [] .nil] s Q:=fun s Q hQ=>
   zG3 (args1:=[zF9 sp (-1) [],encX e,.int .i64 0,.sl 0 [] .shut]) (s1:=s) rfl rfl rfl rfl rfl (by simp only[zBO,zIT,zEW,zFN,zWO,seal1];rfl) (by simp only[zBO,zIT,zEW,zFN,zWN])
    (c214 (by omega) a1 a3 a4 a5 (fun n=>by have:=a20 n;omega) _ (path:=[]) (pv:=.sl 0 [] .shut) (s1:=s) rfl (Nat.lt_succ_self _) (by simp;omega) (by simp) hQ)
  have hbl:∀s,bld248 [(0,zAN sp),(1,.int .i64 (-1)),(2,.sl 0 [] .nil)] s=.val (.agg (zDZ sp (-1) [.sl 0 [] .nil])) s:=fun s=>rfl
  have h254:=fun(s:Sto) (Q:CR→Sto→Prop) hQ=>c212 (a:=N0+cntXs (l.take i)) (e:=e) (s:=s) (by omega) hb (Q:=Q) hQ
  rw[hnx] at h254
  clear hnx
  repeat' (first|apply hr|refine wk ?_|refine fk ?_ ?_<;>intro hs|exact⟨⟩|fail)
  intro p
  clear hr hbl
  generalize ok sp (-1) [] e 0=okb at *
  cases okb with
  | false=>
   rw[Bool.false_and,Bool.false_and] at he
   rw[he] at h
   clear hrec h254
   repeat' (first|refine wk ?_|refine fk ?_ ?_<;>intro hs|exact⟨⟩|fail)
   all_goals exact h
  | true=>
   rw[Bool.true_and] at he
   repeat' (first|refine h254 _ _ ?_|refine wk ?_|refine fk ?_ ?_<;>intro hs|exact⟨⟩|fail)
   ·rw[decide_eq_false (by omega),Bool.false_and] at he
    rw[he] at h
    exact h
   ·rw[decide_eq_true (by omega),Bool.true_and] at he
    exact hrec (i+1) _ _ _ ⟨hlt,he⟩ (by omega) ⟨rfl,rfl,rfl,congrArg (fun z=>some (AV.int .i64 z)) (by omega),trivial⟩ rfl
 ·have hc:decide ((i:Int)<l.length)=false:=decide_eq_false (by omega)
  clear hrec
  rw[List.drop_eq_nil_of_le hge,List.all_nil] at he
  rw[he,Bool.true_and] at h
  rw[List.take_of_length_le hge]
  clear he hi hge
  repeat' (first|refine wk ?_|refine fk ?_ ?_<;>intro hs|exact⟨⟩|fail)
theorem c99 {sp:Pl.Spec}{s:Sto}(hs:Sm sp){Q:CR→Sto→Prop}(h:Q (.ret (.int .i64 (if zCQ sp=true then 0 else 6))) s):C E1 99 [zAN sp] s Q:=by
 have h174:=fun(s:Sto) (Q:CR→Sto→Prop) hQ=>c159 (s:=s) hs (Q:=Q) hQ
 clear hs
 refine ci Tryz.f99 6 [.tmp 2] ?_
 repeat' (first|refine h174 _ _ ?_|refine wk ?_|refine fk ?_ ?_<;>intro hs|exact⟨⟩|fail)
 all_goals (rw[hs] at h;exact h)
theorem c266 {sp:Pl.Spec}{e:X}{n:Int}{s:Sto}(hs:Sm sp)(he:szX e<1073741824){Q:CR→Sto→Prop}(h:Q (.ret (.int .i64 (if zCQ sp=false then 6 else if n<0∨40<n then 1 else if(ok sp (-1) (zeros n) e 0&&decide (cntX e≤3000)&&decide (depX e≤100))=false then 5 else 0))) s):C E1 266 [zAN sp,encX e,.int .i64 n] s Q:=by
 have h174:=fun(s:Sto) (Q:CR→Sto→Prop) hQ=>c159 (s:=s) hs (Q:=Q) hQ
 have h177:=fun(hn:n<100000) (s:Sto) (Q:CR→Sto→Prop) hQ=>c326 (sp:=sp) (e:=e) (n:=n) (s:=s) hs.defs hs.modn hs.vars hs.consts (fun n=>by have:=hs.params n;omega) he hn (Q:=Q) hQ
 clear hs
 generalize zCQ sp=wo at *
 generalize (ok sp (-1) (zeros n) e 0&&decide (cntX e≤3000)&&decide (depX e≤100))=eo at *
 refine ci Tryz.f266 21 [.tmp 6] ?_
 repeat' (first|refine h174 _ _ ?_|refine h177 (by omega) _ _ ?_|refine wk ?_|refine fk ?_ ?_<;>intro hs|exact⟨⟩|fail)
 ·rw[if_pos hs] at h;exact h
 ·subst wo
  rw[if_neg (fun h=>nomatch h),if_pos (by simpa only[Bool.or_eq_true,decide_eq_true_eq] using hs)] at h;exact h
 ·subst wo eo
  rw[if_neg (fun h=>nomatch h),if_neg (by omega),if_pos rfl] at h;exact h
 ·subst wo eo
  rw[if_neg (fun h=>nomatch h),if_neg (by omega),if_neg (fun h=>nomatch h)] at h;exact h
def zRO (sp:Pl.Spec):Bool:=
 !(!zCQ sp||!lits sp.init||!lits sp.next||!litsL sp.assume||!litsL sp.cons||!litsL sp.acons||!litsL sp.view)&&(sp.consts.all fun x=>zBD x.v)&&(sp.vars.all fun x=>lits x.typ)&&(sp.defs.all fun x=>lits x.body)&&(sp.fair.all fun x=>lits x.a&&lits x.sub)&&(sp.invs.all fun x=>lits x.e)
theorem flat_lits:∀l:List Pl.Fair,((l.flatMap fun x=>[x.a,x.sub]).all lits)=(l.all fun x=>lits x.a&&lits x.sub)
 | []=>rfl
 | x :: r=>by rw[List.flatMap_cons,List.all_append,flat_lits r,List.all_cons];simp only[List.all_cons,List.all_nil,Bool.and_true]
theorem zU6 (sp:Pl.Spec):zRO sp=zCL sp:=by
 have h1:((Pl.exprs sp).all lits)=((sp.vars.all fun x=>lits x.typ)&&sp.assume.all lits&&(lits sp.init&&lits sp.next)&&(sp.fair.all fun x=>lits x.a&&lits x.sub)&&(sp.invs.all fun x=>lits x.e)&&sp.cons.all lits&&sp.acons.all lits&&sp.view.all lits):=by
  rw[Pl.exprs]
  simp only[List.all_append,List.all_map,flat_lits,List.all_cons,List.all_nil,Bool.and_true]
  rfl
 rw[zRO,zCL,h1]
 simp only[zLP]
 generalize zCQ sp=a1
 generalize lits sp.init=a2
 generalize lits sp.next=a3
 generalize sp.assume.all lits=a4
 generalize sp.cons.all lits=a5
 generalize sp.acons.all lits=a6
 generalize sp.view.all lits=a7
 generalize (sp.vars.all fun x=>lits x.typ)=a8
 generalize (sp.fair.all fun x=>lits x.a&&lits x.sub)=a9
 generalize (sp.invs.all fun x=>lits x.e)=a10
 generalize (sp.consts.all fun x=>zBD x.v)=a11
 generalize (sp.defs.all fun x=>lits x.body)=a12
 rw[Bool.eq_iff_iff]
 simp only[Bool.and_eq_true,Bool.not_eq_true',Bool.or_eq_false_iff,Bool.not_eq_false']
 constructor
 ·intro h;simp_all
 ·intro h;simp_all
structure Sl (sp:Pl.Spec):Prop where
 init:szX sp.init<1073741824
 next:szX sp.next<1073741824
 assume:szXs sp.assume<1073741824
 cons:szXs sp.cons<1073741824
 acons:szXs sp.acons<1073741824
 view:szXs sp.view<1073741824
 typ:∀x∈sp.vars,szX x.typ<1073741824
 fa:∀x∈sp.fair,szX x.a<1073741824
 fs:∀x∈sp.fair,szX x.sub<1073741824
 inv:∀x∈sp.invs,szX x.e<1073741824
theorem c50 {sp:Pl.Spec}{s:Sto}(hs:Sm sp)(hl:Sl sp){Q:CR→Sto→Prop}(h:Q (.ret (.bool (zCL sp))) s):C E1 50 [zAN sp] s Q:=by
 have h82:=fun(s:Sto) (Q:CR→Sto→Prop) hQ=>c99 (s:=s) hs (Q:=Q) hQ
 have l1:=hs.consts
 have l2:=hs.vars
 have l3:=hs.defs
 have l4:=hs.fair
 have l5:=hs.invs
 have hcv:=hs.cvals
 have hdb:=hs.bodies
 clear hs
 have lt:∀(e:X),szX e<1073741824→∀(s:Sto) (Q:CR→Sto→Prop),Q (.ret (.bool (lits e))) s→C E1 100 [encX e] s Q:=fun e he s Q hQ=>c100 (szX e+1) (by omega) (by omega) hQ
 have ll:∀(l:List X),szXs l<1073741824→∀(s:Sto) (Q:CR→Sto→Prop),Q (.ret (.bool (litsL l))) s→C E1 101 [.sl 0 (l.map encX) .shut] s Q:=fun l he s Q hQ=>c101 (by omega) (by rw[zLP] at hQ;exact hQ)
 have lv:∀(v:V),szV v<1073741824→∀(s:Sto) (Q:CR→Sto→Prop),Q (.ret (.bool (zBD v))) s→C E1 102 [encV v] s Q:=fun v he s Q hQ=>c102 (by omega) hQ
 rw[← zU6,zRO] at h
 have hi:=lt _ hl.init
 have hn:=lt _ hl.next
 have ha:=ll _ hl.assume
 have hc:=ll _ hl.cons
 have hac:=ll _ hl.acons
 have hv:=ll _ hl.view
 refine ci Tryz.f50 132 [.tmp 2] ?_
 repeat' (first|refine h82 _ _ ?_|(refine zEX (fun Q h=>hi _ _ h) ?_ ?_;focus (intro hs;(try simp only[nbs] at hs);simp (disch:=first|assumption|omega) only[go_sem, *];first|done|rfl))|(refine zEX (fun Q h=>hn _ _ h) ?_ ?_;focus (intro hs;(try simp only[nbs] at hs);simp (disch:=first|assumption|omega) only[go_sem, *];first|done|rfl))|(refine zEX (fun Q h=>ha _ _ h) ?_ ?_;focus (intro hs;(try simp only[nbs] at hs);simp (disch:=first|assumption|omega) only[go_sem, *];first|done|rfl))|(refine zEX (fun Q h=>hc _ _ h) ?_ ?_;focus (intro hs;(try simp only[nbs] at hs);simp (disch:=first|assumption|omega) only[go_sem, *];first|done|rfl))|(refine zEX (fun Q h=>hac _ _ h) ?_ ?_;focus (intro hs;(try simp only[nbs] at hs);simp (disch:=first|assumption|omega) only[go_sem, *];first|done|rfl))|(refine zEX (fun Q h=>hv _ _ h) ?_ ?_;focus (intro hs;(try simp only[nbs] at hs);simp (disch:=first|assumption|omega) only[go_sem, *];first|done|rfl))|refine wk ?_|refine fk ?_ ?_<;>intro hs|exact⟨⟩|fail)
 ·have e:(!zCQ sp||!lits sp.init||!lits sp.next||!litsL sp.assume||!litsL sp.cons||!litsL sp.acons||!litsL sp.view)=true:=by
   clear h h82 hi hn ha hc hac hv lt ll lv
   generalize zCQ sp=w at *
   cases w<;>simp_all
  rw[e] at h;exact h
 have e:(!zCQ sp||!lits sp.init||!lits sp.next||!litsL sp.assume||!litsL sp.cons||!litsL sp.acons||!litsL sp.view)=false:=by
  clear h h82 hi hn ha hc hac hv lt ll lv
  generalize zCQ sp=w at *
  cases w<;>simp_all
 rw[e,Bool.not_false,Bool.true_and] at h
 clear e hs h82 hi hn ha hc hac hv ll
 refine zAF (ι:=Nat) (fun i=>[(1,.ptr 0 0),(3,.int .i64 i)]) (fun _=>S 1 (updB g0 0 (.cells 40 (zAC sp))) []) (fun i=>i≤sp.consts.length∧(sp.consts.all fun x=>zBD x.v)=((sp.consts.drop i).all fun x=>zBD x.v)) (fun i=>sp.consts.length-i) ?_ 0 ⟨Nat.zero_le _,rfl⟩ ⟨rfl,rfl,trivial⟩ rfl
 rintro i b ⟨hi,he⟩ hrec
 rcases Nat.lt_or_ge i sp.consts.length with hlt|hge
 ·have hc:decide ((i:Int)<sp.consts.length)=true:=decide_eq_true (by omega)
  have hx:sp.consts[i]?=some sp.consts[i]:=List.getElem?_eq_getElem hlt
  have hb:=lv _ (hcv _ (List.getElem_mem hlt))
  rw[List.drop_eq_getElem_cons hlt,List.all_cons] at he
  generalize sp.consts[i]=x at *
  clear lt lv
  repeat' (first|refine hb _ _ ?_|refine wk ?_|refine fk ?_ ?_<;>intro hs|exact⟨⟩|fail)
  ·rw[hs,Bool.false_and] at he
   rw[he] at h
   exact leaf h (congrArg AV.bool (by simp))
  ·rw[hs,Bool.true_and] at he
   exact hrec (i+1) _ _ _ ⟨hlt,he⟩ (by omega) ⟨rfl,congrArg (fun z=>some (AV.int .i64 z)) (by omega),trivial⟩ rfl
 have hc:decide ((i:Int)<sp.consts.length)=false:=decide_eq_false (by omega)
 clear hrec
 rw[List.drop_eq_nil_of_le hge,List.all_nil] at he
 rw[he] at h
 rw[Bool.true_and] at h
 clear he hi hge
 repeat' (first|refine wk ?_|refine fk ?_ ?_<;>intro hs|exact⟨⟩|fail)
 clear hc
 refine zAF (ι:=Nat) (fun i=>[(1,.ptr 0 0),(4,.int .i64 i)]) (fun _=>S 1 (updB g0 0 (.cells 40 (zAC sp))) []) (fun i=>i≤sp.vars.length∧(sp.vars.all fun x=>lits x.typ)=((sp.vars.drop i).all fun x=>lits x.typ)) (fun i=>sp.vars.length-i) ?_ 0 ⟨Nat.zero_le _,rfl⟩ ⟨rfl,rfl,trivial⟩ rfl
 rintro i b ⟨hi,he⟩ hrec
 rcases Nat.lt_or_ge i sp.vars.length with hlt|hge
 ·have hc:decide ((i:Int)<sp.vars.length)=true:=decide_eq_true (by omega)
  have hx:sp.vars[i]?=some sp.vars[i]:=List.getElem?_eq_getElem hlt
  have hb:=lt _ (hl.typ _ (List.getElem_mem hlt))
  rw[List.drop_eq_getElem_cons hlt,List.all_cons] at he
  generalize sp.vars[i]=x at *
  clear lt lv
  repeat' (first|refine hb _ _ ?_|refine wk ?_|refine fk ?_ ?_<;>intro hs|exact⟨⟩|fail)
  ·rw[hs,Bool.false_and] at he
   rw[he] at h
   exact leaf h (congrArg AV.bool (by simp))
  ·rw[hs,Bool.true_and] at he
   exact hrec (i+1) _ _ _ ⟨hlt,he⟩ (by omega) ⟨rfl,congrArg (fun z=>some (AV.int .i64 z)) (by omega),trivial⟩ rfl
 have hc:decide ((i:Int)<sp.vars.length)=false:=decide_eq_false (by omega)
 clear hrec
 rw[List.drop_eq_nil_of_le hge,List.all_nil] at he
 rw[he] at h
 rw[Bool.true_and] at h
 clear he hi hge
 repeat' (first|refine wk ?_|refine fk ?_ ?_<;>intro hs|exact⟨⟩|fail)
 clear hc
 refine zAF (ι:=Nat) (fun i=>[(1,.ptr 0 0),(5,.int .i64 i)]) (fun _=>S 1 (updB g0 0 (.cells 40 (zAC sp))) []) (fun i=>i≤sp.defs.length∧(sp.defs.all fun x=>lits x.body)=((sp.defs.drop i).all fun x=>lits x.body)) (fun i=>sp.defs.length-i) ?_ 0 ⟨Nat.zero_le _,rfl⟩ ⟨rfl,rfl,trivial⟩ rfl
 rintro i b ⟨hi,he⟩ hrec
 rcases Nat.lt_or_ge i sp.defs.length with hlt|hge
 ·have hc:decide ((i:Int)<sp.defs.length)=true:=decide_eq_true (by omega)
  have hx:sp.defs[i]?=some sp.defs[i]:=List.getElem?_eq_getElem hlt
  have hb:=lt _ (hdb _ (List.getElem_mem hlt))
  rw[List.drop_eq_getElem_cons hlt,List.all_cons] at he
  generalize sp.defs[i]=x at *
  clear lt lv
  repeat' (first|refine hb _ _ ?_|refine wk ?_|refine fk ?_ ?_<;>intro hs|exact⟨⟩|fail)
  ·rw[hs,Bool.false_and] at he
   rw[he] at h
   exact leaf h (congrArg AV.bool (by simp))
  ·rw[hs,Bool.true_and] at he
   exact hrec (i+1) _ _ _ ⟨hlt,he⟩ (by omega) ⟨rfl,congrArg (fun z=>some (AV.int .i64 z)) (by omega),trivial⟩ rfl
 have hc:decide ((i:Int)<sp.defs.length)=false:=decide_eq_false (by omega)
 clear hrec
 rw[List.drop_eq_nil_of_le hge,List.all_nil] at he
 rw[he] at h
 rw[Bool.true_and] at h
 clear he hi hge
 repeat' (first|refine wk ?_|refine fk ?_ ?_<;>intro hs|exact⟨⟩|fail)
 clear hc
 refine zAF (ι:=Nat) (fun i=>[(1,.ptr 0 0),(6,.int .i64 i)]) (fun _=>S 1 (updB g0 0 (.cells 40 (zAC sp))) []) (fun i=>i≤sp.fair.length∧(sp.fair.all fun x=>(lits x.a&&lits x.sub))=((sp.fair.drop i).all fun x=>(lits x.a&&lits x.sub))) (fun i=>sp.fair.length-i) ?_ 0 ⟨Nat.zero_le _,rfl⟩ ⟨rfl,rfl,trivial⟩ rfl
 rintro i b ⟨hi,he⟩ hrec
 rcases Nat.lt_or_ge i sp.fair.length with hlt|hge
 ·have hc:decide ((i:Int)<sp.fair.length)=true:=decide_eq_true (by omega)
  have hx:sp.fair[i]?=some sp.fair[i]:=List.getElem?_eq_getElem hlt
  have hb:=lt _ (hl.fa _ (List.getElem_mem hlt))
  have hb2:=lt _ (hl.fs _ (List.getElem_mem hlt))
  rw[List.drop_eq_getElem_cons hlt,List.all_cons] at he
  generalize sp.fair[i]=x at *
  clear lt lv
  repeat' (first|refine hb _ _ ?_|(refine zEX (fun Q h=>hb2 _ _ h) ?_ ?_;focus (intro hs;(try simp only[nbs] at hs);simp (disch:=first|assumption|omega) only[go_sem, *];first|done|rfl))|refine wk ?_|refine fk ?_ ?_<;>intro hs|exact⟨⟩|fail)
  ·rw[show(lits x.a&&lits x.sub)=false from by(clear h hrec hb hb2;generalize lits x.a=p at *;generalize lits x.sub=q at *;cases p<;>cases q<;>simp_all),Bool.false_and] at he
   rw[he] at h
   exact leaf h (congrArg AV.bool (by simp))
  ·rw[show(lits x.a&&lits x.sub)=true from by(clear h hrec hb hb2;generalize lits x.a=p at *;generalize lits x.sub=q at *;cases p<;>cases q<;>simp_all),Bool.true_and] at he
   exact hrec (i+1) _ _ _ ⟨hlt,he⟩ (by omega) ⟨rfl,congrArg (fun z=>some (AV.int .i64 z)) (by omega),trivial⟩ rfl
 have hc:decide ((i:Int)<sp.fair.length)=false:=decide_eq_false (by omega)
 clear hrec
 rw[List.drop_eq_nil_of_le hge,List.all_nil] at he
 rw[he] at h
 rw[Bool.true_and] at h
 clear he hi hge
 repeat' (first|refine wk ?_|refine fk ?_ ?_<;>intro hs|exact⟨⟩|fail)
 clear hc
 refine zAF (ι:=Nat) (fun i=>[(1,.ptr 0 0),(7,.int .i64 i)]) (fun _=>S 1 (updB g0 0 (.cells 40 (zAC sp))) []) (fun i=>i≤sp.invs.length∧(sp.invs.all fun x=>lits x.e)=((sp.invs.drop i).all fun x=>lits x.e)) (fun i=>sp.invs.length-i) ?_ 0 ⟨Nat.zero_le _,rfl⟩ ⟨rfl,rfl,trivial⟩ rfl
 rintro i b ⟨hi,he⟩ hrec
 rcases Nat.lt_or_ge i sp.invs.length with hlt|hge
 ·have hc:decide ((i:Int)<sp.invs.length)=true:=decide_eq_true (by omega)
  have hx:sp.invs[i]?=some sp.invs[i]:=List.getElem?_eq_getElem hlt
  have hb:=lt _ (hl.inv _ (List.getElem_mem hlt))
  rw[List.drop_eq_getElem_cons hlt,List.all_cons] at he
  generalize sp.invs[i]=x at *
  clear lt lv
  repeat' (first|refine hb _ _ ?_|refine wk ?_|refine fk ?_ ?_<;>intro hs|exact⟨⟩|fail)
  ·rw[hs,Bool.false_and] at he
   rw[he] at h
   exact leaf h (congrArg AV.bool (by simp))
  ·rw[hs,Bool.true_and] at he
   exact hrec (i+1) _ _ _ ⟨hlt,he⟩ (by omega) ⟨rfl,congrArg (fun z=>some (AV.int .i64 z)) (by omega),trivial⟩ rfl
 have hc:decide ((i:Int)<sp.invs.length)=false:=decide_eq_false (by omega)
 clear hrec
 rw[List.drop_eq_nil_of_le hge,List.all_nil] at he
 rw[he] at h
 skip
 clear he hi hge
 repeat' (first|refine wk ?_|refine fk ?_ ?_<;>intro hs|exact⟨⟩|fail)
theorem c218 {sp:Pl.Spec}{e:X}{n:Int}{s:Sto}(hs:Sm sp)(he:szX e<1073741824)(hw:zCQ sp=true)(h0:0≤n)(h1:n≤40){Q:CR→Sto→Prop}(h:Q (.ret (.bool (zA1 sp e n))) s):C E1 218 [zAN sp,encX e,.int .i64 n] s Q:=by
 have h86:=fun(s:Sto) (Q:CR→Sto→Prop) hQ=>c266 (e:=e) (n:=n) (s:=s) hs he (Q:=Q) hQ
 rw[hw,if_neg (fun h=>nomatch h),if_neg (by omega)] at h86
 rw[zA1] at h
 have lt:∀(s:Sto) (Q:CR→Sto→Prop),Q (.ret (.bool (lits e))) s→C E1 100 [encX e] s Q:=fun s Q hQ=>c100 (szX e+1) (by omega) (by omega) hQ
 clear hs
 generalize (ok sp (-1) (zeros n) e 0&&decide (cntX e≤3000)&&decide (depX e≤100))=eo at *
 refine ci Tryz.f218 16 [.tmp 6] ?_
 repeat' (first|refine h86 _ _ ?_|(refine zEX (fun Q h=>lt _ _ h) ?_ ?_;focus (intro hs;(try simp only[nbs] at hs);simp (disch:=first|assumption|omega) only[go_sem, *];first|done|rfl))|refine wk ?_|refine fk ?_ ?_<;>intro hs|exact⟨⟩|fail)
 exact zAX h (by(try clear hrec);(try clear h);cases eo<;>rfl)
end Go.Ab.X
namespace Pl
mutual
theorem zTG (ms:List Str):∀v:V,formed v=true→zDU ms v=known ms v
 | .mk k n ng d s l m,h=>by
  rw[formed,Bool.and_eq_true,Bool.and_eq_true] at h
  obtain⟨⟨h1,h2⟩,h3⟩:=h
  rw[zDU,known]
  by_cases hk:k=4
  ·subst hk
   rw[if_pos rfl]
   simp (decide:=true) only[node,V.kind,V.l,V.m,if_true,if_false,Bool.and_eq_true,decide_eq_true_eq] at h1
   have h4:l.length=0∧m.length=0:=⟨of_decide_eq_true h1.1.2,of_decide_eq_true h1.2⟩
   have hl:l=[]:=List.length_eq_zero_iff.1 h4.1
   have hm:m=[]:=List.length_eq_zero_iff.1 h4.2
   subst hl hm
   simp[zDM]
  ·rw[if_neg hk,zLR ms l h2,zLR ms m h3,decide_eq_true hk];simp
theorem zLR (ms:List Str):∀l:List V,formedL l=true→zFT ms l=zDM ms l
 | [],_=>rfl
 | v :: r,h=>by
  rw[formedL,Bool.and_eq_true] at h
  rw[zFT,zDM,zTG ms v h.1,zLR ms r h.2]
end
theorem zLU (ms:List Str)(v:V):(zBD v&&zDU ms v)=(known ms v&&zBD v):=by
 cases h:zBD v with
 | true=>rw[zTG ms v (by simp only[zBD,Bool.and_eq_true] at h;exact h.2)];simp
 | false=>simp
def MpOk (sp:Spec)(mp:Int→Bool)(d:Int):Prop:=∀n:Int,0≤n→n<sp.defs.length→mp n=(decide (d<0)||decide (n<d)||((sp.defs.getD n.toNat default).recu&&(sp.defs.getD d.toNat default).recu))
theorem zXV {sp:Spec}{mp:Int→Bool}{d:Int}(h:MpOk sp mp d)(n:Int):(decide (0≤n)&&decide (n<sp.defs.length)&&mp n)=callable sp d n:=by
 rw[callable]
 by_cases h0:0≤n
 ·by_cases h1:n<sp.defs.length
  ·rw[h n h0 h1]
  ·rw[decide_eq_false h1];simp
 ·rw[decide_eq_false h0];simp
set_option maxHeartbeats 4000000
theorem fits_own {sp:Spec}{mp:Int→Bool}{d:Int}(hmp:MpOk sp mp d)(sc:List Int)(e:X):zJZ sp mp sc e=(own sp d sc e&&(decide (e.kind≠1)||zBD e.v)):=by
 have hmc:=zXV hmp e.n
 have hik:=zLU sp.models e.v
 have hl0:(0:Int)≤e.l.length:=Int.natCast_nonneg _
 have hs0:(0:Int)≤e.s.length:=Int.natCast_nonneg _
 have hlen:decide ((0:Int)<e.s.length)=!decide ((e.s.length:Int)=0):=by
  by_cases h:(e.s.length:Int)=0
  ·rw[decide_eq_true h,decide_eq_false (by omega)];rfl
  ·rw[decide_eq_false h,decide_eq_true (by omega)];rfl
 have hsc:decide ((sc.length:Int)+e.n≤40)=decide (↑sc.length+e.n≤40):=rfl
 rw[zJZ,hlen,hik]
 unfold own zLF fields
 simp only[]
 by_cases h1:e.kind=1
 ·simp (decide:=true) only[h1,shp,if_true,if_false,or_false,or_true,false_or,true_or,Bool.not_true,Bool.not_false,Bool.false_and,Bool.true_and,Bool.and_true,Bool.false_or,Bool.or_false,Bool.true_or,ne_eq,decide_true,decide_false,not_true,not_false]
  clear h1
  skip
  rw[Bool.eq_iff_iff]
  all_goals (simp only[Bool.and_eq_true,Bool.or_eq_true,Bool.not_eq_true',Bool.or_eq_false_iff,Bool.not_eq_false',decide_eq_true_eq,decide_eq_false_iff_not])
  all_goals (clear hmc hik hlen hsc hmp)
  all_goals grind
 by_cases h2:e.kind=2
 ·simp (decide:=true) only[h2,shp,if_true,if_false,or_false,or_true,false_or,true_or,Bool.not_true,Bool.not_false,Bool.false_and,Bool.true_and,Bool.and_true,Bool.false_or,Bool.or_false,Bool.true_or,ne_eq,decide_true,decide_false,not_true,not_false]
  clear h2
  skip
  rw[Bool.eq_iff_iff]
  all_goals (simp only[Bool.and_eq_true,Bool.or_eq_true,Bool.not_eq_true',Bool.or_eq_false_iff,Bool.not_eq_false',decide_eq_true_eq,decide_eq_false_iff_not])
  all_goals (clear hmc hik hlen hsc hmp)
  all_goals grind
 by_cases h3:e.kind=3
 ·simp (decide:=true) only[h3,shp,if_true,if_false,or_false,or_true,false_or,true_or,Bool.not_true,Bool.not_false,Bool.false_and,Bool.true_and,Bool.and_true,Bool.false_or,Bool.or_false,Bool.true_or,ne_eq,decide_true,decide_false,not_true,not_false]
  clear h3
  skip
  rw[Bool.eq_iff_iff]
  all_goals (simp only[Bool.and_eq_true,Bool.or_eq_true,Bool.not_eq_true',Bool.or_eq_false_iff,Bool.not_eq_false',decide_eq_true_eq,decide_eq_false_iff_not])
  all_goals (clear hmc hik hlen hsc hmp)
  all_goals grind
 by_cases h4:e.kind=4
 ·simp (decide:=true) only[h4,shp,if_true,if_false,or_false,or_true,false_or,true_or,Bool.not_true,Bool.not_false,Bool.false_and,Bool.true_and,Bool.and_true,Bool.false_or,Bool.or_false,Bool.true_or,ne_eq,decide_true,decide_false,not_true,not_false]
  clear h4
  skip
  rw[Bool.eq_iff_iff]
  all_goals (simp only[Bool.and_eq_true,Bool.or_eq_true,Bool.not_eq_true',Bool.or_eq_false_iff,Bool.not_eq_false',decide_eq_true_eq,decide_eq_false_iff_not])
  all_goals (clear hmc hik hlen hsc hmp)
  all_goals grind
 by_cases h5:e.kind=5
 ·simp (decide:=true) only[h5,shp,if_true,if_false,or_false,or_true,false_or,true_or,Bool.not_true,Bool.not_false,Bool.false_and,Bool.true_and,Bool.and_true,Bool.false_or,Bool.or_false,Bool.true_or,ne_eq,decide_true,decide_false,not_true,not_false]
  clear h5
  skip
  rw[Bool.eq_iff_iff]
  all_goals (simp only[Bool.and_eq_true,Bool.or_eq_true,Bool.not_eq_true',Bool.or_eq_false_iff,Bool.not_eq_false',decide_eq_true_eq,decide_eq_false_iff_not])
  all_goals (clear hmc hik hlen hsc hmp)
  all_goals grind
 by_cases h6:e.kind=6
 ·simp (decide:=true) only[h6,shp,if_true,if_false,or_false,or_true,false_or,true_or,Bool.not_true,Bool.not_false,Bool.false_and,Bool.true_and,Bool.and_true,Bool.false_or,Bool.or_false,Bool.true_or,ne_eq,decide_true,decide_false,not_true,not_false]
  clear h6
  rw[← hmc]
  rw[Bool.eq_iff_iff]
  all_goals (simp only[Bool.and_eq_true,Bool.or_eq_true,Bool.not_eq_true',Bool.or_eq_false_iff,Bool.not_eq_false',decide_eq_true_eq,decide_eq_false_iff_not])
  all_goals (clear hmc hik hlen hsc hmp)
  all_goals grind
 by_cases h7:e.kind=7
 ·simp (decide:=true) only[h7,shp,if_true,if_false,or_false,or_true,false_or,true_or,Bool.not_true,Bool.not_false,Bool.false_and,Bool.true_and,Bool.and_true,Bool.false_or,Bool.or_false,Bool.true_or,ne_eq,decide_true,decide_false,not_true,not_false]
  clear h7
  skip
  rw[Bool.eq_iff_iff]
  all_goals (simp only[Bool.and_eq_true,Bool.or_eq_true,Bool.not_eq_true',Bool.or_eq_false_iff,Bool.not_eq_false',decide_eq_true_eq,decide_eq_false_iff_not])
  all_goals (clear hmc hik hlen hsc hmp)
  all_goals grind
 by_cases h11:e.kind=11
 ·simp (decide:=true) only[h11,shp,if_true,if_false,or_false,or_true,false_or,true_or,Bool.not_true,Bool.not_false,Bool.false_and,Bool.true_and,Bool.and_true,Bool.false_or,Bool.or_false,Bool.true_or,ne_eq,decide_true,decide_false,not_true,not_false]
  clear h11
  skip
  rw[Bool.eq_iff_iff]
  all_goals (simp only[Bool.and_eq_true,Bool.or_eq_true,Bool.not_eq_true',Bool.or_eq_false_iff,Bool.not_eq_false',decide_eq_true_eq,decide_eq_false_iff_not])
  all_goals (clear hmc hik hlen hsc hmp)
  all_goals grind
 by_cases h12:e.kind=12
 ·simp (decide:=true) only[h12,shp,if_true,if_false,or_false,or_true,false_or,true_or,Bool.not_true,Bool.not_false,Bool.false_and,Bool.true_and,Bool.and_true,Bool.false_or,Bool.or_false,Bool.true_or,ne_eq,decide_true,decide_false,not_true,not_false]
  clear h12
  skip
  rw[Bool.eq_iff_iff]
  all_goals (simp only[Bool.and_eq_true,Bool.or_eq_true,Bool.not_eq_true',Bool.or_eq_false_iff,Bool.not_eq_false',decide_eq_true_eq,decide_eq_false_iff_not])
  all_goals (clear hmc hik hlen hsc hmp)
  all_goals grind
 by_cases h13:e.kind=13
 ·simp (decide:=true) only[h13,shp,if_true,if_false,or_false,or_true,false_or,true_or,Bool.not_true,Bool.not_false,Bool.false_and,Bool.true_and,Bool.and_true,Bool.false_or,Bool.or_false,Bool.true_or,ne_eq,decide_true,decide_false,not_true,not_false]
  clear h13
  skip
  rw[Bool.eq_iff_iff]
  all_goals (simp only[Bool.and_eq_true,Bool.or_eq_true,Bool.not_eq_true',Bool.or_eq_false_iff,Bool.not_eq_false',decide_eq_true_eq,decide_eq_false_iff_not])
  all_goals (clear hmc hik hlen hsc hmp)
  all_goals grind
 by_cases h14:e.kind=14
 ·simp (decide:=true) only[h14,shp,if_true,if_false,or_false,or_true,false_or,true_or,Bool.not_true,Bool.not_false,Bool.false_and,Bool.true_and,Bool.and_true,Bool.false_or,Bool.or_false,Bool.true_or,ne_eq,decide_true,decide_false,not_true,not_false]
  clear h14
  skip
  rw[Bool.eq_iff_iff]
  all_goals (simp only[Bool.and_eq_true,Bool.or_eq_true,Bool.not_eq_true',Bool.or_eq_false_iff,Bool.not_eq_false',decide_eq_true_eq,decide_eq_false_iff_not])
  all_goals (clear hmc hik hlen hsc hmp)
  all_goals grind
 by_cases h15:e.kind=15
 ·simp (decide:=true) only[h15,shp,if_true,if_false,or_false,or_true,false_or,true_or,Bool.not_true,Bool.not_false,Bool.false_and,Bool.true_and,Bool.and_true,Bool.false_or,Bool.or_false,Bool.true_or,ne_eq,decide_true,decide_false,not_true,not_false]
  clear h15
  skip
  rw[Bool.eq_iff_iff]
  all_goals (simp only[Bool.and_eq_true,Bool.or_eq_true,Bool.not_eq_true',Bool.or_eq_false_iff,Bool.not_eq_false',decide_eq_true_eq,decide_eq_false_iff_not])
  all_goals (clear hmc hik hlen hsc hmp)
  all_goals grind
 by_cases h16:e.kind=16
 ·simp (decide:=true) only[h16,shp,if_true,if_false,or_false,or_true,false_or,true_or,Bool.not_true,Bool.not_false,Bool.false_and,Bool.true_and,Bool.and_true,Bool.false_or,Bool.or_false,Bool.true_or,ne_eq,decide_true,decide_false,not_true,not_false]
  clear h16
  skip
  rw[Bool.eq_iff_iff]
  all_goals (simp only[Bool.and_eq_true,Bool.or_eq_true,Bool.not_eq_true',Bool.or_eq_false_iff,Bool.not_eq_false',decide_eq_true_eq,decide_eq_false_iff_not])
  all_goals (clear hmc hik hlen hsc hmp)
  all_goals grind
 by_cases h17:e.kind=17
 ·simp (decide:=true) only[h17,shp,if_true,if_false,or_false,or_true,false_or,true_or,Bool.not_true,Bool.not_false,Bool.false_and,Bool.true_and,Bool.and_true,Bool.false_or,Bool.or_false,Bool.true_or,ne_eq,decide_true,decide_false,not_true,not_false]
  clear h17
  skip
  rw[Bool.eq_iff_iff]
  all_goals (simp only[Bool.and_eq_true,Bool.or_eq_true,Bool.not_eq_true',Bool.or_eq_false_iff,Bool.not_eq_false',decide_eq_true_eq,decide_eq_false_iff_not])
  all_goals (clear hmc hik hlen hsc hmp)
  all_goals grind
 by_cases h18:e.kind=18
 ·simp (decide:=true) only[h18,shp,if_true,if_false,or_false,or_true,false_or,true_or,Bool.not_true,Bool.not_false,Bool.false_and,Bool.true_and,Bool.and_true,Bool.false_or,Bool.or_false,Bool.true_or,ne_eq,decide_true,decide_false,not_true,not_false]
  clear h18
  skip
  rw[Bool.eq_iff_iff]
  all_goals (simp only[Bool.and_eq_true,Bool.or_eq_true,Bool.not_eq_true',Bool.or_eq_false_iff,Bool.not_eq_false',decide_eq_true_eq,decide_eq_false_iff_not])
  all_goals (clear hmc hik hlen hsc hmp)
  all_goals grind
 by_cases h19:e.kind=19
 ·simp (decide:=true) only[h19,shp,if_true,if_false,or_false,or_true,false_or,true_or,Bool.not_true,Bool.not_false,Bool.false_and,Bool.true_and,Bool.and_true,Bool.false_or,Bool.or_false,Bool.true_or,ne_eq,decide_true,decide_false,not_true,not_false]
  clear h19
  skip
  rw[Bool.eq_iff_iff]
  all_goals (simp only[Bool.and_eq_true,Bool.or_eq_true,Bool.not_eq_true',Bool.or_eq_false_iff,Bool.not_eq_false',decide_eq_true_eq,decide_eq_false_iff_not])
  all_goals (clear hmc hik hlen hsc hmp)
  all_goals grind
 by_cases h20:e.kind=20
 ·simp (decide:=true) only[h20,shp,if_true,if_false,or_false,or_true,false_or,true_or,Bool.not_true,Bool.not_false,Bool.false_and,Bool.true_and,Bool.and_true,Bool.false_or,Bool.or_false,Bool.true_or,ne_eq,decide_true,decide_false,not_true,not_false]
  clear h20
  skip
  rw[Bool.eq_iff_iff]
  all_goals (simp only[Bool.and_eq_true,Bool.or_eq_true,Bool.not_eq_true',Bool.or_eq_false_iff,Bool.not_eq_false',decide_eq_true_eq,decide_eq_false_iff_not])
  all_goals (clear hmc hik hlen hsc hmp)
  all_goals grind
 by_cases h21:e.kind=21
 ·simp (decide:=true) only[h21,shp,if_true,if_false,or_false,or_true,false_or,true_or,Bool.not_true,Bool.not_false,Bool.false_and,Bool.true_and,Bool.and_true,Bool.false_or,Bool.or_false,Bool.true_or,ne_eq,decide_true,decide_false,not_true,not_false]
  clear h21
  skip
  rw[Bool.eq_iff_iff]
  all_goals (simp only[Bool.and_eq_true,Bool.or_eq_true,Bool.not_eq_true',Bool.or_eq_false_iff,Bool.not_eq_false',decide_eq_true_eq,decide_eq_false_iff_not])
  all_goals (clear hmc hik hlen hsc hmp)
  all_goals grind
 by_cases h22:e.kind=22
 ·simp (decide:=true) only[h22,shp,if_true,if_false,or_false,or_true,false_or,true_or,Bool.not_true,Bool.not_false,Bool.false_and,Bool.true_and,Bool.and_true,Bool.false_or,Bool.or_false,Bool.true_or,ne_eq,decide_true,decide_false,not_true,not_false]
  clear h22
  skip
  rw[Bool.eq_iff_iff]
  all_goals (simp only[Bool.and_eq_true,Bool.or_eq_true,Bool.not_eq_true',Bool.or_eq_false_iff,Bool.not_eq_false',decide_eq_true_eq,decide_eq_false_iff_not])
  all_goals (clear hmc hik hlen hsc hmp)
  all_goals grind
 by_cases h23:e.kind=23
 ·simp (decide:=true) only[h23,shp,if_true,if_false,or_false,or_true,false_or,true_or,Bool.not_true,Bool.not_false,Bool.false_and,Bool.true_and,Bool.and_true,Bool.false_or,Bool.or_false,Bool.true_or,ne_eq,decide_true,decide_false,not_true,not_false]
  clear h23
  skip
  rw[Bool.eq_iff_iff]
  all_goals (simp only[Bool.and_eq_true,Bool.or_eq_true,Bool.not_eq_true',Bool.or_eq_false_iff,Bool.not_eq_false',decide_eq_true_eq,decide_eq_false_iff_not])
  all_goals (clear hmc hik hlen hsc hmp)
  all_goals grind
 by_cases h24:e.kind=24
 ·simp (decide:=true) only[h24,shp,if_true,if_false,or_false,or_true,false_or,true_or,Bool.not_true,Bool.not_false,Bool.false_and,Bool.true_and,Bool.and_true,Bool.false_or,Bool.or_false,Bool.true_or,ne_eq,decide_true,decide_false,not_true,not_false]
  clear h24
  skip
  rw[Bool.eq_iff_iff]
  all_goals (simp only[Bool.and_eq_true,Bool.or_eq_true,Bool.not_eq_true',Bool.or_eq_false_iff,Bool.not_eq_false',decide_eq_true_eq,decide_eq_false_iff_not])
  all_goals (clear hmc hik hlen hsc hmp)
  all_goals grind
 by_cases h25:e.kind=25
 ·simp (decide:=true) only[h25,shp,if_true,if_false,or_false,or_true,false_or,true_or,Bool.not_true,Bool.not_false,Bool.false_and,Bool.true_and,Bool.and_true,Bool.false_or,Bool.or_false,Bool.true_or,ne_eq,decide_true,decide_false,not_true,not_false]
  clear h25
  skip
  rw[Bool.eq_iff_iff]
  all_goals (simp only[Bool.and_eq_true,Bool.or_eq_true,Bool.not_eq_true',Bool.or_eq_false_iff,Bool.not_eq_false',decide_eq_true_eq,decide_eq_false_iff_not])
  all_goals (clear hmc hik hlen hsc hmp)
  all_goals grind
 by_cases h26:e.kind=26
 ·simp (decide:=true) only[h26,shp,if_true,if_false,or_false,or_true,false_or,true_or,Bool.not_true,Bool.not_false,Bool.false_and,Bool.true_and,Bool.and_true,Bool.false_or,Bool.or_false,Bool.true_or,ne_eq,decide_true,decide_false,not_true,not_false]
  clear h26
  skip
  rw[Bool.eq_iff_iff]
  all_goals (simp only[Bool.and_eq_true,Bool.or_eq_true,Bool.not_eq_true',Bool.or_eq_false_iff,Bool.not_eq_false',decide_eq_true_eq,decide_eq_false_iff_not])
  all_goals (clear hmc hik hlen hsc hmp)
  all_goals grind
 by_cases h27:e.kind=27
 ·simp (decide:=true) only[h27,shp,if_true,if_false,or_false,or_true,false_or,true_or,Bool.not_true,Bool.not_false,Bool.false_and,Bool.true_and,Bool.and_true,Bool.false_or,Bool.or_false,Bool.true_or,ne_eq,decide_true,decide_false,not_true,not_false]
  clear h27
  skip
  rw[Bool.eq_iff_iff]
  all_goals (simp only[Bool.and_eq_true,Bool.or_eq_true,Bool.not_eq_true',Bool.or_eq_false_iff,Bool.not_eq_false',decide_eq_true_eq,decide_eq_false_iff_not])
  all_goals (clear hmc hik hlen hsc hmp)
  all_goals grind
 by_cases h28:e.kind=28
 ·simp (decide:=true) only[h28,shp,if_true,if_false,or_false,or_true,false_or,true_or,Bool.not_true,Bool.not_false,Bool.false_and,Bool.true_and,Bool.and_true,Bool.false_or,Bool.or_false,Bool.true_or,ne_eq,decide_true,decide_false,not_true,not_false]
  clear h28
  skip
  rw[Bool.eq_iff_iff]
  all_goals (simp only[Bool.and_eq_true,Bool.or_eq_true,Bool.not_eq_true',Bool.or_eq_false_iff,Bool.not_eq_false',decide_eq_true_eq,decide_eq_false_iff_not])
  all_goals (clear hmc hik hlen hsc hmp)
  all_goals grind
 by_cases h29:e.kind=29
 ·simp (decide:=true) only[h29,shp,if_true,if_false,or_false,or_true,false_or,true_or,Bool.not_true,Bool.not_false,Bool.false_and,Bool.true_and,Bool.and_true,Bool.false_or,Bool.or_false,Bool.true_or,ne_eq,decide_true,decide_false,not_true,not_false]
  clear h29
  skip
  rw[Bool.eq_iff_iff]
  all_goals (simp only[Bool.and_eq_true,Bool.or_eq_true,Bool.not_eq_true',Bool.or_eq_false_iff,Bool.not_eq_false',decide_eq_true_eq,decide_eq_false_iff_not])
  all_goals (clear hmc hik hlen hsc hmp)
  all_goals grind
 by_cases h30:e.kind=30
 ·simp (decide:=true) only[h30,shp,if_true,if_false,or_false,or_true,false_or,true_or,Bool.not_true,Bool.not_false,Bool.false_and,Bool.true_and,Bool.and_true,Bool.false_or,Bool.or_false,Bool.true_or,ne_eq,decide_true,decide_false,not_true,not_false]
  clear h30
  skip
  rw[Bool.eq_iff_iff]
  all_goals (simp only[Bool.and_eq_true,Bool.or_eq_true,Bool.not_eq_true',Bool.or_eq_false_iff,Bool.not_eq_false',decide_eq_true_eq,decide_eq_false_iff_not])
  all_goals (clear hmc hik hlen hsc hmp)
  all_goals grind
 by_cases h31:e.kind=31
 ·simp (decide:=true) only[h31,shp,if_true,if_false,or_false,or_true,false_or,true_or,Bool.not_true,Bool.not_false,Bool.false_and,Bool.true_and,Bool.and_true,Bool.false_or,Bool.or_false,Bool.true_or,ne_eq,decide_true,decide_false,not_true,not_false]
  clear h31
  skip
  rw[Bool.eq_iff_iff]
  all_goals (simp only[Bool.and_eq_true,Bool.or_eq_true,Bool.not_eq_true',Bool.or_eq_false_iff,Bool.not_eq_false',decide_eq_true_eq,decide_eq_false_iff_not])
  all_goals (clear hmc hik hlen hsc hmp)
  all_goals grind
 by_cases h32:e.kind=32
 ·simp (decide:=true) only[h32,shp,if_true,if_false,or_false,or_true,false_or,true_or,Bool.not_true,Bool.not_false,Bool.false_and,Bool.true_and,Bool.and_true,Bool.false_or,Bool.or_false,Bool.true_or,ne_eq,decide_true,decide_false,not_true,not_false]
  clear h32
  skip
  rw[Bool.eq_iff_iff]
  all_goals (simp only[Bool.and_eq_true,Bool.or_eq_true,Bool.not_eq_true',Bool.or_eq_false_iff,Bool.not_eq_false',decide_eq_true_eq,decide_eq_false_iff_not])
  all_goals (clear hmc hik hlen hsc hmp)
  all_goals grind
 by_cases h33:e.kind=33
 ·simp (decide:=true) only[h33,shp,if_true,if_false,or_false,or_true,false_or,true_or,Bool.not_true,Bool.not_false,Bool.false_and,Bool.true_and,Bool.and_true,Bool.false_or,Bool.or_false,Bool.true_or,ne_eq,decide_true,decide_false,not_true,not_false]
  clear h33
  skip
  rw[Bool.eq_iff_iff]
  all_goals (simp only[Bool.and_eq_true,Bool.or_eq_true,Bool.not_eq_true',Bool.or_eq_false_iff,Bool.not_eq_false',decide_eq_true_eq,decide_eq_false_iff_not])
  all_goals (clear hmc hik hlen hsc hmp)
  all_goals grind
 by_cases h34:e.kind=34
 ·simp (decide:=true) only[h34,shp,if_true,if_false,or_false,or_true,false_or,true_or,Bool.not_true,Bool.not_false,Bool.false_and,Bool.true_and,Bool.and_true,Bool.false_or,Bool.or_false,Bool.true_or,ne_eq,decide_true,decide_false,not_true,not_false]
  clear h34
  skip
  rw[Bool.eq_iff_iff]
  all_goals (simp only[Bool.and_eq_true,Bool.or_eq_true,Bool.not_eq_true',Bool.or_eq_false_iff,Bool.not_eq_false',decide_eq_true_eq,decide_eq_false_iff_not])
  all_goals (clear hmc hik hlen hsc hmp)
  all_goals grind
 by_cases h35:e.kind=35
 ·simp (decide:=true) only[h35,shp,if_true,if_false,or_false,or_true,false_or,true_or,Bool.not_true,Bool.not_false,Bool.false_and,Bool.true_and,Bool.and_true,Bool.false_or,Bool.or_false,Bool.true_or,ne_eq,decide_true,decide_false,not_true,not_false]
  clear h35
  skip
  rw[Bool.eq_iff_iff]
  all_goals (simp only[Bool.and_eq_true,Bool.or_eq_true,Bool.not_eq_true',Bool.or_eq_false_iff,Bool.not_eq_false',decide_eq_true_eq,decide_eq_false_iff_not])
  all_goals (clear hmc hik hlen hsc hmp)
  all_goals grind
 by_cases h36:e.kind=36
 ·simp (decide:=true) only[h36,shp,if_true,if_false,or_false,or_true,false_or,true_or,Bool.not_true,Bool.not_false,Bool.false_and,Bool.true_and,Bool.and_true,Bool.false_or,Bool.or_false,Bool.true_or,ne_eq,decide_true,decide_false,not_true,not_false]
  clear h36
  skip
  rw[Bool.eq_iff_iff]
  all_goals (simp only[Bool.and_eq_true,Bool.or_eq_true,Bool.not_eq_true',Bool.or_eq_false_iff,Bool.not_eq_false',decide_eq_true_eq,decide_eq_false_iff_not])
  all_goals (clear hmc hik hlen hsc hmp)
  all_goals grind
 by_cases h37:e.kind=37
 ·simp (decide:=true) only[h37,shp,if_true,if_false,or_false,or_true,false_or,true_or,Bool.not_true,Bool.not_false,Bool.false_and,Bool.true_and,Bool.and_true,Bool.false_or,Bool.or_false,Bool.true_or,ne_eq,decide_true,decide_false,not_true,not_false]
  clear h37
  skip
  rw[Bool.eq_iff_iff]
  all_goals (simp only[Bool.and_eq_true,Bool.or_eq_true,Bool.not_eq_true',Bool.or_eq_false_iff,Bool.not_eq_false',decide_eq_true_eq,decide_eq_false_iff_not])
  all_goals (clear hmc hik hlen hsc hmp)
  all_goals grind
 by_cases h38:e.kind=38
 ·simp (decide:=true) only[h38,shp,if_true,if_false,or_false,or_true,false_or,true_or,Bool.not_true,Bool.not_false,Bool.false_and,Bool.true_and,Bool.and_true,Bool.false_or,Bool.or_false,Bool.true_or,ne_eq,decide_true,decide_false,not_true,not_false]
  clear h38
  skip
  rw[Bool.eq_iff_iff]
  all_goals (simp only[Bool.and_eq_true,Bool.or_eq_true,Bool.not_eq_true',Bool.or_eq_false_iff,Bool.not_eq_false',decide_eq_true_eq,decide_eq_false_iff_not])
  all_goals (clear hmc hik hlen hsc hmp)
  all_goals grind
 by_cases h39:e.kind=39
 ·simp (decide:=true) only[h39,shp,if_true,if_false,or_false,or_true,false_or,true_or,Bool.not_true,Bool.not_false,Bool.false_and,Bool.true_and,Bool.and_true,Bool.false_or,Bool.or_false,Bool.true_or,ne_eq,decide_true,decide_false,not_true,not_false]
  clear h39
  skip
  rw[Bool.eq_iff_iff]
  all_goals (simp only[Bool.and_eq_true,Bool.or_eq_true,Bool.not_eq_true',Bool.or_eq_false_iff,Bool.not_eq_false',decide_eq_true_eq,decide_eq_false_iff_not])
  all_goals (clear hmc hik hlen hsc hmp)
  all_goals grind
 by_cases h40:e.kind=40
 ·simp (decide:=true) only[h40,shp,if_true,if_false,or_false,or_true,false_or,true_or,Bool.not_true,Bool.not_false,Bool.false_and,Bool.true_and,Bool.and_true,Bool.false_or,Bool.or_false,Bool.true_or,ne_eq,decide_true,decide_false,not_true,not_false]
  clear h40
  skip
  rw[Bool.eq_iff_iff]
  all_goals (simp only[Bool.and_eq_true,Bool.or_eq_true,Bool.not_eq_true',Bool.or_eq_false_iff,Bool.not_eq_false',decide_eq_true_eq,decide_eq_false_iff_not])
  all_goals (clear hmc hik hlen hsc hmp)
  all_goals grind
 by_cases h41:e.kind=41
 ·simp (decide:=true) only[h41,shp,if_true,if_false,or_false,or_true,false_or,true_or,Bool.not_true,Bool.not_false,Bool.false_and,Bool.true_and,Bool.and_true,Bool.false_or,Bool.or_false,Bool.true_or,ne_eq,decide_true,decide_false,not_true,not_false]
  clear h41
  skip
  rw[Bool.eq_iff_iff]
  all_goals (simp only[Bool.and_eq_true,Bool.or_eq_true,Bool.not_eq_true',Bool.or_eq_false_iff,Bool.not_eq_false',decide_eq_true_eq,decide_eq_false_iff_not])
  all_goals (clear hmc hik hlen hsc hmp)
  all_goals grind
 by_cases h42:e.kind=42
 ·simp (decide:=true) only[h42,shp,if_true,if_false,or_false,or_true,false_or,true_or,Bool.not_true,Bool.not_false,Bool.false_and,Bool.true_and,Bool.and_true,Bool.false_or,Bool.or_false,Bool.true_or,ne_eq,decide_true,decide_false,not_true,not_false]
  clear h42
  skip
  rw[Bool.eq_iff_iff]
  all_goals (simp only[Bool.and_eq_true,Bool.or_eq_true,Bool.not_eq_true',Bool.or_eq_false_iff,Bool.not_eq_false',decide_eq_true_eq,decide_eq_false_iff_not])
  all_goals (clear hmc hik hlen hsc hmp)
  all_goals grind
 by_cases h43:e.kind=43
 ·simp (decide:=true) only[h43,shp,if_true,if_false,or_false,or_true,false_or,true_or,Bool.not_true,Bool.not_false,Bool.false_and,Bool.true_and,Bool.and_true,Bool.false_or,Bool.or_false,Bool.true_or,ne_eq,decide_true,decide_false,not_true,not_false]
  clear h43
  skip
  rw[Bool.eq_iff_iff]
  all_goals (simp only[Bool.and_eq_true,Bool.or_eq_true,Bool.not_eq_true',Bool.or_eq_false_iff,Bool.not_eq_false',decide_eq_true_eq,decide_eq_false_iff_not])
  all_goals (clear hmc hik hlen hsc hmp)
  all_goals grind
 by_cases h44:e.kind=44
 ·simp (decide:=true) only[h44,shp,if_true,if_false,or_false,or_true,false_or,true_or,Bool.not_true,Bool.not_false,Bool.false_and,Bool.true_and,Bool.and_true,Bool.false_or,Bool.or_false,Bool.true_or,ne_eq,decide_true,decide_false,not_true,not_false]
  clear h44
  skip
  rw[Bool.eq_iff_iff]
  all_goals (simp only[Bool.and_eq_true,Bool.or_eq_true,Bool.not_eq_true',Bool.or_eq_false_iff,Bool.not_eq_false',decide_eq_true_eq,decide_eq_false_iff_not])
  all_goals (clear hmc hik hlen hsc hmp)
  all_goals grind
 by_cases h45:e.kind=45
 ·simp (decide:=true) only[h45,shp,if_true,if_false,or_false,or_true,false_or,true_or,Bool.not_true,Bool.not_false,Bool.false_and,Bool.true_and,Bool.and_true,Bool.false_or,Bool.or_false,Bool.true_or,ne_eq,decide_true,decide_false,not_true,not_false]
  clear h45
  skip
  rw[Bool.eq_iff_iff]
  all_goals (simp only[Bool.and_eq_true,Bool.or_eq_true,Bool.not_eq_true',Bool.or_eq_false_iff,Bool.not_eq_false',decide_eq_true_eq,decide_eq_false_iff_not])
  all_goals (clear hmc hik hlen hsc hmp)
  all_goals grind
 by_cases h46:e.kind=46
 ·simp (decide:=true) only[h46,shp,if_true,if_false,or_false,or_true,false_or,true_or,Bool.not_true,Bool.not_false,Bool.false_and,Bool.true_and,Bool.and_true,Bool.false_or,Bool.or_false,Bool.true_or,ne_eq,decide_true,decide_false,not_true,not_false]
  clear h46
  skip
  rw[Bool.eq_iff_iff]
  all_goals (simp only[Bool.and_eq_true,Bool.or_eq_true,Bool.not_eq_true',Bool.or_eq_false_iff,Bool.not_eq_false',decide_eq_true_eq,decide_eq_false_iff_not])
  all_goals (clear hmc hik hlen hsc hmp)
  all_goals grind
 by_cases h47:e.kind=47
 ·simp (decide:=true) only[h47,shp,if_true,if_false,or_false,or_true,false_or,true_or,Bool.not_true,Bool.not_false,Bool.false_and,Bool.true_and,Bool.and_true,Bool.false_or,Bool.or_false,Bool.true_or,ne_eq,decide_true,decide_false,not_true,not_false]
  clear h47
  skip
  rw[Bool.eq_iff_iff]
  all_goals (simp only[Bool.and_eq_true,Bool.or_eq_true,Bool.not_eq_true',Bool.or_eq_false_iff,Bool.not_eq_false',decide_eq_true_eq,decide_eq_false_iff_not])
  all_goals (clear hmc hik hlen hsc hmp)
  all_goals grind
 simp (decide:=true) only[shp,h1,h2,h3,h4,h5,h6,h7,h11,h12,h13,h14,h15,h16,h17,h18,h19,h20,h21,h22,h23,h24,h25,h26,h27,h28,h29,h30,h31,h32,h33,h34,h35,h36,h37,h38,h39,h40,h41,h42,h43,h44,h45,h46,h47,if_false,or_self,Bool.not_false,Bool.true_or,Bool.not_true,Bool.false_and,Bool.and_false,decide_false]
end Pl
namespace Pl
set_option maxHeartbeats 4000000
theorem zUA {sp:Spec}{d:Int}{sc:List Int}{e:X}(h:own sp d sc e=true)(i:Nat)(hi:i<e.l.length):binds e.kind e.n i e.l.length=sees e.kind e.n i:=by
 have h9:e.kind≠9:=fun h9=>by
  rw[own,Bool.and_eq_true] at h
  have h2:=h.2
  simp (decide:=true) only[h9,if_false,or_self] at h2
 unfold binds sees
 by_cases a1:e.kind=16∨e.kind=17
 ·rw[if_pos a1,if_pos a1]
 rw[if_neg a1,if_neg a1]
 by_cases a2:e.kind=24∨e.kind=30
 ·rw[if_pos a2,if_pos a2]
  have hn:(e.l.length:Int)=e.n+1:=by
   rw[own,Bool.and_eq_true] at h
   have h2:=h.2
   rcases a2 with a2|a2<;>simp (decide:=true) only[a2,if_false,if_true,or_self,or_true,true_or,Bool.and_eq_true,decide_eq_true_eq] at h2<;>exact h2.1.2
  by_cases b:(i:Int)=e.n
  ·rw[if_pos b,if_pos (by omega)]
  ·rw[if_neg b,if_neg (by omega)]
 rw[if_neg a2,if_neg a2]
 by_cases a3:e.kind=18∨e.kind=23∨e.kind=42
 ·rw[if_pos a3,if_pos (by omega)]
  have hn:(e.l.length:Int)=2:=by
   rw[own,Bool.and_eq_true] at h
   have h2:=h.2
   rcases a3 with a3|a3|a3<;>simp (decide:=true) only[a3,if_false,if_true,or_self,or_true,true_or,or_false,false_or,Bool.and_eq_true,decide_eq_true_eq] at h2<;>exact h2.1
  by_cases b:(i:Int)=e.l.length-1
  ·rw[if_pos b];omega
  ·rw[if_neg b];omega
 rw[if_neg a3]
 by_cases a4:e.kind=34
 ·rw[if_pos (by omega),if_pos a4]
  have hn:(e.l.length:Int)=3:=by
   rw[own,Bool.and_eq_true] at h
   have h2:=h.2
   simp (decide:=true) only[a4,if_false,if_true,or_self,Bool.and_eq_true,decide_eq_true_eq] at h2
   exact h2.1
  by_cases b:i=2
  ·rw[if_pos b,if_pos (by omega)]
  ·rw[if_neg b,if_neg (by omega)]
 rw[if_neg (by omega),if_neg a4,if_neg h9]
theorem zeros0 (sc:List Int):sc++zeros 0=sc:=by simp[zeros]
theorem plain_op {e:X}(h:e.kind=8∨e.kind=9∨e.kind=10):zLF e=(decide (¬(0:Int)<e.s.length)&&zF4 e.v):=by
 have hlen:decide (¬(0:Int)<e.s.length)=decide ((e.s.length:Int)=0):=by rw[decide_eq_decide];omega
 rw[hlen]
 unfold zLF
 rcases h with h|h|h<;>simp (decide:=true) only[h,if_true,if_false,or_false,or_true,false_or,true_or,or_self]
theorem okO_form (sp:Spec)(mp:Int→Bool)(sc:List Int)(e:X)(ar:Int):okO sp mp sc e ar=(decide (¬(0:Int)<e.s.length)&&zF4 e.v &&
   (if e.kind=8 then decide ((e.l.length:Int)=0)&&decide (0≤e.n)&&decide (e.n<sp.defs.length)&&mp e.n&&decide (((params sp e.n).length:Int)=ar)&&(params sp e.n).all (fun p=>decide (p=0))
    else if e.kind=9 then decide (e.n=ar)&&decide ((e.l.length:Int)=1)&&decide ((sc.length:Int)+ar≤40)&&okOL sp mp (sc++zeros ar) e.l
    else if e.kind=10 then decide ((e.l.length:Int)=0)&&decide (0≤e.n)&&decide (e.n<sc.length)&&decide (sc.getD e.n.toNat 0=ar)
    else false)):=by cases e;rfl
theorem zX2 (e:X):lits e=((decide (e.kind≠1)||zBD e.v)&&litsL e.l):=by cases e;rfl
theorem okO_aux {sp:Spec}{mp:Int→Bool}{d:Int}{sc:List Int}{ar:Int}(hmp:MpOk sp mp d)(e:X)(ih:(e.l.length:Int)=1→okOL sp mp (sc++zeros e.n) e.l=(okL sp d sc 9 e.n 0 e.l&&litsL e.l))(h1:1≤ar)(h8:ar≤8):okO sp mp sc e ar=(ok sp d sc e ar&&lits e):=by
 have hmc:=zXV hmp e.n
 have hpo:=plain_op (e:=e)
 rw[okO_form,ok_eq,zX2,zIF,if_neg (show ¬ar=0 by omega),oper,decide_eq_true h1,decide_eq_true h8]
 have hl0:(e.l.length:Int)=0→e.l=[]:=fun h=>List.length_eq_zero_iff.1 (by omega)
 by_cases a1:e.kind=8
 ·rw[hpo (.inl a1),← hmc]
  simp (decide:=true) only[a1,if_true,if_false]
  by_cases hl:(e.l.length:Int)=0
  ·rw[hl0 hl]
   simp (decide:=true) only[okL,litsL,Bool.and_true,decide_true,Bool.true_or,Bool.and_assoc]
  ·rw[decide_eq_false hl];simp only[Bool.false_and,Bool.and_false]
 by_cases a2:e.kind=9
 ·rw[hpo (.inr (.inl a2))]
  simp (decide:=true) only[a2,if_true,if_false]
  by_cases hl:(e.l.length:Int)=1
  ·by_cases hn:e.n=ar
   ·rw[hn] at ih ⊢
    rw[ih hl,decide_eq_true hl]
    simp (decide:=true) only[Bool.and_true,decide_true,Bool.true_or,Bool.true_and,Bool.and_assoc]
   ·rw[decide_eq_false hn];simp only[Bool.false_and,Bool.and_false]
  ·rw[decide_eq_false hl];simp only[Bool.false_and,Bool.and_false]
 by_cases a3:e.kind=10
 ·rw[hpo (.inr (.inr a3))]
  simp (decide:=true) only[a3,if_true,if_false]
  by_cases hl:(e.l.length:Int)=0
  ·rw[hl0 hl]
   simp (decide:=true) only[okL,litsL,Bool.and_true,decide_true,Bool.true_or,Bool.and_assoc]
  ·rw[decide_eq_false hl];simp only[Bool.false_and,Bool.and_false]
 simp only[a1,a2,a3,if_false,Bool.and_false,Bool.false_and]
mutual
theorem zNA {sp:Spec}{mp:Int→Bool}{d:Int}(hmp:MpOk sp mp d)(hp8:∀(n:Int) (i:Nat),0≤(params sp n).getD i 0∧(params sp n).getD i 0≤8):∀(sc:List Int) (e:X),okP sp mp sc e=(ok sp d sc e 0&&lits e)
 | sc,.mk k n s v l=>by
  have ih:=zXP hmp hp8 sc k n l.length 0 l
  rw[okP,ok,lits,fits_own hmp,show zIF sp d sc (.mk k n s v l) 0=own sp d sc (.mk k n s v l) from rfl]
  have hsb:=fun h=>zUA (sp:=sp) (d:=d) (sc:=sc) (e:=.mk k n s v l) h
  cases ho:own sp d sc (.mk k n s v l) with
  | false=>simp only[Bool.false_and]
  | true=>
   rw[ih (fun i' _ hi=>hsb ho i' (by show i'<l.length;omega))]
   show _=(true&&okL sp d sc k n 0 l&&((decide (k≠1)||zBD v)&&litsL l))
   show(true&&(decide (k≠1)||zBD v)&&(okL sp d sc k n 0 l&&litsL l))=_
   generalize okL sp d sc k n 0 l=a
   generalize (decide (k≠1)||zBD v)=b
   generalize litsL l=c
   cases a<;>cases b<;>cases c<;>rfl
theorem zXP {sp:Spec}{mp:Int→Bool}{d:Int}(hmp:MpOk sp mp d)(hp8:∀(n:Int) (i:Nat),0≤(params sp n).getD i 0∧(params sp n).getD i 0≤8):∀(sc:List Int) (k n:Int) (len i:Nat) (l:List X),(∀i':Nat,i≤i'→i'<i+l.length→binds k n i' len=sees k n i')→okPL sp mp sc k n len i l=(okL sp d sc k n i l&&litsL l)
 | _,_,_,_,_,[],_=>rfl
 | sc,k,n,len,i,x :: r,hb=>by
  have ir:=zXP hmp hp8 sc k n len (i+1) r (fun i' h1 h2=>hb i' (by omega) (by rw[List.length_cons];omega))
  rw[okPL,okL,litsL,ir]
  have hbi:=hb i (Nat.le_refl _) (by rw[List.length_cons];omega)
  have hx:(if k=6∧0<(params sp n).getD i 0 then okO sp mp sc x ((params sp n).getD i 0) else okP sp mp (sc++zeros (binds k n i len)) x)=(ok sp d (sc++zeros (sees k n i)) x (arity sp k n i)&&lits x):=by
   by_cases h6:k=6
   ·subst h6
    have hs0:sees 6 n i=0:=by simp (decide:=true) only[sees,if_false,or_self]
    have ha:arity sp 6 n i=(params sp n).getD i 0:=by simp only[arity,if_true]
    rw[hs0,ha,zeros0]
    by_cases hp:0<(params sp n).getD i 0
    ·rw[if_pos ⟨rfl,hp⟩]
     exact okO_eq hmp hp8 sc x _ (by omega) (hp8 n i).2
    ·rw[if_neg (fun h=>hp h.2),hbi,hs0,zeros0,show(params sp n).getD i 0=0 from by have:=(hp8 n i).1;omega]
     exact zNA hmp hp8 sc x
   ·rw[if_neg (fun h=>h6 h.1),hbi,show arity sp k n i=0 from if_neg h6]
    exact zNA hmp hp8 _ x
  rw[hx]
  generalize ok sp d (sc++zeros (sees k n i)) x (arity sp k n i)=a
  generalize okL sp d sc k n (i+1) r=b
  generalize lits x=c
  generalize litsL r=f
  cases a<;>cases b<;>cases c<;>cases f<;>rfl
theorem okO_eq {sp:Spec}{mp:Int→Bool}{d:Int}(hmp:MpOk sp mp d)(hp8:∀(n:Int) (i:Nat),0≤(params sp n).getD i 0∧(params sp n).getD i 0≤8):∀(sc:List Int) (e:X)(ar:Int),1≤ar→ar≤8→okO sp mp sc e ar=(ok sp d sc e ar&&lits e)
 | sc,.mk k n s v l,ar,h1,h8=>okO_aux hmp (.mk k n s v l) (fun hl=>okOL_eq hmp hp8 sc n l hl) h1 h8
theorem okOL_eq {sp:Spec}{mp:Int→Bool}{d:Int}(hmp:MpOk sp mp d)(hp8:∀(n:Int) (i:Nat),0≤(params sp n).getD i 0∧(params sp n).getD i 0≤8):∀(sc:List Int) (n:Int) (l:List X),(l.length:Int)=1→okOL sp mp (sc++zeros n) l=(okL sp d sc 9 n 0 l&&litsL l)
 | sc,n,[],h=>by simp at h
 | sc,n,x :: r,h=>by
  have hr:r=[]:=by cases r with|nil=>rfl|cons a r=>simp at h;omega
  subst hr
  have ix:=zNA hmp hp8 (sc++zeros n) x
  have hs0:sees 9 n 0=n:=by simp (decide:=true) only[sees,if_false,if_true,or_self]
  have ha:arity sp 9 n 0=0:=by simp (decide:=true) only[arity,if_false]
  rw[okOL,okL,okL,litsL,litsL,hs0,ha,ix,Bool.and_true,Bool.and_true]
end
end Pl
end
