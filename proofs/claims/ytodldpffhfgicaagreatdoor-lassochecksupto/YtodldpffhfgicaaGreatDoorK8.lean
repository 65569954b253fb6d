/- A part. -/
import Derived.Test.YtodldpffhfgicaaGreatDoorK7
set_option linter.all false
noncomputable section
namespace Go.Ab.X
open Go Go.Ab Go.Proofs Pl
set_option maxHeartbeats 4000000
theorem zXU (sp:Pl.Spec):MpOk sp (fun _=>true) (-1):=fun n _ _=>by simp
theorem mp_def {sp:Pl.Spec}{i:Nat}{d:Pl.Def}(hd:sp.defs.getD i default=d):MpOk sp (mayP sp i d) i:=fun n _ _=>by
 rw[mayP,Int.toNat_natCast,hd,decide_eq_false (show ¬(i:Int)<0 by omega),Bool.false_or,Bool.and_comm (x:=d.recu)]
theorem zXG {sp:Pl.Spec}(h:∀n p,p∈params sp n→0≤p∧p≤8)(n:Int)(i:Nat):0≤(params sp n).getD i 0∧(params sp n).getD i 0≤8:=by
 rw[List.getD_eq_getElem?_getD]
 cases hx:(params sp n)[i]? with
 | none=>simp
 | some p=>exact h n p (List.mem_of_getElem? hx)
theorem zMJ {sp:Pl.Spec}(h8:∀n p,p∈params sp n→0≤p∧p≤8):∀(l:List Pl.Def) (i:Nat) (nd:Int),sp.defs.drop i=l→nd≤3000→
  ((zCS sp i l nd).1=true↔(bodies sp i l=true∧(l.all fun d=>lits d.body)=true∧nd+cntXs (l.map (·.body))≤3000∧(l.all fun d=>decide (depX d.body≤100))=true))∧((zCS sp i l nd).1=true→(zCS sp i l nd).2=nd+cntXs (l.map (·.body)))
 | [],i,nd,_,h1=>⟨by simp[zCS,bodies,cntXs,h1],fun _=>by simp[zCS,cntXs]⟩
 | d :: r,i,nd,hl,h1=>by
  have hd:sp.defs.getD i default=d:=by
   rw[List.getD_eq_getElem?_getD]
   have:(sp.defs.drop i)[0]?=some d:=by rw[hl];rfl
   rw[List.getElem?_drop] at this
   rw[show i+0=i from rfl] at this
   rw[this];rfl
  have hr:sp.defs.drop (i+1)=r:=by
   have:=congrArg List.tail hl
   rw[List.tail_drop] at this
   exact this
  have ih:=fun nd h1=>zMJ h8 r (i+1) nd hr h1
  have hL:=zDW sp (mayP sp i d) d.params d.body 1 nd
  have ho:=zNA (mp_def hd) (zXG h8) d.params d.body
  rw[ho] at hL
  rw[zCS,bodies,List.all_cons,List.all_cons,List.map_cons,cntXs]
  generalize zEL sp (mayP sp i d) d.params d.body 1 nd=st at *
  obtain⟨b,nd1⟩:=st
  obtain⟨g1,g2⟩:=hL
  cases b with
  | true=>
   have e:=g2 rfl
   dsimp only at e ⊢
   subst e
   obtain⟨o1,o2,o3⟩:=g1.1 rfl
   obtain⟨i1,i2⟩:=ih (nd+cntX d.body) o2
   rw[Bool.and_eq_true] at o1
   rw[o1.1,o1.2,decide_eq_true (show depX d.body≤100 by omega)]
   simp only[Bool.true_and]
   refine⟨?_,fun h=>by rw[i2 h];omega⟩
   rw[i1]
   constructor<;>(rintro⟨a1,a2,a3,a4⟩;exact⟨a1,a2,by omega,a4⟩)
  | false=>
   refine⟨⟨(fun h=>nomatch h),?_⟩,(fun h=>nomatch h)⟩
   rintro⟨a1,a2,a3,a4⟩
   rw[Bool.and_eq_true] at a1 a2 a4
   have:=g1.2 ⟨by rw[a1.1,a2.1];rfl,by omega,by have:=of_decide_eq_true a4.1;omega⟩
   cases this
theorem zSY {sp:Pl.Spec}(h8:∀n p,p∈params sp n→0≤p∧p≤8):∀(l:List X) (nd:Int),nd≤3000→
  ((anyS (zN3 sp) nd l).1=false↔((l.all fun e=>ok sp (-1) [] e 0)=true∧(l.all lits)=true∧nd+cntXs l≤3000∧(l.all fun e=>decide (depX e≤100))=true))
 | [],nd,h1=>by simp[anyS,cntXs,h1]
 | e :: r,nd,h1=>by
  have ih:=fun nd h1=>zSY h8 r nd h1
  have hL:=zDW sp (fun _=>true) [] e 1 nd
  have ho:=zNA (zXU sp) (zXG h8) [] e
  rw[ho] at hL
  rw[anyS,zN3,List.all_cons,List.all_cons,List.all_cons,cntXs]
  generalize zEL sp (fun _=>true) [] e 1 nd=st at *
  obtain⟨b,nd1⟩:=st
  obtain⟨g1,g2⟩:=hL
  cases b with
  | true=>
   have e:=g2 rfl
   dsimp only at e ⊢
   subst e
   obtain⟨o1,o2,o3⟩:=g1.1 rfl
   have i1:=ih (nd+cntX e) o2
   rw[Bool.and_eq_true] at o1
   rw[o1.1,o1.2,decide_eq_true (show depX e≤100 by omega),if_neg (fun h=>nomatch h)]
   simp only[Bool.true_and]
   rw[i1]
   constructor<;>(rintro⟨a1,a2,a3,a4⟩;exact⟨a1,a2,by omega,a4⟩)
  | false=>
   rw[if_pos (by rfl)]
   refine⟨(fun h=>nomatch h),?_⟩
   rintro⟨a1,a2,a3,a4⟩
   rw[Bool.and_eq_true] at a1 a2 a4
   have:=g1.2 ⟨by rw[a1.1,a2.1];rfl,by omega,by have:=of_decide_eq_true a4.1;omega⟩
   cases this
theorem zL5 (sp:Pl.Spec)(f:X→Bool):(zHN sp).all f=(Pl.exprs sp).all f:=by
 rw[zHN,Pl.exprs]
 simp only[List.all_append,List.flatten_cons,List.flatten_nil,List.append_nil,List.all_cons,List.all_nil,Bool.and_true]
 generalize sp.assume.all f=a1
 generalize f sp.init=a2
 generalize f sp.next=a3
 generalize sp.cons.all f=a4
 generalize sp.acons.all f=a5
 generalize sp.view.all f=a6
 generalize (sp.vars.map (·.typ)).all f=a7
 generalize (sp.fair.flatMap fun x=>[x.a,x.sub]).all f=a8
 generalize (sp.invs.map (·.e)).all f=a9
 rw[Bool.eq_iff_iff]
 simp only[Bool.and_eq_true]
 constructor
 ·rintro⟨⟨⟨⟨b1,⟨b2,b3⟩,b4,b5,b6⟩,b7⟩,b8⟩,b9⟩;simp_all
 ·intro h;simp_all
theorem zYW (sp:Pl.Spec):cntXs (zHN sp)=cntXs (Pl.exprs sp):=by
 rw[zHN,Pl.exprs]
 simp only[cntXs_append,List.flatten_cons,List.flatten_nil,List.append_nil,cntXs]
 omega
theorem zVJ (sp:Pl.Spec):(!(sp.consts.any fun c=>!(zBD c.v&&zDU sp.models c.v)))=((sp.consts.all fun c=>zBD c.v)&&zDM sp.models (sp.consts.map (·.v))):=by
 generalize sp.consts=l
 induction l with
 | nil=>rfl
 | cons c r ih=>
  rw[List.any_cons,Bool.not_or,ih,Bool.not_not,zLU,List.all_cons,List.map_cons,zDM]
  generalize zBD c.v=a
  generalize known sp.models c.v=b
  generalize (r.all fun c=>zBD c.v)=f
  generalize zDM sp.models (r.map (·.v))=g
  cases a<;>cases b<;>cases f<;>cases g<;>rfl
theorem max_le6 (a b c d e f:Int):(!decide ((40:Int)<max (max (max (max (max a b) c) d) e) f))=(decide (a≤40)&&decide (b≤40)&&decide (c≤40)&&decide (d≤40)&&decide (e≤40)&&decide (f≤40)):=by
 rw[Bool.eq_iff_iff]
 simp only[Bool.not_eq_true',decide_eq_false_iff_not,Bool.and_eq_true,decide_eq_true_eq]
 omega
theorem head_law (sp:Pl.Spec):(zL0 sp&&defHeads [] sp.defs)=(zNJ sp&&(sp.consts.all fun c=>zBD c.v)):=by
 rw[zL0,zVJ,max_le6,zNJ]
 simp only[zA5 (sp.models.length),zA5 (sp.consts.length),zA5 1 (sp.vars.length),zA5 (sp.vars.length),zA5 (sp.defs.length),zA5 (sp.view.length)]
 generalize decide ((40:Int)<sp.models.length)=b1
 generalize decide ((20:Int)<sp.consts.length)=b2
 generalize decide ((sp.vars.length:Int)<1)=b3
 generalize decide ((16:Int)<sp.vars.length)=b4
 generalize decide ((100:Int)<sp.defs.length)=b5
 generalize decide ((sp.assume.length:Int)≤40)=b6
 generalize decide ((sp.fair.length:Int)≤40)=b7
 generalize decide ((sp.invs.length:Int)≤40)=b8
 generalize decide ((sp.cons.length:Int)≤40)=b9
 generalize decide ((sp.acons.length:Int)≤40)=b10
 generalize decide ((sp.props.length:Int)≤40)=b11
 generalize decide ((1:Int)<sp.view.length)=b12
 generalize Pl.distinct [] sp.models=c9991
 generalize zEC sp=c9992
 generalize zDM sp.models (sp.consts.map (·.v))=c9999993
 generalize Pl.distinct [] (sp.consts.map (·.name))=c9999994
 generalize Pl.distinct [] (sp.vars.map (·.name))=c9999995
 generalize Pl.distinct [] (sp.invs.map (·.name))=c48
 generalize Pl.distinct [] (sp.props.map (·.name))=c9999997
 generalize defHeads [] sp.defs=c206
 generalize (sp.consts.all fun c=>zBD c.v)=c9999999
 rw[Bool.eq_iff_iff]
 simp only[Bool.and_eq_true,Bool.not_eq_true',Bool.or_eq_false_iff,Bool.not_eq_false']
 constructor
 ·intro h;simp_all
 ·intro h;simp_all
theorem zS1 (sp:Pl.Spec):zG4 sp=zCL sp:=by
 have hh:=head_law sp
 rw[zG4,zCL,zCQ]
 by_cases hd:defHeads [] sp.defs=true
 ·have h8:=zKX hd
  have hb:=zMJ h8 sp.defs 0 0 rfl (by omega)
  rw[hd,Bool.and_true] at hh
  rw[hh,zFW,if_pos hd]
  generalize zCS sp 0 sp.defs 0=bd at *
  obtain⟨b,nd⟩:=bd
  obtain⟨b1,b2⟩:=hb
  rw[Bool.eq_iff_iff]
  cases b with
  | true=>
   have e:=b2 rfl
   obtain⟨o1,o2,o3,o4⟩:=b1.1 rfl
   dsimp only at e
   have hs:=zSY h8 (zHN sp) nd (by omega)
   rw[zL5,zL5,zL5,zYW] at hs
   simp only[Bool.and_eq_true,Bool.not_eq_true',o1,o2,o4,true_and,and_true]
   rw[hs,decide_eq_true_eq]
   constructor
   ·rintro⟨⟨a1,a2⟩,a3,a4,a5,a6⟩;exact⟨⟨⟨⟨⟨a1,a3⟩,a6⟩,by omega⟩,a2⟩,a4⟩
   ·rintro⟨⟨⟨⟨⟨a1,a3⟩,a6⟩,a5⟩,a2⟩,a4⟩;exact⟨⟨a1,a2⟩,a3,a4,by omega,a6⟩
  | false=>
   simp only[Bool.and_eq_true,Bool.false_eq_true,and_false,false_and,false_iff]
   rintro⟨⟨⟨⟨⟨⟨⟨⟨a1,a2⟩,a3⟩,a4⟩,a5⟩,a6⟩,a7⟩,a8⟩,a9⟩
   have:=b1.2 ⟨a2,a8,by have:=of_decide_eq_true a6;omega,a4⟩
   cases this
 ·have hd':defHeads [] sp.defs=false:=by cases h:defHeads [] sp.defs with|true=>exact absurd h hd|false=>rfl
  rw[zFW,if_neg hd]
  rw[hd',Bool.and_false] at hh
  simp only[Bool.and_false,Bool.false_and]
  have:zNJ sp=false:=by rw[zNJ,hd',Bool.and_false]
  rw[this]
  simp only[Bool.false_and]
theorem zO7 {sp:Pl.Spec}(hz:Sz sp)(h:zG4 sp=true):SpOk sp:=by
 rw[zG4,Bool.and_eq_true,Bool.and_eq_true] at h
 have hd:defHeads [] sp.defs=true:=by
  cases hh:defHeads [] sp.defs with
  | true=>rfl
  | false=>have:=h.1.2;rw[zFW,hh] at this;cases this
 exact⟨hz.ml,hz.dl,hz.vl,hz.cl,hz.pl,zKX hd⟩
theorem zVE {sp:Pl.Spec}(h8:∀n p,p∈params sp n→0≤p∧p≤8)(e:X)(n:Int):zL6 sp e n=zA1 sp e n:=by
 have hL:=zDW sp (fun _=>true) (zeros n) e 1 0
 rw[zNA (zXU sp) (zXG h8) (zeros n) e] at hL
 rw[zL6,zA1,Bool.eq_iff_iff,hL.1]
 simp only[Bool.and_eq_true,decide_eq_true_eq]
 constructor
 ·rintro⟨⟨a,b⟩,c,d⟩;exact⟨⟨⟨a,by omega⟩,by omega⟩,b⟩
 ·rintro⟨⟨⟨a,b⟩,c⟩,d⟩;exact⟨⟨a,d⟩,by omega,by omega⟩
theorem zZH (sp:Pl.Spec):zFB sp=Pl.check sp:=by rw[zFB,Pl.check,zS1]
theorem zOV {sp:Pl.Spec}(hz:Sz sp)(e:X)(n:Int):zGB sp e n=Pl.checkExpr sp e n:=by
 rw[zGB,Pl.checkExpr,← zS1]
 cases h:zG4 sp with
 | false=>rfl
 | true=>
  rw[zVE (zO7 hz h).p8]
  cases zA1 sp e n<;>rfl
end Go.Ab.X
namespace Go.Ab.X
open Go Go.Ab Go.Proofs Pl
set_option maxRecDepth 100000
set_option maxHeartbeats 4000000
theorem xlen {e:X}(he:szX e<1073741824):e.s.length<1073741824∧e.l.length<1073741824∧e.v.d.length<1073741824∧e.v.l.length<1073741824∧e.v.m.length<1073741824∧e.v.s.length<1073741824:=by
 have h1:=zGY e
 have h2:=zD2 e.v
 have h3:=szVs_len e.v.l
 have h4:=szVs_len e.v.m
 have h5:=szXs_len e.l
 have h6:=lens_len e.s
 omega
theorem c205 {e:X}(he:szX e<1073741824){s:Sto}{Q:CR→Sto→Prop}(h:Q (.ret (.bool (isZ e))) s):C E1 205 [encX e] s Q:=by
 obtain⟨h1,h2,h3,h4,h5,h6⟩:=xlen he
 refine ci Tryz.f205 62 [.tmp 2] ?_
 repeat' (first|refine wk ?_|refine fk ?_ ?_<;>intro hs|exact⟨⟩|fail)
 exact zAX h (by(try clear hrec);(try clear h);rw[isZ];grind)
theorem c217 {e:X}(he:szX e<1073741824){s:Sto}{Q:CR→Sto→Prop}(h:Q (.ret (.bool (isZ e))) s):C E1 217 [encX e] s Q:=by
 obtain⟨h1,h2,h3,h4,h5,h6⟩:=xlen he
 refine ci Tryz.f217 66 [.tmp 2] ?_
 repeat' (first|refine wk ?_|refine fk ?_ ?_<;>intro hs|exact⟨⟩|fail)
 exact zAX h (by(try clear hrec);(try clear h);rw[isZ])
theorem zTO {l:List X}{i:Nat}(h:i<l.length):cntXs (l.take (i+1))=cntXs (l.take i)+cntX l[i]:=by
 rw[List.take_succ_eq_append_getElem h,cntXs_append]
 simp only[cntXs]
 omega
theorem zMF (l:List X)(i:Nat):cntXs (l.take i)≤cntXs l:=by
 have:=congrArg cntXs (List.take_append_drop i l)
 rw[cntXs_append] at this
 omega
theorem c207:∀(N:Nat) {e:X} {s:Sto},szX e<N→szX e<1073741824→∀{Q:CR→Sto→Prop},Q (.ret (.int .i64 (cntX e))) s→C E1 207 [encX e] s Q:=by
 intro N
 induction N with
 | zero=>intro e s h;exact absurd h (Nat.not_lt_zero _)
 | succ N ih=>
  intro e s hN hl Q h
  have ev:=zGY e
  have hll:=(xlen hl).2.1
  have hcl:=cntXs_le e.l
  have htl:=zMF e.l
  have k1:∀x∈e.l,∀s Q,Q (.ret (.int .i64 (cntX x))) s→C E1 207 [encX x] s Q:=fun x hx s Q h=>ih (by have:=szXs_mem hx;omega) (by have:=szXs_mem hx;omega) h
  rw[zOU] at h
  clear ih
  refine ci Tryz.f207 19 [.tmp 2] ?_
  repeat' (first|refine wk ?_|refine fk ?_ ?_<;>intro hs|exact⟨⟩|fail)
  refine zAF (ι:=Nat×Nat×(Nat→Box)) (fun p=>[(3,.int .i64 (1+cntXs (e.l.take p.1):Nat)),(7,.sl 0 (e.l.map encX) .shut),(8,.int .i64 e.l.length),(9,.int .i64 p.1)]) (fun p=>S p.2.1 p.2.2 []) (fun p=>p.1≤e.l.length) (fun p=>e.l.length-p.1) ?_ (0,1,_) (Nat.zero_le _) ⟨rfl,rfl,rfl,rfl,trivial⟩ rfl
  rintro⟨i,M,G⟩ b hi hrec
  dsimp only at hi hrec ⊢
  rcases Nat.lt_or_ge i e.l.length with hlt|hge
  ·have hc:decide ((i:Int)<e.l.length)=true:=decide_eq_true (by omega)
   have hx:e.l[i]?=some e.l[i]:=List.getElem?_eq_getElem hlt
   have hb:=k1 _ (List.getElem_mem hlt)
   have ht:=zTO hlt
   have ht2:=htl (i+1)
   generalize e.l[i]=x at *
   clear k1 h
   repeat' (first|refine hb _ _ ?_|refine wk ?_|refine fk ?_ ?_<;>intro hs|exact⟨⟩|fail)
   exact hrec (i+1,M+1,_) _ _ _ hlt (by dsimp only;omega) ⟨congrArg (fun z=>some (AV.int .i64 z)) (by dsimp only;omega),rfl,rfl,congrArg (fun z=>some (AV.int .i64 z)) (by dsimp only;omega),trivial⟩ rfl
  ·have hc:decide ((i:Int)<e.l.length)=false:=decide_eq_false (by omega)
   rw[List.take_of_length_le hge]
   clear hrec k1
   repeat' (first|refine wk ?_|refine fk ?_ ?_<;>intro hs|exact⟨⟩|fail)
theorem c219:∀(N:Nat) {e:X} {s:Sto},szX e<N→szX e<1073741824→∀{Q:CR→Sto→Prop},Q (.ret (.int .i64 (cntX e))) s→C E1 219 [encX e] s Q:=by
 intro N
 induction N with
 | zero=>intro e s h;exact absurd h (Nat.not_lt_zero _)
 | succ N ih=>
  intro e s hN hl Q h
  have ev:=zGY e
  have hll:=(xlen hl).2.1
  have hcl:=cntXs_le e.l
  have htl:=zMF e.l
  have k1:∀x∈e.l,∀s Q,Q (.ret (.int .i64 (cntX x))) s→C E1 219 [encX x] s Q:=fun x hx s Q h=>ih (by have:=szXs_mem hx;omega) (by have:=szXs_mem hx;omega) h
  rw[zOU] at h
  clear ih
  refine ci Tryz.f219 21 [.tmp 2] ?_
  repeat' (first|refine wk ?_|refine fk ?_ ?_<;>intro hs|exact⟨⟩|fail)
  refine zAF (ι:=Nat) (fun i=>[(1,.ptr 0 0),(3,.int .i64 (1+cntXs (e.l.take i):Nat)),(4,.int .i64 i)]) (fun _=>S 1 (updB g0 0 (.cells 34 (zAL e))) []) (fun i=>i≤e.l.length) (fun i=>e.l.length-i) ?_ 0 (Nat.zero_le _) ⟨rfl,rfl,rfl,trivial⟩ rfl
  intro i b hi hrec
  rcases Nat.lt_or_ge i e.l.length with hlt|hge
  ·have hc:decide ((i:Int)<e.l.length)=true:=decide_eq_true (by omega)
   have hx:e.l[i]?=some e.l[i]:=List.getElem?_eq_getElem hlt
   have hb:=k1 _ (List.getElem_mem hlt)
   have ht:=zTO hlt
   have ht2:=htl (i+1)
   generalize e.l[i]=x at *
   clear k1 h
   repeat' (first|refine hb _ _ ?_|refine wk ?_|refine fk ?_ ?_<;>intro hs|exact⟨⟩|fail)
   exact hrec (i+1) _ _ _ hlt (by omega) ⟨rfl,congrArg (fun z=>some (AV.int .i64 z)) (by omega),congrArg (fun z=>some (AV.int .i64 z)) (by omega),trivial⟩ rfl
  ·have hc:decide ((i:Int)<e.l.length)=false:=decide_eq_false (by omega)
   rw[List.take_of_length_le hge]
   clear hrec k1
   repeat' (first|refine wk ?_|refine fk ?_ ?_<;>intro hs|exact⟨⟩|fail)
theorem resV_4 {E:Env}{n:Nat}{le:List (Nat×AV)}{be:Nat→AV}{s:Sto}{a b c d:Nat}:resV E (Fl n le be) s [.tmp a,.tmp b,.tmp c,.tmp d]=some (.tuple [lget (Fl n le be).tmps a,lget (Fl n le be).tmps b,lget (Fl n le be).tmps c,lget (Fl n le be).tmps d]):=(rfl)
attribute [go_sem] resV_4
theorem c162 {k:Int}{s:Sto}{Q:CR→Sto→Prop}(h:Q (.ret (.tuple [.bool (shT k).2.2.1,.bool (shT k).2.2.2.1,.int .i64 (shT k).2.1,.bool (shT k).1])) s):C E1 162 [.int .i64 k] s Q:=by
 rcases (show k=1∨k=2∨k=3∨k=4∨k=5∨k=6∨k=7∨k=8∨k=9∨k=10∨k=11∨k=12∨k=13∨k=14∨(k≠1∧k≠2∧k≠3∧k≠4∧k≠5∧k≠6∧k≠7∧k≠8∧k≠9∧k≠10∧k≠11∧k≠12∧k≠13∧k≠14) by omega) with rfl|rfl|rfl|rfl|rfl|rfl|rfl|rfl|rfl|rfl|rfl|rfl|rfl|rfl|⟨h1,h2,h3,h4,h5,h6,h7,h8,h9,h10,h11,h12,h13,h14⟩
 all_goals
  try have h:Q (.ret (.tuple [.bool false,.bool false,.int .i64 0,.bool false])) s:=by simpa only[shT, *,if_false,or_self] using h
  refine ci Tryz.f162 27 [.tmp 2,.tmp 3,.tmp 4,.tmp 5] ?_
  repeat' (first|refine wk ?_|refine fk ?_ ?_<;>intro hs|exact⟨⟩|fail)
  try exact h
end Go.Ab.X
namespace Pl
def zOK (a:Las):Bool:=decide (0<(a.st.length:Int))&&decide ((a.st.length:Int)≤1000)&&decide (0≤a.back)&&decide (a.back<(a.st.length:Int))
def zCT (n:Int)(l:List (List V)):Bool:=l.all fun s=>decide ((s.length:Int)=n)&&s.all zBD
def zKZ (sp:Spec)(a:Las):Int:=if zCL sp=false then 6 else if(zOK a&&zCT sp.vars.length a.st)=false then 130 else 0
end Pl
namespace Go.Ab.X
open Go Go.Ab Go.Proofs Pl
set_option maxRecDepth 100000
set_option maxHeartbeats 4000000
theorem c58 {a:Las}(hl:a.st.length<1073741824){s:Sto}{Q:CR→Sto→Prop}(h:Q (.ret (.bool (zOK a))) s):C E1 58 [zC8 a] s Q:=by
 refine ci Tryz.f58 26 [.tmp 2] ?_
 repeat' (first|refine wk ?_|refine fk ?_ ?_<;>intro hs|exact⟨⟩|fail)
 exact zAX h (by(try clear hrec);(try clear h);rw[zOK])
theorem c26 {a:Las}(hl:a.st.length<1073741824){s:Sto}{Q:CR→Sto→Prop}(h:Q (.ret (.bool (zOK a))) s):C E1 26 [zC8 a] s Q:=by
 refine ci Tryz.f26 26 [.tmp 2] ?_
 repeat' (first|refine wk ?_|refine fk ?_ ?_<;>intro hs|exact⟨⟩|fail)
 exact zAX h (by(try clear hrec);(try clear h);rw[zOK];grind)
theorem c108 {l:List V}(hl:l.length<1073741824)(hv:∀v∈l,szV v<1073741824){s:Sto}{Q:CR→Sto→Prop}(h:Q (.ret (.bool (l.all zBD))) s):C E1 108 [.sl 0 (l.map encV) .shut] s Q:=by
 have lv:∀v∈l,∀(s:Sto) (Q:CR→Sto→Prop),Q (.ret (.bool (zBD v))) s→C E1 102 [encV v] s Q:=fun v hx s Q hQ=>c102 (by have:=hv v hx;omega) hQ
 refine ci Tryz.f108 16 [.tmp 2] ?_
 repeat' (first|refine wk ?_|refine fk ?_ ?_<;>intro hs|exact⟨⟩|fail)
 refine zAF (ι:=Nat) (fun i=>[(0,.sl 0 (l.map encV) .shut),(3,.int .i64 i)]) (fun _=>S 0 g0 []) (fun i=>i≤l.length∧l.all zBD=(l.drop i).all zBD) (fun i=>l.length-i) ?_ 0 ⟨Nat.zero_le _,rfl⟩ ⟨rfl,rfl,trivial⟩ rfl
 rintro i b ⟨hi,he⟩ hrec
 rcases Nat.lt_or_ge i l.length with hlt|hge
 ·have hc:decide ((i:Int)<l.length)=true:=decide_eq_true (by omega)
  have hx:l[i]?=some l[i]:=List.getElem?_eq_getElem hlt
  have hb:=lv _ (List.getElem_mem hlt)
  rw[List.drop_eq_getElem_cons hlt,List.all_cons] at he
  generalize l[i]=x at *
  clear lv
  repeat' (first|refine hb _ _ ?_|refine wk ?_|refine fk ?_ ?_<;>intro hs|exact⟨⟩|fail)
  ·rw[hs,Bool.false_and] at he
   rw[he] at h
   exact h
  ·rw[hs,Bool.true_and] at he
   exact hrec (i+1) _ _ _ ⟨hlt,he⟩ (by omega) ⟨rfl,congrArg (fun z=>some (AV.int .i64 z)) (by omega),trivial⟩ rfl
 have hc:decide ((i:Int)<l.length)=false:=decide_eq_false (by omega)
 clear hrec
 rw[List.drop_eq_nil_of_le hge,List.all_nil] at he
 rw[he] at h
 clear he hi hge
 repeat' (first|refine wk ?_|refine fk ?_ ?_<;>intro hs|exact⟨⟩|fail)
end Go.Ab.X
namespace Pl
theorem zPN (k:Int):look k shTL=shT k:=by
 rcases (show k=1∨k=2∨k=3∨k=4∨k=5∨k=6∨k=7∨k=8∨k=9∨k=10∨k=11∨k=12∨k=13∨k=14∨(k≠1∧k≠2∧k≠3∧k≠4∧k≠5∧k≠6∧k≠7∧k≠8∧k≠9∧k≠10∧k≠11∧k≠12∧k≠13∧k≠14) by omega) with rfl|rfl|rfl|rfl|rfl|rfl|rfl|rfl|rfl|rfl|rfl|rfl|rfl|rfl|⟨h1,h2,h3,h4,h5,h6,h7,h8,h9,h10,h11,h12,h13,h14⟩
 all_goals first|rfl|simp only[shTL,look,List.map_cons,List.map_nil,List.cons_append,List.nil_append,shT, *,if_false,or_self]
end Pl
namespace Go.Ab.X
open Go Go.Ab Go.Proofs Pl
set_option maxRecDepth 100000
set_option maxHeartbeats 4000000
theorem up_shT {m j:Nat}{g:Nat→Box}{u:List (Nat×Nat)}{k a:Int}{b c d:Bool}(hj:j<m):zC9 E1 138 (some (.map j)) (some (.int .i64 k)) (some (.agg [.int .i64 a,.bool b,.bool c,.bool d])) (S m g u)=upB (g j) j k (.agg [.int .i64 a,.bool b,.bool c,.bool d]) m g u:=by
 unfold zC9
 rw[tyd138]
 simp only
 rw[show zH6 (E1.types 3).d (.int .i64 k)=true from rfl]
 simp only[cond_true]
 rw[show zBC (S m g u) (.agg [.int .i64 a,.bool b,.bool c,.bool d])=some (.agg [.int .i64 a,.bool b,.bool c,.bool d],S m g u) from rfl]
 simp only
 rw[zEY hj]
 unfold upB
 cases g j with
 | mapb es=>
  simp only
  cases zI4 (AV.int .i64 k) (AV.agg [.int .i64 a,.bool b,.bool c,.bool d]) es with
  | none=>rfl
  | some es'=>simp only;rw[zIP hj]
 | _=>rfl
theorem zZT (fr:Fr)(ps:List (Nat×Operand))(s:Sto):zDL E1 fr 197 ps s=(match zBW fr ps with|some ps=>bldT 197 ps s|none=>.no):=rfl
theorem b197_a (n:Int)(s:Sto):bldT 197 [(0,.int .i64 n),(1,.bool true),(3,.bool true)] s=.val (.agg [.int .i64 n,.bool true,.bool false,.bool true]) s:=rfl
theorem b197_b (s:Sto):bldT 197 [(1,.bool true),(2,.bool true)] s=.val (.agg [.int .i64 0,.bool true,.bool true,.bool false]) s:=rfl
theorem b197_d (s:Sto):bldT 197 [(1,.bool true)] s=.val (.agg [.int .i64 0,.bool true,.bool false,.bool false]) s:=rfl
theorem b197_e (n:Int)(s:Sto):bldT 197 [(0,.int .i64 n)] s=.val (.agg [.int .i64 n,.bool false,.bool false,.bool false]) s:=rfl
attribute [go_sem] up_shT zZT b197_a b197_b b197_d b197_e
theorem c97 {m:Nat}{g:Nat→Box}{u:List (Nat×Nat)}{Q:CR→Sto→Prop}(h:Q (.ret (.map m)) (S (m+1) (updB g m (.mapb (zA8 shTL))) u)):C E1 97 [] (S m g u) Q:=by
 have hT:∀g u,(S (m+1) g u).done m (Nat.succ m)=S (m+1) g u:=fun _ _=>zHT (Nat.lt_succ_self m)
 have hmm:m<m+1:=Nat.lt_succ_self m
 refine cn ⟨false,false,false,false⟩ Tryz.f97 56 [.tmp 0] ?_
 repeat' (first|refine wk ?_|refine fk ?_ ?_<;>intro hs|exact⟨⟩|fail)
 obtain⟨L0,hL0⟩:∃L:List (Int×Sh),putL 10 (2,false,false,false) (putL 7 (2,false,false,false) (putL 1 (0,true,false,false) []))=L:=⟨_,rfl⟩
 rw[hL0]
 obtain⟨ks0,hk0⟩:∃ks:List Int,([2,3,11,12]:List Int)=ks:=⟨_,rfl⟩
 have hlen:ks0.length=4:=by rw[← hk0];rfl
 refine zAF (ι:=Nat) (fun i=>[(1,.map m),(15,.sl 0 (ks0.map iv) .clip),(16,.int .i64 4),(17,.int .i64 i)]) (fun i=>S (m+1) (updB g m (.mapb (zA8 (zCM (0,true,true,false) (ks0.take i) L0)))) u) (fun i=>i≤4) (fun i=>4-i) ?_ 0 (Nat.zero_le _) ⟨rfl,by rw[← hk0];rfl,rfl,rfl,trivial⟩ rfl
 intro i b hi hrec
 rcases Nat.lt_or_ge i 4 with hlt|hge
 ·have hc:decide ((i:Int)<4)=true:=decide_eq_true (by omega)
  have hx:ks0[i]?=some (ks0[i]'(by omega)):=List.getElem?_eq_getElem (by omega)
  have hp:=zBZ (0,true,true,false) (ks0[i]'(by omega)) (ks0.take i) L0
  rw[← List.take_succ_eq_append_getElem (by omega)] at hp
  generalize ks0[i]'(by omega)=x at *
  replace hp:=hp.symm
  repeat' (first|refine wk ?_|refine fk ?_ ?_<;>intro hs|exact⟨⟩|fail)
  exact hrec (i+1) _ _ _ (by omega) (by omega) ⟨rfl,rfl,rfl,congrArg (fun z=>some (AV.int .i64 z)) (by omega),trivial⟩ rfl
 have hc:decide ((i:Int)<4)=false:=decide_eq_false (by omega)
 clear hrec
 rw[List.take_of_length_le (by omega)]
 clear hlen hi hge
 repeat' (first|refine wk ?_|refine fk ?_ ?_<;>intro hs|exact⟨⟩|fail)
 clear hc
 rw[← hk0]
 clear hk0
 obtain⟨L1,hL1⟩:∃L:List (Int×Sh),zCM (0,true,true,false) ([2,3,11,12]:List Int) L0=L:=⟨_,rfl⟩
 rw[hL1]
 obtain⟨ks1,hk1⟩:∃ks:List Int,([4,8,9]:List Int)=ks:=⟨_,rfl⟩
 have hlen:ks1.length=3:=by rw[← hk1];rfl
 refine zAF (ι:=Nat) (fun i=>[(1,.map m),(25,.sl 0 (ks1.map iv) .clip),(26,.int .i64 3),(27,.int .i64 i)]) (fun i=>S (m+1) (updB g m (.mapb (zA8 (zCM (1,false,false,false) (ks1.take i) L1)))) u) (fun i=>i≤3) (fun i=>3-i) ?_ 0 (Nat.zero_le _) ⟨rfl,by rw[← hk1];rfl,rfl,rfl,trivial⟩ rfl
 intro i b hi hrec
 rcases Nat.lt_or_ge i 3 with hlt|hge
 ·have hc:decide ((i:Int)<3)=true:=decide_eq_true (by omega)
  have hx:ks1[i]?=some (ks1[i]'(by omega)):=List.getElem?_eq_getElem (by omega)
  have hp:=zBZ (1,false,false,false) (ks1[i]'(by omega)) (ks1.take i) L1
  rw[← List.take_succ_eq_append_getElem (by omega)] at hp
  generalize ks1[i]'(by omega)=x at *
  replace hp:=hp.symm
  repeat' (first|refine wk ?_|refine fk ?_ ?_<;>intro hs|exact⟨⟩|fail)
  exact hrec (i+1) _ _ _ (by omega) (by omega) ⟨rfl,rfl,rfl,congrArg (fun z=>some (AV.int .i64 z)) (by omega),trivial⟩ rfl
 have hc:decide ((i:Int)<3)=false:=decide_eq_false (by omega)
 clear hrec
 rw[List.take_of_length_le (by omega)]
 clear hlen hi hge
 repeat' (first|refine wk ?_|refine fk ?_ ?_<;>intro hs|exact⟨⟩|fail)
 clear hc
 rw[← hk1]
 clear hk1
 obtain⟨L2,hL2⟩:∃L:List (Int×Sh),zCM (1,false,false,false) ([4,8,9]:List Int) L1=L:=⟨_,rfl⟩
 rw[hL2]
 obtain⟨ks2,hk2⟩:∃ks:List Int,([5,6]:List Int)=ks:=⟨_,rfl⟩
 have hlen:ks2.length=2:=by rw[← hk2];rfl
 refine zAF (ι:=Nat) (fun i=>[(1,.map m),(35,.sl 0 (ks2.map iv) .clip),(36,.int .i64 2),(37,.int .i64 i)]) (fun i=>S (m+1) (updB g m (.mapb (zA8 (zCM (-1,false,false,false) (ks2.take i) L2)))) u) (fun i=>i≤2) (fun i=>2-i) ?_ 0 (Nat.zero_le _) ⟨rfl,by rw[← hk2];rfl,rfl,rfl,trivial⟩ rfl
 intro i b hi hrec
 rcases Nat.lt_or_ge i 2 with hlt|hge
 ·have hc:decide ((i:Int)<2)=true:=decide_eq_true (by omega)
  have hx:ks2[i]?=some (ks2[i]'(by omega)):=List.getElem?_eq_getElem (by omega)
  have hp:=zBZ (-1,false,false,false) (ks2[i]'(by omega)) (ks2.take i) L2
  rw[← List.take_succ_eq_append_getElem (by omega)] at hp
  generalize ks2[i]'(by omega)=x at *
  replace hp:=hp.symm
  repeat' (first|refine wk ?_|refine fk ?_ ?_<;>intro hs|exact⟨⟩|fail)
  exact hrec (i+1) _ _ _ (by omega) (by omega) ⟨rfl,rfl,rfl,congrArg (fun z=>some (AV.int .i64 z)) (by omega),trivial⟩ rfl
 have hc:decide ((i:Int)<2)=false:=decide_eq_false (by omega)
 clear hrec
 rw[List.take_of_length_le (by omega)]
 clear hlen hi hge
 repeat' (first|refine wk ?_|refine fk ?_ ?_<;>intro hs|exact⟨⟩|fail)
 clear hc
 rw[← hk2]
 clear hk2
 obtain⟨L3,hL3⟩:∃L:List (Int×Sh),zCM (-1,false,false,false) ([5,6]:List Int) L2=L:=⟨_,rfl⟩
 rw[hL3]
 obtain⟨ks3,hk3⟩:∃ks:List Int,([13,14]:List Int)=ks:=⟨_,rfl⟩
 have hlen:ks3.length=2:=by rw[← hk3];rfl
 refine zAF (ι:=Nat) (fun i=>[(1,.map m),(45,.sl 0 (ks3.map iv) .clip),(46,.int .i64 2),(47,.int .i64 i)]) (fun i=>S (m+1) (updB g m (.mapb (zA8 (zCM (1,true,false,true) (ks3.take i) L3)))) u) (fun i=>i≤2) (fun i=>2-i) ?_ 0 (Nat.zero_le _) ⟨rfl,by rw[← hk3];rfl,rfl,rfl,trivial⟩ rfl
 intro i b hi hrec
 rcases Nat.lt_or_ge i 2 with hlt|hge
 ·have hc:decide ((i:Int)<2)=true:=decide_eq_true (by omega)
  have hx:ks3[i]?=some (ks3[i]'(by omega)):=List.getElem?_eq_getElem (by omega)
  have hp:=zBZ (1,true,false,true) (ks3[i]'(by omega)) (ks3.take i) L3
  rw[← List.take_succ_eq_append_getElem (by omega)] at hp
  generalize ks3[i]'(by omega)=x at *
  replace hp:=hp.symm
  repeat' (first|refine wk ?_|refine fk ?_ ?_<;>intro hs|exact⟨⟩|fail)
  exact hrec (i+1) _ _ _ (by omega) (by omega) ⟨rfl,rfl,rfl,congrArg (fun z=>some (AV.int .i64 z)) (by omega),trivial⟩ rfl
 have hc:decide ((i:Int)<2)=false:=decide_eq_false (by omega)
 clear hrec
 rw[List.take_of_length_le (by omega)]
 clear hlen hi hge
 repeat' (first|refine wk ?_|refine fk ?_ ?_<;>intro hs|exact⟨⟩|fail)
 clear hc
 rw[← hk3]
 clear hk3
 have hfin:zCM (1,true,false,true) ([13,14]:List Int) L3=shTL:=by rw[← hL3,← hL2,← hL1,← hL0];decide
 rw[hfin]
 exact h
def lkT (b:Box)(k:Int)(s:Sto):Nx:=match b with
 | .mapb es=>found (E1.types 197) true s (zE5 (.int .i64 k) es)
 | _=>.no
theorem lk_shT {m j:Nat}{g:Nat→Box}{u:List (Nat×Nat)}{k:Int}(hj:j<m):zDT E1 138 (some (.map j)) (some (.int .i64 k)) true (S m g u)=lkT (g j) k (S m g u):=by
 unfold zDT
 rw[tyd138]
 simp only
 rw[zEY hj]
 unfold lkT
 cases g j<;>rfl
theorem lkT_sh {s:Sto}{k:Int}:lkT (.mapb (zA8 shTL)) k s=.val (.tuple [zL9 (shT k).2,.bool (shT k).1]) s:=by
 unfold lkT
 simp only
 rw[zRX,zPN]
 have:=zOI k shTL
 rw[zPN] at this
 cases h:(shT k).1 with
 | true=>rfl
 | false=>rw[this h];rfl
attribute [go_sem] lk_shT lkT_sh
end Go.Ab.X
namespace Go.Ab.X
open Go Go.Ab Go.Proofs Pl
def zBB (sp:Pl.Spec)(j:Nat)(n m:Int):List AV:=zAC sp++[.map j,.int .i64 n,.int .i64 m]
theorem nCt35 {a:Pl.Spec}{j:Nat}{n m:Int}:lnth (zBB a j n m) 35=some (.map j):=(rfl)
theorem nCt36 {a:Pl.Spec}{j:Nat}{n m:Int}:lnth (zBB a j n m) 36=some (.int .i64 n):=(rfl)
theorem nCt37 {a:Pl.Spec}{j:Nat}{n m:Int}:lnth (zBB a j n m) 37=some (.int .i64 m):=(rfl)
theorem llen_Ct {a:Pl.Spec}{j:Nat}{n m:Int}:llen (zBB a j n m)=38:=(rfl)
theorem Ct_36 {a:Pl.Spec}{j:Nat}{n m x:Int}:List.take 36 (zBB a j n m)++(AV.int .i64 x :: List.drop 37 (zBB a j n m))=zBB a j x m:=(rfl)
theorem Ct_37 {a:Pl.Spec}{j:Nat}{n m x:Int}:List.take 37 (zBB a j n m)++(AV.int .i64 x :: List.drop 38 (zBB a j n m))=zBB a j n x:=(rfl)
theorem tops_Ct (sp:Pl.Spec)(j:Nat)(n m:Int):tops (zBB sp j n m)=j+1:=by
 rw[zBB,zAV,show tops (zAC sp)=0 from rfl]
 show max 0 (max (j+1) (max 0 (max 0 0)))=_
 omega
theorem flat_Ct (sp:Pl.Spec)(j:Nat)(n m:Int):flatC (zBB sp j n m)=true:=rfl
def zBL (sp:Pl.Spec)(n m:Int):List AV:=zAC sp++[.int .i64 n,.int .i64 m]
theorem nRt35 {a:Pl.Spec}{n m:Int}:lnth (zBL a n m) 35=some (.int .i64 n):=(rfl)
theorem nRt36 {a:Pl.Spec}{n m:Int}:lnth (zBL a n m) 36=some (.int .i64 m):=(rfl)
theorem llen_Rt {a:Pl.Spec}{n m:Int}:llen (zBL a n m)=37:=(rfl)
theorem Rt_35 {a:Pl.Spec}{n m x:Int}:List.take 35 (zBL a n m)++(AV.int .i64 x :: List.drop 36 (zBL a n m))=zBL a x m:=(rfl)
theorem Rt_36 {a:Pl.Spec}{n m x:Int}:List.take 36 (zBL a n m)++(AV.int .i64 x :: List.drop 37 (zBL a n m))=zBL a n x:=(rfl)
theorem tops_Rt (sp:Pl.Spec)(n m:Int):tops (zBL sp n m)=0:=rfl
theorem flat_Rt (sp:Pl.Spec)(n m:Int):flatC (zBL sp n m)=true:=rfl
attribute [go_sem] nCt35 nCt36 nCt37 llen_Ct Ct_36 Ct_37 tops_Ct flat_Ct nRt35 nRt36 llen_Rt Rt_35 Rt_36 tops_Rt flat_Rt
set_option maxRecDepth 100000
set_option maxHeartbeats 4000000
theorem pk_CtS {a:Pl.Spec}{j:Nat}{n m:Int}:pick1 (E1.types 40) (zBB a j n m) 0=some (zAN a):=by kernel_rfl
theorem pk_RtS {a:Pl.Spec}{n m:Int}:pick1 (E1.types 40) (zBL a n m) 0=some (zAN a):=by kernel_rfl
attribute [go_sem] pk_CtS pk_RtS
theorem c157 {sp:Pl.Spec}{e:X}{has:Bool}{sc n m:Int}{j k M:Nat}{g:Nat→Box}{u:List (Nat×Nat)}(hz:Sz sp)(hsp:zG4 sp=true)(hso:zCL sp=true)(he:szX e<1073740000)(h0:0≤sc)(h1:sc≤40)(hm:0≤m∧m≤3000)(hu:zAQ M u=true)(hu2:zAJ M u=u)(hk:k<M)(hj:j<k)(hg:g k=.cells 141 (zBB sp j n m))
  {Q:CR→Sto→Prop} (h:Q (.ret (.bool (Pl.part (zA1 sp) e has sc m).1)) (S M (updB g k (.cells 141 (zBB sp j n (Pl.part (zA1 sp) e has sc m).2))) u)):C E1 157 [.ptr k 0,encX e,.bool has,.int .i64 sc] (S M g u) Q:=by
 have hcn:=cntX_le e
 have h187:=fun(s:Sto) (Q:CR→Sto→Prop) hQ=>c205 (e:=e) (s:=s) (by omega) (Q:=Q) hQ
 have h188:=fun(s:Sto) (Q:CR→Sto→Prop) hQ=>c206 (e:=e) (n:=sc) hz (zO7 hz) he (s:=s) (Q:=Q) hQ
 have h189:=fun(s:Sto) (Q:CR→Sto→Prop) hQ=>c207 (szX e+1) (e:=e) (s:=s) (by omega) (by omega) (Q:=Q) hQ
 have hce:zGB sp e sc=if zA1 sp e sc=true then 0 else 5:=by
  rw[zOV hz,Pl.checkExpr,hso,if_neg (fun h=>nomatch h),if_neg (by omega)]
  cases zA1 sp e sc<;>rfl
 rw[hce] at h188
 have hself:S M g u=S M (updB g k (.cells 141 (zBB sp j n m))) u:=zCG hg fun _ _ _=>rfl
 unfold Pl.part at h
 clear hce
 cases has with
 | false=>
  rw[if_neg (fun h=>nomatch h),← hself] at h
  clear h188 h189 hself
  refine cn ⟨false,false,false,false⟩ Tryz.f157 35 [.tmp 8] ?_
  repeat' (first|refine h187 _ _ ?_|refine wk ?_|refine fk ?_ ?_<;>intro hs|exact⟨⟩|fail)
 | true=>
  rw[if_pos rfl] at h
  cases hx:zA1 sp e sc with
  | false=>
   rw[hx,if_neg (fun h=>nomatch h),← hself] at h
   rw[hx,if_neg (fun h=>nomatch h)] at h188
   clear h187 h189 hself
   refine cn ⟨false,false,false,false⟩ Tryz.f157 35 [.tmp 8] ?_
   repeat' (first|refine h188 _ _ ?_|refine wk ?_|refine fk ?_ ?_<;>intro hs|exact⟨⟩|fail)
  | true=>
   rw[hx,if_pos rfl] at h
   rw[hx,if_pos rfl] at h188
   clear h187 hself
   refine cn ⟨false,false,false,false⟩ Tryz.f157 35 [.tmp 8] ?_
   repeat' (first|refine h188 _ _ ?_|refine h189 _ _ ?_|refine wk ?_|refine fk ?_ ?_<;>intro hs|exact⟨⟩|fail)
theorem c163 {sp:Pl.Spec}{e:X}{has:Bool}{sc n m:Int}{k M:Nat}{g:Nat→Box}{u:List (Nat×Nat)}(hs:Sm sp)(hw:zCQ sp=true)(he:szX e<1073740000)(h0:0≤sc)(h1:sc≤40)(hm:0≤m∧m≤3000)(hu:zAQ M u=true)(hu2:zAJ M u=u)(hk:k<M)(hg:g k=.cells 146 (zBL sp n m))
  {Q:CR→Sto→Prop} (h:Q (.ret (.bool (Pl.part (zA1 sp) e has sc m).1)) (S M (updB g k (.cells 146 (zBL sp n (Pl.part (zA1 sp) e has sc m).2))) u)):C E1 163 [.ptr k 0,encX e,.bool has,.int .i64 sc] (S M g u) Q:=by
 have hcn:=cntX_le e
 have h199:=fun(s:Sto) (Q:CR→Sto→Prop) hQ=>c217 (e:=e) (s:=s) (by omega) (Q:=Q) hQ
 have h200:=fun(s:Sto) (Q:CR→Sto→Prop) hQ=>c218 (e:=e) (n:=sc) (s:=s) hs (by omega) hw h0 h1 (Q:=Q) hQ
 have h201:=fun(s:Sto) (Q:CR→Sto→Prop) hQ=>c219 (szX e+1) (e:=e) (s:=s) (by omega) (by omega) (Q:=Q) hQ
 have hself:S M g u=S M (updB g k (.cells 146 (zBL sp n m))) u:=zCG hg fun _ _ _=>rfl
 unfold Pl.part at h
 clear hs hw
 cases has with
 | false=>
  rw[if_neg (fun h=>nomatch h),← hself] at h
  clear h200 h201 hself
  refine cn ⟨false,false,false,false⟩ Tryz.f163 35 [.tmp 8] ?_
  repeat' (first|refine h199 _ _ ?_|refine wk ?_|refine fk ?_ ?_<;>intro hs|exact⟨⟩|fail)
 | true=>
  rw[if_pos rfl] at h
  cases hx:zA1 sp e sc with
  | false=>
   rw[hx,if_neg (fun h=>nomatch h),← hself] at h
   rw[hx] at h200
   clear h199 h201 hself
   refine cn ⟨false,false,false,false⟩ Tryz.f163 35 [.tmp 8] ?_
   repeat' (first|refine h200 _ _ ?_|refine wk ?_|refine fk ?_ ?_<;>intro hs|exact⟨⟩|fail)
  | true=>
   rw[hx,if_pos rfl] at h
   rw[hx] at h200
   clear h199 hself
   refine cn ⟨false,false,false,false⟩ Tryz.f163 35 [.tmp 8] ?_
   repeat' (first|refine h200 _ _ ?_|refine h201 _ _ ?_|refine wk ?_|refine fk ?_ ?_<;>intro hs|exact⟨⟩|fail)
end Go.Ab.X
namespace Go.Ab.X
open Go Go.Ab Go.Proofs Pl
set_option maxRecDepth 100000
theorem cx45:CX 45 43 24:=mkC (mkI (f:=93))
theorem cx52:CX 52 89 25:=mkC (mkI (f:=104))
theorem cx59:CX 59 30 1:=mkC (mkI (f:=107))
def c45I:=@CX.anyI _ _ _ cx45
def c52p:=@CX.pure _ _ _ cx52
def c59p:=@CX.pure _ _ _ cx59
theorem pk_T {a:T}:pick1 (E1.types 43) (zCH a) 0=some (encT a):=by rw[zIJ];kernel_rfl
theorem pk_TE {a:T}:pick1 (E1.types 34) (zCH a) 1=some (encX a.e):=by rw[zBQ];kernel_rfl
theorem pk_TS {a:T}:pick1 (E1.types 34) (zCH a) 12=some (encX a.sub):=by rw[zBQ];kernel_rfl
theorem pk_PT {a:Prp}:pick1 (E1.types 43) (zDE a) 1=some (encT a.t):=by rw[zIJ];kernel_rfl
theorem nT0 {a:T}:lnth (zCH a) 0=some (.int .i64 a.kind):=(rfl)
theorem nT23 {a:T}:lnth (zCH a) 23=some (.sl 0 (a.l.map encT) .shut):=(rfl)
theorem zXZ {a:T}:llen (zCH a)=24:=(rfl)
attribute [go_sem] pk_T pk_TE pk_TS pk_PT nT0 nT23 zXZ
theorem flat_T (a:T):flatC (zCH a)=true:=(rfl)
theorem seal_T {s:Sto}{a:T}:zBC s (encT a)=some (encT a,s):=by rw[zIJ];rfl
attribute [go_sem] flat_T seal_T
end Go.Ab.X
namespace Go.Ab.X
open Go Go.Ab Go.Proofs Pl
set_option maxRecDepth 100000
set_option maxHeartbeats 4000000
theorem zWA (t:T):szT t=1+szX t.e+szX t.sub+szTs t.l:=by cases t;rfl
theorem szTs_mem:∀{l:List T} {x:T},x∈l→szT x<szTs l
 | a :: r,x,h=>by
  simp only[szTs]
  cases h with
  | head=>omega
  | tail _ h=>have:=szTs_mem h;omega
theorem szTs_len:∀l:List T,l.length≤szTs l
 | []=>Nat.le_refl _
 | v :: r=>by have:=szTs_len r;simp only[List.length_cons,szTs];omega
theorem c98 {sp:Pl.Spec}{j k:Nat}(hz:Sz sp)(hsp:zG4 sp=true)(hso:zCL sp=true)(hj:j<k):∀(N:Nat) (t:T),szT t<N→szT t<1073740000→∀(deep sc n m:Int) (M:Nat) (g:Nat→Box) (u:List (Nat×Nat)),zAQ M u=true→zAJ M u=u→k<M→g k=.cells 141 (zBB sp j n m)→g j=.mapb (zA8 shTL)→
  (0≤deep∧deep≤101)→(0≤sc∧sc≤41)→(0≤n∧n≤1000)→(0≤m∧m≤3000)→∀Q:CR→Sto→Prop,Q (.ret (.bool (fm (zA1 sp) t deep sc (n,m)).1)) (S M (updB g k (.cells 141 (zBB sp j (fm (zA1 sp) t deep sc (n,m)).2.1 (fm (zA1 sp) t deep sc (n,m)).2.2))) u)→C E1 98 [.ptr k 0,encT t,.int .i64 deep,.int .i64 sc] (S M g u) Q:=by
 intro N
 induction N with
 | zero=>intro t h;exact absurd h (Nat.not_lt_zero _)
 | succ N ih=>
  intro t hN hl deep sc n m M g u hu hu2 hk hg hgj hd hs n0 m0 Q h
  have ev:=zWA t
  have hll:=szTs_len t.l
  have hU:=zB6 hu hu2 (show M≤M+1+1+1+1+1 by omega)
  have hv1:=hU.1
  have hv2:=hU.2
  have h141:∀x∈t.l,∀(sc':Int) (G:Nat→Box) (a:Int×Int),(0≤deep+1∧deep+1≤101)→(0≤sc'∧sc'≤41)→G M=.cells 137 [.ptr k 0]→G (M+1+1)=.cells 3 [.int .i64 deep]→G (M+1+1+1)=.cells 3 [.int .i64 sc']→G k=.cells 141 (zBB sp j a.1 a.2)→G j=.mapb (zA8 shTL)→(0≤a.1∧a.1≤1000)∧(0≤a.2∧a.2≤3000)→
    ∀Q:CR→Sto→Prop,Q (.ret (.bool (!(fm (zA1 sp) x (deep+1) sc' a).1))) (S (M+1+1+1+1+1) (updB G k (.cells 141 (zBB sp j (fm (zA1 sp) x (deep+1) sc' a).2.1 (fm (zA1 sp) x (deep+1) sc' a).2.2))) u)→
    C E1 158 [encT x,.ptr M 0,.ptr (M+1+1) 0,.ptr (M+1+1+1) 0] (S (M+1+1+1+1+1) G u) Q:=by
   intro x hx sc' G a hd1 hs1 e1 e2 e3 e4 e5 ha Q hq
   have hU1:=zB6 hU.1 hU.2 (Nat.le_succ _)
   have hmem:=szTs_mem hx
   have hc:=fun(G':Nat→Box) (f1:G' k=.cells 141 (zBB sp j a.1 a.2)) (f2:G' j=.mapb (zA8 shTL))=>ih x (by omega) (by omega) (deep+1) sc' a.1 a.2 (M+1+1+1+1+1+1) G' u hU1.1 hU1.2 (by omega) f1 f2 hd1 hs1 ha.1 ha.2
   clear ih h
   generalize fm (zA1 sp) x (deep+1) sc' a=r at *
   have hk1:k≠M+1+1+1+1+1:=by omega
   have hj1:j≠M+1+1+1+1+1:=by omega
   have hc:=hc (updB G (M+1+1+1+1+1) (.cells 43 (zCH x))) (by rw[zAA hk1];exact e4) (by rw[zAA hj1];exact e5)
   refine cn ⟨false,false,false,false⟩ Tryz.f158 13 [.tmp 5] ?_
   repeat' (first|refine hc _ ?_|refine wk ?_|refine fk ?_ ?_<;>intro hs|exact⟨⟩|fail)
  clear ih
  have h34:∀(sc':Int) (G:Nat→Box) (a:Int×Int),deep≤100→(0≤sc'∧sc'≤41)→G M=.cells 137 [.ptr k 0]→G (M+1+1)=.cells 3 [.int .i64 deep]→G (M+1+1+1)=.cells 3 [.int .i64 sc']→G k=.cells 141 (zBB sp j a.1 a.2)→G j=.mapb (zA8 shTL)→(0≤a.1∧a.1≤1000)∧(0≤a.2∧a.2≤3000)→
    ∀Q:CR→Sto→Prop,Q (.ret (.bool (!(fms (zA1 sp) t.l (deep+1) sc' a).1))) (S (M+1+1+1+1+1) (updB G k (.cells 141 (zBB sp j (fms (zA1 sp) t.l (deep+1) sc' a).2.1 (fms (zA1 sp) t.l (deep+1) sc' a).2.2))) u)→
    C E1 45 [.sl 0 (t.l.map encT) .shut,.func ((M+1).max ((M+1+1+1).max (M+1+1+1+1))) (.func 158) [] [.ptr M 0,.ptr (M+1+1) 0,.ptr (M+1+1+1) 0]] (S (M+1+1+1+1+1) G u) Q:=by
   intro sc' G a hd1 hs1 e1 e2 e3 e4 e5 ha Q hq
   rw[zCG e4 (fun _ _ _=>rfl)]
   refine c45I (h:=encT) (p:=fun a x=>(!(fm (zA1 sp) x (deep+1) sc' a).1,(fm (zA1 sp) x (deep+1) sc' a).2)) (G:=fun a=>updB G k (.cells 141 (zBB sp j a.1 a.2))) (a:=a) (fun a=>(0≤a.1∧a.1≤1000)∧(0≤a.2∧a.2≤3000)) (fun x _ a ha hf=>fm_le (zA1 sp) x (deep+1) sc' a (by simpa using hf) ha.1.1 ha.2.1 ha.2.2) ha (by omega) hv1 hv2 (fun x=>by rw[zA4];rfl) (fun x=>by rw[zA4];exact pk_T) (fun _=>rfl) (fun x hx a ha Q hQ=>zB1 rfl (h141 x hx sc' _ a ⟨by omega,by omega⟩ hs1 (by rw[zAA (by omega)];exact e1) (by rw[zAA (by omega)];exact e2) (by rw[zAA (by omega)];exact e3) zAB (by rw[zAA (by omega)];exact e5) ha Q (by rw[zEF];exact hQ))) (by rw[zYN];exact hq)
  clear h141
  have hk0:k≠M:=by omega
  have hj0:j≠k:=by omega
  rw[fm_eq] at h
  obtain⟨bd,hbd⟩:∃b,badT t.kind t.l.length deep sc (n+1)=b:=⟨_,rfl⟩
  rw[hbd] at h
  unfold badT at hbd
  dsimp only at h
  cases bd with
  | true=>
   rw[if_pos rfl] at h
   clear h34
   refine cn ⟨false,false,false,false⟩ Tryz.f98 85 [.tmp 8] ?_
   repeat' (first|refine wk ?_|refine fk ?_ ?_<;>intro hs|exact⟨⟩|fail)
  | false=>
   rw[if_neg (fun h=>nomatch h)] at h
   have hb:(shT t.kind).1=true∧n+1≤1000∧deep≤100∧sc≤40:=by
    simp only[Bool.or_eq_false_iff,decide_eq_false_iff_not,Bool.not_eq_false'] at hbd
    exact⟨hbd.1.1.1.1,by omega,by omega,by omega⟩
   obtain⟨-,hb1,hb2,hb3⟩:=hb
   have h140:=fun(e:X)(he:szX e<1073740000) (has:Bool) (m:Int) (hm:0≤m∧m≤3000) (G:Nat→Box) (hG:G k=.cells 141 (zBB sp j (n+1) m)) (Q:CR→Sto→Prop) hQ=>c157 (e:=e) (has:=has) (sc:=sc) (n:=n+1) (m:=m) (M:=M+1+1+1+1+1) (g:=G) (u:=u) hz hsp hso he hs.1 hb3 hm hv1 hv2 (by omega) hj hG (Q:=Q) hQ
   have p1:=@zJS (zA1 sp) t.e (shT t.kind).2.2.1 sc m
   have h1:=h140 t.e (by omega) (shT t.kind).2.2.1 m m0
   generalize Pl.part (zA1 sp) t.e (shT t.kind).2.2.1 sc m=r1 at *
   obtain⟨b1,m1⟩:=r1
   dsimp only at h h1 p1
   have p2:=@zJS (zA1 sp) t.sub (shT t.kind).2.2.2.1 sc m1
   have h2:=h140 t.sub (by omega) (shT t.kind).2.2.2.1 m1
   generalize Pl.part (zA1 sp) t.sub (shT t.kind).2.2.2.1 sc m1=r2 at *
   obtain⟨b2,m2⟩:=r2
   dsimp only at h h2 p2
   clear h140
   cases b1 with
   | false=>
    rw[if_pos rfl] at h
    clear h2 p1 p2 h34
    refine cn ⟨false,false,false,false⟩ Tryz.f98 85 [.tmp 8] ?_
    repeat' (first|refine h1 _ zAB _ ?_|refine wk ?_|refine fk ?_ ?_<;>intro hs|exact⟨⟩|fail)
   | true=>
    have p1:=p1 rfl m0.2
    rw[if_neg (fun h=>nomatch h)] at h
    have h2:=h2 ⟨by omega,by omega⟩
    cases b2 with
    | false=>
     rw[if_pos rfl] at h
     clear p2 h34
     refine cn ⟨false,false,false,false⟩ Tryz.f98 85 [.tmp 8] ?_
     repeat' (first|refine h1 _ zAB _ ?_|refine h2 _ zAB _ ?_|refine wk ?_|refine fk ?_ ?_<;>intro hs|exact⟨⟩|fail)
    | true=>
     have p2:=p2 rfl p1.2
     rw[if_neg (fun h=>nomatch h)] at h
     refine cn ⟨false,false,false,false⟩ Tryz.f98 85 [.tmp 8] ?_
     repeat' (first|refine h1 _ zAB _ ?_|refine h2 _ zAB _ ?_|refine wk ?_|refine fk ?_ ?_<;>intro hs|exact⟨⟩|fail)
     ·rw[if_pos hs] at h
      refine h34 (sc+1) _ (n+1,m2) hb2 ⟨by omega,by omega⟩ (by simp (disch:=first|assumption|omega) only[go_sem, *]) (by simp (disch:=first|assumption|omega) only[go_sem, *]) (by simp (disch:=first|assumption|omega) only[go_sem, *]) (by simp (disch:=first|assumption|omega) only[go_sem, *]) (by simp (disch:=first|assumption|omega) only[go_sem, *]) ⟨⟨by dsimp only;omega,by dsimp only;omega⟩,by dsimp only;omega,by dsimp only;omega⟩ _ ?_
      clear h34 h1 h2 p1 p2
      repeat' (first|refine wk ?_|refine fk ?_ ?_<;>intro hs|exact⟨⟩|fail)
     ·rw[if_neg (by rw[hs];exact fun h=>nomatch h)] at h
      refine h34 (sc) _ (n+1,m2) hb2 ⟨by omega,by omega⟩ (by simp (disch:=first|assumption|omega) only[go_sem, *]) (by simp (disch:=first|assumption|omega) only[go_sem, *]) (by simp (disch:=first|assumption|omega) only[go_sem, *]) (by simp (disch:=first|assumption|omega) only[go_sem, *]) (by simp (disch:=first|assumption|omega) only[go_sem, *]) ⟨⟨by dsimp only;omega,by dsimp only;omega⟩,by dsimp only;omega,by dsimp only;omega⟩ _ ?_
      clear h34 h1 h2 p1 p2
      repeat' (first|refine wk ?_|refine fk ?_ ?_<;>intro hs|exact⟨⟩|fail)
theorem zZW (fr:Fr)(ps:List (Nat×Operand))(s:Sto):zDL E1 fr 141 ps s=(match zBW fr ps with|some ps=>bldT 141 ps s|none=>.no):=rfl
theorem b141 (sp:Pl.Spec)(j:Nat)(s:Sto):bldT 141 [(0,zAN sp),(1,.map j)] s=.val (.agg (zBB sp j 0 0)) s:=rfl
attribute [go_sem] zZW b141
theorem c49 {sp:Pl.Spec}{t:T}{n:Int}(hz:Sz sp)(hsp:zG4 sp=true)(hso:zCL sp=true)(ht:szT t<1073740000)(h0:0≤n)(h1:n≤40){s:Sto}{Q:CR→Sto→Prop}(h:Q (.ret (.bool (zG5 sp t n))) s):C E1 49 [zAN sp,encT t,.int .i64 n] s Q:=by
 rw[zG5] at h
 have h82:=fun(G:Nat→Box) (hG:G 3=.cells 141 (zBB sp 2 0 0)) (hG2:G 2=.mapb (zA8 shTL)) (Q:CR→Sto→Prop) hQ=>c98 (j:=2) (k:=3) hz hsp hso (by omega) (szT t+1) t (by omega) ht 1 n 0 0 4 G [] rfl rfl (by omega) hG hG2 ⟨by omega,by omega⟩ ⟨h0,by omega⟩ ⟨by omega,by omega⟩ ⟨by omega,by omega⟩ Q hQ
 refine ci Tryz.f49 14 [.tmp 6] ?_
 repeat' (first|apply c97|refine h82 _ zAB ((zAA (by omega)).trans zAB) _ ?_|refine wk ?_|refine fk ?_ ?_<;>intro hs|exact⟨⟩|fail)
theorem zFE (sp:Pl.Spec):zG4 sp=zCL sp:=by
 have hq:=zZH sp
 rw[zFB,Pl.check] at hq
 cases h1:zG4 sp<;>cases h2:zCL sp<;>rw[h1,h2] at hq<;>first|rfl|exact absurd hq (by decide)
theorem c7 {sp:Pl.Spec}{t:T}{n:Int}(hz:Sz sp)(ht:szT t<1073740000){s:Sto}{Q:CR→Sto→Prop}(h:Q (.ret (.int .i64 (zJF sp t n))) s):C E1 7 [zAN sp,encT t,.int .i64 n] s Q:=by
 rw[zJF] at h
 have h37:=fun(s:Sto) (Q:CR→Sto→Prop) hQ=>c48 (sp:=sp) hz (s:=s) (Q:=Q) hQ
 cases hb:zCL sp with
 | false=>
  rw[if_pos hb] at h
  rw[zFB,zFE,hb,if_neg (fun h=>nomatch h)] at h37
  refine ci Tryz.f7 24 [.tmp 6] ?_
  repeat' (first|refine h37 _ _ ?_|refine wk ?_|refine fk ?_ ?_<;>intro hs|exact⟨⟩|fail)
 | true=>
  have h38:=fun(h0:0≤n) (h1:n≤40) (s:Sto) (Q:CR→Sto→Prop) hQ=>c49 (t:=t) (n:=n) hz (by rw[zFE];exact hb) hb ht h0 h1 (s:=s) (Q:=Q) hQ
  rw[if_neg (by rw[hb];exact fun h=>nomatch h)] at h
  rw[zFB,zFE,hb,if_pos rfl] at h37
  refine ci Tryz.f7 24 [.tmp 6] ?_
  repeat' (first|refine h37 _ _ ?_|refine h38 (by omega) (by omega) _ _ ?_|refine wk ?_|refine fk ?_ ?_<;>intro hs|exact⟨⟩|fail)
  ·rw[if_pos (by simpa only[Bool.or_eq_true,decide_eq_true_eq] using hs)] at h;exact h
  ·rw[if_neg (by omega),if_pos hs] at h;exact h
  ·rw[if_neg (by omega),if_neg (by rw[hs];exact fun h=>nomatch h)] at h;exact h
theorem c53 {sp:Pl.Spec}{p:Prp}(hz:Sz sp)(hb:zCL sp=true)(ht:szT p.t<1073740000){b M:Nat}{G:Nat→Box}{u:List (Nat×Nat)}(hu:zAQ M u=true)(hu2:zAJ M u=u)(hbM:b<M)(hG:G b=.cells 40 (zAC sp)){Q:CR→Sto→Prop}(h:Q (.ret (.bool (!zG5 sp p.t 0))) (S M G u)):C E1 53 [zDB p,.ptr b 0] (S M G u) Q:=by
 have h38:=fun(s:Sto) (Q:CR→Sto→Prop) hQ=>c49 (t:=p.t) (n:=0) hz (by rw[zFE];exact hb) hb ht (by omega) (by omega) (s:=s) (Q:=Q) hQ
 have hne:b≠M:=by omega
 refine cn ⟨false,false,false,false⟩ Tryz.f53 9 [.tmp 3] ?_
 repeat' (first|refine h38 _ _ ?_|refine wk ?_|refine fk ?_ ?_<;>intro hs|exact⟨⟩|fail)
theorem c9 {sp:Pl.Spec}(hz:Sz sp)(hp:sp.props.length<1073741824)(ht:∀p∈sp.props,szT p.t<1073740000){s:Sto}{Q:CR→Sto→Prop}(h:Q (.ret (.int .i64 (zJG sp))) s):C E1 9 [zAN sp] s Q:=by
 rw[zJG] at h
 have h37:=fun(s:Sto) (Q:CR→Sto→Prop) hQ=>c48 (sp:=sp) hz (s:=s) (Q:=Q) hQ
 cases hb:zCL sp with
 | false=>
  rw[if_pos (.inl hb)] at h
  rw[zFB,zFE,hb,if_neg (fun h=>nomatch h)] at h37
  refine ci Tryz.f9 12 [.tmp 2] ?_
  repeat' (first|refine h37 _ _ ?_|refine wk ?_|refine fk ?_ ?_<;>intro hs|exact⟨⟩|fail)
 | true=>
  rw[zFB,zFE,hb,if_pos rfl] at h37
  have h41:=fun(G:Nat→Box) (hG:G 0=.cells 40 (zAC sp)) (Q:CR→Sto→Prop) hQ=>c52p (h:=zDB) (l:=sp.props) (fv:=.func 1 (.func 53) [] [.ptr 0 0]) (q:=fun p=>!zG5 sp p.t 0) (g:=G) (m:=1) (u:=[]) (by omega) rfl rfl (fun _=>rfl) (fun _=>zW8) rfl (fun p hx Q hQ=>zB1 rfl (c53 hz hb (ht p hx) rfl rfl (by omega) hG hQ)) (Q:=Q) hQ
  generalize (sp.props.any fun p=>!zG5 sp p.t 0)=an at *
  refine ci Tryz.f9 12 [.tmp 2] ?_
  repeat' (first|refine h37 _ _ ?_|refine h41 _ zAB _ ?_|refine wk ?_|refine fk ?_ ?_<;>intro hs|exact⟨⟩|fail)
  ·rw[if_pos (.inr hs)] at h;exact h
  ·rw[if_neg (by rw[hb,hs];exact fun h=>nomatch h)] at h;exact h
theorem c56 {v:V}(hv:szV v<1073741824){M:Nat}{G:Nat→Box}{u:List (Nat×Nat)}(hu:zAQ M u=true)(hu2:zAJ M u=u){Q:CR→Sto→Prop}(h:Q (.ret (.bool (!zBD v))) (S M G u)):C E1 56 [encV v] (S M G u) Q:=by
 refine cn ⟨false,false,false,false⟩ Tryz.f56 6 [.tmp 2] ?_
 repeat' (first|refine c57 hv ?_|refine wk ?_|refine fk ?_ ?_<;>intro hs|exact⟨⟩|fail)
 exact zAX h (by(try clear hrec);(try clear h);cases hx:zBD v<;>simp)
theorem c54 {sp:Pl.Spec}{l:List V}(hl:l.length<1073741824)(hvl:sp.vars.length<1073741824)(hv:∀v∈l,szV v<1073741824){b M:Nat}{G:Nat→Box}{u:List (Nat×Nat)}(hu:zAQ M u=true)(hu2:zAJ M u=u)(hbM:b<M)(hG:G b=.cells 40 (zAC sp)){Q:CR→Sto→Prop}(h:Q (.ret (.bool (!(decide ((l.length:Int)=sp.vars.length)&&l.all zBD)))) (S M G u)):C E1 54 [zD8 l,.ptr b 0] (S M G u) Q:=by
 have h44:=fun(Q:CR→Sto→Prop) hQ=>c55p (h:=encV) (l:=l) (fv:=.func 0 (.func 56) [] []) (q:=fun v=>!zBD v) (g:=G) (m:=M) (u:=u) (by omega) hu hu2 (fun x=>by rw[zA3];rfl) (fun x=>by rw[zA3];exact pk_V) rfl (fun v hx Q hQ=>zB1 rfl (c56 (hv v hx) hu hu2 hQ)) (Q:=Q) hQ
 have e:(l.any fun v=>!zBD v)=!l.all zBD:=by rw[List.not_all_eq_any_not]
 rw[e] at h44
 generalize l.all zBD=al at *
 unfold zD8
 refine cn ⟨false,false,false,false⟩ Tryz.f54 14 [.tmp 3] ?_
 repeat' (first|refine h44 _ ?_|refine wk ?_|refine fk ?_ ?_<;>intro hs|exact⟨⟩|fail)
 all_goals exact zAX h (by(try clear hrec);(try clear h);simp[hs])
theorem seal_Las {s:Sto}{a:Las}:zBC s (zC8 a)=some (zC8 a,s):=rfl
theorem zZO {a:Las}:cellsOf (zC8 a)=zC1 a:=rfl
theorem llen_Las {a:Las}:llen (zC1 a)=2:=rfl
theorem flat_Las {a:Las}:flatC (zC1 a)=true:=rfl
theorem tops_Las {a:Las}:tops (zC1 a)=0:=rfl
theorem zV5 {a:Las}:top (zC8 a)=0:=rfl
attribute [go_sem] seal_Las zZO llen_Las flat_Las tops_Las zV5
theorem c11 {sp:Pl.Spec}{a:Las}(hz:Sz sp)(hvl:sp.vars.length<1073741824)(hl:a.st.length<1073741824)(hs:∀l∈a.st,l.length<1073741824∧∀v∈l,szV v<1073741824){s:Sto}{Q:CR→Sto→Prop}(h:Q (.ret (.int .i64 (zKZ sp a))) s):C E1 11 [zAN sp,zC8 a] s Q:=by
 rw[zKZ] at h
 have h37:=fun(s:Sto) (Q:CR→Sto→Prop) hQ=>c48 (sp:=sp) hz (s:=s) (Q:=Q) hQ
 have h47:=fun(s:Sto) (Q:CR→Sto→Prop) hQ=>c58 (a:=a) hl (s:=s) (Q:=Q) hQ
 cases hb:zCL sp with
 | false=>
  rw[if_pos hb] at h
  rw[zFB,zFE,hb,if_neg (fun h=>nomatch h)] at h37
  refine ci Tryz.f11 19 [.tmp 4] ?_
  repeat' (first|refine h37 _ _ ?_|refine wk ?_|refine fk ?_ ?_<;>intro hs|exact⟨⟩|fail)
 | true=>
  rw[if_neg (by rw[hb];exact fun h=>nomatch h)] at h
  rw[zFB,zFE,hb,if_pos rfl] at h37
  have h48:=fun(G:Nat→Box) (hG:G 0=.cells 40 (zAC sp)) (Q:CR→Sto→Prop) hQ=>c59p (h:=zD8) (l:=a.st) (fv:=.func 1 (.func 54) [] [.ptr 0 0]) (q:=fun l=>!(decide ((l.length:Int)=sp.vars.length)&&l.all zBD)) (g:=G) (m:=2) (u:=[]) (by omega) rfl rfl (fun x=>rfl) (fun x=>rfl) rfl (fun l hx Q hQ=>zB1 rfl (c54 (hs l hx).1 hvl (hs l hx).2 rfl rfl (by omega) hG hQ)) (Q:=Q) hQ
  have e:(a.st.any fun l=>!(decide ((l.length:Int)=sp.vars.length)&&l.all zBD))=!zCT sp.vars.length a.st:=by rw[zCT,List.not_all_eq_any_not]
  rw[e] at h48
  generalize zCT sp.vars.length a.st=so at *
  generalize zOK a=il at *
  refine ci Tryz.f11 19 [.tmp 4] ?_
  repeat' (first|refine h37 _ _ ?_|refine h47 _ _ ?_|refine h48 _ ((zAA (by omega)).trans zAB) _ ?_|refine wk ?_|refine fk ?_ ?_<;>intro hs|exact⟨⟩|fail)
  all_goals (clear h37 h47 h48;cases il<;>cases so<;>first|exact h|(exfalso;simp_all))
end Go.Ab.X
namespace Pl
theorem zWK (k:Int):(shT k).2.2.2.2=(decide (k=13)||decide (k=14)):=by
 unfold shT
 by_cases h13:k=13
 ·subst h13;rfl
 by_cases h14:k=14
 ·subst h14;rfl
 rw[decide_eq_false h13,decide_eq_false h14]
 repeat' (first|rfl|split)
 omega
end Pl
namespace Go.Ab.X
open Go Go.Ab Go.Proofs Pl
set_option maxRecDepth 100000
set_option maxHeartbeats 4000000
theorem c103 {sp:Pl.Spec}{k:Nat}(hsm:Sm sp)(hw:zCQ sp=true):∀(N:Nat) (t:T),szT t<N→szT t<1073740000→∀(deep sc n m:Int) (M:Nat) (g:Nat→Box) (u:List (Nat×Nat)),zAQ M u=true→zAJ M u=u→k<M→g k=.cells 146 (zBL sp n m)→
  (0≤deep∧deep≤101)→(0≤sc∧sc≤41)→(0≤n∧n≤1000)→(0≤m∧m≤3000)→∀Q:CR→Sto→Prop,Q (.ret (.bool (fm (zA1 sp) t deep sc (n,m)).1)) (S M (updB g k (.cells 146 (zBL sp (fm (zA1 sp) t deep sc (n,m)).2.1 (fm (zA1 sp) t deep sc (n,m)).2.2))) u)→C E1 103 [.ptr k 0,encT t,.int .i64 sc,.int .i64 deep] (S M g u) Q:=by
 intro N
 induction N with
 | zero=>intro t h;exact absurd h (Nat.not_lt_zero _)
 | succ N ih=>
  intro t hN hl deep sc n m M g u hu hu2 hk hg hd hs n0 m0 Q h
  have ev:=zWA t
  have hll:=szTs_len t.l
  have hU:=zB6 hu hu2 (show M≤M+1 by omega)
  have hv1:=hU.1
  have hv2:=hU.2
  have hk0:k≠M:=by omega
  have hrc:=fun(x:T)(hx:x∈t.l)=>ih x (by have:=szTs_mem hx;omega) (by have:=szTs_mem hx;omega)
  clear ih
  rw[fm_eq] at h
  obtain⟨bd,hbd⟩:∃b,badT t.kind t.l.length deep sc (n+1)=b:=⟨_,rfl⟩
  rw[hbd] at h
  unfold badT at hbd
  dsimp only at h
  cases bd with
  | true=>
   rw[if_pos rfl] at h
   clear hrc
   refine cn ⟨false,false,false,false⟩ Tryz.f103 101 [.tmp 8] ?_
   repeat' (first|refine c162 ?_|refine wk ?_|refine fk ?_ ?_<;>intro hs|exact⟨⟩|fail)
  | false=>
   rw[if_neg (fun h=>nomatch h)] at h
   have hb:n+1≤1000∧deep≤100∧sc≤40:=by
    simp only[Bool.or_eq_false_iff,decide_eq_false_iff_not,Bool.not_eq_false'] at hbd
    omega
   obtain⟨hb1,hb2,hb3⟩:=hb
   have h146:=fun(e:X)(he:szX e<1073740000) (has:Bool) (m:Int) (hm:0≤m∧m≤3000) (G:Nat→Box) (hG:G k=.cells 146 (zBL sp (n+1) m)) (Q:CR→Sto→Prop) hQ=>c163 (e:=e) (has:=has) (sc:=sc) (n:=n+1) (m:=m) (M:=M+1) (g:=G) (u:=u) hsm hw he hs.1 hb3 hm hv1 hv2 (by omega) hG (Q:=Q) hQ
   have p1:=@zJS (zA1 sp) t.e (shT t.kind).2.2.1 sc m
   have h1:=h146 t.e (by omega) (shT t.kind).2.2.1 m m0
   generalize Pl.part (zA1 sp) t.e (shT t.kind).2.2.1 sc m=r1 at *
   obtain⟨b1,m1⟩:=r1
   dsimp only at h h1 p1
   have p2:=@zJS (zA1 sp) t.sub (shT t.kind).2.2.2.1 sc m1
   have h2:=h146 t.sub (by omega) (shT t.kind).2.2.2.1 m1
   generalize Pl.part (zA1 sp) t.sub (shT t.kind).2.2.2.1 sc m1=r2 at *
   obtain⟨b2,m2⟩:=r2
   dsimp only at h h2 p2
   clear h146
   cases b1 with
   | false=>
    rw[if_pos rfl] at h
    clear h2 p1 p2 hrc
    refine cn ⟨false,false,false,false⟩ Tryz.f103 101 [.tmp 8] ?_
    repeat' (first|refine c162 ?_|refine h1 _ zAB _ ?_|refine wk ?_|refine fk ?_ ?_<;>intro hs|exact⟨⟩|fail)
   | true=>
    have p1:=p1 rfl m0.2
    rw[if_neg (fun h=>nomatch h)] at h
    have h2:=h2 ⟨by omega,by omega⟩
    cases b2 with
    | false=>
     rw[if_pos rfl] at h
     clear p2 hrc
     refine cn ⟨false,false,false,false⟩ Tryz.f103 101 [.tmp 8] ?_
     repeat' (first|refine c162 ?_|refine h1 _ zAB _ ?_|refine h2 _ zAB _ ?_|refine wk ?_|refine fk ?_ ?_<;>intro hs|exact⟨⟩|fail)
    | true=>
     have p2:=p2 rfl p1.2
     rw[if_neg (fun h=>nomatch h)] at h
     have hbn:=zWK t.kind
     refine cn ⟨false,false,false,false⟩ Tryz.f103 101 [.tmp 8] ?_
     repeat' (first|refine c162 ?_|refine h1 _ zAB _ ?_|refine h2 _ zAB _ ?_|refine wk ?_|refine fk ?_ ?_<;>intro hs|exact⟨⟩|fail)
     ·rw[if_pos (by rw[hbn];simpa using hs)] at h
      refine zAF (ι:=Nat×(Int×Int)) (fun p=>[(0,.ptr k 0),(2,.int .i64 (sc+1)),(3,.int .i64 deep),(5,.ptr M 0),(13,.int .i64 p.1)]) (fun p=>S (M+1) (updB (updB g M (.cells 43 (zCH t))) k (.cells 146 (zBL sp p.2.1 p.2.2))) u) (fun p=>p.1≤t.l.length∧fms (zA1 sp) t.l (deep+1) ((sc+1)) (n+1,m2)=fms (zA1 sp) (t.l.drop p.1) (deep+1) ((sc+1)) p.2∧(0≤p.2.1∧p.2.1≤1000)∧(0≤p.2.2∧p.2.2≤3000)) (fun p=>t.l.length-p.1) ?_ (0,n+1,m2) ⟨Nat.zero_le _,rfl,⟨by dsimp only;omega,by dsimp only;omega⟩,by dsimp only;omega,by dsimp only;omega⟩ ⟨rfl,rfl,rfl,rfl,rfl,trivial⟩ (by simp only[zEF])
      clear h1 h2 p1 p2
      rintro⟨i,a1,a2⟩ b ⟨hi,he,ha1,ha2⟩ hrec
      dsimp only at hi he ha1 ha2 hrec ⊢
      have e5:(updB (updB g M (.cells 43 (zCH t))) k (.cells 146 (zBL sp a1 a2))) M=.cells 43 (zCH t):=by rw[zAA (by omega),zAB]
      rcases Nat.lt_or_ge i t.l.length with hlt|hge
      ·have hc:decide ((i:Int)<t.l.length)=true:=decide_eq_true (by omega)
       have hx:t.l[i]?=some t.l[i]:=List.getElem?_eq_getElem hlt
       rw[List.drop_eq_getElem_cons hlt,fms] at he
       have hr:=fun(Q:CR→Sto→Prop) hQ=>hrc _ (List.getElem_mem hlt) (deep+1) ((sc+1)) a1 a2 (M+1) (updB (updB g M (.cells 43 (zCH t))) k (.cells 146 (zBL sp a1 a2))) u hv1 hv2 (by omega) zAB ⟨by omega,by omega⟩ ⟨by omega,by omega⟩ ha1 ha2 Q hQ
       have hle:=fm_le (zA1 sp) t.l[i] (deep+1) ((sc+1)) (a1,a2)
       generalize fm (zA1 sp) t.l[i] (deep+1) ((sc+1)) (a1,a2)=r at *
       generalize t.l[i]=x at *
       obtain⟨b1,r1,r2⟩:=r
       dsimp only at hr he hle
       cases b1 with
       | false=>
        rw[if_neg (fun h=>nomatch h)] at he
        rw[he] at h
        clear hrec hrc he hle
        repeat' (first|refine hr _ ?_|refine wk ?_|refine fk ?_ ?_<;>intro hs|exact⟨⟩|fail)
       | true=>
        rw[if_pos rfl] at he
        have hle:=hle rfl ha1.1 ha2.1 ha2.2
        clear hrc
        repeat' (first|refine hr _ ?_|refine wk ?_|refine fk ?_ ?_<;>intro hs|exact⟨⟩|fail)
        exact hrec (i+1,r1,r2) _ _ _ ⟨hlt,he,hle.1,hle.2⟩ (by dsimp only;omega) ⟨rfl,rfl,rfl,rfl,congrArg (fun z=>some (AV.int .i64 z)) (by dsimp only;omega),trivial⟩ (by simp only[zEF])
      ·have hc:decide ((i:Int)<t.l.length)=false:=decide_eq_false (by omega)
       rw[List.drop_eq_nil_of_le hge,fms] at he
       rw[he] at h
       clear hrec hrc he
       repeat' (first|refine wk ?_|refine fk ?_ ?_<;>intro hs|exact⟨⟩|fail)
     ·rw[if_neg (by rw[hbn];simp only[Bool.or_eq_true,decide_eq_true_eq];omega)] at h
      refine zAF (ι:=Nat×(Int×Int)) (fun p=>[(0,.ptr k 0),(2,.int .i64 sc),(3,.int .i64 deep),(5,.ptr M 0),(13,.int .i64 p.1)]) (fun p=>S (M+1) (updB (updB g M (.cells 43 (zCH t))) k (.cells 146 (zBL sp p.2.1 p.2.2))) u) (fun p=>p.1≤t.l.length∧fms (zA1 sp) t.l (deep+1) (sc) (n+1,m2)=fms (zA1 sp) (t.l.drop p.1) (deep+1) (sc) p.2∧(0≤p.2.1∧p.2.1≤1000)∧(0≤p.2.2∧p.2.2≤3000)) (fun p=>t.l.length-p.1) ?_ (0,n+1,m2) ⟨Nat.zero_le _,rfl,⟨by dsimp only;omega,by dsimp only;omega⟩,by dsimp only;omega,by dsimp only;omega⟩ ⟨rfl,rfl,rfl,rfl,rfl,trivial⟩ (by simp only[zEF])
      clear h1 h2 p1 p2
      rintro⟨i,a1,a2⟩ b ⟨hi,he,ha1,ha2⟩ hrec
      dsimp only at hi he ha1 ha2 hrec ⊢
      have e5:(updB (updB g M (.cells 43 (zCH t))) k (.cells 146 (zBL sp a1 a2))) M=.cells 43 (zCH t):=by rw[zAA (by omega),zAB]
      rcases Nat.lt_or_ge i t.l.length with hlt|hge
      ·have hc:decide ((i:Int)<t.l.length)=true:=decide_eq_true (by omega)
       have hx:t.l[i]?=some t.l[i]:=List.getElem?_eq_getElem hlt
       rw[List.drop_eq_getElem_cons hlt,fms] at he
       have hr:=fun(Q:CR→Sto→Prop) hQ=>hrc _ (List.getElem_mem hlt) (deep+1) (sc) a1 a2 (M+1) (updB (updB g M (.cells 43 (zCH t))) k (.cells 146 (zBL sp a1 a2))) u hv1 hv2 (by omega) zAB ⟨by omega,by omega⟩ ⟨by omega,by omega⟩ ha1 ha2 Q hQ
       have hle:=fm_le (zA1 sp) t.l[i] (deep+1) (sc) (a1,a2)
       generalize fm (zA1 sp) t.l[i] (deep+1) (sc) (a1,a2)=r at *
       generalize t.l[i]=x at *
       obtain⟨b1,r1,r2⟩:=r
       dsimp only at hr he hle
       cases b1 with
       | false=>
        rw[if_neg (fun h=>nomatch h)] at he
        rw[he] at h
        clear hrec hrc he hle
        repeat' (first|refine hr _ ?_|refine wk ?_|refine fk ?_ ?_<;>intro hs|exact⟨⟩|fail)
       | true=>
        rw[if_pos rfl] at he
        have hle:=hle rfl ha1.1 ha2.1 ha2.2
        clear hrc
        repeat' (first|refine hr _ ?_|refine wk ?_|refine fk ?_ ?_<;>intro hs|exact⟨⟩|fail)
        exact hrec (i+1,r1,r2) _ _ _ ⟨hlt,he,hle.1,hle.2⟩ (by dsimp only;omega) ⟨rfl,rfl,rfl,rfl,congrArg (fun z=>some (AV.int .i64 z)) (by dsimp only;omega),trivial⟩ (by simp only[zEF])
      ·have hc:decide ((i:Int)<t.l.length)=false:=decide_eq_false (by omega)
       rw[List.drop_eq_nil_of_le hge,fms] at he
       rw[he] at h
       clear hrec hrc he
       repeat' (first|refine wk ?_|refine fk ?_ ?_<;>intro hs|exact⟨⟩|fail)
end Go.Ab.X
namespace Go.Ab.X
open Go Go.Ab Go.Proofs Pl
set_option maxRecDepth 100000
set_option maxHeartbeats 4000000
theorem zZV (fr:Fr)(ps:List (Nat×Operand))(s:Sto):zDL E1 fr 146 ps s=(match zBW fr ps with|some ps=>bldT 146 ps s|none=>.no):=rfl
theorem b146 (sp:Pl.Spec)(s:Sto):bldT 146 [(0,zAN sp)] s=.val (.agg (zBL sp 0 0)) s:=rfl
theorem pd_PT {a:Prp}:pick1 (E1.types 43) (List.drop 1 (zDE a)) 0=some (encT a.t):=by rw[zIJ];kernel_rfl
attribute [go_sem] zZV b146 pd_PT
theorem zT8 {sp:Pl.Spec}(h:zCL sp=true):zCQ sp=true:=by
 unfold zCL at h
 simp only[Bool.and_eq_true] at h
 exact h.1.1.1
theorem c51 {sp:Pl.Spec}{t:T}{n:Int}(hsm:Sm sp)(hb:zCL sp=true)(ht:szT t<1073740000)(h0:0≤n)(h1:n≤40){s:Sto}{Q:CR→Sto→Prop}(h:Q (.ret (.bool (zG5 sp t n))) s):C E1 51 [zAN sp,encT t,.int .i64 n] s Q:=by
 rw[zG5] at h
 have h103:=fun(G:Nat→Box) (hG:G 2=.cells 146 (zBL sp 0 0)) (Q:CR→Sto→Prop) hQ=>c103 (k:=2) hsm (zT8 hb) (szT t+1) t (by omega) ht 1 n 0 0 3 G [] rfl rfl (by omega) hG ⟨by omega,by omega⟩ ⟨h0,by omega⟩ ⟨by omega,by omega⟩ ⟨by omega,by omega⟩ Q hQ
 refine ci Tryz.f51 15 [.tmp 6] ?_
 repeat' (first|refine h103 _ zAB _ ?_|refine wk ?_|refine fk ?_ ?_<;>intro hs|exact⟨⟩|fail)
theorem c8 {sp:Pl.Spec}{t:T}{n:Int}(hsm:Sm sp)(hsl:Sl sp)(ht:szT t<1073740000){s:Sto}{Q:CR→Sto→Prop}(h:Q (.ret (.int .i64 (zJF sp t n))) s):C E1 8 [zAN sp,encT t,.int .i64 n] s Q:=by
 rw[zJF] at h
 have h50:=fun(s:Sto) (Q:CR→Sto→Prop) hQ=>c50 (sp:=sp) hsm hsl (s:=s) (Q:=Q) hQ
 cases hb:zCL sp with
 | false=>
  rw[if_pos hb] at h
  rw[hb] at h50
  refine ci Tryz.f8 21 [.tmp 6] ?_
  repeat' (first|refine h50 _ _ ?_|refine wk ?_|refine fk ?_ ?_<;>intro hs|exact⟨⟩|fail)
 | true=>
  have h51:=fun(h0:0≤n) (h1:n≤40) (s:Sto) (Q:CR→Sto→Prop) hQ=>c51 (t:=t) (n:=n) hsm hb ht h0 h1 (s:=s) (Q:=Q) hQ
  rw[if_neg (by rw[hb];exact fun h=>nomatch h)] at h
  rw[hb] at h50
  refine ci Tryz.f8 21 [.tmp 6] ?_
  repeat' (first|refine h50 _ _ ?_|refine h51 (by omega) (by omega) _ _ ?_|refine wk ?_|refine fk ?_ ?_<;>intro hs|exact⟨⟩|fail)
  ·rw[if_pos (by simpa only[Bool.or_eq_true,decide_eq_true_eq] using hs)] at h;exact h
  ·rw[if_neg (by omega),if_pos hs] at h;exact h
  ·rw[if_neg (by omega),if_neg (by rw[hs];exact fun h=>nomatch h)] at h;exact h
theorem c10 {sp:Pl.Spec}(hsm:Sm sp)(hsl:Sl sp)(hp:sp.props.length<1073741824)(ht:∀p∈sp.props,szT p.t<1073740000){s:Sto}{Q:CR→Sto→Prop}(h:Q (.ret (.int .i64 (zJG sp))) s):C E1 10 [zAN sp] s Q:=by
 rw[zJG] at h
 have h50:=fun(s:Sto) (Q:CR→Sto→Prop) hQ=>c50 (sp:=sp) hsm hsl (s:=s) (Q:=Q) hQ
 cases hb:zCL sp with
 | false=>
  rw[if_pos (.inl hb)] at h
  rw[hb] at h50
  refine ci Tryz.f10 23 [.tmp 2] ?_
  repeat' (first|refine h50 _ _ ?_|refine wk ?_|refine fk ?_ ?_<;>intro hs|exact⟨⟩|fail)
 | true=>
  rw[hb] at h50
  have h51:=fun(t:T)(ht:szT t<1073740000) (s:Sto) (Q:CR→Sto→Prop) hQ=>c51 (t:=t) (n:=0) hsm hb ht (by omega) (by omega) (s:=s) (Q:=Q) hQ
  refine ci Tryz.f10 23 [.tmp 2] ?_
  repeat' (first|refine h50 _ _ ?_|refine wk ?_|refine fk ?_ ?_<;>intro hs|exact⟨⟩|fail)
  refine zAF (ι:=Nat) (fun i=>[(1,.ptr 0 0),(3,.int .i64 i)]) (fun _=>S 1 (updB g0 0 (.cells 40 (zAC sp))) []) (fun i=>i≤sp.props.length∧(sp.props.any fun p=>!zG5 sp p.t 0)=((sp.props.drop i).any fun p=>!zG5 sp p.t 0)) (fun i=>sp.props.length-i) ?_ 0 ⟨Nat.zero_le _,rfl⟩ ⟨rfl,rfl,trivial⟩ rfl
  rintro i b ⟨hi,he⟩ hrec
  rcases Nat.lt_or_ge i sp.props.length with hlt|hge
  ·have hc:decide ((i:Int)<sp.props.length)=true:=decide_eq_true (by omega)
   have hx:sp.props[i]?=some sp.props[i]:=List.getElem?_eq_getElem hlt
   have h51:=h51 _ (ht _ (List.getElem_mem hlt))
   rw[List.drop_eq_getElem_cons hlt,List.any_cons] at he
   generalize sp.props[i]=x at *
   repeat' (first|refine h51 _ _ ?_|refine wk ?_|refine fk ?_ ?_<;>intro hs|exact⟨⟩|fail)
   ·rw[hs] at he
    rw[if_pos (.inr (by rw[he];rfl))] at h
    exact h
   ·rw[hs] at he
    exact hrec (i+1) _ _ _ ⟨hlt,by rw[he];rfl⟩ (by omega) ⟨rfl,congrArg (fun z=>some (AV.int .i64 z)) (by omega),trivial⟩ rfl
  have hc:decide ((i:Int)<sp.props.length)=false:=decide_eq_false (by omega)
  rw[List.drop_eq_nil_of_le hge,List.any_nil] at he
  rw[if_neg (by rw[hb,he];exact fun h=>nomatch h)] at h
  clear hrec h51 h50
  repeat' (first|refine wk ?_|refine fk ?_ ?_<;>intro hs|exact⟨⟩|fail)
theorem c60 {sp:Pl.Spec}{a:Las}(hvl:sp.vars.length<1073741824)(hl:a.st.length<1073741824)(hs:∀l∈a.st,l.length<1073741824∧∀v∈l,szV v<1073741824){s:Sto}{Q:CR→Sto→Prop}(h:Q (.ret (.bool (zOK a&&zCT sp.vars.length a.st))) s):C E1 60 [zAN sp,zC8 a] s Q:=by
 have h26:=fun(s:Sto) (Q:CR→Sto→Prop) hQ=>c26 (a:=a) hl (s:=s) (Q:=Q) hQ
 have h108:=fun(l:List V) (h1:l.length<1073741824) (h2:∀v∈l,szV v<1073741824) (s:Sto) (Q:CR→Sto→Prop) hQ=>c108 h1 h2 (s:=s) (Q:=Q) hQ
 cases hb:zOK a with
 | false=>
  rw[hb,Bool.false_and] at h
  rw[hb] at h26
  refine ci Tryz.f60 35 [.tmp 4] ?_
  repeat' (first|refine h26 _ _ ?_|refine wk ?_|refine fk ?_ ?_<;>intro hs|exact⟨⟩|fail)
 | true=>
  rw[hb,Bool.true_and] at h
  rw[hb] at h26
  refine ci Tryz.f60 35 [.tmp 4] ?_
  repeat' (first|refine h26 _ _ ?_|refine wk ?_|refine fk ?_ ?_<;>intro hs|exact⟨⟩|fail)
  refine zAF (ι:=Nat) (fun i=>[(2,.ptr 0 0),(3,.ptr 1 0),(5,.int .i64 i)]) (fun _=>S 2 (updB (updB g0 0 (.cells 40 (zAC sp))) 1 (.cells 46 (zC1 a))) []) (fun i=>i≤a.st.length∧zCT sp.vars.length a.st=zCT sp.vars.length (a.st.drop i)) (fun i=>a.st.length-i) ?_ 0 ⟨Nat.zero_le _,rfl⟩ ⟨rfl,rfl,rfl,trivial⟩ rfl
  rintro i b ⟨hi,he⟩ hrec
  rcases Nat.lt_or_ge i a.st.length with hlt|hge
  ·have hc:decide ((i:Int)<a.st.length)=true:=decide_eq_true (by omega)
   have hx:a.st[i]?=some a.st[i]:=List.getElem?_eq_getElem hlt
   have hq:=hs _ (List.getElem_mem hlt)
   have h108:=h108 _ hq.1 hq.2
   rw[List.drop_eq_getElem_cons hlt] at he
   simp only[zCT,List.all_cons] at he
   generalize a.st[i]=x at *
   have hes:zD8 x=.sl 0 (x.map encV) .shut:=rfl
   have hq1:=hq.1
   clear hq
   by_cases hxl:(x.length:Int)=sp.vars.length
   ·have hd:decide ((x.length:Int)=sp.vars.length)=true:=decide_eq_true hxl
    cases hv:x.all zBD with
    | true=>
     rw[hv] at h108 he
     rw[hd] at he
     repeat' (first|refine h108 _ _ ?_|refine wk ?_|refine fk ?_ ?_<;>intro hs|exact⟨⟩|fail)
     exact hrec (i+1) _ _ _ ⟨hlt,he⟩ (by omega) ⟨rfl,rfl,congrArg (fun z=>some (AV.int .i64 z)) (by omega),trivial⟩ rfl
    | false=>
     rw[hv] at h108 he
     have he2:zCT sp.vars.length a.st=false:=by rw[zCT,he,Bool.and_false];rfl
     rw[he2] at h
     clear hrec he he2
     repeat' (first|refine h108 _ _ ?_|refine wk ?_|refine fk ?_ ?_<;>intro hs|exact⟨⟩|fail)
   ·have hd:decide ((x.length:Int)=sp.vars.length)=false:=decide_eq_false hxl
    have he2:zCT sp.vars.length a.st=false:=by rw[zCT,he,hd];rfl
    rw[he2] at h
    clear hrec he he2 h108
    repeat' (first|refine wk ?_|refine fk ?_ ?_<;>intro hs|exact⟨⟩|fail)
  have hc:decide ((i:Int)<a.st.length)=false:=decide_eq_false (by omega)
  rw[List.drop_eq_nil_of_le hge] at he
  rw[he,show zCT sp.vars.length []=true from rfl] at h
  clear hrec h26 h108
  repeat' (first|refine wk ?_|refine fk ?_ ?_<;>intro hs|exact⟨⟩|fail)
theorem c12 {sp:Pl.Spec}{a:Las}(hsm:Sm sp)(hsl:Sl sp)(hvl:sp.vars.length<1073741824)(hl:a.st.length<1073741824)(hs:∀l∈a.st,l.length<1073741824∧∀v∈l,szV v<1073741824){s:Sto}{Q:CR→Sto→Prop}(h:Q (.ret (.int .i64 (zKZ sp a))) s):C E1 12 [zAN sp,zC8 a] s Q:=by
 rw[zKZ] at h
 have h50:=fun(s:Sto) (Q:CR→Sto→Prop) hQ=>c50 (sp:=sp) hsm hsl (s:=s) (Q:=Q) hQ
 have h60:=fun(s:Sto) (Q:CR→Sto→Prop) hQ=>c60 (sp:=sp) (a:=a) hvl hl hs (s:=s) (Q:=Q) hQ
 generalize (zOK a&&zCT sp.vars.length a.st)=b1 at *
 generalize zCL sp=b0 at *
 refine ci Tryz.f12 12 [.tmp 4] ?_
 repeat' (first|refine h50 _ _ ?_|refine h60 _ _ ?_|refine wk ?_|refine fk ?_ ?_<;>intro hs|exact⟨⟩|fail)
 all_goals (clear h50 h60;cases b0<;>cases b1<;>first|exact h|(exfalso;simp_all))
end Go.Ab.X
end
