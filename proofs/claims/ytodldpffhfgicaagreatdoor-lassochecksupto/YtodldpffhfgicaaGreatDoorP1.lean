/- A part. -/
import Derived.Test.YtodldpffhfgicaaGreatDoorF10
set_option linter.all false
noncomputable section
namespace Pl
def binds (k n:Int)(i:Int)(len:Nat):Int:=
 if k=16∨k=17 then i
 else if k=24∨k=30 then(if i=len-1 then n else 0)
 else if k=18∨k=23∨k=34∨k=42 then(if i=len-1 then 1 else 0)
 else 0
mutual
def zDU (ms:List Str):V→Bool
 | .mk k _ _ _ s l m=>if k=4 then decide (s∈ms) else zFT ms l&&zFT ms m
def zFT (ms:List Str):List V→Bool
 | []=>true
 | v :: r=>zDU ms v&&zFT ms r
end
def anyS {α σ:Type}(p:σ→α→Bool×σ):σ→List α→Bool×σ
 | a,[]=>(false,a)
 | a,x :: r=>if(p a x).1 then(true,(p a x).2) else anyS p (p a x).2 r
theorem zQM {α:Type}(q:α→Bool):∀l:List α,anyS (fun(a:Unit) x=>(q x,a)) () l=(l.any q,())
 | []=>rfl
 | x :: r=>by
  simp only[anyS,List.any_cons]
  cases h:q x with
  | true=>rfl
  | false=>simpa using zQM q r
def nameT:Nat→Str→Bool
 | _,[]=>true
 | i,c :: r=>(if i=0 then letter c else inside c)&&nameT (i+1) r
theorem nameT_pos:∀(s:Str) (i:Nat),0<i→nameT i s=s.all inside
 | [],_,_=>rfl
 | c :: r,i,h=>by
  simp only[nameT,List.all_cons]
  rw[if_neg (by omega),nameT_pos r (i+1) (by omega)]
theorem zP0 (s:Str):zC7 s=(decide (1≤(s.length:Int))&&decide ((s.length:Int)≤40)&&decide (s≠[84,82,85,69])&&decide (s≠[70,65,76,83,69])&&nameT 0 s):=by
 cases s with
 | nil=>rfl
 | cons c r=>
  have h1:∀c,letter c=true→inside c=true:=fun c h=>by simp only[inside,h,Bool.true_or]
  simp only[zC7,nameT,List.all_cons,nameT_pos r 1 (by omega),if_true]
  have e1:decide (1≤(((c :: r).length:Nat):Int))=true:=by simp;omega
  have e2:decide ((((c :: r).length:Nat):Int)≤40)=decide ((c :: r).length≤40):=by rw[decide_eq_decide];omega
  rw[e1,e2]
  cases hl:letter c with
  | false=>simp
  | true=>
   rw[h1 c hl]
   cases decide ((c :: r).length≤40)<;>cases decide (c :: r≠[84,82,85,69])<;>cases decide (c :: r≠[70,65,76,83,69])<;>cases r.all inside<;>rfl
theorem zZD (a b:Int):cmp b a=-cmp a b:=by simp only[cmp];split<;>split<;>first|omega|(split<;>omega)
theorem zGR (a b:Int):cmp a b=0↔a=b:=by simp only[cmp];constructor<;>intro h<;>(repeat' split at h)<;>first|omega|(split<;>first|omega|(split<;>omega))
theorem cmpD_neg:∀a b:List Int,cmpD b a=-cmpD a b
 | [],[]=>rfl
 | [],_ :: _=>rfl
 | _ :: _,[]=>rfl
 | a :: x,b :: y=>by
  simp only[cmpD]
  rw[zZD a b,cmpD_neg x y]
  by_cases h:cmp a b=0
  ·rw[if_pos (by omega),if_pos h]
  ·rw[if_neg (by omega),if_neg h]
theorem cntVs_append:∀a b:List V,cntVs (a++b)=cntVs a+cntVs b
 | [],_=>by simp[cntVs]
 | x :: r,b=>by simp only[List.cons_append,cntVs,cntVs_append r b];omega
theorem depVs_append:∀a b:List V,depVs (a++b)=max (depVs a) (depVs b)
 | [],_=>by simp[depVs]
 | x :: r,b=>by simp only[List.cons_append,depVs,depVs_append r b];omega
mutual
theorem cntV_le:∀v:V,cntV v≤szV v
 | .mk _ _ _ d s l m=>by have:=cntVs_le l;have:=cntVs_le m;simp only[cntV,szV];omega
theorem cntVs_le:∀l:List V,cntVs l≤szVs l
 | []=>Nat.le_refl _
 | v :: r=>by have:=cntV_le v;have:=cntVs_le r;simp only[cntVs,szVs];omega
end
mutual
theorem depV_le:∀v:V,depV v≤szV v
 | .mk _ _ _ d s l m=>by have:=depVs_le l;have:=depVs_le m;simp only[depV,szV];omega
theorem depVs_le:∀l:List V,depVs l≤szVs l
 | []=>Nat.le_refl _
 | v :: r=>by have:=depV_le v;have:=depVs_le r;simp only[depVs,szVs];omega
end
theorem szVs_append:∀a b:List V,szVs (a++b)=szVs a+szVs b
 | [],_=>by simp[szVs]
 | x :: r,b=>by simp only[List.cons_append,szVs,szVs_append r b];omega
theorem zZC (v:V):cntV v=1+cntVs v.l+cntVs v.m:=by cases v;rfl
theorem zY9 (v:V):depV v=max (depVs v.l) (depVs v.m)+1:=by cases v;rfl
theorem zYL (v:V):formed v=(node v&&formedL v.l&&formedL v.m):=by cases v;rfl
def zMY (v:V):Bool:=
 if v.kind=1 then(decide (v.n=0)||decide (v.n=1))&&zEP v.neg v.d&&decide (v.s=[])
 else if v.kind=2 then decide (v.n=0)&&zKK v.neg v.d&&decide (v.s=[])
 else if v.kind=3 then decide (v.n=0)&&zEP v.neg v.d&&zLX v.s
 else if v.kind=4 then decide (v.n=0)&&zEP v.neg v.d&&zC7 v.s
 else if v.kind=5∨v.kind=6 then decide (v.n=0)&&zEP v.neg v.d&&decide (v.s=[])
 else false
theorem zGP {l:List V}(h:l.length=0):formedL l=true:=by cases l with
 | nil=>rfl
 | cons a r=>simp at h
theorem formed_R (v:V):formed v=(zMY v&&(if v.kind≠5∧v.kind≠6 then decide (v.l.length=0)&&decide (v.m.length=0)
  else !(decide (4000<v.l.length)||decide (v.kind=5)&&decide (v.m.length≠0)||decide (v.kind=6)&&decide (v.m.length≠v.l.length))&&formedL v.l&&formedL v.m&&rising v.l)):=by
 rw[zYL]
 by_cases h1:v.kind=1
 ·simp only[node,zMY,h1,if_true];by_cases a:v.l.length=0<;>by_cases b:v.m.length=0<;>simp[a,b,zGP]
 by_cases h2:v.kind=2
 ·simp only[node,zMY,h2];by_cases a:v.l.length=0<;>by_cases b:v.m.length=0<;>simp[a,b,zGP]
 by_cases h3:v.kind=3
 ·simp only[node,zMY,h3];by_cases a:v.l.length=0<;>by_cases b:v.m.length=0<;>simp[a,b,zGP]
 by_cases h4:v.kind=4
 ·simp only[node,zMY,h4];by_cases a:v.l.length=0<;>by_cases b:v.m.length=0<;>simp[a,b,zGP]
 by_cases h5:v.kind=5
 ·simp only[node,zMY,h5];by_cases a:v.l.length≤4000<;>by_cases b:v.m.length=0<;>simp[a,b]<;>(try rw[show decide (4000<v.l.length)=false from by simp;omega])<;>(cases decide (v.n=0)<;>cases zEP v.neg v.d<;>cases decide (v.s=[])<;>cases rising v.l<;>cases formedL v.l<;>cases formedL v.m<;>simp<;>try omega)
 by_cases h6:v.kind=6
 ·simp only[node,zMY,h6];by_cases a:v.l.length≤4000<;>by_cases b:v.m.length=v.l.length<;>simp[a,b]<;>(try rw[show decide (4000<v.l.length)=false from by simp;omega])<;>(cases decide (v.n=0)<;>cases zEP v.neg v.d<;>cases decide (v.s=[])<;>cases rising v.l<;>cases formedL v.l<;>cases formedL v.m<;>simp<;>try omega)
 simp[node,zMY,h1,h2,h3,h4,h5,h6]
theorem cntXs_append:∀a b:List X,cntXs (a++b)=cntXs a+cntXs b
 | [],_=>by simp[cntXs]
 | x :: r,b=>by simp only[List.cons_append,cntXs,cntXs_append r b];omega
theorem depXs_append:∀a b:List X,depXs (a++b)=max (depXs a) (depXs b)
 | [],_=>by simp[depXs]
 | x :: r,b=>by simp only[List.cons_append,depXs,depXs_append r b];omega
mutual
theorem cntX_le:∀v:X,cntX v≤szX v
 | .mk _ _ s v l=>by have:=cntXs_le l;simp only[cntX,szX];omega
theorem cntXs_le:∀l:List X,cntXs l≤szXs l
 | []=>Nat.le_refl _
 | v :: r=>by have:=cntX_le v;have:=cntXs_le r;simp only[cntXs,szXs];omega
end
mutual
theorem depX_le:∀v:X,depX v≤szX v
 | .mk _ _ s v l=>by have:=depXs_le l;simp only[depX,szX];omega
theorem depXs_le:∀l:List X,depXs l≤szXs l
 | []=>Nat.le_refl _
 | v :: r=>by have:=depX_le v;have:=depXs_le r;simp only[depXs,szXs];omega
end
theorem szXs_append:∀a b:List X,szXs (a++b)=szXs a+szXs b
 | [],_=>by simp[szXs]
 | x :: r,b=>by simp only[List.cons_append,szXs,szXs_append r b];omega
theorem zOU (v:X):cntX v=1+cntXs v.l:=by cases v;rfl
theorem zY8 (v:X):depX v=depXs v.l+1:=by cases v;rfl
def riseT:Option Str→List Str→Bool
 | _,[]=>true
 | p,s :: r=>zC7 s&&(match p with|none=>true|some q=>ltS q s)&&riseT (some s) r
theorem rise_T1:∀(a:Str) (r:List Str),rise (a :: r)=(zC7 a&&riseT (some a) r)
 | a,[]=>by simp[rise,riseT]
 | a,b :: r=>by
  simp only[rise,riseT]
  rw[rise_T1 b r]
  cases zC7 a<;>cases ltS a b<;>simp
theorem rise_T (l:List Str):rise l=riseT none l:=by
 cases l with
 | nil=>rfl
 | cons a r=>rw[rise_T1];simp[riseT]
theorem zR4 (a b:Int):-1≤cmp a b∧cmp a b≤1:=by simp only[cmp];split<;>(try split)<;>omega
theorem cmpD_rng:∀a b:List Int,-1≤cmpD a b∧cmpD a b≤1
 | [],[]=>by simp[cmpD]
 | [],_ :: _=>by simp[cmpD]
 | _ :: _,[]=>by simp[cmpD]
 | a :: x,b :: y=>by
             simp only[cmpD];split
             ·exact cmpD_rng x y
             ·exact zR4 a b
theorem cmpS_neg:∀a b:Str,cmpS b a=-cmpS a b
 | [],[]=>rfl
 | [],_ :: _=>rfl
 | _ :: _,[]=>rfl
 | a :: x,b :: y=>by
  simp only[cmpS]
  by_cases h1:a.toNat<b.toNat
  ·rw[if_neg (by omega),if_pos h1,if_pos h1];rfl
  ·by_cases h2:b.toNat<a.toNat
   ·rw[if_pos h2,if_neg h1,if_pos h2]
   ·rw[if_neg h2,if_neg h1,if_neg h1,if_neg h2];exact cmpS_neg x y
theorem cmpS_rng:∀a b:Str,-1≤cmpS a b∧cmpS a b≤1
 | [],[]=>by simp[cmpS]
 | [],_ :: _=>by simp[cmpS]
 | _ :: _,[]=>by simp[cmpS]
 | a :: x,b :: y=>by
  simp only[cmpS];split
  ·omega
  ·split
   ·omega
   ·exact cmpS_rng x y
def sumN {α:Type}(f:α→Nat):List α→Nat
 | []=>0
 | x :: r=>f x+sumN f r
theorem zEU {α:Type}{f:α→Nat}:∀{l:List α} {x:α},x∈l→f x≤sumN f l
 | a :: r,x,h=>by
  simp only[sumN]
  rcases List.mem_cons.1 h with rfl|h
  ·omega
  ·have:=zEU (f:=f) h;omega
theorem zEV {α:Type}{f:α→Nat}(h:∀x,1≤f x):∀l:List α,l.length≤sumN f l
 | []=>Nat.le_refl _
 | a :: r=>by have:=zEV h r;have:=h a;simp only[sumN,List.length_cons];omega
theorem zCW {α:Type}{f g:α→Nat}(h:∀x,f x≤g x):∀l:List α,sumN f l≤sumN g l
 | []=>Nat.le_refl _
 | a :: r=>by have:=zCW h r;have:=h a;simp only[sumN];omega
theorem zHF {α:Type}(f:α→Str):∀l:List α,lens (l.map f)=sumN (fun x=>1+(f x).length) l
 | []=>rfl
 | a :: r=>by simp only[List.map_cons,lens,zHF f r,sumN]
theorem zIQ {α:Type}(f:α→X):∀l:List α,szXs (l.map f)=sumN (fun x=>1+szX (f x)) l
 | []=>rfl
 | a :: r=>by simp only[List.map_cons,szXs,zIQ f r,sumN]
theorem lens_append:∀a b:List Str,lens (a++b)=lens a+lens b
 | [],_=>by simp[lens]
 | x :: r,b=>by simp only[List.cons_append,lens,lens_append r b];omega
theorem lens_flatten:∀l:List (List Str),lens l.flatten=sumN lens l
 | []=>rfl
 | a :: r=>by simp only[List.flatten_cons,lens_append,lens_flatten r,sumN]
theorem zSW {α:Type}(f g:α→X):∀l:List α,szXs (l.flatMap fun x=>[f x,g x])=sumN (fun x=>1+szX (f x)+(1+szX (g x))) l
 | []=>rfl
 | a :: r=>by simp only[List.flatMap_cons,szXs_append,szXs,zSW f g r,sumN];omega
def zJD (c:Const):Nat:=1+c.name.length+szV c.v
def fVar (c:Var):Nat:=1+c.name.length+szX c.typ
def fDef (c:Def):Nat:=1+c.name.length+c.params.length+szX c.body
def zMZ (c:Fair):Nat:=1+(szX c.a+szX c.sub)
def zHM (c:Named):Nat:=1+c.name.length+szX c.e
def fPrp (c:Prp):Nat:=1+c.name.length+szT c.t
def fGrp (c:List Str):Nat:=1+lens c
def zK2 (sp:Spec):Nat:=
 lens sp.models+sumN zJD sp.consts+sumN fVar sp.vars+sumN fDef sp.defs+szXs sp.assume+szX sp.init+szX sp.next+sumN zMZ sp.fair+sumN zHM sp.invs+sumN fPrp sp.props+szXs sp.cons+szXs sp.acons +
  sumN fGrp sp.groups+szXs sp.view
theorem zT0 (sp:Spec):szXs (exprs sp)≤2*zK2 sp+2:=by
 have h1:=zIQ (·.typ) sp.vars
 have h2:=zSW (·.a) (·.sub) sp.fair
 have h3:=zIQ (·.e) sp.invs
 have h4:=zCW (f:=fun x:Var=>1+szX x.typ) (g:=fVar) (fun x=>by simp only[fVar];omega) sp.vars
 have h5:=zCW (f:=fun x:Named=>1+szX x.e) (g:=zHM) (fun x=>by simp only[zHM];omega) sp.invs
 have h6:sumN (fun x:Fair=>1+szX x.a+(1+szX x.sub)) sp.fair≤2*sumN zMZ sp.fair:=by
  have:∀l:List Fair,sumN (fun x:Fair=>1+szX x.a+(1+szX x.sub)) l≤2*sumN zMZ l:=by
   intro l
   induction l with
   | nil=>exact Nat.le_refl _
   | cons a r ih=>simp only[sumN,zMZ] at ih ⊢;omega
  exact this _
 simp only[exprs,szXs_append,szXs,zK2]
 omega
def isZ (e:X):Bool:=
 decide (e.kind=0)&&decide (e.n=0)&&decide ((e.s.length:Int)=0)&&decide ((e.l.length:Int)=0)&&decide (e.v.kind=0)&&decide (e.v.n=0)&&decide (e.v.s=[])&&!e.v.neg&&decide ((e.v.d.length:Int)=0)&&decide ((e.v.l.length:Int)=0)&&decide ((e.v.m.length:Int)=0)
def shT (k:Int):Bool×Int×Bool×Bool×Bool:=
 if k=1 then(true,0,true,false,false)
 else if k=7∨k=10 then(true,2,false,false,false)
 else if k=2∨k=3∨k=11∨k=12 then(true,0,true,true,false)
 else if k=4∨k=8∨k=9 then(true,1,false,false,false)
 else if k=5∨k=6 then(true,-1,false,false,false)
 else if k=13∨k=14 then(true,1,true,false,true)
 else(false,0,false,false,false)
def badT (k:Int)(len:Nat)(deep sc n:Int):Bool:=!(shT k).1||decide (1000<n)||decide (100<deep)||decide (40<sc)||(decide (0≤(shT k).2.1)&&!decide ((len:Int)=(shT k).2.1))
def part (ck:X→Int→Bool)(e:X)(has:Bool)(sc m:Int):Bool×Int:=
 if has=true then(if ck e sc=true then(decide (m+cntX e≤3000),m+cntX e) else(false,m)) else(isZ e,m)
mutual
def fm (ck:X→Int→Bool):T→Int→Int→Int×Int→Bool×(Int×Int)
 | .mk k e sub l,deep,sc,st=>
  if badT k l.length deep sc (st.1+1)=true then(false,st.1+1,st.2) else
  if(part ck e (shT k).2.2.1 sc st.2).1=false then(false,st.1+1,(part ck e (shT k).2.2.1 sc st.2).2) else
  if(part ck sub (shT k).2.2.2.1 sc (part ck e (shT k).2.2.1 sc st.2).2).1=false then(false,st.1+1,(part ck sub (shT k).2.2.2.1 sc (part ck e (shT k).2.2.1 sc st.2).2).2) else
  fms ck l (deep+1) (if(shT k).2.2.2.2=true then sc+1 else sc) (st.1+1,(part ck sub (shT k).2.2.2.1 sc (part ck e (shT k).2.2.1 sc st.2).2).2)
def fms (ck:X→Int→Bool):List T→Int→Int→Int×Int→Bool×(Int×Int)
 | [],_,_,st=>(true,st)
 | t :: r,deep,sc,st=>if(fm ck t deep sc st).1=true then fms ck r deep sc (fm ck t deep sc st).2 else(false,(fm ck t deep sc st).2)
end
theorem fm_eq (ck:X→Int→Bool)(t:T)(deep sc:Int)(st:Int×Int):fm ck t deep sc st =
  if badT t.kind t.l.length deep sc (st.1+1)=true then(false,st.1+1,st.2) else
  if(part ck t.e (shT t.kind).2.2.1 sc st.2).1=false then(false,st.1+1,(part ck t.e (shT t.kind).2.2.1 sc st.2).2) else
  if(part ck t.sub (shT t.kind).2.2.2.1 sc (part ck t.e (shT t.kind).2.2.1 sc st.2).2).1=false then(false,st.1+1,(part ck t.sub (shT t.kind).2.2.2.1 sc (part ck t.e (shT t.kind).2.2.1 sc st.2).2).2) else
  fms ck t.l (deep+1) (if(shT t.kind).2.2.2.2=true then sc+1 else sc) (st.1+1,(part ck t.sub (shT t.kind).2.2.2.1 sc (part ck t.e (shT t.kind).2.2.1 sc st.2).2).2):=by cases t;rfl
theorem zYN (ck:X→Int→Bool)(deep sc:Int):∀(l:List T) (st:Int×Int),anyS (fun a x=>(!(fm ck x deep sc a).1,(fm ck x deep sc a).2)) st l=(!(fms ck l deep sc st).1,(fms ck l deep sc st).2)
 | [],_=>rfl
 | t :: r,st=>by
  rw[anyS,fms]
  generalize fm ck t deep sc st=x
  obtain⟨b,a⟩:=x
  cases b with
  | true=>rw[if_neg (fun h=>nomatch h),if_pos rfl];exact zYN ck deep sc r a
  | false=>rfl
theorem zJS {ck:X→Int→Bool}{e:X}{has:Bool}{sc m:Int}(h:(part ck e has sc m).1=true)(hm:m≤3000):m≤(part ck e has sc m).2∧(part ck e has sc m).2≤3000:=by
 unfold part at h ⊢
 split at h
 ·rename_i hh
  rw[if_pos hh]
  split at h
  ·rename_i hc
   rw[if_pos hc]
   have:=of_decide_eq_true h
   exact⟨by dsimp only;omega,this⟩
  ·cases h
 ·rename_i hh
  rw[if_neg hh]
  exact⟨Int.le_refl _,hm⟩
mutual
theorem fm_le (ck:X→Int→Bool):∀(t:T)(deep sc:Int) (st:Int×Int),(fm ck t deep sc st).1=true→0≤st.1→0≤st.2→st.2≤3000→
  (0≤(fm ck t deep sc st).2.1∧(fm ck t deep sc st).2.1≤1000)∧0≤(fm ck t deep sc st).2.2∧(fm ck t deep sc st).2.2≤3000
 | .mk k e sub l,deep,sc,st,h,h0,h1,h2=>by
  have i:=fun sc st=>fms_le ck l (deep+1) sc st
  unfold fm at h ⊢
  split at h
  ·cases h
  ·rename_i hn
   rw[if_neg hn]
   have p1:=@zJS ck e (shT k).2.2.1 sc st.2
   generalize part ck e (shT k).2.2.1 sc st.2=x at *
   obtain⟨b,m⟩:=x
   dsimp only at h p1 ⊢
   cases b with
   | false=>cases h
   | true=>
    have p1:=p1 rfl h2
    have p2:=@zJS ck sub (shT k).2.2.2.1 sc m
    rw[if_neg (fun h=>nomatch h)] at h ⊢
    generalize part ck sub (shT k).2.2.2.1 sc m=x at *
    obtain⟨b,m2⟩:=x
    dsimp only at h p2 ⊢
    cases b with
    | false=>cases h
    | true=>
     have p2:=p2 rfl p1.2
     rw[if_neg (fun h=>nomatch h)] at h ⊢
     have hb:st.1+1≤1000:=by
      simp only[badT,Bool.not_eq_true,Bool.or_eq_false_iff,decide_eq_false_iff_not] at hn
      omega
     exact i _ _ h (by dsimp only;omega) hb (by dsimp only;omega) (by dsimp only;omega)
theorem fms_le (ck:X→Int→Bool):∀(l:List T) (deep sc:Int) (st:Int×Int),(fms ck l deep sc st).1=true→0≤st.1→st.1≤1000→0≤st.2→st.2≤3000→
  (0≤(fms ck l deep sc st).2.1∧(fms ck l deep sc st).2.1≤1000)∧0≤(fms ck l deep sc st).2.2∧(fms ck l deep sc st).2.2≤3000
 | [],_,_,_,_,h0,h1,h2,h3=>⟨⟨h0,h1⟩,h2,h3⟩
 | t :: r,deep,sc,st,h,h0,h1,h2,h3=>by
  have i1:=fm_le ck t deep sc st
  have i2:=fun st=>fms_le ck r deep sc st
  unfold fms at h ⊢
  generalize fm ck t deep sc st=x at *
  obtain⟨b,a⟩:=x
  dsimp only at h i1 ⊢
  cases b with
  | true=>
   have j:=i1 rfl h0 h2 h3
   rw[if_pos rfl] at h ⊢
   exact i2 a h j.1.1 j.1.2 j.2.1 j.2.2
  | false=>cases h
end
def shTL:List (Int×Int×Bool×Bool×Bool):=
 [(1,0,true,false,false),(7,2,false,false,false),(10,2,false,false,false)]++[2,3,11,12].map (fun k=>(k,0,true,true,false))++[4,8,9].map (fun k=>(k,1,false,false,false)) ++
 [5,6].map (fun k=>(k,-1,false,false,false))++[13,14].map (fun k=>(k,1,true,false,true))
def zG5 (sp:Spec)(t:T)(bound:Int):Bool:=(fm (zA1 sp) t 1 bound (0,0)).1
def zJF (sp:Spec)(t:T)(bound:Int):Int:=if zCL sp=false then 6 else if bound<0∨40<bound then 1 else if zG5 sp t bound=false then 131 else 0
def zJG (sp:Spec):Int:=if zCL sp=false∨(sp.props.any fun p=>!zG5 sp p.t 0)=true then 6 else 0
end Pl
end
