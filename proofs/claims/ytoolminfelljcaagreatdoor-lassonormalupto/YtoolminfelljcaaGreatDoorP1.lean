/- A part. -/
import Derived.Test.YtoolminfelljcaaGreatDoorF10
set_option linter.all false
noncomputable section
namespace Pl
def binds (k n:Int)(i:Int)(len:Nat):Int:=
 if k=16∨k=17 then i
 else if k=24∨k=30 then(if i=len-1 then n else 0)
 else if k=18∨k=23∨k=34∨k=42 then(if i=len-1 then 1 else 0)
 else 0
mutual
def knownP (ms:List Str):V→Bool
 | .mk k _ _ _ s l m=>if k=4 then decide (s∈ms) else knownPL ms l&&knownPL ms m
def knownPL (ms:List Str):List V→Bool
 | []=>true
 | v :: r=>knownP ms v&&knownPL ms r
end
def anyS {α σ:Type}(p:σ→α→Bool×σ):σ→List α→Bool×σ
 | a,[]=>(false,a)
 | a,x :: r=>if(p a x).1 then(true,(p a x).2) else anyS p (p a x).2 r
theorem anyS_pure {α:Type}(q:α→Bool):∀l:List α,anyS (fun(a:Unit) x=>(q x,a)) () l=(l.any q,())
 | []=>rfl
 | x :: r=>by
  simp only[anyS,List.any_cons]
  cases h:q x with
  | true=>rfl
  | false=>simpa using anyS_pure q r
def nameT:Nat→Str→Bool
 | _,[]=>true
 | i,c :: r=>(if i=0 then letter c else inside c)&&nameT (i+1) r
theorem nameT_pos:∀(s:Str) (i:Nat),0<i→nameT i s=s.all inside
 | [],_,_=>rfl
 | c :: r,i,h=>by
  simp only[nameT,List.all_cons]
  rw[if_neg (by omega),nameT_pos r (i+1) (by omega)]
theorem isName_eq (s:Str):zSY s=(decide (1≤(s.length:Int))&&decide ((s.length:Int)≤40)&&decide (s≠[84,82,85,69])&&decide (s≠[70,65,76,83,69])&&nameT 0 s):=by
 cases s with
 | nil=>rfl
 | cons c r=>
  have h1:∀c,letter c=true→inside c=true:=fun c h=>by simp only[inside,h,Bool.true_or]
  simp only[zSY,nameT,List.all_cons,nameT_pos r 1 (by omega),if_true]
  have e1:decide (1≤(((c :: r).length:Nat):Int))=true:=by simp;omega
  have e2:decide ((((c :: r).length:Nat):Int)≤40)=decide ((c :: r).length≤40):=by rw[decide_eq_decide];omega
  rw[e1,e2]
  cases hl:letter c with
  | false=>simp
  | true=>
   rw[h1 c hl]
   cases decide ((c :: r).length≤40)<;>cases decide (c :: r≠[84,82,85,69])<;>cases decide (c :: r≠[70,65,76,83,69])<;>cases r.all inside<;>rfl
theorem cmp_neg (a b:Int):cmp b a=-cmp a b:=by simp only[cmp];split<;>split<;>first|omega|(split<;>omega)
theorem cmp_zero (a b:Int):cmp a b=0↔a=b:=by simp only[cmp];constructor<;>intro h<;>(repeat' split at h)<;>first|omega|(split<;>first|omega|(split<;>omega))
theorem cmpD_neg:∀a b:List Int,cmpD b a=-cmpD a b
 | [],[]=>rfl
 | [],_ :: _=>rfl
 | _ :: _,[]=>rfl
 | a :: x,b :: y=>by
  simp only[cmpD]
  rw[cmp_neg a b,cmpD_neg x y]
  by_cases h:cmp a b=0
  ·rw[if_pos (by omega),if_pos h]
  ·rw[if_neg (by omega),if_neg h]
theorem cntVs_append:∀a b:List V,cntVs (a++b)=cntVs a+cntVs b
 | [],_=>by simp[cntVs]
 | x :: r,b=>by simp only[List.cons_append,cntVs,cntVs_append r b];omega
theorem depVs_append:∀a b:List V,depVs (a++b)=max (depVs a) (depVs b)
 | [],_=>by simp[depVs]
 | x :: r,b=>by simp only[List.cons_append,depVs,depVs_append r b];omega
mutual
theorem cntV_le:∀v:V,cntV v≤szV v
 | .mk _ _ _ d s l m=>by have:=cntVs_le l;have:=cntVs_le m;simp only[cntV,szV];omega
theorem cntVs_le:∀l:List V,cntVs l≤szVs l
 | []=>Nat.le_refl _
 | v :: r=>by have:=cntV_le v;have:=cntVs_le r;simp only[cntVs,szVs];omega
end
mutual
theorem depV_le:∀v:V,depV v≤szV v
 | .mk _ _ _ d s l m=>by have:=depVs_le l;have:=depVs_le m;simp only[depV,szV];omega
theorem depVs_le:∀l:List V,depVs l≤szVs l
 | []=>Nat.le_refl _
 | v :: r=>by have:=depV_le v;have:=depVs_le r;simp only[depVs,szVs];omega
end
theorem szVs_append:∀a b:List V,szVs (a++b)=szVs a+szVs b
 | [],_=>by simp[szVs]
 | x :: r,b=>by simp only[List.cons_append,szVs,szVs_append r b];omega
theorem cntV_eq (v:V):cntV v=1+cntVs v.l+cntVs v.m:=by cases v;rfl
theorem depV_eq (v:V):depV v=max (depVs v.l) (depVs v.m)+1:=by cases v;rfl
theorem formed_eq (v:V):formed v=(node v&&formedL v.l&&formedL v.m):=by cases v;rfl
def leafR (v:V):Bool:=
 if v.kind=1 then(decide (v.n=0)||decide (v.n=1))&&zOH v.neg v.d&&decide (v.s=[])
 else if v.kind=2 then decide (v.n=0)&&isInt v.neg v.d&&decide (v.s=[])
 else if v.kind=3 then decide (v.n=0)&&zOH v.neg v.d&&isStr v.s
 else if v.kind=4 then decide (v.n=0)&&zOH v.neg v.d&&zSY v.s
 else if v.kind=5∨v.kind=6 then decide (v.n=0)&&zOH v.neg v.d&&decide (v.s=[])
 else false
theorem formedL_nil {l:List V}(h:l.length=0):formedL l=true:=by cases l with
 | nil=>rfl
 | cons a r=>simp at h
theorem formed_R (v:V):formed v=(leafR v&&(if v.kind≠5∧v.kind≠6 then decide (v.l.length=0)&&decide (v.m.length=0)
  else !(decide (4000<v.l.length)||decide (v.kind=5)&&decide (v.m.length≠0)||decide (v.kind=6)&&decide (v.m.length≠v.l.length))&&formedL v.l&&formedL v.m&&rising v.l)):=by
 rw[formed_eq]
 by_cases h1:v.kind=1
 ·simp only[node,leafR,h1,if_true];by_cases a:v.l.length=0<;>by_cases b:v.m.length=0<;>simp[a,b,formedL_nil]
 by_cases h2:v.kind=2
 ·simp only[node,leafR,h2];by_cases a:v.l.length=0<;>by_cases b:v.m.length=0<;>simp[a,b,formedL_nil]
 by_cases h3:v.kind=3
 ·simp only[node,leafR,h3];by_cases a:v.l.length=0<;>by_cases b:v.m.length=0<;>simp[a,b,formedL_nil]
 by_cases h4:v.kind=4
 ·simp only[node,leafR,h4];by_cases a:v.l.length=0<;>by_cases b:v.m.length=0<;>simp[a,b,formedL_nil]
 by_cases h5:v.kind=5
 ·simp only[node,leafR,h5];by_cases a:v.l.length≤4000<;>by_cases b:v.m.length=0<;>simp[a,b]<;>(try rw[show decide (4000<v.l.length)=false from by simp;omega])<;>(cases decide (v.n=0)<;>cases zOH v.neg v.d<;>cases decide (v.s=[])<;>cases rising v.l<;>cases formedL v.l<;>cases formedL v.m<;>simp<;>try omega)
 by_cases h6:v.kind=6
 ·simp only[node,leafR,h6];by_cases a:v.l.length≤4000<;>by_cases b:v.m.length=v.l.length<;>simp[a,b]<;>(try rw[show decide (4000<v.l.length)=false from by simp;omega])<;>(cases decide (v.n=0)<;>cases zOH v.neg v.d<;>cases decide (v.s=[])<;>cases rising v.l<;>cases formedL v.l<;>cases formedL v.m<;>simp<;>try omega)
 simp[node,leafR,h1,h2,h3,h4,h5,h6]
theorem cntXs_append:∀a b:List X,cntXs (a++b)=cntXs a+cntXs b
 | [],_=>by simp[cntXs]
 | x :: r,b=>by simp only[List.cons_append,cntXs,cntXs_append r b];omega
theorem depXs_append:∀a b:List X,depXs (a++b)=max (depXs a) (depXs b)
 | [],_=>by simp[depXs]
 | x :: r,b=>by simp only[List.cons_append,depXs,depXs_append r b];omega
mutual
theorem cntX_le:∀v:X,cntX v≤szX v
 | .mk _ _ s v l=>by have:=cntXs_le l;simp only[cntX,szX];omega
theorem cntXs_le:∀l:List X,cntXs l≤szXs l
 | []=>Nat.le_refl _
 | v :: r=>by have:=cntX_le v;have:=cntXs_le r;simp only[cntXs,szXs];omega
end
mutual
theorem depX_le:∀v:X,depX v≤szX v
 | .mk _ _ s v l=>by have:=depXs_le l;simp only[depX,szX];omega
theorem depXs_le:∀l:List X,depXs l≤szXs l
 | []=>Nat.le_refl _
 | v :: r=>by have:=depX_le v;have:=depXs_le r;simp only[depXs,szXs];omega
end
theorem szXs_append:∀a b:List X,szXs (a++b)=szXs a+szXs b
 | [],_=>by simp[szXs]
 | x :: r,b=>by simp only[List.cons_append,szXs,szXs_append r b];omega
theorem cntX_eq (v:X):cntX v=1+cntXs v.l:=by cases v;rfl
theorem depX_eq (v:X):depX v=depXs v.l+1:=by cases v;rfl
def riseT:Option Str→List Str→Bool
 | _,[]=>true
 | p,s :: r=>zSY s&&(match p with|none=>true|some q=>ltS q s)&&riseT (some s) r
theorem rise_T1:∀(a:Str) (r:List Str),rise (a :: r)=(zSY a&&riseT (some a) r)
 | a,[]=>by simp[rise,riseT]
 | a,b :: r=>by
  simp only[rise,riseT]
  rw[rise_T1 b r]
  cases zSY a<;>cases ltS a b<;>simp
theorem rise_T (l:List Str):rise l=riseT none l:=by
 cases l with
 | nil=>rfl
 | cons a r=>rw[rise_T1];simp[riseT]
theorem cmp_rng (a b:Int):-1≤cmp a b∧cmp a b≤1:=by simp only[cmp];split<;>(try split)<;>omega
theorem cmpD_rng:∀a b:List Int,-1≤cmpD a b∧cmpD a b≤1
 | [],[]=>by simp[cmpD]
 | [],_ :: _=>by simp[cmpD]
 | _ :: _,[]=>by simp[cmpD]
 | a :: x,b :: y=>by
             simp only[cmpD];split
             ·exact cmpD_rng x y
             ·exact cmp_rng a b
theorem cmpS_neg:∀a b:Str,cmpS b a=-cmpS a b
 | [],[]=>rfl
 | [],_ :: _=>rfl
 | _ :: _,[]=>rfl
 | a :: x,b :: y=>by
  simp only[cmpS]
  by_cases h1:a.toNat<b.toNat
  ·rw[if_neg (by omega),if_pos h1,if_pos h1];rfl
  ·by_cases h2:b.toNat<a.toNat
   ·rw[if_pos h2,if_neg h1,if_pos h2]
   ·rw[if_neg h2,if_neg h1,if_neg h1,if_neg h2];exact cmpS_neg x y
theorem cmpS_rng:∀a b:Str,-1≤cmpS a b∧cmpS a b≤1
 | [],[]=>by simp[cmpS]
 | [],_ :: _=>by simp[cmpS]
 | _ :: _,[]=>by simp[cmpS]
 | a :: x,b :: y=>by
  simp only[cmpS];split
  ·omega
  ·split
   ·omega
   ·exact cmpS_rng x y
end Pl
end
