/- A part. -/
import Derived.Test.YtodldpffhfgicaaGreatDoorF9
set_option linter.all false
noncomputable section
namespace Go.Ab
open Go Pl
theorem zHI {α:Type}{h:α→AV}{es:Nat}(hh:∀a,llen (cellsOf (h a))=es)(l:List α):zKL es (l.map h)=true:=by
 cases l with
 | nil=>rfl
 | cons a r=>show Nat.beq (llen (cellsOf (h a))) es=true;rw[hh];simp
theorem hasEs_S (l:List Str):zKL 1 (l.map AV.str)=true:=zHI (h:=AV.str) (fun _=>rfl) l
theorem hasEs_I (l:List Int):zKL 1 (l.map iv)=true:=zHI (h:=iv) (fun _=>rfl) l
theorem hasEs_X (l:List X):zKL 11 (l.map encX)=true:=zHI (fun _=>by rw[zA2];rfl) l
theorem hasEs_V (l:List V):zKL 7 (l.map encV)=true:=zHI (fun _=>by rw[zA3];rfl) l
theorem zYH (l:List Pl.Def):zKL 14 (l.map zCO)=true:=zHI (h:=zCO) (fun _=>rfl) l
theorem zYS (l:List Str):zBK 1 (l.map AV.str)=true:=zF6 (fun _=>rfl) l
theorem zP3 (l:List Int):zBK 1 (l.map iv)=true:=zF6 (fun _=>rfl) l
theorem zHK (l:List X):zBK 11 (l.map encX)=true:=zF6 (fun a=>by rw[zA2];rfl) l
theorem fits_V (l:List V):zBK 7 (l.map encV)=true:=zF6 (fun a=>by rw[zA3];rfl) l
theorem sl_pre {α:Type}{h:α→AV}{l:List α}{es i:Nat}{s:Sto}(hi:i≤l.length):zIS es (.sl 0 (l.map h) .shut) none (some i) none s=bif zKL es (l.map h) then some (.sl 0 ((l.take i).map h) .shut,s) else none:=by
 simp only[zIS,zJQ,zDY,zOJ,zCK,Nat.zero_le,decide_true,hi,Bool.true_and,Bool.and_true,cond_true]
 cases zKL es (l.map h) with
 | false=>rfl
 | true=>
  simp only[cond_true]
  have e:zJP (l.map h) 0 i l.length=(l.take i).map h:=by
   unfold zJP
   rw[show Nat.beq 0 0=true from rfl,zSD,Bool.true_and]
   by_cases e:i=l.length
   ·rw[decide_eq_true e,e,List.take_length];rfl
   ·rw[decide_eq_false e];simp only[cond_false,zCA,zCZ,List.drop_zero,Nat.sub_zero,List.map_take]
  rw[e]
  cases Nat.beq i l.length<;>rfl
theorem limit_eq:limit=140737488355328:=rfl
theorem zGW {ty:TypeId}{es b m:Nat}{g:Nat→Box}{u:List (Nat×Nat)}{ys:List AV}(hf:zBK es ys=true)(hn:0<ys.length)(hb:ys.length*b≤140737488355328∧ys.length≤140737488355328)(ht:tops ys=0) :
  zAR ty es b (.sl 0 [] .nil) ys (S m g u)=some (.osl m 0 ys.length,S (m+1) (updB g m (.row ty es ys false)) u):=by
 cases ys with
 | nil=>simp at hn
 | cons a r=>
  simp only[zAR,hf,cond_true]
  rw[show zBK es []=true from rfl]
  simp only[cond_true,zHJ]
  rw[show lapp [] (a :: r)=a :: r from rfl,show llen ([]:List AV)=0 from rfl,zAH,limit_eq,zCK,zCK,decide_eq_true hb.1,decide_eq_true hb.2]
  simp only[Bool.and_self,cond_true,Nat.zero_add,S_n,zJ6]
  rw[zMO (by rw[ht];omega)]
theorem zTS {ty:TypeId}{es b m:Nat}{g:Nat→Box}{u:List (Nat×Nat)}{xs ys:List AV}{t:Nat}(hx:zBK es xs=true)(hf:zBK es ys=true)(hn:0<ys.length)(hb:(xs.length+ys.length)*b≤140737488355328∧xs.length+ys.length≤140737488355328)(ht:tops (xs++ys)=0) :
  zAR ty es b (.sl t xs .clip) ys (S m g u)=some (.osl m 0 (xs.length+ys.length),S (m+1) (updB g m (.row ty es (xs++ys) false)) u):=by
 cases ys with
 | nil=>simp at hn
 | cons a r=>
  simp only[zAR,hf,hx,cond_true,zHJ,zBP]
  rw[zAH,zAH,zAH,limit_eq,zCK,zCK,List.length_append,decide_eq_true hb.1,decide_eq_true hb.2]
  simp only[Bool.and_self,cond_true,S_n,zJ6]
  rw[zMO (by rw[ht];omega)]
theorem zSI {ty:TypeId}{es b m k n:Nat}{g:Nat→Box}{u:List (Nat×Nat)}{xs ys:List AV}(hk:k<m)(hg:g k=.row ty es xs false)(hn:0<ys.length)(hf:zBK es ys=true)(hl:n=xs.length)(hb:(xs.length+ys.length)*b≤140737488355328∧xs.length+ys.length≤140737488355328)(ht:tops (xs++ys)=0) :
  zAR ty es b (.osl k 0 n) ys (S m g u)=some (.osl m 0 (n+ys.length),S (m+1) (updB (updB g k .dead) m (.row ty es (xs++ys) false)) u):=by
 subst hl
 cases ys with
 | nil=>simp at hn
 | cons a r=>
  simp only[zAR,hf,cond_true,zHS,zEY hk,hg,Nat.beq_refl,Bool.true_and,zAH,Nat.zero_add,zCK,Nat.le_refl,decide_true]
  rw[decide_eq_false (by simp)]
  simp only[cond_false,Bool.and_self,cond_true,zHJ,zBP,zCA,List.take_length,zAH,limit_eq,zCK,List.length_append,decide_eq_true hb.1,decide_eq_true hb.2,zIP hk,S_n,zJ6]
  rw[zMO (by rw[ht];omega)]
theorem zFG {ty:TypeId}{es m k n:Nat}{g:Nat→Box}{u:List (Nat×Nat)}{xs:List AV}{sl:Bool}(hk:k<m)(hg:g k=.row ty es xs sl)(hl:n=xs.length)(ht:tops xs=0) :
  zBC (S m g u) (.osl k 0 n)=some (.sl 0 xs .shut,S m (updB g k (.row ty es xs true)) u):=by
 subst hl
 show seal1 (S m g u) (.osl k 0 xs.length)=_
 simp only[seal1,zEY hk,hg,Nat.zero_add,zAH,zCK,Nat.le_refl,decide_true,cond_true,zCA,zCZ,List.drop_zero,List.take_length,ht,zIP hk]
def zBA (sp:Pl.Spec)(d:Int)(sc:List Int):List AV:=zAC sp++[.int .i64 d,.sl 0 (sc.map iv) .shut]
def zF9 (sp:Pl.Spec)(d:Int)(sc:List Int):AV:=.agg (zBA sp d sc)
theorem llen_Pl (sp:Pl.Spec)(d:Int)(sc:List Int):llen (zBA sp d sc)=37:=(rfl)
theorem top_Pl (sp:Pl.Spec)(d:Int)(sc:List Int):top (zF9 sp d sc)=0:=(rfl)
theorem cells_Pl (sp:Pl.Spec)(d:Int)(sc:List Int):cellsOf (zF9 sp d sc)=zBA sp d sc:=(rfl)
theorem zWN (s:Sto)(sp:Pl.Spec)(d:Int)(sc:List Int):zBC s (zF9 sp d sc)=some (zF9 sp d sc,s):=(rfl)
theorem lrep_0 (v:AV):lrep v 0=[]:=(rfl)
theorem lrep_s (v:AV)(n:Nat):lrep v (n+1)=v :: lrep v n:=(rfl)
theorem lset_0 (v a:AV)(l:List AV):lset v (a :: l) 0=v :: l:=(rfl)
theorem lset_s (v a:AV)(l:List AV)(n:Nat):lset v (a :: l) (n+1)=a :: lset v l n:=(rfl)
theorem fits_nil (es:Nat):zBK es []=true:=(rfl)
theorem zYR (es:Nat)(x:AV)(r:List AV):zBK es (x :: r)=bif Nat.beq (llen (cellsOf x)) es&&flatC (cellsOf x) then zBK es r else false:=(rfl)
theorem u_neg {k:IntKind}{n:Int}{s:Sto}:oUn .neg (some (.int k n)) s=.val (.int k (wr k (0-n))) s:=(rfl)
attribute [go_sem] lrep_0 lrep_s lset_0 lset_s fits_nil zYR u_neg zCI zK9 zG0 zD6 eq_self
attribute [go_sem] llen_Pl top_Pl cells_Pl zWN
attribute [go_sem] hasEs_S hasEs_I hasEs_X hasEs_V zYH zYS zP3 zHK fits_V sl_pre zG2 zG1 zJ5 isIntD isSeqD zHQ
attribute [go_sem] Nat.reduceLT Nat.reduceLeDiff Nat.reduceEqDiff Nat.reduceAdd Nat.reduceSub Nat.reduceMul Int.reduceNeg Int.reduceLT Int.reduceLE Int.reduceEq Int.reduceAdd Int.reduceSub Int.reduceToNat
attribute [go_sem ↓] reduceIte
theorem zF3 {α:Type}{l:List α}{i:Nat}(h:i<l.length):l[i]?=some l[i]∧l[i]∈l∧decide ((i:Int)<l.length)=true:=⟨List.getElem?_eq_getElem h,List.getElem_mem h,by simpa using h⟩
theorem zDN {α:Type}{l:List α}{i:Nat}(h:l.length≤i):decide ((i:Int)<l.length)=false:=by simpa using h
theorem zAX {Q:CR→Sto→Prop}{s:Sto}{a b:Bool}(h:Q (.ret (.bool a)) s)(e:a=b):Q (.ret (.bool b)) s:=e ▸ h
theorem zFS {Q:CR→Sto→Prop}{s:Sto}{a b:Int}(h:Q (.ret (.int .i64 a)) s)(e:a=b):Q (.ret (.int .i64 b)) s:=e ▸ h
theorem nbw:(∀b:Bool,((!b)=true)=(b=false))∧(∀a b:Bool,((a&&b)=true)=(a=true∧b=true))∧∀b:Bool,((!b)=false)=(b=true):=
 ⟨fun b=>by simp,fun a b=>by simp,fun b=>by simp⟩
theorem nbs:(∀b:Bool,((!b)=true)=(b=false))∧(∀a b:Bool,((a&&b)=true)=(a=true∧b=true))∧(∀a b:Bool,((a||b)=false)=(a=false∧b=false))∧(∀(p:Prop) [Decidable p],(decide p=true)=p)∧
  (∀(p:Prop) [Decidable p],(decide p=false)=¬p)∧∀b:Bool,((!b)=false)=(b=true):=
 ⟨fun b=>by simp,fun a b=>by simp,fun a b=>by simp,fun p _=>by simp,fun p _=>by simp,fun b=>by simp⟩
end Go.Ab
namespace Go.Ab
open Go
section
variable {E:Env}{f:FuncId}{rnd:Option Nat}{fr:Fr}{s:Sto}{Q:Out→Fr→Sto→Prop}{b0:Bool}{v:AV}{k:Rest}{d:Tmp}{op:Op}
theorem zkW {w:Nat}(h2:RW E f k (fr.put (some d) (mg b0 v)) s Q)(h1:(w=0∧(b0=true→opA E f fr op s=.val v s))∨(w=1∧(b0=true→opQ E f fr op s=some v)):=by
  first
  | (refine Or.inl ⟨rfl,fun hs=>?_⟩;(try simp only[nbs] at hs);simp (disch:=first|assumption|omega) only[go_sem, *];rfl)
  | (refine Or.inr ⟨rfl,fun hs=>?_⟩;(try simp only[nbs] at hs);simp (disch:=first|assumption|omega) only[go_sem, *];rfl)):GW E f w k (some d) op fr s Q b0:=by
 rcases h1 with⟨rfl,h⟩|⟨rfl,h⟩
 ·exact gw_m h h2
 ·exact gw_q h h2
theorem zkV {w:Nat}(h2:RW E f k (fr.put (some d) (mg b0 v)) s Q)(h1:(w=0∧(b0=true→opA E f fr op s=.val v s))∨(w=1∧(b0=true→opQ E f fr op s=some v)):=by
  first
  | (refine Or.inl ⟨rfl,fun hb=>?_⟩;(try simp only[nbw] at hb);simp (disch:=first|assumption|omega) only[go_sem, *];rfl)
  | (refine Or.inr ⟨rfl,fun hb=>?_⟩;(try simp only[nbw] at hb);simp (disch:=first|assumption|omega) only[go_sem, *];rfl)):GW E f w k (some d) op fr s Q b0:=zkW h2 h1
theorem wk {P P':Prop}(h:P')(e:P'→P:=by
  first
  | (apply Eq.mpr;simp (disch:=first|assumption|omega) only[go_sem, *];first|done|rfl)
  | exact fun h=>zkW h):P:=e h
theorem wkW {P P':Prop}(h:P')(e:P'→P:=by
  first
  | (apply Eq.mpr;simp (disch:=first|assumption|omega) only[go_sem, *];first|done|rfl)
  | exact fun h=>zkV h):P:=e h
theorem zkC {a b:Code}{A B:Prop}(h1:A→WP E f rnd a fr s Q)(h2:B→WP E f rnd b fr s Q)(hA:b0=true→A)(hB:b0=false→B):CW E f rnd a b fr s Q (some (.bool b0)):=sp_C (fun h=>h1 (hA h)) fun h=>h2 (hB h)
theorem zkG {w:Nat}{d:Option Tmp}{A B:Prop}(h1:A→GW E f w k d op fr s Q true)(h2:B→GW E f w k d op fr s Q false)(hA:b0=true→A)(hB:b0=false→B):GW E f w k d op fr s Q b0:=sp_G (fun h=>h1 (hA h)) fun h=>h2 (hB h)
theorem fk {P A B X Y A' B':Prop}(h1:A→X)(h2:B→Y)(e:(A→X)→(B→Y)→(A'→A)→(B'→B)→P:=by first|exact fun a b c d=>zkC a b c d|exact fun a b c d=>zkG a b c d)
  (hA:A'→A:=by first|(intro h;(try simp only[nbs] at h);exact h)|exact id) (hB:B'→B:=by first|(intro h;(try simp only[nbs] at h);exact h)|exact id):P:=e h1 h2 hA hB
theorem fkW {P A B X Y A' B':Prop}(h1:A→X)(h2:B→Y)(e:(A→X)→(B→Y)→(A'→A)→(B'→B)→P:=by first|exact fun a b c d=>zkC a b c d|exact fun a b c d=>zkG a b c d)
  (hA:A'→A:=by first|(intro h;(try simp only[Bool.not_eq_true',Bool.not_eq_false'] at h);exact h)|exact id) (hB:B'→B:=by first|(intro h;(try simp only[Bool.not_eq_true',Bool.not_eq_false'] at h);exact h)|exact id):P:=e h1 h2 hA hB
theorem ci {args args1:List AV}{s1:Sto}{Qc:CR→Sto→Prop}{body:Code}(fn:Func)(n:Nat)(rs:List ResultVar)(h:WP E f none body (Fl n (argL 0 args1) ub) (S 0 g0 []) (FD E rs ⟨true,false,false,false⟩ 0 s1 Qc))(hi:E.intr f args=none:=by exact rfl)(hns:insM E f args s none=none:=by exact rfl)(hfn:E.funcs f=some fn:=by exact rfl)(hb:fn.body=some body:=by exact rfl)
  (hmd:E.mode f=⟨true,false,false,false⟩:=by exact rfl) (hn:fn.ntmps=n:=by exact rfl) (hr:fn.results.toList=rs:=by exact rfl) (ha:zBO s args=some (args1,s1):=by simp only[go_sem, *];try rfl) (hl:Nat.ble args1.length n=true:=by rfl) (ht:tops args1=0:=by simp only[go_sem]):C E f args s Qc:=
 call_iso hi hns hfn hb hmd rfl hn hr ha hl ht h
theorem cn {args args1:List AV}{m:Nat}{g:Nat→Box}{u:List (Nat×Nat)}{Qc:CR→Sto→Prop}{body:Code}(md:Mode)(fn:Func)(n:Nat)(rs:List ResultVar)(h:WP E f none body (Fl n (argL 0 args1) ub) (S m g u) (FD E rs md m (S m g u) Qc))(hi:E.intr f args=none:=by exact rfl)(hns:insM E f args s none=none:=by exact rfl)(hfn:E.funcs f=some fn:=by exact rfl)(hb:fn.body=some body:=by exact rfl)
  (hmd:E.mode f=md:=by exact rfl) (hm:md.iso=false:=by rfl) (hn:fn.ntmps=n:=by exact rfl) (hr:fn.results.toList=rs:=by exact rfl) (ha:(bif md.rawArgs then some (args,s) else zBO s args)=some (args1,S m g u):=by simp only[go_sem, *];try rfl) (hl:Nat.ble args1.length n=true:=by rfl):C E f args s Qc:=
 call_not hi hns hfn hb hmd hm hn hr ha hl h
end
end Go.Ab
namespace Pl
structure Las where
 st:List (List V)
 back:Int
end Pl
namespace Go.Ab
open Go Pl
def zD8 (s:List V):AV:=.sl 0 (s.map encV) .shut
def zC1 (a:Las):List AV:=[.sl 0 (a.st.map zD8) .shut,.int .i64 a.back]
def zC8 (a:Las):AV:=.agg (zC1 a)
theorem top_St (s:List V):top (zD8 s)=0:=rfl
theorem cells_St (s:List V):cellsOf (zD8 s)=[zD8 s]:=rfl
theorem flat_St (s:List V):flatC [zD8 s]=true:=rfl
theorem flat1_St (s:List V):flat1 (zD8 s)=true:=rfl
theorem seal1_St (s:List V)(g:Sto):seal1 g (zD8 s)=some (zD8 s,g):=rfl
theorem sealV_St (s:List V)(g:Sto):zBC g (zD8 s)=some (zD8 s,g):=rfl
theorem shut_St (s:List V):shutV (zD8 s)=zD8 s:=rfl
theorem noOsl_St (s:List V):noOsl (zD8 s)=true:=rfl
attribute [go_sem] top_St cells_St flat_St flat1_St seal1_St sealV_St shut_St noOsl_St
end Go.Ab
end
