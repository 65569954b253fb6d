/- A part. -/
import Derived.Test.YtoolminfelljcaaGreatDoorF8
set_option linter.all false
noncomputable section
namespace Go.Ab
open Go
def W (E:Env)(f:FuncId)(rnd:Option Nat)(c:Code)(fr:Fr)(s:Sto)(Q:Out→Fr→Sto→Prop):Prop:=∃n o fr' s',(iter E n).exec f rnd c fr s=some (o,fr',s')∧Q o fr' s'
def C (E:Env)(f:FuncId)(args:List AV)(s:Sto)(Q:CR→Sto→Prop):Prop:=∃n cr b s',(iter E n).call f args none s=some (cr,b,s')∧Q cr s'
def L (E:Env)(f:FuncId)(ops l:List Oper)(fr:Fr)(s:Sto)(Q:Out→Fr→Sto→Prop):Prop:=∃n o fr' s',runL (iter E n) E f ops l fr s=some (o,fr',s')∧Q o fr' s'
def LP (E:Env)(f:FuncId)(ops:List Oper)(l:List PStep)(fr:Fr)(s:Sto)(Q:Out→Fr→Sto→Prop):Prop:=∃n o fr' s',runP (iter E n) E f ops l fr s=some (o,fr',s')∧Q o fr' s'
def R (E:Env)(l:Nat)(args:List AV)(s:Sto)(Q:CR→Sto→Prop):Prop:=∃n cr s',zE3 (iter E n) l args s=some (cr,s')∧Q cr s'
def CV (E:Env)(fv:AV)(args:List AV)(s:Sto)(Q:CR→Sto→Prop):Prop:=
 match zJQ fv args s with
 | .call f as s=>C E f as s Q
 | .round l as s=>R E l as s Q
 | _=>False
def zGU (K:Fr→Sto→Prop)(Q:Out→Fr→Sto→Prop):Out→Fr→Sto→Prop
 | .normal,fr,s=>K fr s
 | o,fr,s=>Q o fr s
def zD5 (id:Nat)(Q:Out→Fr→Sto→Prop):Out→Fr→Sto→Prop
 | .exit id',fr,s=>if id'=id then Q .normal fr s else Q (.exit id') fr s
 | o,fr,s=>Q o fr s
def zPC (Q:Out→Fr→Sto→Prop):Out→Fr→Sto→Prop
 | .panic v,fr,s=>allMarks fr.defers=true∧Q (.panic v) fr s
 | o,fr,s=>Q o fr s
def RK (K:AV→Sto→Prop)(P:AV→Sto→Prop):CR→Sto→Prop
 | .ret v,s=>K v s
 | .panic v,s=>P v s
section
variable {E:Env}{f:FuncId}{rnd:Option Nat}{fr:Fr}{s:Sto}{Q:Out→Fr→Sto→Prop}
theorem exec_succ {n:Nat}{rnd:Option Nat}{c:Code}:(iter E (n+1)).exec f rnd c fr s=zCG (iter E n) E f rnd c fr s:=rfl
theorem zLC {n:Nat}{args:List AV}{m:Option (Option AV)}:(iter E (n+1)).call f args m s=zGW (iter E n) E f args m s:=rfl
theorem zNH {c:Code}{n:Nat}{x:Out×Fr×Sto}(h:(iter E n).exec f rnd c fr s=some x){m:Nat}(hm:n≤m):(iter E m).exec f rnd c fr s=some x:=
 (zKX hm).exec _ _ _ _ _ _ h
theorem zWM {ops l:List Oper}{n:Nat}{x:Out×Fr×Sto}(h:runL (iter E n) E f ops l fr s=some x){m:Nat}(hm:n≤m):runL (iter E m) E f ops l fr s=some x:=zWN (zKX hm) l fr s x h
theorem zWK {ops:List Oper}{l:List PStep}{n:Nat}{x:Out×Fr×Sto}(h:runP (iter E n) E f ops l fr s=some x){m:Nat}(hm:n≤m):runP (iter E m) E f ops l fr s=some x:=zWL (zKX hm) l fr s x h
theorem zZD {g:FuncId}{args:List AV}{m0:Option (Option AV)}{n:Nat}{x:CR×Bool×Sto}(h:(iter E n).call g args m0 s=some x){m:Nat}(hm:n≤m):(iter E m).call g args m0 s=some x:=(zKX hm).call _ _ _ _ x h
theorem zSC {l:Nat}{args:List AV}{n:Nat}{x:CR×Sto}(h:zE3 (iter E n) l args s=some x){m:Nat}(hm:n≤m):zE3 (iter E m) l args s=some x:=zMK (zKX hm) l args s x h
theorem W_mk {c:Code}{n:Nat}{o:Out}{fr':Fr}{s':Sto}(h:zCG (iter E n) E f rnd c fr s=some (o,fr',s'))(hq:Q o fr' s'):W E f rnd c fr s Q:=⟨n+1,o,fr',s',h,hq⟩
theorem w_seq {a b:Code}(h:W E f rnd a fr s (zGU (fun fr s=>W E f rnd b fr s Q) Q)):W E f rnd (.seq a b) fr s Q:=by
 obtain⟨n,o,fr',s',h1,h2⟩:=h
 cases o with
 | normal=>
  obtain⟨m,o2,fr2,s2,h3,h4⟩:=h2
  refine W_mk (n:=n+m) ?_ h4
  simp only[zCG,zJO,zNH h1 (Nat.le_add_right n m),zNH h3 (Nat.le_add_left m n)]
 | _=>exact W_mk (n:=n) (by simp only[zCG,zJO,h1]) h2
theorem w_loop {b:Code}(h:W E f rnd b fr s (zGU (fun fr s=>W E f rnd (.loop b) fr s Q) Q)):W E f rnd (.loop b) fr s Q:=by
 obtain⟨n,o,fr',s',h1,h2⟩:=h
 cases o with
 | normal=>
  obtain⟨m,o2,fr2,s2,h3,h4⟩:=h2
  refine W_mk (n:=n+m) ?_ h4
  simp only[zCG,zJO,zNH h1 (Nat.le_add_right n m),zNH h3 (Nat.le_add_left m n)]
 | _=>exact W_mk (n:=n) (by simp only[zCG,zJO,h1]) h2
theorem w_skip (h:Q .normal fr s):W E f rnd .skip fr s Q:=W_mk (n:=0) rfl h
theorem w_label {l:Nat}(h:Q .normal fr s):W E f rnd (.label l) fr s Q:=W_mk (n:=0) rfl h
theorem w_ret (h:Q .ret fr s):W E f rnd .ret fr s Q:=W_mk (n:=0) rfl h
theorem w_exit {id:Nat}(h:Q (.exit id) fr s):W E f rnd (.exit id) fr s Q:=W_mk (n:=0) rfl h
theorem w_block {id:Nat}{b:Code}(h:W E f rnd b fr s (zD5 id Q)):W E f rnd (.block id b) fr s Q:=by
 obtain⟨n,o,fr',s',h1,h2⟩:=h
 cases o with
 | exit id'=>
  simp only[zD5] at h2
  by_cases e:id'=id
  ·subst e
   rw[if_pos rfl] at h2
   exact W_mk (n:=n) (by simp only[zCG,zPK,h1,Nat.beq_refl,cond_true]) h2
  ·rw[if_neg e] at h2
   have:Nat.beq id' id=false:=by
    cases hb:Nat.beq id' id with
    | false=>rfl
    | true=>exact absurd (Nat.eq_of_beq_eq_true hb) e
   exact W_mk (n:=n) (by simp only[zCG,zPK,h1,this,cond_false]) h2
 | _=>exact W_mk (n:=n) (by simp only[zCG,zPK,h1]) h2
theorem w_scope {b:Code}(h:W E f rnd b fr s Q):W E f rnd (.scope b) fr s Q:=by
 obtain⟨n,o,fr',s',h1,h2⟩:=h
 exact W_mk (n:=n) (by simp only[zCG];exact h1) h2
theorem w_true {c:Operand}{a b:Code}(hc:zAI fr c=some (.bool true))(h:W E f rnd a fr s Q):W E f rnd (.cond c a b) fr s Q:=by
 obtain⟨n,o,fr',s',h1,h2⟩:=h
 exact W_mk (n:=n) (by simp only[zCG,zY1,hc];exact h1) h2
theorem zVB {c:Operand}{a b:Code}(hc:zAI fr c=some (.bool false))(h:W E f rnd b fr s Q):W E f rnd (.cond c a b) fr s Q:=by
 obtain⟨n,o,fr',s',h1,h2⟩:=h
 exact W_mk (n:=n) (by simp only[zCG,zY1,hc];exact h1) h2
theorem w_cond {c:Operand}{a b:Code}{t:Bool}(hc:zAI fr c=some (.bool t))(h1:t=true→W E f rnd a fr s Q)(h2:t=false→W E f rnd b fr s Q):W E f rnd (.cond c a b) fr s Q:=by
 cases t with
 | true=>exact w_true hc (h1 rfl)
 | false=>exact zVB hc (h2 rfl)
theorem w_region {id:Nat}{ops:Array Oper}(h:L E f ops.toList ops.toList fr s Q):W E f rnd (.region id ops false) fr s Q:=by
 obtain⟨n,o,fr',s',h1,h2⟩:=h
 exact W_mk (n:=n) (by simp only[zCG,zCO,cond_false];exact h1) h2
theorem w_draw {id:Nat}{ops:Array Oper}(h:LP E f ops.toList (E.plan f id) fr s (zPC Q)):W E f rnd (.region id ops true) fr s Q:=by
 obtain⟨n,o,fr',s',h1,h2⟩:=h
 cases o with
 | panic v=>exact W_mk (n:=n) (by simp only[zCG,zCO,cond_true,h1,zK8,h2.1]) h2.2
 | _=>exact W_mk (n:=n) (by simp only[zCG,zCO,cond_true,h1,zK8]) h2
theorem l_nil {ops:List Oper}(h:Q .normal fr s):L E f ops [] fr s Q:=⟨0,_,_,_,rfl,h⟩
theorem lp_nil {ops:List Oper}(h:Q .normal fr s):LP E f ops [] fr s Q:=⟨0,_,_,_,rfl,h⟩
theorem q_thenN {K:Fr→Sto→Prop}(h:K fr s):zGU K Q .normal fr s:=h
theorem q_thenR {K:Fr→Sto→Prop}(h:Q .ret fr s):zGU K Q .ret fr s:=h
theorem q_thenE {K:Fr→Sto→Prop}{id:Nat}(h:Q (.exit id) fr s):zGU K Q (.exit id) fr s:=h
theorem q_thenP {K:Fr→Sto→Prop}{v:AV}(h:Q (.panic v) fr s):zGU K Q (.panic v) fr s:=h
theorem q_blockN {id:Nat}(h:Q .normal fr s):zD5 id Q .normal fr s:=h
theorem q_blockR {id:Nat}(h:Q .ret fr s):zD5 id Q .ret fr s:=h
theorem q_blockP {id:Nat}{v:AV}(h:Q (.panic v) fr s):zD5 id Q (.panic v) fr s:=h
theorem q_blockE {id:Nat}(h:Q .normal fr s):zD5 id Q (.exit id) fr s:=by simp only[zD5,if_true];exact h
theorem q_blockE' {id id':Nat}(hne:id'≠id)(h:Q (.exit id') fr s):zD5 id Q (.exit id') fr s:=by simp only[zD5,if_neg hne];exact h
theorem q_drawN (h:Q .normal fr s):zPC Q .normal fr s:=h
theorem q_drawP {v:AV}(hm:allMarks fr.defers=true)(h:Q (.panic v) fr s):zPC Q (.panic v) fr s:=⟨hm,h⟩
theorem q_rk {K P:AV→Sto→Prop}{v:AV}(h:K v s):RK K P (.ret v) s:=h
theorem q_rp {K P:AV→Sto→Prop}{v:AV}(h:P v s):RK K P (.panic v) s:=h
theorem l_val {ops r:List Oper}{o:Oper}{v:AV}{s1:Sto}(hg:zAO ops fr o.guard=true)(hn:opA E f fr o.op s=.val v s1)(h:L E f ops r (fr.put o.dst v) s1 Q):L E f ops (o :: r) fr s Q:=by
 obtain⟨n,o2,fr',s',h1,h2⟩:=h
 exact⟨n,o2,fr',s',by simp only[runL,hg,cond_true,hn,zBH];exact h1,h2⟩
theorem l_skip {ops r:List Oper}{o:Oper}(hg:zAO ops fr o.guard=false)(h:L E f ops r (fr.put o.dst undef) s Q):L E f ops (o :: r) fr s Q:=by
 obtain⟨n,o2,fr',s',h1,h2⟩:=h
 exact⟨n,o2,fr',s',by simp only[runL,hg,cond_false];exact h1,h2⟩
theorem l_panic {ops r:List Oper}{o:Oper}{v:AV}{s1:Sto}(hg:zAO ops fr o.guard=true)(hn:opA E f fr o.op s=.panic v s1)(h:Q (.panic v) fr s1):L E f ops (o :: r) fr s Q:=
 ⟨0,.panic v,fr,s1,by simp only[runL,hg,cond_true,hn,zBH],h⟩
theorem l_call {ops r:List Oper}{o:Oper}{g:FuncId}{args:List AV}{s1:Sto}(hg:zAO ops fr o.guard=true)(hn:opA E f fr o.op s=.call g args s1)
  (h:C E g args s1 (RK (fun v s=>L E f ops r (fr.put o.dst v) s Q) (fun v s=>Q (.panic v) fr s))):L E f ops (o :: r) fr s Q:=by
 obtain⟨n,cr,b,s2,h1,h2⟩:=h
 cases cr with
 | ret v=>
  obtain⟨m,o2,fr',s',h3,h4⟩:=h2
  refine⟨n+m,o2,fr',s',?_,h4⟩
  simp only[runL,hg,cond_true,hn,zBH,zZD h1 (Nat.le_add_right n m),zWM h3 (Nat.le_add_left m n)]
 | panic v=>exact⟨n,.panic v,fr,s2,by simp only[runL,hg,cond_true,hn,zBH,h1],h2⟩
theorem l_round {ops r:List Oper}{o:Oper}{l:Nat}{args:List AV}{s1:Sto}(hg:zAO ops fr o.guard=true)(hn:opA E f fr o.op s=.round l args s1)
  (h:R E l args s1 (RK (fun v s=>L E f ops r (fr.put o.dst v) s Q) (fun v s=>Q (.panic v) fr s))):L E f ops (o :: r) fr s Q:=by
 obtain⟨n,cr,s2,h1,h2⟩:=h
 cases cr with
 | ret v=>
  obtain⟨m,o2,fr',s',h3,h4⟩:=h2
  refine⟨n+m,o2,fr',s',?_,h4⟩
  simp only[runL,hg,cond_true,hn,zBH,zSC h1 (Nat.le_add_right n m),zWM h3 (Nat.le_add_left m n)]
 | panic v=>exact⟨n,.panic v,fr,s2,by simp only[runL,hg,cond_true,hn,zBH,h1],h2⟩
theorem lp_val {ops:List Oper}{r:List PStep}{i:Nat}{o:Oper}{v:AV}{s1:Sto}(hi:zBW ops i=some o)(hg:zAO ops fr o.guard=true)(hn:opA E f fr o.op s=.val v s1)(h:LP E f ops r (fr.put o.dst v) s1 Q):LP E f ops (.l i :: r) fr s Q:=by
 obtain⟨n,o2,fr',s',h1,h2⟩:=h
 exact⟨n,o2,fr',s',by simp only[runP,hi,hg,cond_true,hn,zBH];exact h1,h2⟩
theorem lp_skip {ops:List Oper}{r:List PStep}{i:Nat}{o:Oper}(hi:zBW ops i=some o)(hg:zAO ops fr o.guard=false)(h:LP E f ops r (fr.put o.dst undef) s Q):LP E f ops (.l i :: r) fr s Q:=by
 obtain⟨n,o2,fr',s',h1,h2⟩:=h
 exact⟨n,o2,fr',s',by simp only[runP,hi,hg,cond_false];exact h1,h2⟩
theorem lp_panic {ops:List Oper}{r:List PStep}{i:Nat}{o:Oper}{v:AV}{s1:Sto}(hi:zBW ops i=some o)(hg:zAO ops fr o.guard=true)(hn:opA E f fr o.op s=.panic v s1)(h:Q (.panic v) fr s1):LP E f ops (.l i :: r) fr s Q:=
 ⟨0,.panic v,fr,s1,by simp only[runP,hi,hg,cond_true,hn,zBH],h⟩
theorem lp_call {ops:List Oper}{r:List PStep}{i:Nat}{o:Oper}{g:FuncId}{args:List AV}{s1:Sto}(hi:zBW ops i=some o)(hg:zAO ops fr o.guard=true)(hn:opA E f fr o.op s=.call g args s1)
  (h:C E g args s1 (RK (fun v s=>LP E f ops r (fr.put o.dst v) s Q) (fun v s=>Q (.panic v) fr s))):LP E f ops (.l i :: r) fr s Q:=by
 obtain⟨n,cr,b,s2,h1,h2⟩:=h
 cases cr with
 | ret v=>
  obtain⟨m,o2,fr',s',h3,h4⟩:=h2
  refine⟨n+m,o2,fr',s',?_,h4⟩
  simp only[runP,hi,hg,cond_true,hn,zBH,zZD h1 (Nat.le_add_right n m),zWK h3 (Nat.le_add_left m n)]
 | panic v=>exact⟨n,.panic v,fr,s2,by simp only[runP,hi,hg,cond_true,hn,zBH,h1],h2⟩
theorem lp_round {ops:List Oper}{r:List PStep}{i:Nat}{o:Oper}{l:Nat}{args:List AV}{s1:Sto}(hi:zBW ops i=some o)(hg:zAO ops fr o.guard=true)(hn:opA E f fr o.op s=.round l args s1)
  (h:R E l args s1 (RK (fun v s=>LP E f ops r (fr.put o.dst v) s Q) (fun v s=>Q (.panic v) fr s))):LP E f ops (.l i :: r) fr s Q:=by
 obtain⟨n,cr,s2,h1,h2⟩:=h
 cases cr with
 | ret v=>
  obtain⟨m,o2,fr',s',h3,h4⟩:=h2
  refine⟨n+m,o2,fr',s',?_,h4⟩
  simp only[runP,hi,hg,cond_true,hn,zBH,zSC h1 (Nat.le_add_right n m),zWK h3 (Nat.le_add_left m n)]
 | panic v=>exact⟨n,.panic v,fr,s2,by simp only[runP,hi,hg,cond_true,hn,zBH,h1],h2⟩
theorem lp_q {ops:List Oper}{r:List PStep}{i:Nat}{o:Oper}{v:AV}(hi:zBW ops i=some o)(hg:zAO ops fr o.guard=true)(hn:opQ E f fr o.op s=some v)(h:LP E f ops r (fr.put o.dst v) s Q):LP E f ops (.q i :: r) fr s Q:=by
 obtain⟨n,o2,fr',s',h1,h2⟩:=h
 exact⟨n,o2,fr',s',by simp only[runP,hi,hg,cond_true,hn];exact h1,h2⟩
theorem lp_qskip {ops:List Oper}{r:List PStep}{i:Nat}{o:Oper}(hi:zBW ops i=some o)(hg:zAO ops fr o.guard=false)(h:LP E f ops r (fr.put o.dst undef) s Q):LP E f ops (.q i :: r) fr s Q:=by
 obtain⟨n,o2,fr',s',h1,h2⟩:=h
 exact⟨n,o2,fr',s',by simp only[runP,hi,hg,cond_false];exact h1,h2⟩
theorem lp_c {ops:List Oper}{r:List PStep}{i:Nat}{o:Oper}{d:Tmp}{v:AV}(hi:zBW ops i=some o)(hg:zAO ops fr o.guard=true)(hd:o.dst=some d)(hn:opQ E f fr o.op s=some v)(hv:beqV v (lget fr.tmps d)=true)(h:LP E f ops r fr s Q):LP E f ops (.chk i :: r) fr s Q:=by
 obtain⟨n,o2,fr',s',h1,h2⟩:=h
 exact⟨n,o2,fr',s',by simp only[runP,hi,hg,cond_true,hd,hn,hv];exact h1,h2⟩
theorem lp_cskip {ops:List Oper}{r:List PStep}{i:Nat}{o:Oper}(hi:zBW ops i=some o)(hg:zAO ops fr o.guard=false)(h:LP E f ops r fr s Q):LP E f ops (.chk i :: r) fr s Q:=by
 obtain⟨n,o2,fr',s',h1,h2⟩:=h
 exact⟨n,o2,fr',s',by simp only[runP,hi,hg,cond_false];exact h1,h2⟩
theorem lp_apart {ops:List Oper}{r:List PStep}{i j:Nat}(ha:zPS ops fr i j=true)(h:LP E f ops r fr s Q):LP E f ops (.apart i j :: r) fr s Q:=by
 obtain⟨n,o2,fr',s',h1,h2⟩:=h
 exact⟨n,o2,fr',s',by simp only[runP,ha,cond_true];exact h1,h2⟩
end
def finQ (E:Env)(fn:Func)(md:Mode)(base:Nat)(s0:Sto)(Q:CR→Sto→Prop):Out→Fr→Sto→Prop
 | .normal,fr,s=>fr.defers=[]∧∃v s1 s2,result0 E fn md fr s=some (v,s1)∧zJJ md.iso v false base s0 s1=some (.ret v,false,s2)∧Q (.ret v) s2
 | .ret,fr,s=>fr.defers=[]∧∃v s1 s2,result0 E fn md fr s=some (v,s1)∧zJJ md.iso v false base s0 s1=some (.ret v,false,s2)∧Q (.ret v) s2
 | .panic v,fr,s=>fr.defers=[]∧∃s2,zMB md.iso v false base s0 s=some (.panic v,false,s2)∧Q (.panic v) s2
 | _,_,_=>False
theorem zYL {E:Env}{fn:Func}{md:Mode}{base:Nat}{s0 s':Sto}{Q:CR→Sto→Prop}{o:Out}{fr':Fr}(h:finQ E fn md base s0 Q o fr' s')(n:Nat) :
  ∃cr s2,behind (iter E n) E fn md none base s0 (some (o,fr',s'))=some (cr,false,s2)∧Q cr s2:=by
 cases o with
 | normal=>
  obtain⟨h1,v,s1,s2,h2,h3,h4⟩:=h
  refine⟨.ret v,s2,?_,h4⟩
  simp only[behind,modeOut,h1,zB0,leave,h2,Option.isSome,Bool.false_and,h3]
 | ret=>
  obtain⟨h1,v,s1,s2,h2,h3,h4⟩:=h
  refine⟨.ret v,s2,?_,h4⟩
  simp only[behind,modeOut,h1,zB0,leave,h2,Option.isSome,Bool.false_and,h3]
 | panic v=>
  obtain⟨h1,s2,h3,h4⟩:=h
  refine⟨.panic v,s2,?_,h4⟩
  simp only[behind,modeOut,h1,zB0,leave,Option.isSome,Bool.false_and,h3]
 | _=>cases h
def zPH (fn:Func)(args:List AV):Fr:=⟨lapp args (lrep undef (fn.ntmps-llen args)),[],none⟩
theorem C_call {E:Env}{f:FuncId}{fn:Func}{body:Code}{args args1:List AV}{s s1:Sto}{md:Mode}{Q:CR→Sto→Prop}(hi:E.intr f args=none)(hns:insM E f args s none=none)(hfn:E.funcs f=some fn)(hb:fn.body=some body)(hmd:E.mode f=md)
  (hm:md.iso=false) (ha:(bif md.rawArgs then some (args,s) else zBJ s args)=some (args1,s1)) (h:W E f none body (zPH fn args1) s1 (finQ E fn md s1.n s1 Q)):C E f args s Q:=by
 subst hmd
 obtain⟨n,o,fr',s',h1,h2⟩:=h
 obtain⟨cr,s2,h3,h4⟩:=zYL h2 n
 refine⟨n+1,cr,false,s2,?_,h4⟩
 rw[zLC]
 unfold zGW zJP
 simp only[hi,hns,hfn,hb]
 have he:enter (iter E n) E f fn body (E.mode f) args1 none s1=some (cr,false,s2):=by
  unfold enter
  simp only[hm,cond_false]
  rw[show(iter E n).exec f none body ⟨lapp args1 (lrep undef (fn.ntmps-llen args1)),[],none⟩ s1=some (o,fr',s') from h1]
  exact h3
 cases hr:(E.mode f).rawArgs with
 | true=>rw[hr] at ha;cases ha;simp only[cond_true,mJoin];exact he
 | false=>rw[hr] at ha;simp only[cond_false] at ha ⊢;rw[ha];exact he
theorem C_iso {E:Env}{f:FuncId}{fn:Func}{body:Code}{args args1:List AV}{s s1:Sto}{md:Mode}{Q:CR→Sto→Prop}(hi:E.intr f args=none)(hns:insM E f args s none=none)(hfn:E.funcs f=some fn)(hb:fn.body=some body)(hmd:E.mode f=md)
  (hm:md.iso=true) (ha:(bif md.rawArgs then some (args,s) else zBJ s args)=some (args1,s1)) (ht:tops args1=0) (h:W E f none body (zPH fn args1) .empty (finQ E fn md 0 s1 Q)):C E f args s Q:=by
 subst hmd
 obtain⟨n,o,fr',s',h1,h2⟩:=h
 obtain⟨cr,s2,h3,h4⟩:=zYL h2 n
 refine⟨n+1,cr,false,s2,?_,h4⟩
 rw[zLC]
 unfold zGW zJP
 simp only[hi,hns,hfn,hb]
 have he:enter (iter E n) E f fn body (E.mode f) args1 none s1=some (cr,false,s2):=by
  unfold enter
  simp only[hm,cond_true,ht,Nat.beq_refl]
  rw[show(iter E n).exec f none body ⟨lapp args1 (lrep undef (fn.ntmps-llen args1)),[],none⟩ .empty=some (o,fr',s') from h1]
  exact h3
 cases hr:(E.mode f).rawArgs with
 | true=>rw[hr] at ha;cases ha;simp only[cond_true,mJoin];exact he
 | false=>rw[hr] at ha;simp only[cond_false] at ha ⊢;rw[ha];exact he
def F (n:Nat)(env:Nat→AV):Fr:=⟨(List.range n).map env,[],none⟩
def upd (env:Nat→AV)(d:Nat)(v:AV)(j:Nat):AV:=if j=d then v else env j
def argE:List AV→Nat→AV
 | [],_=>Ab.undef
 | a :: _,0=>a
 | _ :: r,n+1=>argE r n
theorem argE_eq:∀(l:List AV) (t:Nat),argE l t=l.getD t Ab.undef
 | [],_=>by simp[argE]
 | _ :: _,0=>rfl
 | _ :: r,n+1=>by simp[argE,argE_eq r n]
theorem F_get {n t:Nat}{env:Nat→AV}(h:t<n):lget (F n env).tmps t=env t:=by
 rw[zB5,List.getD_eq_getElem?_getD]
 unfold F
 simp only[List.getElem?_map]
 rw[List.getElem?_range h];rfl
theorem F_put {n d:Nat}{env:Nat→AV}{v:AV}:(F n env).put (some d) v=F n (upd env d v):=by
 show(⟨lset v ((List.range n).map env) d,[],none⟩:Fr)=_
 unfold F
 congr 1
 rw[zEI]
 apply List.ext_getElem?
 intro i
 rw[List.getElem?_set]
 simp only[List.getElem?_map,List.length_map,List.length_range]
 by_cases hi:i<n
 ·rw[List.getElem?_range hi]
  by_cases e:d=i
  ·subst e;rw[if_pos rfl,if_pos hi];simp[upd]
  ·rw[if_neg e];simp only[upd,Option.map_some];rw[if_neg (fun e2=>e e2.symm)]
 ·rw[List.getElem?_eq_none (by simp;omega)]
  by_cases e:d=i
  ·subst e;rw[if_pos rfl,if_neg hi];rfl
  ·rw[if_neg e];rfl
theorem F_ext {n:Nat}{env env':Nat→AV}(h:∀t,t<n→env t=env' t):F n env=F n env':=by
 unfold F
 congr 1
 exact List.map_congr_left fun t ht=>h t (List.mem_range.1 ht)
theorem callFr_F {fn:Func}{args:List AV}{n:Nat}(hn:fn.ntmps=n)(h:args.length≤n):zPH fn args=F n (argE args):=by
 subst hn
 unfold zPH F
 congr 1
 rw[zBB,zDD,zAG]
 apply List.ext_getElem?
 intro i
 rw[List.getElem?_map]
 by_cases hi:i<fn.ntmps
 ·rw[List.getElem?_range hi]
  by_cases h2:i<args.length
  ·rw[List.getElem?_append_left h2]
   simp only[Option.map_some,argE_eq,List.getD_eq_getElem?_getD,List.getElem?_eq_getElem h2,Option.getD_some]
  ·rw[List.getElem?_append_right (by omega),List.getElem?_replicate,if_pos (by omega)]
   simp only[Option.map_some,argE_eq,List.getD_eq_getElem?_getD,List.getElem?_eq_none (Nat.le_of_not_lt h2),Option.getD_none]
 ·rw[List.getElem?_eq_none (by simp;omega),List.getElem?_eq_none (by simp;omega)];rfl
def zB2 (g:Nat→Box):Nat→List Box
 | 0=>[]
 | n+1=>g n :: zB2 g n
def S (n:Nat)(g:Nat→Box)(u:List (Nat×Nat)):Sto:=⟨zB2 g n,n,u⟩
def updB (g:Nat→Box)(k:Nat)(b:Box)(j:Nat):Box:=if j=k then b else g j
theorem zHK {g g':Nat→Box}:∀{n:Nat},(∀k,k<n→g k=g' k)→zB2 g n=zB2 g' n
 | 0,_=>rfl
 | n+1,h=>by simp only[zB2];rw[h n (Nat.lt_succ_self n),zHK fun k hk=>h k (Nat.lt_succ_of_lt hk)]
theorem S_ext {n:Nat}{g g':Nat→Box}{u:List (Nat×Nat)}(h:∀k,k<n→g k=g' k):S n g u=S n g' u:=by
 unfold S;rw[zHK h]
theorem zFU {g:Nat→Box}:∀n,(zB2 g n).length=n
 | 0=>rfl
 | n+1=>by simp[zB2,zFU n]
theorem zFV {g:Nat→Box}:∀{n k:Nat},k<n→(zB2 g n)[n-1-k]?=some (g k)
 | 0,k,h=>absurd h (Nat.not_lt_zero k)
 | n+1,k,h=>by
  by_cases e:k=n
  ·subst e;simp[zB2]
  ·have hk:k<n:=by omega
   rw[show n+1-1-k=(n-1-k)+1 by omega]
   simp only[zB2,List.getElem?_cons_succ]
   exact zFV hk
theorem zEM {n k:Nat}{g:Nat→Box}{u:List (Nat×Nat)}(h:k<n):(S n g u).get k=g k:=by
 rw[zJM]
 show(if k<n then _ else _)=_
 rw[if_pos h]
 show((zB2 g n)[n-1-k]?).getD .dead=g k
 rw[zFV h];rfl
theorem zJA {n:Nat}{g:Nat→Box}{u:List (Nat×Nat)}{b:Box}:(S n g u).alloc b=S (n+1) (updB g n b) u:=by
 show(⟨b :: zB2 g n,n+1,u⟩:Sto)=⟨zB2 (updB g n b) (n+1),n+1,u⟩
 simp only[zB2,updB,if_true]
 rw[zHK (g:=g) (g':=fun j=>if j=n then b else g j) fun k hk=>(if_neg (by omega)).symm]
 rfl
theorem zNW {n k:Nat}{g:Nat→Box}{u:List (Nat×Nat)}{b:Box}(h:k<n):(S n g u).put k b=S n (updB g k b) u:=by
 show(⟨lsetG b (zB2 g n) (n-1-k),n,u⟩:Sto)=⟨zB2 (updB g k b) n,n,u⟩
 congr 1
 rw[zJZ]
 apply List.ext_getElem?
 intro i
 rw[List.getElem?_set]
 by_cases hi:i<n
 ·have e1:(zB2 g n)[i]?=some (g (n-1-i)):=by
   have:=zFV (g:=g) (n:=n) (k:=n-1-i) (by omega)
   rwa [show n-1-(n-1-i)=i by omega] at this
  have e2:(zB2 (updB g k b) n)[i]?=some (updB g k b (n-1-i)):=by
   have:=zFV (g:=updB g k b) (n:=n) (k:=n-1-i) (by omega)
   rwa [show n-1-(n-1-i)=i by omega] at this
  rw[e1,e2,zFU]
  by_cases e:n-1-k=i
  ·subst e;rw[if_pos rfl,if_pos hi];simp only[updB];rw[if_pos (by omega)]
  ·rw[if_neg e];simp only[updB];rw[if_neg (by omega)]
 ·rw[List.getElem?_eq_none (by rw[zFU];omega),List.getElem?_eq_none (by rw[zFU];omega),if_neg (by omega)]
theorem zIO {n k t:Nat}{g:Nat→Box}{u:List (Nat×Nat)}(h:t≤k+1):(S n g u).note k t=S n g u:=zEG h
theorem zZP {n k t:Nat}{g:Nat→Box}{u:List (Nat×Nat)}(h:k+1<t):(S n g u).note k t=S n g (zN1 k t u):=by
 unfold Sto.note
 rw[show Nat.ble t (k+1)=false from by
  cases hb:Nat.ble t (k+1) with
  | false=>rfl
  | true=>exact absurd (Nat.le_of_ble_eq_true hb) (by omega)]
 rfl
theorem S_n {n:Nat}{g:Nat→Box}{u:List (Nat×Nat)}:(S n g u).n=n:=rfl
theorem S_cut {n b:Nat}{g:Nat→Box}{u:List (Nat×Nat)}(h:b≤n):(S n g u).cut b=S b g (zAW b u):=by
 show(⟨zXY (zB2 g n) (n-b),b,zAW b u⟩:Sto)=⟨zB2 g b,b,zAW b u⟩
 congr 1
 rw[zKV]
 obtain⟨d,rfl⟩:=Nat.exists_eq_add_of_le h
 rw[show b+d-b=d by omega]
 clear h
 induction d with
 | zero=>rfl
 | succ d ih=>exact ih
theorem S_done {n b t:Nat}{g:Nat→Box}{u:List (Nat×Nat)}(h:b≤n)(ht:t≤b)(hu:zBS b u=true):(S n g u).done b t=S b g (zAW b u):=by
 unfold Sto.done
 rw[Nat.ble_eq_true_of_le ht]
 simp only[cond_true]
 rw[show(S n g u).ups=u from rfl,hu]
 simp only[cond_true]
 exact S_cut h
theorem S_doneU {n b t:Nat}{g:Nat→Box}{u:List (Nat×Nat)}(hu:zBS b u=false):(S n g u).done b t=S n g u:=by
 unfold Sto.done
 rw[show(S n g u).ups=u from rfl,hu]
 simp only[cond_false]
 cases Nat.ble t b<;>rfl
theorem zHP {n b t:Nat}{g:Nat→Box}{u:List (Nat×Nat)}(ht:b<t):(S n g u).done b t=S n g u:=by
 unfold Sto.done
 rw[show Nat.ble t b=false from by
  cases hb:Nat.ble t b with
  | false=>rfl
  | true=>exact absurd (Nat.le_of_ble_eq_true hb) (by omega)]
 rfl
def g0:Nat→Box:=fun _=>.dead
theorem S_empty:Sto.empty=S 0 g0 []:=rfl
def asg:List (Nat×AV)→(Nat→AV)→Nat→AV
 | [],b=>b
 | (d,v) :: l,b=>upd (asg l b) d v
def Fl (n:Nat)(l:List (Nat×AV))(b:Nat→AV):Fr:=F n (asg l b)
def argL:Nat→List AV→List (Nat×AV)
 | _,[]=>[]
 | i,a :: r=>(i,a) :: argL (i+1) r
def ub:Nat→AV:=fun _=>Ab.undef
theorem Fl_put {n d:Nat}{l:List (Nat×AV)}{b:Nat→AV}{v:AV}:(Fl n l b).put (some d) v=Fl n ((d,v) :: l) b:=F_put
theorem argL_eq:∀(l:List AV) (i t:Nat),asg (argL i l) ub t=if t<i then Ab.undef else argE l (t-i)
 | [],i,t=>by unfold argL asg ub argE;split<;>rfl
 | a :: r,i,t=>by
  show upd (asg (argL (i+1) r) ub) i a t=_
  unfold upd
  by_cases e:t=i
  ·subst e;rw[if_pos rfl,if_neg (Nat.lt_irrefl t),Nat.sub_self];rfl
  ·rw[if_neg e,argL_eq r (i+1) t]
   by_cases h:t<i
   ·rw[if_pos h,if_pos (by omega)]
   ·rw[if_neg h,if_neg (by omega),show t-i=(t-(i+1))+1 by omega];rfl
theorem zPG {fn:Func}{args:List AV}{n:Nat}(hn:fn.ntmps=n)(h:args.length≤n):zPH fn args=Fl n (argL 0 args) ub:=by
 rw[callFr_F hn h]
 exact F_ext fun t _=>by rw[argL_eq,if_neg (Nat.not_lt_zero t),Nat.sub_zero]
def find (t:Nat):List (Nat×AV)→(Nat→AV)→Option AV
 | [],b=>some (b t)
 | (d,v) :: l,b=>bif Nat.beq t d then some v else find t l b
theorem zQ5 {t:Nat}{b:Nat→AV}:∀l:List (Nat×AV),find t l b=some (asg l b t)
 | []=>rfl
 | (d,v) :: l=>by
  show(bif Nat.beq t d then some v else find t l b)=some (upd (asg l b) d v t)
  unfold upd
  by_cases e:t=d
  ·subst e;rw[Nat.beq_refl,if_pos rfl];rfl
  ·have:Nat.beq t d=false:=by
    cases h:Nat.beq t d with
    | false=>rfl
    | true=>exact absurd (Nat.eq_of_beq_eq_true h) e
   rw[this,if_neg e];exact zQ5 l
def look (n:Nat)(l:List (Nat×AV))(b:Nat→AV):Operand→Option AV
 | .tmp t=>bif Nat.blt t n then find t l b else none
 | .const v=>ofConst v
 | .func f=>some (.func 0 (.func f) [] [])
 | .global _=>none
theorem rebase {n:Nat}{l:List (Nat×AV)}{b:Nat→AV}:∀l':List (Nat×AV),(∀x∈l',asg l b x.1=x.2)→Fl n l b=Fl n l' (asg l b):=by
 have key:∀l':List (Nat×AV),(∀x∈l',asg l b x.1=x.2)→∀t,asg l b t=asg l' (asg l b) t:=by
  intro l'
  induction l' with
  | nil=>intro _ t;rfl
  | cons x r ih=>
   intro h t
   obtain⟨d,v⟩:=x
   show asg l b t=upd (asg r (asg l b)) d v t
   unfold upd
   by_cases e:t=d
   ·subst e;rw[if_pos rfl];exact h (t,v) (List.mem_cons_self ..)
   ·rw[if_neg e];exact ih (fun y hy=>h y (List.mem_cons_of_mem _ hy)) t
 intro l' h
 exact F_ext fun t _=>key l' h t
def held (l:List (Nat×AV))(b:Nat→AV):List (Nat×AV)→Prop
 | []=>True
 | (d,v) :: r=>find d l b=some v∧held l b r
theorem reb {n:Nat}{l:List (Nat×AV)}{b:Nat→AV}(l':List (Nat×AV))(h:held l b l'):Fl n l b=Fl n l' (asg l b):=by
 refine rebase l' ?_
 induction l' with
 | nil=>intro x hx;cases hx
 | cons y r ih=>
  obtain⟨d,v⟩:=y
  intro x hx
  cases hx with
  | head=>exact Option.some.inj ((zQ5 l).symm.trans h.1)
  | tail _ hx=>exact ih h.2 x hx
def EV (n:Nat)(l:List (Nat×AV))(b:Nat→AV)(x:Operand)(a:AV):Prop:=zAI (Fl n l b) x=some a
def EVs (n:Nat)(l:List (Nat×AV))(b:Nat→AV)(xs:List Operand)(as:List AV):Prop:=zBK (Fl n l b) xs=some as
def EVp (n:Nat)(l:List (Nat×AV))(b:Nat→AV)(xs:List (Nat×Operand))(as:List (Nat×AV)):Prop:=zCA (Fl n l b) xs=some as
section
variable {n:Nat}{l:List (Nat×AV)}{b:Nat→AV}
theorem ee {x:Operand}{a:AV}(h:look n l b x=some a):EV n l b x a:=by
 cases x with
 | tmp t=>
  simp only[look,cond_eq_ite] at h
  split at h
  ·rename_i ht
   show some (lget (F n (asg l b)).tmps t)=some a
   rw[F_get (by rw[Nat.blt_eq] at ht;exact ht),← zQ5];exact h
  ·cases h
 | const v=>exact h
 | func f=>exact h
 | global g=>cases h
theorem evs_nil:EVs n l b [] []:=rfl
theorem evs_cons {x:Operand}{r:List Operand}{a:AV}{as:List AV}(h:EV n l b x a)(hs:EVs n l b r as):EVs n l b (x :: r) (a :: as):=by
 unfold EVs zBK;rw[show zAI (Fl n l b) x=some a from h,show zBK (Fl n l b) r=some as from hs]
theorem evp_nil:EVp n l b [] []:=rfl
theorem evp_cons {i:Nat}{x:Operand}{r:List (Nat×Operand)}{a:AV}{as:List (Nat×AV)}(h:EV n l b x a)(hs:EVp n l b r as):EVp n l b ((i,x) :: r) ((i,a) :: as):=by
 unfold EVp zCA;rw[show zAI (Fl n l b) x=some a from h,show zCA (Fl n l b) r=some as from hs]
end
theorem gt_hit {g:Nat→Box}{k j:Nat}{b:Box}(h:k=j):updB g j b k=b:=if_pos h
theorem gt_miss {g:Nat→Box}{k j:Nat}{b c:Box}(h:k≠j)(h2:g k=c):updB g j b k=c:=by unfold updB;rw[if_neg h];exact h2
def isQ:Op→Bool
 | .move _=>true|.assign _=>true|.pick _ _ _=>true|.build _ _=>true|.load _ _=>true|.nilCheck _=>true|.binOp _ _ _ _ _=>true|.unOp _ _ _=>true
 | .makeInterface _ _=>true|.makeFunc _ _ _=>true|.slice _ _ _ _ none=>true|.fieldAddr _ _ _=>true|.field _ _ _=>true|.indexAddr _ _ _=>true|.index _ _ _=>true
 | .lookup _ _ _ _=>true|.typeAssert _ _ _ _=>true|.extract _ _=>true
 | .call c=>match c.callee with
  | .builtin .len=>true|.builtin .min=>true|.builtin .max=>true|.builtin .cap=>true
  | _=>false
 | _=>false
theorem zRV {nx:Nx}{v:AV}{s:Sto}(h:nx=.val v s):valOf nx=some v:=by rw[h];rfl
theorem nv_inv {x:Option AV}{v:AV}{s s1:Sto}(h:nv s x=.val v s1):x=some v:=by
 cases x with
 | none=>cases h
 | some a=>cases h;rfl
theorem opQ_of {E:Env}{f:FuncId}{fr:Fr}{op:Op}{s s1:Sto}{v:AV}(hq:isQ op=true)(h:opA E f fr op s=.val v s1):opQ E f fr op s=some v:=by
 unfold isQ at hq
 split at hq<;>simp only[opA,opQ] at h ⊢
 case h_19 c=>
  split at hq
  all_goals (first|cases hq|skip)
  all_goals
   rename_i hc
   unfold zT8
   unfold zM7 at h
   rw[hc] at h ⊢
   simp only at h ⊢
   cases ha:zBK fr c.args.toList with
   | none=>rw[ha] at h;cases h
   | some a=>rw[ha] at h;simp only[zFT,zJY] at h ⊢;exact zRV h
 case h_20=>cases hq
 all_goals first|exact nv_inv h|exact zRV h
theorem zW7 (a:Own):ownB a a=true:=by cases a<;>rfl
theorem zPI (l:List UInt8):bytesEq l l=true:=by rw[zDM];simp
theorem ieq_refl (n:Int):ieq n n=true:=by rw[zJL];simp
theorem zB6 (k:IntKind):keq k k=true:=by rw[zO0];simp
theorem zZF (a:AV):beqV a a=true:=by
 refine AV.rec (motive_1:=fun a=>beqV a a=true) (motive_2:=fun l=>beqL l l=true)
   ?_ ?_ ?_ ?_ ?_ ?_ ?_ ?_ ?_ ?_ ?_ ?_ ?_ ?_ ?_ ?_ ?_ ?_ ?_ a
 ·intro b;cases b<;>rfl
 ·intro k n;show(keq k k&&ieq n n)=true;rw[zB6,ieq_refl];rfl
 ·intro l;exact zPI l
 ·rfl
 ·intro k o;show(Nat.beq k k&&Nat.beq o o)=true;simp
 ·intro k i o;show(Nat.beq k k&&(Nat.beq i i&&Nat.beq o o))=true;simp
 ·intro t cs ih;show(Nat.beq t t&&beqL cs cs)=true;rw[ih];simp
 ·intro t xs o ih;show(Nat.beq t t&&(ownB o o&&beqL xs xs))=true;rw[ih,zW7];simp
 ·intro k o n;show(Nat.beq k k&&(Nat.beq o o&&Nat.beq n n))=true;simp
 ·rfl
 ·intro k;show Nat.beq k k=true;simp
 ·intro t f a b iha ihb;show(Nat.beq t t&&(decide (f=f)&&(beqL a a&&beqL b b)))=true;rw[iha,ihb];simp
 ·rfl
 ·intro t v ih;show(Nat.beq t t&&beqV v v)=true;rw[ih];simp
 ·rfl
 ·intro cs ih;exact ih
 ·intro cs ih;exact ih
 ·rfl
 ·intro a l ha hl;show(bif beqV a a then beqL l l else false)=true;rw[ha,hl];rfl
class Tk {α:Type} (a:α):Type where
 mk ::
instance tk {α:Type} (a:α):Tk a:=⟨⟩
inductive Rest where
 | lst (ops r:List Oper)
 | pln (ops:List Oper) (r:List PStep)
def opsOf:Rest→List Oper
 | .lst ops _=>ops
 | .pln ops _=>ops
def zLI (E:Env)(dst:Option Tmp)(fr:Fr)(nx:Nx)(K:Fr→Sto→Prop)(Q:Out→Fr→Sto→Prop):Prop:=
 match nx with
 | .val v s=>K (fr.put dst v) s
 | .call g args s=>C E g args s (RK (fun v s=>K (fr.put dst v) s) (fun v s=>Q (.panic v) fr s))
 | .round l args s=>R E l args s (RK (fun v s=>K (fr.put dst v) s) (fun v s=>Q (.panic v) fr s))
 | .panic v s=>Q (.panic v) fr s
 | _=>False
def rwL (E:Env)(f:FuncId)(ops:List Oper):List Oper→Fr→Sto→(Out→Fr→Sto→Prop)→Prop
 | []=>fun fr s Q=>Q .normal fr s
 | o :: r=>fun fr s Q=>bif zAO ops fr o.guard then zLI E o.dst fr (opA E f fr o.op s) (fun fr s=>rwL E f ops r fr s Q) Q else rwL E f ops r (fr.put o.dst undef) s Q
def quietV (dst:Option Tmp)(fr:Fr)(s:Sto)(x:Option AV)(K:Fr→Sto→Prop):Prop:=
 match x with
 | some v=>K (fr.put dst v) s
 | none=>False
def chkV (dst:Option Tmp)(fr:Fr)(s:Sto)(x:Option AV)(K:Fr→Sto→Prop):Prop:=
 match x with
 | some v=>(match dst with
  | some d=>v=lget fr.tmps d∧K fr s
  | none=>False)
 | none=>False
def rwP (E:Env)(f:FuncId)(ops:List Oper):List PStep→Fr→Sto→(Out→Fr→Sto→Prop)→Prop
 | []=>fun fr s Q=>Q .normal fr s
 | .l i :: r=>fun fr s Q=>match zBW ops i with
  | some o=>bif zAO ops fr o.guard then zLI E o.dst fr (opA E f fr o.op s) (fun fr s=>rwP E f ops r fr s Q) Q else rwP E f ops r (fr.put o.dst undef) s Q
  | none=>False
 | .q i :: r=>fun fr s Q=>match zBW ops i with
  | some o=>bif zAO ops fr o.guard then quietV o.dst fr s (opQ E f fr o.op s) (fun fr s=>rwP E f ops r fr s Q) else rwP E f ops r (fr.put o.dst undef) s Q
  | none=>False
 | .chk i :: r=>fun fr s Q=>match zBW ops i with
  | some o=>bif zAO ops fr o.guard then chkV o.dst fr s (opQ E f fr o.op s) (fun fr s=>rwP E f ops r fr s Q) else rwP E f ops r fr s Q
  | none=>False
 | .apart i j :: r=>fun fr s Q=>zPS ops fr i j=true∧rwP E f ops r fr s Q
def RW (E:Env)(f:FuncId)(k:Rest)[Tk k](fr:Fr)(s:Sto)(Q:Out→Fr→Sto→Prop):Prop:=
 match k with
 | .lst ops r=>rwL E f ops r fr s Q
 | .pln ops r=>rwP E f ops r fr s Q
def SV (E:Env)(f:FuncId)(k:Rest)[Tk k](dst:Option Tmp)(fr:Fr)(nx:Nx)(Q:Out→Fr→Sto→Prop):Prop:=zLI E dst fr nx (fun fr s=>RW E f k fr s Q) Q
def SQ (E:Env)(f:FuncId)(k:Rest)[Tk k](dst:Option Tmp)(fr:Fr)(s:Sto)(x:Option AV)(Q:Out→Fr→Sto→Prop):Prop:=quietV dst fr s x (fun fr s=>RW E f k fr s Q)
def SC (E:Env)(f:FuncId)(k:Rest)[Tk k](dst:Option Tmp)(fr:Fr)(s:Sto)(x:Option AV)(Q:Out→Fr→Sto→Prop):Prop:=chkV dst fr s x (fun fr s=>RW E f k fr s Q)
def GW (E:Env)(f:FuncId)(what:Nat)(k:Rest)[Tk k](dst:Option Tmp)(op:Op)[Tk op](fr:Fr)(s:Sto)(Q:Out→Fr→Sto→Prop)(w:Bool):Prop:=
 match what with
 | 0=>bif w then SV E f k dst fr (opA E f fr op s) Q else RW E f k (fr.put dst undef) s Q
 | 1=>bif w then SQ E f k dst fr s (opQ E f fr op s) Q else RW E f k (fr.put dst undef) s Q
 | _=>bif w then SC E f k dst fr s (opQ E f fr op s) Q else RW E f k fr s Q
def KR (E:Env)(f:FuncId)(k:Rest)[Tk k](dst:Option Tmp)(fr:Fr)(Q:Out→Fr→Sto→Prop):CR→Sto→Prop:=RK (fun v s=>RW E f k (fr.put dst v) s Q) (fun v s=>Q (.panic v) fr s)
def gdst (ops:List Oper)[Tk ops]:Nat→Option Tmp:=
 match ops with
 | []=>fun _=>none
 | o :: r=>fun i=>match i with
  | 0=>o.dst
  | i+1=>gdst r i
def gval (fr:Fr)(w:Bool):Option Tmp→Bool
 | some d=>match lget fr.tmps d with
  | .bool b=>bif w then b else !b
  | _=>false
 | none=>false
def WG (ops:List Oper)[Tk ops](fr:Fr)(g:Option (Nat×Bool)):Bool:=zAO ops fr g
def wp (E:Env)(f:FuncId)(rnd:Option Nat):Code→Fr→Sto→(Out→Fr→Sto→Prop)→Prop
 | .skip=>fun fr s Q=>Q .normal fr s
 | .label _=>fun fr s Q=>Q .normal fr s
 | .ret=>fun fr s Q=>Q .ret fr s
 | .exit id=>fun fr s Q=>Q (.exit id) fr s
 | .region id ops draw=>fun fr s Q=>bif draw then RW E f (.pln ops.toList (E.plan f id)) fr s (zPC Q) else RW E f (.lst ops.toList ops.toList) fr s Q
 | .seq a b=>fun fr s Q=>wp E f rnd a fr s (zGU (fun fr s=>wp E f rnd b fr s Q) Q)
 | .cond c a b=>fun fr s Q=>match zAI fr c with
  | some (.bool true)=>wp E f rnd a fr s Q
  | some (.bool false)=>wp E f rnd b fr s Q
  | _=>False
 | .block id b=>fun fr s Q=>wp E f rnd b fr s (zD5 id Q)
 | .scope b=>fun fr s Q=>wp E f rnd b fr s Q
 | c=>fun fr s Q=>W E f rnd c fr s Q
def WP (E:Env)(f:FuncId)(rnd:Option Nat)(c:Code)[Tk c](fr:Fr)(s:Sto)(Q:Out→Fr→Sto→Prop):Prop:=wp E f rnd c fr s Q
def TQ (E:Env)(f:FuncId)(rnd:Option Nat)(c:Code)[Tk c](Q:Out→Fr→Sto→Prop):Out→Fr→Sto→Prop:=zGU (fun fr s=>wp E f rnd c fr s Q) Q
def CW (E:Env)(f:FuncId)(rnd:Option Nat)(a b:Code)[Tk (a,b)](fr:Fr)(s:Sto)(Q:Out→Fr→Sto→Prop)(v:Option AV):Prop:=
 match v with
 | some (.bool true)=>wp E f rnd a fr s Q
 | some (.bool false)=>wp E f rnd b fr s Q
 | _=>False
def LO (E:Env)(f:FuncId)(rnd:Option Nat)(c:Code)[Tk c](fr:Fr)(s:Sto)(Q:Out→Fr→Sto→Prop):Prop:=W E f rnd c fr s Q
section
variable {E:Env}{f:FuncId}{rnd:Option Nat}{fr:Fr}{s:Sto}{Q:Out→Fr→Sto→Prop}
theorem wantedA_nil {ops:List Oper}:zAO ops fr none=true:=rfl
theorem afterV_L {ops r:List Oper}{o:Oper}(hg:zAO ops fr o.guard=true)(h:zLI E o.dst fr (opA E f fr o.op s) (fun fr s=>L E f ops r fr s Q) Q):L E f ops (o :: r) fr s Q:=by
 cases hn:opA E f fr o.op s with
 | val v s1=>rw[hn] at h;exact l_val hg hn h
 | call g a s1=>rw[hn] at h;exact l_call hg hn h
 | round l a s1=>rw[hn] at h;exact l_round hg hn h
 | panic v s1=>rw[hn] at h;exact l_panic hg hn h
 | _=>rw[hn] at h;cases h
theorem zLH {dst:Option Tmp}{nx:Nx}{K K':Fr→Sto→Prop}(hk:∀fr s,K fr s→K' fr s)(h:zLI E dst fr nx K Q):zLI E dst fr nx K' Q:=by
 unfold zLI at h ⊢
 split at h
 ·exact hk _ _ h
 ·obtain⟨n,cr,b,s',h1,h2⟩:=h
  refine⟨n,cr,b,s',h1,?_⟩
  cases cr with
  | ret v=>exact hk _ _ h2
  | panic v=>exact h2
 ·obtain⟨n,cr,s',h1,h2⟩:=h
  refine⟨n,cr,s',h1,?_⟩
  cases cr with
  | ret v=>exact hk _ _ h2
  | panic v=>exact h2
 ·exact h
 ·cases h
theorem zKC {ops:List Oper}:∀(r:List Oper) (fr:Fr) (s:Sto),rwL E f ops r fr s Q→L E f ops r fr s Q
 | [],fr,s,h=>l_nil h
 | o :: r,fr,s,h=>by
  simp only[rwL,cond_eq_ite] at h
  split at h
  ·rename_i hg;exact afterV_L hg (zLH (fun fr s h=>zKC r fr s h) h)
  ·rename_i hg
   exact l_skip (by cases hw:zAO ops fr o.guard<;>simp_all) (zKC r _ _ h)
theorem zDV {ops:List Oper}:∀(r:List PStep) (fr:Fr) (s:Sto),rwP E f ops r fr s Q→LP E f ops r fr s Q
 | [],fr,s,h=>lp_nil h
 | .l i :: r,fr,s,h=>by
  simp only[rwP,cond_eq_ite] at h
  split at h
  ·rename_i o ho
   split at h
   ·rename_i hg
    have h:=zLH (fun fr s h=>zDV r fr s h) h
    cases hn:opA E f fr o.op s with
    | val v s1=>rw[hn] at h;exact lp_val ho hg hn h
    | call g a s1=>rw[hn] at h;exact lp_call ho hg hn h
    | round l a s1=>rw[hn] at h;exact lp_round ho hg hn h
    | panic v s1=>rw[hn] at h;exact lp_panic ho hg hn h
    | _=>rw[hn] at h;cases h
   ·rename_i hg
    exact lp_skip ho (by cases hw:zAO ops fr o.guard<;>simp_all) (zDV r _ _ h)
  ·cases h
 | .q i :: r,fr,s,h=>by
  simp only[rwP,cond_eq_ite] at h
  split at h
  ·rename_i o ho
   split at h
   ·rename_i hg
    cases hn:opQ E f fr o.op s with
    | some v=>rw[hn] at h;exact lp_q ho hg hn (zDV r _ _ h)
    | none=>rw[hn] at h;cases h
   ·rename_i hg
    exact lp_qskip ho (by cases hw:zAO ops fr o.guard<;>simp_all) (zDV r _ _ h)
  ·cases h
 | .chk i :: r,fr,s,h=>by
  simp only[rwP,cond_eq_ite] at h
  split at h
  ·rename_i o ho
   split at h
   ·rename_i hg
    cases hn:opQ E f fr o.op s with
    | some v=>
     rw[hn] at h
     unfold chkV at h
     simp only at h
     split at h
     ·rename_i d hd
      exact lp_c ho hg hd hn (by rw[h.1];exact zZF _) (zDV r _ _ h.2)
     ·cases h
    | none=>rw[hn] at h;cases h
   ·rename_i hg
    exact lp_cskip ho (by cases hw:zAO ops fr o.guard<;>simp_all) (zDV r _ _ h)
  ·cases h
 | .apart i j :: r,fr,s,h=>lp_apart h.1 (zDV r fr s h.2)
theorem wp_sound:∀{c:Code} {fr:Fr} {s:Sto} {Q:Out→Fr→Sto→Prop},wp E f rnd c fr s Q→W E f rnd c fr s Q
 | .skip,fr,s,Q,h=>w_skip h
 | .label _,fr,s,Q,h=>w_label h
 | .ret,fr,s,Q,h=>w_ret h
 | .exit id,fr,s,Q,h=>w_exit h
 | .region id ops draw,fr,s,Q,h=>by
  cases draw with
  | true=>exact w_draw (zDV _ fr s h)
  | false=>exact w_region (zKC _ fr s h)
 | .seq a b,fr,s,Q,h=>by
  have h1:=wp_sound (c:=a) h
  refine w_seq ?_
  obtain⟨n,o,fr',s',e,hq⟩:=h1
  refine⟨n,o,fr',s',e,?_⟩
  cases o with
  | normal=>exact wp_sound (c:=b) hq
  | _=>exact hq
 | .cond c a b,fr,s,Q,h=>by
  have h':(match zAI fr c with
   | some (.bool true)=>wp E f rnd a fr s Q
   | some (.bool false)=>wp E f rnd b fr s Q
   | _=>False):=h
  split at h'
  ·rename_i hc;exact w_true hc (wp_sound h')
  ·rename_i hc;exact zVB hc (wp_sound h')
  ·cases h'
 | .block id b,fr,s,Q,h=>w_block (wp_sound (c:=b) h)
 | .loop b,fr,s,Q,h=>h
 | .rangeFunc ..,fr,s,Q,h=>h
 | .scope b,fr,s,Q,h=>w_scope (wp_sound (c:=b) h)
 | .goto _,fr,s,Q,h=>h
 | .refuse _,fr,s,Q,h=>h
end
section
variable {E:Env}{f:FuncId}{rnd:Option Nat}{fr:Fr}{s:Sto}{Q:Out→Fr→Sto→Prop}{n:Nat}{le:List (Nat×AV)}{be:Nat→AV}
theorem WP_skip:WP E f rnd .skip fr s Q=Q .normal fr s:=(rfl)
theorem WP_label {l:Nat}:WP E f rnd (.label l) fr s Q=Q .normal fr s:=(rfl)
theorem WP_ret:WP E f rnd .ret fr s Q=Q .ret fr s:=(rfl)
theorem WP_exit {id:Nat}:WP E f rnd (.exit id) fr s Q=Q (.exit id) fr s:=(rfl)
theorem zZN {id:Nat}{ops:Array Oper}:WP E f rnd (.region id ops false) fr s Q=RW E f (.lst ops.toList ops.toList) fr s Q:=(rfl)
def RP (E:Env)(f:FuncId)(ops:List Oper)[Tk ops](l:List PStep)(fr:Fr)(s:Sto)(Q:Out→Fr→Sto→Prop):Prop:=RW E f (.pln ops l) fr s Q
theorem WP_draw {id:Nat}{ops:Array Oper}:WP E f rnd (.region id ops true) fr s Q=RP E f ops.toList (E.plan f id) fr s (zPC Q):=(rfl)
theorem RP_cons {ops:List Oper}{p:PStep}{r:List PStep}:RP E f ops (p :: r) fr s Q=RW E f (.pln ops (p :: r)) fr s Q:=(rfl)
theorem RP_nil {ops:List Oper}:RP E f ops [] fr s Q=Q .normal fr s:=(rfl)
theorem WP_seq {a b:Code}:WP E f rnd (.seq a b) fr s Q=WP E f rnd a fr s (TQ E f rnd b Q):=(rfl)
theorem WP_block {id:Nat}{b:Code}:WP E f rnd (.block id b) fr s Q=WP E f rnd b fr s (zD5 id Q):=(rfl)
theorem WP_scope {b:Code}:WP E f rnd (.scope b) fr s Q=WP E f rnd b fr s Q:=(rfl)
theorem WP_cond {c:Operand}{a b:Code}:WP E f rnd (.cond c a b) fr s Q=CW E f rnd a b fr s Q (zAI fr c):=(rfl)
theorem WP_loop {b:Code}:WP E f rnd (.loop b) fr s Q=LO E f rnd (.loop b) fr s Q:=(rfl)
theorem WP_range {x:Operand}{ps:Array Tmp}{a b:Code}:WP E f rnd (.rangeFunc x ps a b) fr s Q=LO E f rnd (.rangeFunc x ps a b) fr s Q:=(rfl)
theorem zZO {c:Code}:TQ E f rnd c Q .normal fr s=WP E f rnd c fr s Q:=(rfl)
theorem TQ_ret {c:Code}:TQ E f rnd c Q .ret fr s=Q .ret fr s:=(rfl)
theorem TQ_exit {c:Code}{id:Nat}:TQ E f rnd c Q (.exit id) fr s=Q (.exit id) fr s:=(rfl)
theorem TQ_panic {c:Code}{v:AV}:TQ E f rnd c Q (.panic v) fr s=Q (.panic v) fr s:=(rfl)
theorem zZU {id:Nat}:zD5 id Q .normal fr s=Q .normal fr s:=(rfl)
theorem BQ_ret {id:Nat}:zD5 id Q .ret fr s=Q .ret fr s:=(rfl)
theorem BQ_panic {id:Nat}{v:AV}:zD5 id Q (.panic v) fr s=Q (.panic v) fr s:=(rfl)
theorem BQ_exit {id id':Nat}:zD5 id Q (.exit id') fr s=if id'=id then Q .normal fr s else Q (.exit id') fr s:=(rfl)
theorem DQ_normal:zPC Q .normal fr s=Q .normal fr s:=(rfl)
theorem DQ_panic {v:AV}:zPC Q (.panic v) fr s=(allMarks fr.defers=true∧Q (.panic v) fr s):=(rfl)
theorem CW_true {a b:Code}:CW E f rnd a b fr s Q (some (.bool true))=WP E f rnd a fr s Q:=(rfl)
theorem CW_false {a b:Code}:CW E f rnd a b fr s Q (some (.bool false))=WP E f rnd b fr s Q:=(rfl)
theorem RW_nil {ops:List Oper}:RW E f (.lst ops []) fr s Q=Q .normal fr s:=(rfl)
theorem RW_cons {ops r:List Oper}{dst:Option Tmp}{op:Op}{ty:TypeId}{pos:String}{af:Array Edge}{gd:Option (Nat×Bool)} :
  RW E f (.lst ops (⟨dst,op,ty,pos,af,gd⟩ :: r)) fr s Q=GW E f 0 (.lst ops r) dst op fr s Q (WG ops fr gd):=(rfl)
theorem RW_pnil {ops:List Oper}:RW E f (.pln ops []) fr s Q=Q .normal fr s:=(rfl)
def nthO (ops:List Oper)[Tk ops](i:Nat):Option Oper:=zBW ops i
theorem nthO_0 {o:Oper}{r:List Oper}:nthO (o :: r) 0=some o:=(rfl)
theorem nthO_s {o:Oper}{r:List Oper}{i:Nat}:nthO (o :: r) (i+1)=nthO r i:=(rfl)
def PW (E:Env)(f:FuncId)(what:Nat)(ops:List Oper)(r:List PStep)[Tk (ops,r)](o:Option Oper)(fr:Fr)(s:Sto)(Q:Out→Fr→Sto→Prop):Prop:=
 match o with
 | some o=>GW E f what (.pln ops r) o.dst o.op fr s Q (WG ops fr o.guard)
 | none=>False
theorem PW_some {what:Nat}{ops:List Oper}{r:List PStep}{dst:Option Tmp}{op:Op}{ty:TypeId}{pos:String}{af:Array Edge}{gd:Option (Nat×Bool)} :
  PW E f what ops r (some ⟨dst,op,ty,pos,af,gd⟩) fr s Q=GW E f what (.pln ops r) dst op fr s Q (WG ops fr gd):=(rfl)
theorem RW_loud {ops:List Oper}{r:List PStep}{i:Nat}:RW E f (.pln ops (.l i :: r)) fr s Q=PW E f 0 ops r (nthO ops i) fr s Q:=by
 unfold PW nthO;simp only[RW,rwP];cases zBW ops i<;>rfl
theorem RW_quiet {ops:List Oper}{r:List PStep}{i:Nat}:RW E f (.pln ops (.q i :: r)) fr s Q=PW E f 1 ops r (nthO ops i) fr s Q:=by
 unfold PW nthO;simp only[RW,rwP];cases zBW ops i<;>rfl
theorem RW_chk {ops:List Oper}{r:List PStep}{i:Nat}:RW E f (.pln ops (.chk i :: r)) fr s Q=PW E f 2 ops r (nthO ops i) fr s Q:=by
 unfold PW nthO;simp only[RW,rwP];cases zBW ops i<;>rfl
theorem RW_apart {ops:List Oper}{r:List PStep}{i j:Nat}:RW E f (.pln ops (.apart i j :: r)) fr s Q=(zPS ops fr i j=true∧RW E f (.pln ops r) fr s Q):=(rfl)
theorem WG_none {ops:List Oper}:WG ops fr none=true:=(rfl)
theorem gdst_eq:∀(ops:List Oper) (i:Nat),gdst ops i=(match zBW ops i with|some o=>o.dst|none=>none)
 | [],i=>rfl
 | o :: r,0=>rfl
 | o :: r,i+1=>gdst_eq r i
theorem WG_some {ops:List Oper}{j:Nat}{w:Bool}:WG ops fr (some (j,w))=gval fr w (gdst ops j):=by
 rw[gdst_eq]
 unfold WG zAO zJR gval
 simp only
 cases zBW ops j with
 | none=>rfl
 | some o=>
  simp only
  cases o.dst with
  | none=>rfl
  | some d=>
   simp only
   cases lget fr.tmps d<;>rfl
theorem gdst_0 {o:Oper}{r:List Oper}:gdst (o :: r) 0=o.dst:=(rfl)
theorem gdst_s {o:Oper}{r:List Oper}{i:Nat}:gdst (o :: r) (i+1)=gdst r i:=(rfl)
def zUP (w:Bool):AV→Bool
 | .bool b=>bif w then b else !b
 | _=>false
theorem zYE {w:Bool}{d:Tmp}:gval fr w (some d)=zUP w (lget fr.tmps d):=by simp only[gval];generalize lget fr.tmps d=v;cases v<;>rfl
theorem gvalB_t {b:Bool}:zUP true (.bool b)=b:=(rfl)
theorem gvalB_f {b:Bool}:zUP false (.bool b)=!b:=(rfl)
section
variable {k:Rest}{dst:Option Tmp}{op:Op}
theorem GW_0t:GW E f 0 k dst op fr s Q true=SV E f k dst fr (opA E f fr op s) Q:=(rfl)
theorem GW_0f:GW E f 0 k dst op fr s Q false=RW E f k (fr.put dst undef) s Q:=(rfl)
theorem GW_1t:GW E f 1 k dst op fr s Q true=SQ E f k dst fr s (opQ E f fr op s) Q:=(rfl)
theorem GW_1f:GW E f 1 k dst op fr s Q false=RW E f k (fr.put dst undef) s Q:=(rfl)
theorem GW_2t:GW E f 2 k dst op fr s Q true=SC E f k dst fr s (opQ E f fr op s) Q:=(rfl)
theorem GW_2f:GW E f 2 k dst op fr s Q false=RW E f k fr s Q:=(rfl)
theorem SV_val {v:AV}{s1:Sto}:SV E f k dst fr (.val v s1) Q=RW E f k (fr.put dst v) s1 Q:=(rfl)
theorem SV_call {g:FuncId}{args:List AV}{s1:Sto}:SV E f k dst fr (.call g args s1) Q=C E g args s1 (KR E f k dst fr Q):=(rfl)
theorem SV_round {l:Nat}{args:List AV}{s1:Sto}:SV E f k dst fr (.round l args s1) Q=R E l args s1 (KR E f k dst fr Q):=(rfl)
theorem SV_panic {v:AV}{s1:Sto}:SV E f k dst fr (.panic v s1) Q=Q (.panic v) fr s1:=(rfl)
theorem SQ_some {v:AV}:SQ E f k dst fr s (some v) Q=RW E f k (fr.put dst v) s Q:=(rfl)
theorem SC_some {d:Tmp}{v:AV}:SC E f k (some d) fr s (some v) Q=(v=lget fr.tmps d∧RW E f k fr s Q):=(rfl)
theorem KR_ret {v:AV}:KR E f k dst fr Q (.ret v) s=RW E f k (fr.put dst v) s Q:=(rfl)
theorem KR_panic {v:AV}:KR E f k dst fr Q (.panic v) s=Q (.panic v) fr s:=(rfl)
end
theorem Fl_put' {d:Tmp}{v:AV}:(Fl n le be).put (some d) v=Fl n ((d,v) :: le) be:=Fl_put
theorem Fl_putN {v:AV}:(Fl n le be).put none v=Fl n le be:=(rfl)
def at_ (t:Nat)(l:List (Nat×AV))(b:Nat→AV):AV:=asg l b t
theorem at_nil {t:Nat}{b:Nat→AV}:at_ t [] b=b t:=(rfl)
theorem at_cons {t d:Nat}{v:AV}{l:List (Nat×AV)}{b:Nat→AV}:at_ t ((d,v) :: l) b=if t=d then v else at_ t l b:=(rfl)
theorem F_get' {t:Nat}{env:Nat→AV}:lget (F n env).tmps t=if t<n then env t else undef:=by
 by_cases h:t<n
 ·rw[if_pos h,F_get h]
 ·rw[if_neg h,zB5,List.getD_eq_getElem?_getD]
  unfold F
  rw[List.getElem?_eq_none (by simp;omega)];rfl
theorem Fl_get {t:Nat}:lget (Fl n le be).tmps t=if t<n then at_ t le be else undef:=F_get'
theorem Fl_tmp {t:Nat}:zAI (Fl n le be) (.tmp t)=some (if t<n then at_ t le be else undef):=by show some (lget (F n (asg le be)).tmps t)=_;rw[F_get'];rfl
theorem Fl_const {v:Value}:zAI (Fl n le be) (.const v)=ofConst v:=(rfl)
theorem Fl_func {g:FuncId}:zAI (Fl n le be) (.func g)=some (.func 0 (.func g) [] []):=(rfl)
theorem Fl_defers:(Fl n le be).defers=[]:=(rfl)
section
variable {fn:Func}{md:Mode}{base:Nat}{s0:Sto}{Qc:CR→Sto→Prop}
def isEnd:Out→Bool
 | .ret=>true
 | .normal=>true
 | _=>false
def FN (iso:Bool)(base:Nat)(s0:Sto)(Qc:CR→Sto→Prop)(x:Option (AV×Sto)):Prop:=
 match x with
 | some (v,s1)=>bif iso then top v=0∧Qc (.ret v) s0 else Qc (.ret v) (s1.done base (top v))
 | none=>False
def FQ (E:Env)(fn:Func)[Tk fn](md:Mode)(base:Nat)(s0:Sto)(Qc:CR→Sto→Prop):Out→Fr→Sto→Prop:=finQ E fn md base s0 Qc
def zOA (raw:Bool)(s:Sto)(x:Option AV):Option (AV×Sto):=
 match x with
 | some v=>bif raw then some (v,s) else zTW s v
 | none=>none
def resV (E:Env)(fr:Fr)(s:Sto)(l:List ResultVar):Option AV:=match zC9 E fr s l with|some [v]=>some v|some vs=>some (.tuple vs)|none=>none
theorem resV_eq:zKF E fn fr s=resV E fr s fn.results.toList:=by
 unfold zKF resV
 generalize zC9 E fr s fn.results.toList=x
 cases x with
 | none=>rfl
 | some l=>cases l with
  | nil=>rfl
  | cons a r=>cases r<;>rfl
theorem zYM {iso raw ra ml:Bool}{o:Out}{fr:Fr}(ho:isEnd o=true)(hf:fr.defers=[])(h:FN iso base s0 Qc (zOA raw s (resV E fr s fn.results.toList))):finQ E fn ⟨iso,ra,raw,ml⟩ base s0 Qc o fr s:=by
 unfold FN at h
 split at h
 ·rename_i v s1 hx
  have h1:result0 E fn ⟨iso,ra,raw,ml⟩ fr s=some (v,s1):=by
   unfold result0
   rw[resV_eq]
   unfold zOA at hx
   split at hx
   ·rename_i a ha;rw[ha];exact hx
   ·cases hx
  cases iso with
  | true=>
   have h:top v=0∧Qc (.ret v) s0:=h
   have h2:zJJ true v false base s0 s1=some (.ret v,false,s0):=by unfold zJJ;rw[h.1];rfl
   cases o<;>first|exact⟨hf,v,s1,s0,h1,h2,h.2⟩|cases ho
  | false=>
   cases o<;>first|exact⟨hf,v,s1,_,h1,rfl,h⟩|cases ho
 ·cases h
def FE (E:Env)(rs:List ResultVar)(md:Mode)(base:Nat)(s0:Sto)(Qc:CR→Sto→Prop):Out→Fr→Sto→Prop
 | .ret,fr,s=>FN md.iso base s0 Qc (zOA md.rawRes s (resV E fr s rs))
 | .normal,fr,s=>FN md.iso base s0 Qc (zOA md.rawRes s (resV E fr s rs))
 | .panic v,_,s=>bif md.iso then top v=0∧Qc (.panic v) s0 else Qc (.panic v) (s.done base (top v))
 | _,_,_=>False
theorem FE_ret {rs:List ResultVar}{a b c d:Bool}:FE E rs ⟨a,b,c,d⟩ base s0 Qc .ret fr s=FN a base s0 Qc (zOA c s (resV E fr s rs)):=(rfl)
theorem zZS {rs:List ResultVar}{a b c d:Bool}:FE E rs ⟨a,b,c,d⟩ base s0 Qc .normal fr s=FN a base s0 Qc (zOA c s (resV E fr s rs)):=(rfl)
theorem FE_panic {rs:List ResultVar}{a b c d:Bool}{v:AV}:FE E rs ⟨a,b,c,d⟩ base s0 Qc (.panic v) fr s=(bif a then top v=0∧Qc (.panic v) s0 else Qc (.panic v) (s.done base (top v))):=(rfl)
theorem FN_iso {v:AV}{s1:Sto}:FN true base s0 Qc (some (v,s1))=(top v=0∧Qc (.ret v) s0):=(rfl)
theorem FN_not {v:AV}{s1:Sto}:FN false base s0 Qc (some (v,s1))=Qc (.ret v) (s1.done base (top v)):=(rfl)
theorem zWB {v:AV}:zOA true s (some v)=some (v,s):=(rfl)
theorem zWC {v:AV}:zOA false s (some v)=zTW s v:=(rfl)
theorem resV_1 {t:Nat}:resV E (Fl n le be) s [.tmp t]=some (lget (Fl n le be).tmps t):=(rfl)
theorem resV_0:resV E (Fl n le be) s []=some (.tuple []):=(rfl)
theorem resV_2 {t u:Nat}:resV E (Fl n le be) s [.tmp t,.tmp u]=some (.tuple [lget (Fl n le be).tmps t,lget (Fl n le be).tmps u]):=(rfl)
theorem FE_fin {o:Out}{rs:List ResultVar}{md:Mode}(hr:fn.results.toList=rs)(hf:fr.defers=[])(h:FE E rs md base s0 Qc o fr s):finQ E fn md base s0 Qc o fr s:=by
 subst hr
 obtain⟨iso,ra,raw,ml⟩:=md
 cases o with
 | ret=>exact zYM rfl hf h
 | normal=>exact zYM rfl hf h
 | panic v=>
  refine⟨hf,?_⟩
  cases iso with
  | true=>
   have h:top v=0∧Qc (.panic v) s0:=h
   exact⟨s0,by unfold zMB;rw[h.1];rfl,h.2⟩
  | false=>exact⟨_,rfl,h⟩
 | _=>cases h
theorem W_mono {c:Code}{Q':Out→Fr→Sto→Prop}(hq:∀o fr s,Q o fr s→Q' o fr s)(h:W E f rnd c fr s Q):W E f rnd c fr s Q':=by
 obtain⟨n,o,fr',s',h1,h2⟩:=h;exact⟨n,o,fr',s',h1,hq _ _ _ h2⟩
def FD (E:Env)(rs:List ResultVar)(md:Mode)(base:Nat)(s0:Sto)(Qc:CR→Sto→Prop):Out→Fr→Sto→Prop:=fun o fr s=>fr.defers=[]∧FE E rs md base s0 Qc o fr s
theorem FD_Fl {rs:List ResultVar}{md:Mode}{o:Out}:FD E rs md base s0 Qc o (Fl n le be) s=FE E rs md base s0 Qc o (Fl n le be) s:=by
 unfold FD;rw[Fl_defers];simp
theorem zAF {body:Code}{args args1:List AV}{s s1:Sto}{md:Mode}{rs:List ResultVar}{n:Nat}(hi:E.intr f args=none)(hns:insM E f args s none=none)(hfn:E.funcs f=some fn)(hb:fn.body=some body)(hmd:E.mode f=md)(hm:md.iso=true)(hn:fn.ntmps=n)(hr:fn.results.toList=rs)
  (ha:(bif md.rawArgs then some (args,s) else zBJ s args)=some (args1,s1)) (hl:Nat.ble args1.length n=true) (ht:tops args1=0) (h:WP E f none body (Fl n (argL 0 args1) ub) (S 0 g0 []) (FD E rs md 0 s1 Qc)):C E f args s Qc:=by
 refine C_iso hi hns hfn hb hmd hm ha ht ?_
 rw[zPG hn (Nat.le_of_ble_eq_true hl),S_empty]
 exact W_mono (fun o fr s hq=>FE_fin hr hq.1 hq.2) (wp_sound h)
theorem zAM {body:Code}{args args1:List AV}{s:Sto}{m:Nat}{g:Nat→Box}{u:List (Nat×Nat)}{md:Mode}{rs:List ResultVar}{n:Nat}(hi:E.intr f args=none)(hns:insM E f args s none=none)(hfn:E.funcs f=some fn)(hb:fn.body=some body)(hmd:E.mode f=md)(hm:md.iso=false)(hn:fn.ntmps=n)(hr:fn.results.toList=rs)
  (ha:(bif md.rawArgs then some (args,s) else zBJ s args)=some (args1,S m g u)) (hl:Nat.ble args1.length n=true) (h:WP E f none body (Fl n (argL 0 args1) ub) (S m g u) (FD E rs md m (S m g u) Qc)):C E f args s Qc:=by
 refine C_call hi hns hfn hb hmd hm ha ?_
 rw[zPG hn (Nat.le_of_ble_eq_true hl)]
 exact W_mono (fun o fr s hq=>FE_fin hr hq.1 hq.2) (wp_sound h)
theorem sp_C {a b:Code}{b0:Bool}(h1:b0=true→WP E f rnd a fr s Q)(h2:b0=false→WP E f rnd b fr s Q):CW E f rnd a b fr s Q (some (.bool b0)):=by cases b0<;>first|exact h1 rfl|exact h2 rfl
theorem sp_G {what:Nat}{k:Rest}{dst:Option Tmp}{op:Op}{b0:Bool}(h1:b0=true→GW E f what k dst op fr s Q true)(h2:b0=false→GW E f what k dst op fr s Q false):GW E f what k dst op fr s Q b0:=by cases b0<;>first|exact h1 rfl|exact h2 rfl
theorem zAC {a b:Code}{b0:Bool}(h1:b0=false→WP E f rnd a fr s Q)(h2:b0=true→WP E f rnd b fr s Q):CW E f rnd a b fr s Q (some (.bool (!b0))):=by cases b0<;>first|exact h1 rfl|exact h2 rfl
theorem zAB {what:Nat}{k:Rest}{dst:Option Tmp}{op:Op}{b0:Bool}(h1:b0=false→GW E f what k dst op fr s Q true)(h2:b0=true→GW E f what k dst op fr s Q false):GW E f what k dst op fr s Q (!b0):=by cases b0<;>first|exact h1 rfl|exact h2 rfl
def mg (b:Bool)(v:AV):AV:=if b=true then v else undef
theorem gw_m {k:Rest}{d:Tmp}{op:Op}{b0:Bool}{v:AV}(h1:b0=true→opA E f fr op s=.val v s)(h2:RW E f k (fr.put (some d) (mg b0 v)) s Q):GW E f 0 k (some d) op fr s Q b0:=by
 cases b0 with
 | true=>show SV E f k (some d) fr (opA E f fr op s) Q;rw[h1 rfl];exact h2
 | false=>exact h2
theorem gw_q {k:Rest}{d:Tmp}{op:Op}{b0:Bool}{v:AV}(h1:b0=true→opQ E f fr op s=some v)(h2:RW E f k (fr.put (some d) (mg b0 v)) s Q):GW E f 1 k (some d) op fr s Q b0:=by
 cases b0 with
 | true=>show SQ E f k (some d) fr s (opQ E f fr op s) Q;rw[h1 rfl];exact h2
 | false=>exact h2
theorem mg_t {v:AV}:mg true v=v:=rfl
theorem mg_f {v:AV}:mg false v=undef:=rfl
theorem gvalB_u {w:Bool}:zUP w undef=false:=(rfl)
theorem gvalB_mt {b c:Bool}:zUP true (mg b (.bool c))=(b&&c):=by cases b<;>rfl
theorem gvalB_mf {b c:Bool}:zUP false (mg b (.bool c))=(b&&!c):=by cases b<;>rfl
theorem pk_and {b c:Bool}:zF6 (some (.bool b)) (some (mg b (.bool c))) (some (.bool false)) s=.val (.bool (b&&c)) s:=by cases b<;>rfl
theorem pk_or {b c:Bool}:zF6 (some (.bool b)) (some (.bool true)) (some (mg (!b) (.bool c))) s=.val (.bool (b||c)) s:=by cases b<;>rfl
theorem pk_nand {b c:Bool}:zF6 (some (.bool (!b))) (some (mg (!b) (.bool c))) (some (.bool false)) s=.val (.bool (!b&&c)) s:=by cases b<;>rfl
theorem pk_nor {b c:Bool}:zF6 (some (.bool (!b))) (some (.bool true)) (some (mg b (.bool c))) s=.val (.bool (!b||c)) s:=by cases b<;>rfl
theorem zZR {b:Code}(h:WP E f rnd b fr s (zGU (fun fr s=>LO E f rnd (.loop b) fr s Q) Q)):LO E f rnd (.loop b) fr s Q:=w_loop (wp_sound h)
theorem LO_again {b:Code}{o:Out}:zGU (fun fr s=>LO E f rnd (.loop b) fr s Q) Q .normal fr s=LO E f rnd (.loop b) fr s Q:=(rfl)
theorem zVQ {K:Fr→Sto→Prop}:zGU K Q .ret fr s=Q .ret fr s:=(rfl)
theorem zTH {K:Fr→Sto→Prop}{id:Nat}:zGU K Q (.exit id) fr s=Q (.exit id) fr s:=(rfl)
theorem zP0 {K:Fr→Sto→Prop}{v:AV}:zGU K Q (.panic v) fr s=Q (.panic v) fr s:=(rfl)
theorem zN3 {K:Fr→Sto→Prop}:zGU K Q .normal fr s=K fr s:=(rfl)
end
end
theorem zZT {E:Env}{f:FuncId}{args:List AV}{s:Sto}{v:AV}{Q:CR→Sto→Prop}(hi:E.intr f args=some v)(h:Q (.ret v) s):C E f args s Q:=by
 refine⟨1,.ret v,false,s,?_,h⟩
 show zGW (iter E 0) E f args none s=_
 unfold zGW zJP
 simp only[hi]
theorem C_ins {E:Env}{f:FuncId}{e:TypeId}{args:List AV}{s s':Sto}{v:AV}{Q:CR→Sto→Prop}(hi:E.intr f args=none)(hns:E.ins f=some e)(hv:insA e args s=some (v,s'))(h:Q (.ret v) s'):C E f args s Q:=by
 refine⟨1,.ret v,false,s',?_,h⟩
 show zGW (iter E 0) E f args none s=_
 unfold zGW zJP insM
 simp only[hi,hns,hv]
theorem zA0 {E:Env}{f:FuncId}{rnd:Option Nat}{c:Code}{n:Nat}{Q:Out→Fr→Sto→Prop}{ι:Type}(frs:ι→List (Nat×AV))(st:ι→Sto)(inv:ι→Prop)(meas:ι→Nat)
  (step:∀i b,inv i→(∀j l b' s,inv j→meas j<meas i→held l b' (frs j)→s=st j→LO E f rnd (.loop c) (Fl n l b') s Q)→WP E f rnd c (Fl n (frs i) b) (st i) (zGU (fun fr s=>LO E f rnd (.loop c) fr s Q) Q))
  (i:ι) {l:List (Nat×AV)} {b:Nat→AV} {s:Sto} (hi:inv i) (hl:held l b (frs i)) (hs:s=st i):LO E f rnd (.loop c) (Fl n l b) s Q:=by
 have key:∀N i l b s,meas i<N→inv i→held l b (frs i)→s=st i→LO E f rnd (.loop c) (Fl n l b) s Q:=by
  intro N
  induction N with
  | zero=>intro i l b s h;exact absurd h (Nat.not_lt_zero _)
  | succ N ih=>
   intro i l b s hN hi hl hs
   subst hs
   rw[reb (frs i) hl]
   exact zZR (step i _ hi fun j l b' s hj hm hl hs=>ih j l b' s (Nat.lt_of_lt_of_le hm (Nat.le_of_lt_succ hN)) hj hl hs)
 exact key _ i l b s (Nat.lt_succ_self _) hi hl hs
theorem sv_CV {E:Env}{f:FuncId}{k:Rest}{dst:Option Tmp}{fr:Fr}{s:Sto}{Q:Out→Fr→Sto→Prop}{fv:AV}{args:List AV}(h:CV E fv args s (KR E f k dst fr Q)):SV E f k dst fr (zJQ fv args s) Q:=by
 unfold CV at h
 split at h
 ·rename_i e;rw[e];exact h
 ·rename_i e;rw[e];exact h
 ·cases h
theorem zQ8 {E:Env}{t:Nat}{h:FuncId}{a b args args':List AV}{s:Sto}{Q:CR→Sto→Prop}(hl:a++(args++b)=args')(hc:C E h args' s Q):CV E (.func t (.func h) a b) args s Q:=by
 subst hl;unfold CV;simp only[zJQ,zBB];exact hc
theorem leaf {Q:CR→Sto→Prop}{v w:AV}{s:Sto}(h:Q (.ret w) s)(e:w=v):Q (.ret v) s:=e ▸ h
theorem leaf2 {Q:CR→Sto→Prop}{v w:AV}{s s2:Sto}(h:Q (.ret w) s)(e:w=v)(e2:s=s2):Q (.ret v) s2:=e2 ▸ e ▸ h
attribute [irreducible] WP wp RP nthO RW rwL rwP SV SQ SC GW KR TQ CW LO PW WG gdst gval FD FE FN finQ W L LP C R CV zGU zD5 zPC S F Fl asg at_ RK
end Go.Ab
namespace Pl
abbrev Str:=List UInt8
inductive V where
 | mk (kind n:Int) (neg:Bool) (d:List Int) (s:Str) (l m:List V)
 deriving Inhabited
inductive X where
 | mk (kind n:Int) (s:List Str) (v:V)(l:List X)
 deriving Inhabited
inductive T where
 | mk (kind:Int) (e sub:X)(l:List T)
 deriving Inhabited
namespace V
def kind:V→Int|.mk k _ _ _ _ _ _=>k
def n:V→Int|.mk _ n _ _ _ _ _=>n
def neg:V→Bool|.mk _ _ b _ _ _ _=>b
def d:V→List Int|.mk _ _ _ d _ _ _=>d
def s:V→Str|.mk _ _ _ _ s _ _=>s
def l:V→List V|.mk _ _ _ _ _ l _=>l
def m:V→List V|.mk _ _ _ _ _ _ m=>m
theorem eta:∀v:V,v=.mk v.kind v.n v.neg v.d v.s v.l v.m|.mk _ _ _ _ _ _ _=>rfl
end V
namespace X
def kind:X→Int|.mk k _ _ _ _=>k
def n:X→Int|.mk _ n _ _ _=>n
def s:X→List Str|.mk _ _ s _ _=>s
def v:X→V|.mk _ _ _ v _=>v
def l:X→List X|.mk _ _ _ _ l=>l
theorem eta:∀e:X,e=.mk e.kind e.n e.s e.v e.l|.mk _ _ _ _ _=>rfl
end X
namespace T
def kind:T→Int|.mk k _ _ _=>k
def e:T→X|.mk _ e _ _=>e
def sub:T→X|.mk _ _ s _=>s
def l:T→List T|.mk _ _ _ l=>l
end T
structure Def where
 name:Str
 params:List Int
 recu:Bool
 body:X
 deriving Inhabited
structure Var where
 name:Str
 typ:X
 deriving Inhabited
structure Const where
 name:Str
 v:V
 deriving Inhabited
structure Named where
 name:Str
 e:X
 deriving Inhabited
structure Fair where
 strong:Bool
 a:X
 sub:X
 deriving Inhabited
structure Prp where
 name:Str
 t:T
 deriving Inhabited
structure Spec where
 models:List Str
 consts:List Const
 vars:List Var
 defs:List Def
 assume:List X
 init:X
 next:X
 fair:List Fair
 invs:List Named
 props:List Prp
 cons:List X
 acons:List X
 groups:List (List Str)
 view:List X
 dead:Bool
 deriving Inhabited
def lens:List Str→Nat
 | []=>0
 | s :: r=>1+s.length+lens r
mutual
def szV:V→Nat
 | .mk _ _ _ d s l m=>1+d.length+s.length+szVs l+szVs m
def szVs:List V→Nat
 | []=>0
 | v :: r=>1+szV v+szVs r
end
mutual
def szX:X→Nat
 | .mk _ _ s v l=>1+lens s+szV v+szXs l
def szXs:List X→Nat
 | []=>0
 | e :: r=>1+szX e+szXs r
end
mutual
def szT:T→Nat
 | .mk _ e s l=>1+szX e+szX s+szTs l
def szTs:List T→Nat
 | []=>0
 | e :: r=>1+szT e+szTs r
end
theorem zJC (v:V):szV v=1+v.d.length+v.s.length+szVs v.l+szVs v.m:=by cases v;rfl
theorem szX_eq (e:X):szX e=1+lens e.s+szV e.v+szXs e.l:=by cases e;rfl
theorem szVs_len:∀l:List V,l.length≤szVs l
 | []=>Nat.le_refl _
 | v :: r=>by have:=szVs_len r;simp only[List.length_cons,szVs];omega
theorem szVs_mem:∀{l:List V} {v:V},v∈l→szV v<szVs l
 | x :: r,v,h=>by
  simp only[szVs]
  cases h with
  | head=>omega
  | tail _ h=>have:=szVs_mem h;omega
theorem szXs_len:∀l:List X,l.length≤szXs l
 | []=>Nat.le_refl _
 | v :: r=>by have:=szXs_len r;simp only[List.length_cons,szXs];omega
theorem szXs_mem:∀{l:List X} {v:X},v∈l→szX v<szXs l
 | x :: r,v,h=>by
  simp only[szXs]
  cases h with
  | head=>omega
  | tail _ h=>have:=szXs_mem h;omega
theorem lens_len:∀l:List Str,l.length≤lens l
 | []=>Nat.le_refl _
 | v :: r=>by have:=lens_len r;simp only[List.length_cons,lens];omega
theorem lens_mem:∀{l:List Str} {v:Str},v∈l→v.length<lens l
 | x :: r,v,h=>by
  simp only[lens]
  cases h with
  | head=>omega
  | tail _ h=>have:=lens_mem h;omega
def letter (c:UInt8):Bool:=(decide ((97:Int)≤c.toNat)&&decide ((c.toNat:Int)≤122))||(decide ((65:Int)≤c.toNat)&&decide ((c.toNat:Int)≤90))
def inside (c:UInt8):Bool:=letter c||(decide ((48:Int)≤c.toNat)&&decide ((c.toNat:Int)≤57))||decide ((c.toNat:Int)=95)
def zSY (s:Str):Bool:=
 match s with
 | []=>false
 | c :: _=>decide (s.length≤40)&&letter c&&decide (s≠[84,82,85,69])&&decide (s≠[70,65,76,83,69])&&s.all inside
def isStr (s:Str):Bool:=decide (s.length≤200)&&s.all fun c=>decide ((32:Int)≤c.toNat)&&decide ((c.toNat:Int)≤126)
def isInt (neg:Bool)(d:List Int):Bool:=
 decide (d.length≤40)&&!(decide (d.length=0)&&neg)&&!(decide (d.getLast?=some 0))&&d.all fun x=>decide (0≤x)&&decide (x≤999999999)
def cmp (a b:Int):Int:=if a<b then -1 else if b<a then 1 else 0
def cmpS:Str→Str→Int
 | [],[]=>0
 | [],_ :: _=>-1
 | _ :: _,[]=>1
 | a :: x,b :: y=>if a.toNat<b.toNat then -1 else if b.toNat<a.toNat then 1 else cmpS x y
def cmpD:List Int→List Int→Int
 | a :: x,b :: y=>if cmp a b=0 then cmpD x y else cmp a b
 | _,_=>0
def cmpI (na:Bool)(a:List Int)(nb:Bool)(b:List Int):Int:=
 if na≠nb then(if na then -1 else 1)
 else
  let c:=if a.length≠b.length then cmp a.length b.length else cmpD a.reverse b.reverse
  if na then -c else c
mutual
def cmpV:V→V→Int
 | .mk k n ng d s l m,.mk k' n' ng' d' s' l' m'=>
  if k≠k' then cmp k k' else if n≠n' then cmp n n' else
  if cmpI ng d ng' d'≠0 then cmpI ng d ng' d' else if cmpS s s'≠0 then cmpS s s' else
  let c:=if l.length≠l'.length then cmp l.length l'.length else cmpL l l'
  if c≠0 then c else if m.length≠m'.length then cmp m.length m'.length else cmpL m m'
def cmpL:List V→List V→Int
 | a :: x,b :: y=>if cmpV a b≠0 then cmpV a b else cmpL x y
 | _,_=>0
end
def zIJ (a b:List V):Int:=if a.length≠b.length then cmp a.length b.length else cmpL a b
theorem zRD (a b:V):cmpV a b =
  if a.kind≠b.kind then cmp a.kind b.kind else if a.n≠b.n then cmp a.n b.n else
  if cmpI a.neg a.d b.neg b.d≠0 then cmpI a.neg a.d b.neg b.d else if cmpS a.s b.s≠0 then cmpS a.s b.s else
  if zIJ a.l b.l≠0 then zIJ a.l b.l else zIJ a.m b.m:=by
 cases a;cases b;simp only[cmpV,V.kind,V.n,V.neg,V.d,V.s,V.l,V.m,zIJ];rfl
mutual
def cntV:V→Nat
 | .mk _ _ _ _ _ l m=>1+cntVs l+cntVs m
def cntVs:List V→Nat
 | []=>0
 | v :: r=>cntV v+cntVs r
end
mutual
def depV:V→Nat
 | .mk _ _ _ _ _ l m=>max (depVs l) (depVs m)+1
def depVs:List V→Nat
 | []=>0
 | v :: r=>max (depV v) (depVs r)
end
def rising:List V→Bool
 | a :: b :: r=>decide (cmpV a b<0)&&rising (b :: r)
 | _=>true
def zOH (neg:Bool)(d:List Int):Bool:=!neg&&decide (d.length=0)
def node (v:V):Bool:=
 if v.kind=1 then(decide (v.n=0)||decide (v.n=1))&&zOH v.neg v.d&&decide (v.s=[])&&decide (v.l.length=0)&&decide (v.m.length=0)
 else if v.kind=2 then decide (v.n=0)&&isInt v.neg v.d&&decide (v.s=[])&&decide (v.l.length=0)&&decide (v.m.length=0)
 else if v.kind=3 then decide (v.n=0)&&zOH v.neg v.d&&isStr v.s&&decide (v.l.length=0)&&decide (v.m.length=0)
 else if v.kind=4 then decide (v.n=0)&&zOH v.neg v.d&&zSY v.s&&decide (v.l.length=0)&&decide (v.m.length=0)
 else if v.kind=5 then decide (v.n=0)&&zOH v.neg v.d&&decide (v.s=[])&&rising v.l&&decide (v.l.length≤4000)&&decide (v.m.length=0)
 else if v.kind=6 then decide (v.n=0)&&zOH v.neg v.d&&decide (v.s=[])&&rising v.l&&decide (v.l.length≤4000)&&decide (v.m.length=v.l.length)
 else false
mutual
def formed:V→Bool
 | .mk k n ng d s l m=>node (.mk k n ng d s l m)&&formedL l&&formedL m
def formedL:List V→Bool
 | []=>true
 | v :: r=>formed v&&formedL r
end
def isVal (v:V):Bool:=decide (cntV v≤8000)&&decide (depV v≤50)&&formed v
mutual
def known (ms:List Str):V→Bool
 | .mk k _ _ _ s l m=>(decide (k≠4)||decide (s∈ms))&&zST ms l&&zST ms m
def zST (ms:List Str):List V→Bool
 | []=>true
 | v :: r=>known ms v&&zST ms r
end
def zX7 (v:V):Bool:=decide (v.kind=0)&&decide (v.n=0)&&!v.neg&&decide (v.d.length=0)&&decide (v.s=[])&&decide (v.l.length=0)&&decide (v.m.length=0)
mutual
def cntX:X→Nat
 | .mk _ _ _ _ l=>1+cntXs l
def cntXs:List X→Nat
 | []=>0
 | e :: r=>cntX e+cntXs r
end
mutual
def depX:X→Nat
 | .mk _ _ _ _ l=>depXs l+1
def depXs:List X→Nat
 | []=>0
 | e :: r=>max (depX e) (depXs r)
end
mutual
def lits:X→Bool
 | .mk k _ _ v l=>(decide (k≠1)||isVal v)&&litsL l
def litsL:List X→Bool
 | []=>true
 | e :: r=>lits e&&litsL r
end
def distinct:List Str→List Str→Bool
 | _,[]=>true
 | pre,s :: r=>zSY s&&!decide (s∈pre)&&distinct (pre++[s]) r
def ltS (a b:Str):Bool:=decide (cmpS a b<0)
def rise:List Str→Bool
 | []=>true
 | [a]=>zSY a
 | a :: b :: r=>zSY a&&ltS a b&&rise (b :: r)
def fields (l:List Str):Bool:=rise l&&decide ((0:Int)<l.length)
def prims (n:Int):Int:=
 if n=3∨n=11∨n=12∨n=13∨n=17 then 1 else if n=16 then 3 else 2
def sees (k n:Int)(i:Nat):Int:=
 if k=16∨k=17 then i
 else if k=24∨k=30 then(if(i:Int)=n then n else 0)
 else if k=18∨k=23∨k=42 then i
 else if k=34 then(if i=2 then 1 else 0)
 else if k=9 then n
 else 0
def zeros (n:Int):List Int:=List.replicate n.toNat 0
def plainX (e:X):Bool:=
 if e.kind=1 then decide (e.n=0)&&decide ((e.s.length:Int)=0)
 else if e.kind=35∨e.kind=36∨e.kind=37 then decide (e.n=0)&&zX7 e.v
 else if e.kind=2∨e.kind=3∨e.kind=4∨e.kind=6∨e.kind=7∨e.kind=8∨e.kind=9∨e.kind=10∨e.kind=16∨e.kind=17∨e.kind=24∨e.kind=30∨e.kind=41∨e.kind=46∨e.kind=47 then
  decide ((e.s.length:Int)=0)&&zX7 e.v
 else decide (e.n=0)&&decide ((e.s.length:Int)=0)&&zX7 e.v
def callable (sp:Spec)(def_ n:Int):Bool:=
 decide (0≤n)&&decide (n<sp.defs.length) &&
  (decide (def_<0)||decide (n<def_)||((sp.defs.getD n.toNat default).recu&&(sp.defs.getD def_.toNat default).recu))
def params (sp:Spec)(n:Int):List Int:=(sp.defs.getD n.toNat default).params
def own (sp:Spec)(def_:Int)(sc:List Int)(e:X):Bool:=
 let n:=e.n
 let m:Int:=e.l.length
 plainX e &&
 (if e.kind=1 then decide (m=0)&&known sp.models e.v
 else if e.kind=2 then decide (m=0)&&decide (0≤n)&&decide (n<sp.vars.length)
 else if e.kind=3 then decide (m=0)&&decide (0≤n)&&decide (n<sp.consts.length)
 else if e.kind=4 then decide (m=0)&&decide (0≤n)&&decide (n<sc.length)&&decide (sc.getD n.toNat 0=0)
 else if e.kind=5∨e.kind=13∨e.kind=25∨e.kind=26∨e.kind=32∨e.kind=43∨e.kind=45 then decide (m=1)
 else if e.kind=14∨e.kind=15∨e.kind=19∨e.kind=20∨e.kind=21∨e.kind=27∨e.kind=28∨e.kind=29∨e.kind=31∨e.kind=33∨e.kind=44 then decide (m=2)
 else if e.kind=40 then decide (m=3)
 else if e.kind=11∨e.kind=12∨e.kind=22∨e.kind=38 then true
 else if e.kind=39 then decide (2≤m)
 else if e.kind=16∨e.kind=17∨e.kind=24∨e.kind=30 then decide (1≤n)&&decide (n≤8)&&decide (m=n+1)&&decide (sc.length+n≤40)
 else if e.kind=18∨e.kind=23∨e.kind=42 then decide (m=2)&&decide ((sc.length:Int)<40)
 else if e.kind=34 then decide (m=3)&&decide ((sc.length:Int)<40)
 else if e.kind=35∨e.kind=36 then decide (m=(e.s.length:Int))&&fields e.s
 else if e.kind=37 then decide (m=1)&&decide ((e.s.length:Int)=1)&&fields e.s
 else if e.kind=41 then(decide (n=0)||decide (n=1))&&decide (2≤m)&&decide (m % 2=n)
 else if e.kind=46 then decide (1≤n)&&decide (n≤19)&&decide (m=prims n)
 else if e.kind=47 then decide (1≤n)&&decide (n≤4)&&((decide (m=0)&&decide (n≠4))||(decide (m=1)&&decide (n=4)))
 else if e.kind=6 then callable sp def_ n&&decide (m=((params sp n).length:Int))
 else if e.kind=7 then decide (0≤n)&&decide (n<sc.length)&&decide (0<sc.getD n.toNat 0)&&decide (m=sc.getD n.toNat 0)
 else false)
def oper (sp:Spec)(def_:Int)(sc:List Int)(e:X)(ar:Int):Bool:=
 plainX e&&decide (1≤ar)&&decide (ar≤8) &&
 (if e.kind=8 then decide ((e.l.length:Int)=0)&&callable sp def_ e.n&&decide (((params sp e.n).length:Int)=ar)&&(params sp e.n).all fun p=>decide (p=0)
 else if e.kind=9 then decide (e.n=ar)&&decide ((e.l.length:Int)=1)&&decide (sc.length+ar≤40)
 else if e.kind=10 then decide ((e.l.length:Int)=0)&&decide (0≤e.n)&&decide (e.n<sc.length)&&decide (sc.getD e.n.toNat 0=ar)
 else false)
def nodeX (sp:Spec)(def_:Int)(sc:List Int)(e:X)(ar:Int):Bool:=if ar=0 then own sp def_ sc e else oper sp def_ sc e ar
def arity (sp:Spec)(k n:Int)(i:Nat):Int:=if k=6 then(params sp n).getD i 0 else 0
mutual
def ok (sp:Spec)(def_:Int):List Int→X→Int→Bool
 | sc,.mk k n s v l,ar=>nodeX sp def_ sc (.mk k n s v l) ar&&okL sp def_ sc k n 0 l
def okL (sp:Spec)(def_:Int):List Int→Int→Int→Nat→List X→Bool
 | _,_,_,_,[]=>true
 | sc,k,n,i,e :: r=>ok sp def_ (sc++zeros (sees k n i)) e (arity sp k n i)&&okL sp def_ sc k n (i+1) r
end
theorem ok_eq (sp:Spec)(def_:Int)(sc:List Int)(e:X)(ar:Int):ok sp def_ sc e ar=(nodeX sp def_ sc e ar&&okL sp def_ sc e.kind e.n 0 e.l):=by cases e;rfl
def nameB (s:Str):Bool:=decide (1≤(s.length:Int))&&decide ((s.length:Int)≤40)&&s.all fun c=>decide ((33:Int)≤c.toNat)&&decide ((c.toNat:Int)≤126)
def defHeads:List Def→List Def→Bool
 | _,[]=>true
 | pre,d :: r=>nameB d.name&&decide ((d.params.length:Int)≤8)&&d.params.all (fun p=>decide (0≤p)&&decide (p≤8))&&!(pre.any fun x=>decide (x.name=d.name))&&defHeads (pre++[d]) r
def exprs (sp:Spec):List X:=
 sp.vars.map (·.typ)++sp.assume++[sp.init,sp.next]++sp.fair.flatMap (fun x=>[x.a,x.sub])++sp.invs.map (·.e)++sp.cons++sp.acons++sp.view
def bodies (sp:Spec):Nat→List Def→Bool
 | _,[]=>true
 | i,d :: r=>ok sp i d.params d.body 0&&bodies sp (i+1) r
def groupsOk (sp:Spec):Bool:=
 decide ((sp.groups.length:Int)≤10)&&sp.groups.all (fun l=>decide (2≤(l.length:Int)))&&distinct [] sp.groups.flatten&&sp.groups.flatten.all (fun s=>decide (s∈sp.models))
def headOk (sp:Spec):Bool:=
 decide ((sp.models.length:Int)≤40)&&decide ((sp.consts.length:Int)≤20)&&decide (1≤(sp.vars.length:Int))&&decide ((sp.vars.length:Int)≤16)&&decide ((sp.defs.length:Int)≤100)&&decide ((sp.view.length:Int)≤1) &&
 decide ((sp.assume.length:Int)≤40)&&decide ((sp.fair.length:Int)≤40)&&decide ((sp.invs.length:Int)≤40)&&decide ((sp.cons.length:Int)≤40)&&decide ((sp.acons.length:Int)≤40)&&decide ((sp.props.length:Int)≤40) &&
 distinct [] sp.models&&distinct [] (sp.consts.map (·.name))&&distinct [] (sp.vars.map (·.name))&&distinct [] (sp.invs.map (·.name))&&distinct [] (sp.props.map (·.name)) &&
 zST sp.models (sp.consts.map (·.v))&&groupsOk sp&&defHeads [] sp.defs
def wholeOk (sp:Spec):Bool:=
 headOk sp&&bodies sp 0 sp.defs&&(exprs sp).all (fun e=>ok sp (-1) [] e 0) &&
 (sp.defs.all fun d=>decide (depX d.body≤100))&&((exprs sp).all fun e=>decide (depX e≤100))&&decide (cntXs (sp.defs.map (·.body))+cntXs (exprs sp)≤3000)
def specOk (sp:Spec):Bool:=
 wholeOk sp&&(sp.consts.all fun c=>isVal c.v)&&(sp.defs.all fun d=>lits d.body)&&(exprs sp).all lits
def exprOk (sp:Spec)(e:X)(bound:Int):Bool:=
 ok sp (-1) (zeros bound) e 0&&decide (cntX e≤3000)&&decide (depX e≤100)&&lits e
def check (sp:Spec):Int:=if specOk sp then 0 else 6
def checkExpr (sp:Spec)(e:X)(bound:Int):Int:=if !specOk sp then 6 else if bound<0∨40<bound then 1 else if !exprOk sp e bound then 5 else 0
end Pl
namespace Go.Ab
open Go Pl
def iv (n:Int):AV:=.int .i64 n
def slI (l:List Int):AV:=.sl 0 (l.map iv) .shut
def slS (l:List Str):AV:=.sl 0 (l.map AV.str) .shut
mutual
def encV:V→AV
 | .mk k n b d s l m=>.agg [.int .i64 k,.int .i64 n,.bool b,.sl 0 (d.map iv) .shut,.str s,.sl 0 (encVs l) .shut,.sl 0 (encVs m) .shut]
def encVs:List V→List AV
 | []=>[]
 | v :: r=>encV v :: encVs r
end
theorem encVs_map:∀l:List V,encVs l=l.map encV
 | []=>rfl
 | v :: r=>by simp only[encVs,List.map_cons];rw[encVs_map r]
def zBY (v:V):List AV:=[.int .i64 v.kind,.int .i64 v.n,.bool v.neg,.sl 0 (v.d.map iv) .shut,.str v.s,.sl 0 (v.l.map encV) .shut,.sl 0 (v.m.map encV) .shut]
theorem zE2 (v:V):encV v=.agg (zBY v):=by cases v;simp only[encV,encVs_map];rfl
mutual
def encX:X→AV
 | .mk k n s v l=>.agg (.int .i64 k :: .int .i64 n :: .sl 0 (s.map AV.str) .shut :: (zBY v++[.sl 0 (encXs l) .shut]))
def encXs:List X→List AV
 | []=>[]
 | v :: r=>encX v :: encXs r
end
theorem encXs_map:∀l:List X,encXs l=l.map encX
 | []=>rfl
 | v :: r=>by simp only[encXs,List.map_cons];rw[encXs_map r]
def zA1 (e:X):List AV:=[.int .i64 e.kind,.int .i64 e.n,.sl 0 (e.s.map AV.str) .shut,.int .i64 e.v.kind,.int .i64 e.v.n,.bool e.v.neg,.sl 0 (e.v.d.map iv) .shut,.str e.v.s,.sl 0 (e.v.l.map encV) .shut,.sl 0 (e.v.m.map encV) .shut,.sl 0 (e.l.map encX) .shut]
theorem zB7 (e:X):encX e=.agg (zA1 e):=by cases e;simp only[encX,encXs_map];rfl
mutual
def encT:T→AV
 | .mk k e s l=>.agg (.int .i64 k :: (zA1 e++(zA1 s++[.sl 0 (encTs l) .shut])))
def encTs:List T→List AV
 | []=>[]
 | v :: r=>encT v :: encTs r
end
theorem encTs_map:∀l:List T,encTs l=l.map encT
 | []=>rfl
 | v :: r=>by simp only[encTs,List.map_cons];rw[encTs_map r]
def zS6 (e:T):List AV:=.int .i64 e.kind :: (zA1 e.e++(zA1 e.sub++[.sl 0 (e.l.map encT) .shut]))
theorem zYP (e:T):encT e=.agg (zS6 e):=by cases e;simp only[encT,encTs_map];rfl
def zCU (d:Pl.Def):List AV:=.str d.name :: .sl 0 (d.params.map iv) .shut :: .bool d.recu :: zA1 d.body
def zGH (d:Pl.Def):AV:=.agg (zCU d)
def zET (d:Pl.Var):List AV:=.str d.name :: zA1 d.typ
def zIF (d:Pl.Var):AV:=.agg (zET d)
def zC5 (d:Pl.Const):List AV:=.str d.name :: zBY d.v
def zD9 (d:Pl.Const):AV:=.agg (zC5 d)
def zC4 (d:Pl.Named):List AV:=.str d.name :: zA1 d.e
def zD8 (d:Pl.Named):AV:=.agg (zC4 d)
def zCR (d:Pl.Fair):List AV:=.bool d.strong :: (zA1 d.a++zA1 d.sub)
def zHH (d:Pl.Fair):AV:=.agg (zCR d)
def zGS (d:Pl.Prp):List AV:=.str d.name :: zS6 d.t
def zIG (d:Pl.Prp):AV:=.agg (zGS d)
def zAL (s:Pl.Spec):List AV:=
 [.sl 0 (s.models.map AV.str) .shut,.sl 0 (s.consts.map zD9) .shut,.sl 0 (s.vars.map zIF) .shut,.sl 0 (s.defs.map zGH) .shut,.sl 0 (s.assume.map encX) .shut] ++
 (zA1 s.init++(zA1 s.next++[.sl 0 (s.fair.map zHH) .shut,.sl 0 (s.invs.map zD8) .shut,.sl 0 (s.props.map zIG) .shut,.sl 0 (s.cons.map encX) .shut,.sl 0 (s.acons.map encX) .shut,
  .sl 0 (s.groups.map slS) .shut,.sl 0 (s.view.map encX) .shut,.bool s.dead]))
def zFS (s:Pl.Spec):AV:=.agg (zAL s)
theorem zY8 (l:List AV):cellsOf (.agg l)=l:=(rfl)
theorem zDF (v:V):cellsOf (encV v)=zBY v:=by rw[zE2];rfl
theorem zLB (v:X):cellsOf (encX v)=zA1 v:=by rw[zB7];rfl
theorem cells_T (v:T):cellsOf (encT v)=zS6 v:=by rw[zYP];rfl
theorem zY7 (k:IntKind)(n:Int):cellsOf (.int k n)=[.int k n]:=(rfl)
theorem zUW (b:Bool):cellsOf (.bool b)=[.bool b]:=(rfl)
theorem zY5 (b:Str):cellsOf (.str b)=[.str b]:=(rfl)
theorem cells_sl (t:Nat)(xs:List AV)(o:Own):cellsOf (.sl t xs o)=[.sl t xs o]:=(rfl)
theorem zY6 (k o:Nat):cellsOf (.ptr k o)=[.ptr k o]:=(rfl)
theorem zUV (t:Nat)(f:Fn)(a b:List AV):cellsOf (.func t f a b)=[.func t f a b]:=(rfl)
theorem fold_V (v:V):AV.agg [.int .i64 v.kind,.int .i64 v.n,.bool v.neg,.sl 0 (v.d.map iv) .shut,.str v.s,.sl 0 (v.l.map encV) .shut,.sl 0 (v.m.map encV) .shut]=encV v:=(zE2 v).symm
theorem fold_X (e:X):AV.agg [.int .i64 e.kind,.int .i64 e.n,.sl 0 (e.s.map AV.str) .shut,.int .i64 e.v.kind,.int .i64 e.v.n,.bool e.v.neg,.sl 0 (e.v.d.map iv) .shut,.str e.v.s,.sl 0 (e.v.l.map encV) .shut,.sl 0 (e.v.m.map encV) .shut,.sl 0 (e.l.map encX) .shut]=encX e:=(zB7 e).symm
theorem top_V (v:V):top (encV v)=0:=by rw[zE2];rfl
theorem top_X (v:X):top (encX v)=0:=by rw[zB7];rfl
theorem top_T (v:T):top (encT v)=0:=by rw[zYP];rfl
theorem zHS {α:Type}{h:α→AV}(hh:∀a,top (h a)=0):∀l:List α,tops (l.map h)=0
 | []=>rfl
 | a :: r=>by show Nat.max (top (h a)) (tops (r.map h))=0;rw[hh,zHS hh r];rfl
theorem lnth_map {α:Type}{h:α→AV}{l:List α}{i:Nat}{x:α}(hx:l[i]?=some x):lnth (l.map h) i=some (h x):=by rw[zCY,List.getElem?_map,hx];rfl
theorem zEA {α:Type}{h:α→AV}{es:Nat}(hh:∀a,(Nat.beq (llen (cellsOf (h a))) es&&flatC (cellsOf (h a)))=true):∀l:List α,zAZ es (l.map h)=true
 | []=>rfl
 | a :: r=>by show(bif _ then _ else _)=true;rw[hh];exact zEA hh r
end Go.Ab
end
