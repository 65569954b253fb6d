/- A part. -/
import Derived.Test.YtodldpffhfgicaaGreatDoorF8
set_option linter.all false
noncomputable section
namespace Go.Ab
open Go
def W (E:Env)(f:FuncId)(rnd:Option Nat)(c:Code)(fr:Fr)(s:Sto)(Q:Out→Fr→Sto→Prop):Prop:=∃n o fr' s',(iter E n).exec f rnd c fr s=some (o,fr',s')∧Q o fr' s'
def C (E:Env)(f:FuncId)(args:List AV)(s:Sto)(Q:CR→Sto→Prop):Prop:=∃n cr b s',(iter E n).call f args none s=some (cr,b,s')∧Q cr s'
def L (E:Env)(f:FuncId)(ops l:List Oper)(fr:Fr)(s:Sto)(Q:Out→Fr→Sto→Prop):Prop:=∃n o fr' s',runL (iter E n) E f ops l fr s=some (o,fr',s')∧Q o fr' s'
def LP (E:Env)(f:FuncId)(ops:List Oper)(l:List PStep)(fr:Fr)(s:Sto)(Q:Out→Fr→Sto→Prop):Prop:=∃n o fr' s',runP (iter E n) E f ops l fr s=some (o,fr',s')∧Q o fr' s'
def R (E:Env)(l:Nat)(args:List AV)(s:Sto)(Q:CR→Sto→Prop):Prop:=∃n cr s',zFA (iter E n) l args s=some (cr,s')∧Q cr s'
def CV (E:Env)(fv:AV)(args:List AV)(s:Sto)(Q:CR→Sto→Prop):Prop:=
 match zIM fv args s with
 | .call f as s=>C E f as s Q
 | .round l as s=>R E l as s Q
 | _=>False
def zH4 (K:Fr→Sto→Prop)(Q:Out→Fr→Sto→Prop):Out→Fr→Sto→Prop
 | .normal,fr,s=>K fr s
 | o,fr,s=>Q o fr s
def zER (id:Nat)(Q:Out→Fr→Sto→Prop):Out→Fr→Sto→Prop
 | .exit id',fr,s=>if id'=id then Q .normal fr s else Q (.exit id') fr s
 | o,fr,s=>Q o fr s
def zP6 (Q:Out→Fr→Sto→Prop):Out→Fr→Sto→Prop
 | .panic v,fr,s=>allMarks fr.defers=true∧Q (.panic v) fr s
 | o,fr,s=>Q o fr s
def RK (K:AV→Sto→Prop)(P:AV→Sto→Prop):CR→Sto→Prop
 | .ret v,s=>K v s
 | .panic v,s=>P v s
section
variable {E:Env}{f:FuncId}{rnd:Option Nat}{fr:Fr}{s:Sto}{Q:Out→Fr→Sto→Prop}
theorem zJH {n:Nat}{args:List AV}{m:Option (Option AV)}:(iter E (n+1)).call f args m s=zHR (iter E n) E f args m s:=rfl
theorem zJ0 {c:Code}{n:Nat}{x:Out×Fr×Sto}(h:(iter E n).exec f rnd c fr s=some x){m:Nat}(hm:n≤m):(iter E m).exec f rnd c fr s=some x:=
 (zLT hm).exec _ _ _ _ _ _ h
theorem zW0 {ops l:List Oper}{n:Nat}{x:Out×Fr×Sto}(h:runL (iter E n) E f ops l fr s=some x){m:Nat}(hm:n≤m):runL (iter E m) E f ops l fr s=some x:=zW1 (zLT hm) l fr s x h
theorem zWY {ops:List Oper}{l:List PStep}{n:Nat}{x:Out×Fr×Sto}(h:runP (iter E n) E f ops l fr s=some x){m:Nat}(hm:n≤m):runP (iter E m) E f ops l fr s=some x:=zWZ (zLT hm) l fr s x h
theorem zZQ {g:FuncId}{args:List AV}{m0:Option (Option AV)}{n:Nat}{x:CR×Bool×Sto}(h:(iter E n).call g args m0 s=some x){m:Nat}(hm:n≤m):(iter E m).call g args m0 s=some x:=(zLT hm).call _ _ _ _ x h
theorem zS5 {l:Nat}{args:List AV}{n:Nat}{x:CR×Sto}(h:zFA (iter E n) l args s=some x){m:Nat}(hm:n≤m):zFA (iter E m) l args s=some x:=zNR (zLT hm) l args s x h
theorem W_mk {c:Code}{n:Nat}{o:Out}{fr':Fr}{s':Sto}(h:zCR (iter E n) E f rnd c fr s=some (o,fr',s'))(hq:Q o fr' s'):W E f rnd c fr s Q:=⟨n+1,o,fr',s',h,hq⟩
theorem w_seq {a b:Code}(h:W E f rnd a fr s (zH4 (fun fr s=>W E f rnd b fr s Q) Q)):W E f rnd (.seq a b) fr s Q:=by
 obtain⟨n,o,fr',s',h1,h2⟩:=h
 cases o with
 | normal=>
  obtain⟨m,o2,fr2,s2,h3,h4⟩:=h2
  refine W_mk (n:=n+m) ?_ h4
  simp only[zCR,zKI,zJ0 h1 (Nat.le_add_right n m),zJ0 h3 (Nat.le_add_left m n)]
 | _=>exact W_mk (n:=n) (by simp only[zCR,zKI,h1]) h2
theorem w_loop {b:Code}(h:W E f rnd b fr s (zH4 (fun fr s=>W E f rnd (.loop b) fr s Q) Q)):W E f rnd (.loop b) fr s Q:=by
 obtain⟨n,o,fr',s',h1,h2⟩:=h
 cases o with
 | normal=>
  obtain⟨m,o2,fr2,s2,h3,h4⟩:=h2
  refine W_mk (n:=n+m) ?_ h4
  simp only[zCR,zKI,zJ0 h1 (Nat.le_add_right n m),zJ0 h3 (Nat.le_add_left m n)]
 | _=>exact W_mk (n:=n) (by simp only[zCR,zKI,h1]) h2
theorem w_skip (h:Q .normal fr s):W E f rnd .skip fr s Q:=W_mk (n:=0) rfl h
theorem w_label {l:Nat}(h:Q .normal fr s):W E f rnd (.label l) fr s Q:=W_mk (n:=0) rfl h
theorem w_ret (h:Q .ret fr s):W E f rnd .ret fr s Q:=W_mk (n:=0) rfl h
theorem w_exit {id:Nat}(h:Q (.exit id) fr s):W E f rnd (.exit id) fr s Q:=W_mk (n:=0) rfl h
theorem w_block {id:Nat}{b:Code}(h:W E f rnd b fr s (zER id Q)):W E f rnd (.block id b) fr s Q:=by
 obtain⟨n,o,fr',s',h1,h2⟩:=h
 cases o with
 | exit id'=>
  simp only[zER] at h2
  by_cases e:id'=id
  ·subst e
   rw[if_pos rfl] at h2
   exact W_mk (n:=n) (by simp only[zCR,zQE,h1,Nat.beq_refl,cond_true]) h2
  ·rw[if_neg e] at h2
   have:Nat.beq id' id=false:=by
    cases hb:Nat.beq id' id with
    | false=>rfl
    | true=>exact absurd (Nat.eq_of_beq_eq_true hb) e
   exact W_mk (n:=n) (by simp only[zCR,zQE,h1,this,cond_false]) h2
 | _=>exact W_mk (n:=n) (by simp only[zCR,zQE,h1]) h2
theorem w_scope {b:Code}(h:W E f rnd b fr s Q):W E f rnd (.scope b) fr s Q:=by
 obtain⟨n,o,fr',s',h1,h2⟩:=h
 exact W_mk (n:=n) (by simp only[zCR];exact h1) h2
theorem w_true {c:Operand}{a b:Code}(hc:zAD fr c=some (.bool true))(h:W E f rnd a fr s Q):W E f rnd (.cond c a b) fr s Q:=by
 obtain⟨n,o,fr',s',h1,h2⟩:=h
 exact W_mk (n:=n) (by simp only[zCR,zZB,hc];exact h1) h2
theorem zVY {c:Operand}{a b:Code}(hc:zAD fr c=some (.bool false))(h:W E f rnd b fr s Q):W E f rnd (.cond c a b) fr s Q:=by
 obtain⟨n,o,fr',s',h1,h2⟩:=h
 exact W_mk (n:=n) (by simp only[zCR,zZB,hc];exact h1) h2
theorem w_region {id:Nat}{ops:Array Oper}(h:L E f ops.toList ops.toList fr s Q):W E f rnd (.region id ops false) fr s Q:=by
 obtain⟨n,o,fr',s',h1,h2⟩:=h
 exact W_mk (n:=n) (by simp only[zCR,zC0,cond_false];exact h1) h2
theorem w_draw {id:Nat}{ops:Array Oper}(h:LP E f ops.toList (E.plan f id) fr s (zP6 Q)):W E f rnd (.region id ops true) fr s Q:=by
 obtain⟨n,o,fr',s',h1,h2⟩:=h
 cases o with
 | panic v=>exact W_mk (n:=n) (by simp only[zCR,zC0,cond_true,h1,zMC,h2.1]) h2.2
 | _=>exact W_mk (n:=n) (by simp only[zCR,zC0,cond_true,h1,zMC]) h2
theorem l_nil {ops:List Oper}(h:Q .normal fr s):L E f ops [] fr s Q:=⟨0,_,_,_,rfl,h⟩
theorem lp_nil {ops:List Oper}(h:Q .normal fr s):LP E f ops [] fr s Q:=⟨0,_,_,_,rfl,h⟩
theorem l_val {ops r:List Oper}{o:Oper}{v:AV}{s1:Sto}(hg:zAM ops fr o.guard=true)(hn:opA E f fr o.op s=.val v s1)(h:L E f ops r (fr.put o.dst v) s1 Q):L E f ops (o :: r) fr s Q:=by
 obtain⟨n,o2,fr',s',h1,h2⟩:=h
 exact⟨n,o2,fr',s',by simp only[runL,hg,cond_true,hn,zBN];exact h1,h2⟩
theorem l_skip {ops r:List Oper}{o:Oper}(hg:zAM ops fr o.guard=false)(h:L E f ops r (fr.put o.dst undef) s Q):L E f ops (o :: r) fr s Q:=by
 obtain⟨n,o2,fr',s',h1,h2⟩:=h
 exact⟨n,o2,fr',s',by simp only[runL,hg,cond_false];exact h1,h2⟩
theorem l_panic {ops r:List Oper}{o:Oper}{v:AV}{s1:Sto}(hg:zAM ops fr o.guard=true)(hn:opA E f fr o.op s=.panic v s1)(h:Q (.panic v) fr s1):L E f ops (o :: r) fr s Q:=
 ⟨0,.panic v,fr,s1,by simp only[runL,hg,cond_true,hn,zBN],h⟩
theorem l_call {ops r:List Oper}{o:Oper}{g:FuncId}{args:List AV}{s1:Sto}(hg:zAM ops fr o.guard=true)(hn:opA E f fr o.op s=.call g args s1)
  (h:C E g args s1 (RK (fun v s=>L E f ops r (fr.put o.dst v) s Q) (fun v s=>Q (.panic v) fr s))):L E f ops (o :: r) fr s Q:=by
 obtain⟨n,cr,b,s2,h1,h2⟩:=h
 cases cr with
 | ret v=>
  obtain⟨m,o2,fr',s',h3,h4⟩:=h2
  refine⟨n+m,o2,fr',s',?_,h4⟩
  simp only[runL,hg,cond_true,hn,zBN,zZQ h1 (Nat.le_add_right n m),zW0 h3 (Nat.le_add_left m n)]
 | panic v=>exact⟨n,.panic v,fr,s2,by simp only[runL,hg,cond_true,hn,zBN,h1],h2⟩
theorem l_round {ops r:List Oper}{o:Oper}{l:Nat}{args:List AV}{s1:Sto}(hg:zAM ops fr o.guard=true)(hn:opA E f fr o.op s=.round l args s1)
  (h:R E l args s1 (RK (fun v s=>L E f ops r (fr.put o.dst v) s Q) (fun v s=>Q (.panic v) fr s))):L E f ops (o :: r) fr s Q:=by
 obtain⟨n,cr,s2,h1,h2⟩:=h
 cases cr with
 | ret v=>
  obtain⟨m,o2,fr',s',h3,h4⟩:=h2
  refine⟨n+m,o2,fr',s',?_,h4⟩
  simp only[runL,hg,cond_true,hn,zBN,zS5 h1 (Nat.le_add_right n m),zW0 h3 (Nat.le_add_left m n)]
 | panic v=>exact⟨n,.panic v,fr,s2,by simp only[runL,hg,cond_true,hn,zBN,h1],h2⟩
theorem lp_val {ops:List Oper}{r:List PStep}{i:Nat}{o:Oper}{v:AV}{s1:Sto}(hi:zB7 ops i=some o)(hg:zAM ops fr o.guard=true)(hn:opA E f fr o.op s=.val v s1)(h:LP E f ops r (fr.put o.dst v) s1 Q):LP E f ops (.l i :: r) fr s Q:=by
 obtain⟨n,o2,fr',s',h1,h2⟩:=h
 exact⟨n,o2,fr',s',by simp only[runP,hi,hg,cond_true,hn,zBN];exact h1,h2⟩
theorem lp_skip {ops:List Oper}{r:List PStep}{i:Nat}{o:Oper}(hi:zB7 ops i=some o)(hg:zAM ops fr o.guard=false)(h:LP E f ops r (fr.put o.dst undef) s Q):LP E f ops (.l i :: r) fr s Q:=by
 obtain⟨n,o2,fr',s',h1,h2⟩:=h
 exact⟨n,o2,fr',s',by simp only[runP,hi,hg,cond_false];exact h1,h2⟩
theorem lp_panic {ops:List Oper}{r:List PStep}{i:Nat}{o:Oper}{v:AV}{s1:Sto}(hi:zB7 ops i=some o)(hg:zAM ops fr o.guard=true)(hn:opA E f fr o.op s=.panic v s1)(h:Q (.panic v) fr s1):LP E f ops (.l i :: r) fr s Q:=
 ⟨0,.panic v,fr,s1,by simp only[runP,hi,hg,cond_true,hn,zBN],h⟩
theorem lp_call {ops:List Oper}{r:List PStep}{i:Nat}{o:Oper}{g:FuncId}{args:List AV}{s1:Sto}(hi:zB7 ops i=some o)(hg:zAM ops fr o.guard=true)(hn:opA E f fr o.op s=.call g args s1)
  (h:C E g args s1 (RK (fun v s=>LP E f ops r (fr.put o.dst v) s Q) (fun v s=>Q (.panic v) fr s))):LP E f ops (.l i :: r) fr s Q:=by
 obtain⟨n,cr,b,s2,h1,h2⟩:=h
 cases cr with
 | ret v=>
  obtain⟨m,o2,fr',s',h3,h4⟩:=h2
  refine⟨n+m,o2,fr',s',?_,h4⟩
  simp only[runP,hi,hg,cond_true,hn,zBN,zZQ h1 (Nat.le_add_right n m),zWY h3 (Nat.le_add_left m n)]
 | panic v=>exact⟨n,.panic v,fr,s2,by simp only[runP,hi,hg,cond_true,hn,zBN,h1],h2⟩
theorem lp_round {ops:List Oper}{r:List PStep}{i:Nat}{o:Oper}{l:Nat}{args:List AV}{s1:Sto}(hi:zB7 ops i=some o)(hg:zAM ops fr o.guard=true)(hn:opA E f fr o.op s=.round l args s1)
  (h:R E l args s1 (RK (fun v s=>LP E f ops r (fr.put o.dst v) s Q) (fun v s=>Q (.panic v) fr s))):LP E f ops (.l i :: r) fr s Q:=by
 obtain⟨n,cr,s2,h1,h2⟩:=h
 cases cr with
 | ret v=>
  obtain⟨m,o2,fr',s',h3,h4⟩:=h2
  refine⟨n+m,o2,fr',s',?_,h4⟩
  simp only[runP,hi,hg,cond_true,hn,zBN,zS5 h1 (Nat.le_add_right n m),zWY h3 (Nat.le_add_left m n)]
 | panic v=>exact⟨n,.panic v,fr,s2,by simp only[runP,hi,hg,cond_true,hn,zBN,h1],h2⟩
theorem lp_q {ops:List Oper}{r:List PStep}{i:Nat}{o:Oper}{v:AV}(hi:zB7 ops i=some o)(hg:zAM ops fr o.guard=true)(hn:opQ E f fr o.op s=some v)(h:LP E f ops r (fr.put o.dst v) s Q):LP E f ops (.q i :: r) fr s Q:=by
 obtain⟨n,o2,fr',s',h1,h2⟩:=h
 exact⟨n,o2,fr',s',by simp only[runP,hi,hg,cond_true,hn];exact h1,h2⟩
theorem lp_qskip {ops:List Oper}{r:List PStep}{i:Nat}{o:Oper}(hi:zB7 ops i=some o)(hg:zAM ops fr o.guard=false)(h:LP E f ops r (fr.put o.dst undef) s Q):LP E f ops (.q i :: r) fr s Q:=by
 obtain⟨n,o2,fr',s',h1,h2⟩:=h
 exact⟨n,o2,fr',s',by simp only[runP,hi,hg,cond_false];exact h1,h2⟩
theorem lp_c {ops:List Oper}{r:List PStep}{i:Nat}{o:Oper}{d:Tmp}{v:AV}(hi:zB7 ops i=some o)(hg:zAM ops fr o.guard=true)(hd:o.dst=some d)(hn:opQ E f fr o.op s=some v)(hv:beqV v (lget fr.tmps d)=true)(h:LP E f ops r fr s Q):LP E f ops (.chk i :: r) fr s Q:=by
 obtain⟨n,o2,fr',s',h1,h2⟩:=h
 exact⟨n,o2,fr',s',by simp only[runP,hi,hg,cond_true,hd,hn,hv];exact h1,h2⟩
theorem lp_cskip {ops:List Oper}{r:List PStep}{i:Nat}{o:Oper}(hi:zB7 ops i=some o)(hg:zAM ops fr o.guard=false)(h:LP E f ops r fr s Q):LP E f ops (.chk i :: r) fr s Q:=by
 obtain⟨n,o2,fr',s',h1,h2⟩:=h
 exact⟨n,o2,fr',s',by simp only[runP,hi,hg,cond_false];exact h1,h2⟩
theorem lp_apart {ops:List Oper}{r:List PStep}{i j:Nat}(ha:zQL ops fr i j=true)(h:LP E f ops r fr s Q):LP E f ops (.apart i j :: r) fr s Q:=by
 obtain⟨n,o2,fr',s',h1,h2⟩:=h
 exact⟨n,o2,fr',s',by simp only[runP,ha,cond_true];exact h1,h2⟩
end
def finQ (E:Env)(fn:Func)(md:Mode)(base:Nat)(s0:Sto)(Q:CR→Sto→Prop):Out→Fr→Sto→Prop
 | .normal,fr,s=>fr.defers=[]∧∃v s1 s2,result0 E fn md fr s=some (v,s1)∧zI7 md.iso v false base s0 s1=some (.ret v,false,s2)∧Q (.ret v) s2
 | .ret,fr,s=>fr.defers=[]∧∃v s1 s2,result0 E fn md fr s=some (v,s1)∧zI7 md.iso v false base s0 s1=some (.ret v,false,s2)∧Q (.ret v) s2
 | .panic v,fr,s=>fr.defers=[]∧∃s2,zNG md.iso v false base s0 s=some (.panic v,false,s2)∧Q (.panic v) s2
 | _,_,_=>False
theorem zYU {E:Env}{fn:Func}{md:Mode}{base:Nat}{s0 s':Sto}{Q:CR→Sto→Prop}{o:Out}{fr':Fr}(h:finQ E fn md base s0 Q o fr' s')(n:Nat) :
  ∃cr s2,behind (iter E n) E fn md none base s0 (some (o,fr',s'))=some (cr,false,s2)∧Q cr s2:=by
 cases o with
 | normal=>
  obtain⟨h1,v,s1,s2,h2,h3,h4⟩:=h
  refine⟨.ret v,s2,?_,h4⟩
  simp only[behind,modeOut,h1,zBY,leave,h2,Option.isSome,Bool.false_and,h3]
 | ret=>
  obtain⟨h1,v,s1,s2,h2,h3,h4⟩:=h
  refine⟨.ret v,s2,?_,h4⟩
  simp only[behind,modeOut,h1,zBY,leave,h2,Option.isSome,Bool.false_and,h3]
 | panic v=>
  obtain⟨h1,s2,h3,h4⟩:=h
  refine⟨.panic v,s2,?_,h4⟩
  simp only[behind,modeOut,h1,zBY,leave,Option.isSome,Bool.false_and,h3]
 | _=>cases h
def zNS (fn:Func)(args:List AV):Fr:=⟨lapp args (lrep undef (fn.ntmps-llen args)),[],none⟩
theorem C_call {E:Env}{f:FuncId}{fn:Func}{body:Code}{args args1:List AV}{s s1:Sto}{md:Mode}{Q:CR→Sto→Prop}(hi:E.intr f args=none)(hns:insM E f args s none=none)(hfn:E.funcs f=some fn)(hb:fn.body=some body)(hmd:E.mode f=md)
  (hm:md.iso=false) (ha:(bif md.rawArgs then some (args,s) else zBO s args)=some (args1,s1)) (h:W E f none body (zNS fn args1) s1 (finQ E fn md s1.n s1 Q)):C E f args s Q:=by
 subst hmd
 obtain⟨n,o,fr',s',h1,h2⟩:=h
 obtain⟨cr,s2,h3,h4⟩:=zYU h2 n
 refine⟨n+1,cr,false,s2,?_,h4⟩
 rw[zJH]
 unfold zHR zJY
 simp only[hi,hns,hfn,hb]
 have he:enter (iter E n) E f fn body (E.mode f) args1 none s1=some (cr,false,s2):=by
  unfold enter
  simp only[hm,cond_false]
  rw[show(iter E n).exec f none body ⟨lapp args1 (lrep undef (fn.ntmps-llen args1)),[],none⟩ s1=some (o,fr',s') from h1]
  exact h3
 cases hr:(E.mode f).rawArgs with
 | true=>rw[hr] at ha;cases ha;simp only[cond_true,mJoin];exact he
 | false=>rw[hr] at ha;simp only[cond_false] at ha ⊢;rw[ha];exact he
theorem C_iso {E:Env}{f:FuncId}{fn:Func}{body:Code}{args args1:List AV}{s s1:Sto}{md:Mode}{Q:CR→Sto→Prop}(hi:E.intr f args=none)(hns:insM E f args s none=none)(hfn:E.funcs f=some fn)(hb:fn.body=some body)(hmd:E.mode f=md)
  (hm:md.iso=true) (ha:(bif md.rawArgs then some (args,s) else zBO s args)=some (args1,s1)) (ht:tops args1=0) (h:W E f none body (zNS fn args1) .empty (finQ E fn md 0 s1 Q)):C E f args s Q:=by
 subst hmd
 obtain⟨n,o,fr',s',h1,h2⟩:=h
 obtain⟨cr,s2,h3,h4⟩:=zYU h2 n
 refine⟨n+1,cr,false,s2,?_,h4⟩
 rw[zJH]
 unfold zHR zJY
 simp only[hi,hns,hfn,hb]
 have he:enter (iter E n) E f fn body (E.mode f) args1 none s1=some (cr,false,s2):=by
  unfold enter
  simp only[hm,cond_true,ht,Nat.beq_refl]
  rw[show(iter E n).exec f none body ⟨lapp args1 (lrep undef (fn.ntmps-llen args1)),[],none⟩ .empty=some (o,fr',s') from h1]
  exact h3
 cases hr:(E.mode f).rawArgs with
 | true=>rw[hr] at ha;cases ha;simp only[cond_true,mJoin];exact he
 | false=>rw[hr] at ha;simp only[cond_false] at ha ⊢;rw[ha];exact he
def F (n:Nat)(env:Nat→AV):Fr:=⟨(List.range n).map env,[],none⟩
def upd (env:Nat→AV)(d:Nat)(v:AV)(j:Nat):AV:=if j=d then v else env j
def argE:List AV→Nat→AV
 | [],_=>Ab.undef
 | a :: _,0=>a
 | _ :: r,n+1=>argE r n
theorem argE_eq:∀(l:List AV) (t:Nat),argE l t=l.getD t Ab.undef
 | [],_=>by simp[argE]
 | _ :: _,0=>rfl
 | _ :: r,n+1=>by simp[argE,argE_eq r n]
theorem F_get {n t:Nat}{env:Nat→AV}(h:t<n):lget (F n env).tmps t=env t:=by
 rw[zCJ,List.getD_eq_getElem?_getD]
 unfold F
 simp only[List.getElem?_map]
 rw[List.getElem?_range h];rfl
theorem F_put {n d:Nat}{env:Nat→AV}{v:AV}:(F n env).put (some d) v=F n (upd env d v):=by
 show(⟨lset v ((List.range n).map env) d,[],none⟩:Fr)=_
 unfold F
 congr 1
 rw[zFR]
 apply List.ext_getElem?
 intro i
 rw[List.getElem?_set]
 simp only[List.getElem?_map,List.length_map,List.length_range]
 by_cases hi:i<n
 ·rw[List.getElem?_range hi]
  by_cases e:d=i
  ·subst e;rw[if_pos rfl,if_pos hi];simp[upd]
  ·rw[if_neg e];simp only[upd,Option.map_some];rw[if_neg (fun e2=>e e2.symm)]
 ·rw[List.getElem?_eq_none (by simp;omega)]
  by_cases e:d=i
  ·subst e;rw[if_pos rfl,if_neg hi];rfl
  ·rw[if_neg e];rfl
theorem F_ext {n:Nat}{env env':Nat→AV}(h:∀t,t<n→env t=env' t):F n env=F n env':=by
 unfold F
 congr 1
 exact List.map_congr_left fun t ht=>h t (List.mem_range.1 ht)
theorem callFr_F {fn:Func}{args:List AV}{n:Nat}(hn:fn.ntmps=n)(h:args.length≤n):zNS fn args=F n (argE args):=by
 subst hn
 unfold zNS F
 congr 1
 rw[zBP,zD7,zAH]
 apply List.ext_getElem?
 intro i
 rw[List.getElem?_map]
 by_cases hi:i<fn.ntmps
 ·rw[List.getElem?_range hi]
  by_cases h2:i<args.length
  ·rw[List.getElem?_append_left h2]
   simp only[Option.map_some,argE_eq,List.getD_eq_getElem?_getD,List.getElem?_eq_getElem h2,Option.getD_some]
  ·rw[List.getElem?_append_right (by omega),List.getElem?_replicate,if_pos (by omega)]
   simp only[Option.map_some,argE_eq,List.getD_eq_getElem?_getD,List.getElem?_eq_none (Nat.le_of_not_lt h2),Option.getD_none]
 ·rw[List.getElem?_eq_none (by simp;omega),List.getElem?_eq_none (by simp;omega)];rfl
def zCE (g:Nat→Box):Nat→List Box
 | 0=>[]
 | n+1=>g n :: zCE g n
def S (n:Nat)(g:Nat→Box)(u:List (Nat×Nat)):Sto:=⟨zCE g n,n,u⟩
def updB (g:Nat→Box)(k:Nat)(b:Box)(j:Nat):Box:=if j=k then b else g j
theorem zIN {g g':Nat→Box}:∀{n:Nat},(∀k,k<n→g k=g' k)→zCE g n=zCE g' n
 | 0,_=>rfl
 | n+1,h=>by simp only[zCE];rw[h n (Nat.lt_succ_self n),zIN fun k hk=>h k (Nat.lt_succ_of_lt hk)]
theorem zMP {n:Nat}{g g':Nat→Box}{u:List (Nat×Nat)}(h:∀k,k<n→g k=g' k):S n g u=S n g' u:=by
 unfold S;rw[zIN h]
theorem zGT {g:Nat→Box}:∀n,(zCE g n).length=n
 | 0=>rfl
 | n+1=>by simp[zCE,zGT n]
theorem zGU {g:Nat→Box}:∀{n k:Nat},k<n→(zCE g n)[n-1-k]?=some (g k)
 | 0,k,h=>absurd h (Nat.not_lt_zero k)
 | n+1,k,h=>by
  by_cases e:k=n
  ·subst e;simp[zCE]
  ·have hk:k<n:=by omega
   rw[show n+1-1-k=(n-1-k)+1 by omega]
   simp only[zCE,List.getElem?_cons_succ]
   exact zGU hk
theorem zEY {n k:Nat}{g:Nat→Box}{u:List (Nat×Nat)}(h:k<n):(S n g u).get k=g k:=by
 rw[zKE]
 show(if k<n then _ else _)=_
 rw[if_pos h]
 show((zCE g n)[n-1-k]?).getD .dead=g k
 rw[zGU h];rfl
theorem zJ6 {n:Nat}{g:Nat→Box}{u:List (Nat×Nat)}{b:Box}:(S n g u).alloc b=S (n+1) (updB g n b) u:=by
 show(⟨b :: zCE g n,n+1,u⟩:Sto)=⟨zCE (updB g n b) (n+1),n+1,u⟩
 simp only[zCE,updB,if_true]
 rw[zIN (g:=g) (g':=fun j=>if j=n then b else g j) fun k hk=>(if_neg (by omega)).symm]
 rfl
theorem zIP {n k:Nat}{g:Nat→Box}{u:List (Nat×Nat)}{b:Box}(h:k<n):(S n g u).put k b=S n (updB g k b) u:=by
 show(⟨lsetG b (zCE g n) (n-1-k),n,u⟩:Sto)=⟨zCE (updB g k b) n,n,u⟩
 congr 1
 rw[zKW]
 apply List.ext_getElem?
 intro i
 rw[List.getElem?_set]
 by_cases hi:i<n
 ·have e1:(zCE g n)[i]?=some (g (n-1-i)):=by
   have:=zGU (g:=g) (n:=n) (k:=n-1-i) (by omega)
   rwa [show n-1-(n-1-i)=i by omega] at this
  have e2:(zCE (updB g k b) n)[i]?=some (updB g k b (n-1-i)):=by
   have:=zGU (g:=updB g k b) (n:=n) (k:=n-1-i) (by omega)
   rwa [show n-1-(n-1-i)=i by omega] at this
  rw[e1,e2,zGT]
  by_cases e:n-1-k=i
  ·subst e;rw[if_pos rfl,if_pos hi];simp only[updB];rw[if_pos (by omega)]
  ·rw[if_neg e];simp only[updB];rw[if_neg (by omega)]
 ·rw[List.getElem?_eq_none (by rw[zGT];omega),List.getElem?_eq_none (by rw[zGT];omega),if_neg (by omega)]
theorem zMO {n k t:Nat}{g:Nat→Box}{u:List (Nat×Nat)}(h:t≤k+1):(S n g u).note k t=S n g u:=zFQ h
theorem zSL {n k t:Nat}{g:Nat→Box}{u:List (Nat×Nat)}(h:k+1<t):(S n g u).note k t=S n g (zJO k t u):=by
 unfold Sto.note
 rw[show Nat.ble t (k+1)=false from by
  cases hb:Nat.ble t (k+1) with
  | false=>rfl
  | true=>exact absurd (Nat.le_of_ble_eq_true hb) (by omega)]
 rfl
theorem S_n {n:Nat}{g:Nat→Box}{u:List (Nat×Nat)}:(S n g u).n=n:=rfl
theorem S_cut {n b:Nat}{g:Nat→Box}{u:List (Nat×Nat)}(h:b≤n):(S n g u).cut b=S b g (zAJ b u):=by
 show(⟨zX6 (zCE g n) (n-b),b,zAJ b u⟩:Sto)=⟨zCE g b,b,zAJ b u⟩
 congr 1
 rw[zLQ]
 obtain⟨d,rfl⟩:=Nat.exists_eq_add_of_le h
 rw[show b+d-b=d by omega]
 clear h
 induction d with
 | zero=>rfl
 | succ d ih=>exact ih
theorem yAB {n b t:Nat}{g:Nat→Box}{u:List (Nat×Nat)}(h:b≤n)(ht:t≤b)(hu:zAQ b u=true):(S n g u).done b t=S b g (zAJ b u):=by
 unfold Sto.done
 rw[Nat.ble_eq_true_of_le ht]
 simp only[cond_true]
 rw[show(S n g u).ups=u from rfl,hu]
 simp only[cond_true]
 exact S_cut h
theorem yAA {n b t:Nat}{g:Nat→Box}{u:List (Nat×Nat)}(hu:zAQ b u=false):(S n g u).done b t=S n g u:=by
 unfold Sto.done
 rw[show(S n g u).ups=u from rfl,hu]
 simp only[cond_false]
 cases Nat.ble t b<;>rfl
theorem zHT {n b t:Nat}{g:Nat→Box}{u:List (Nat×Nat)}(ht:b<t):(S n g u).done b t=S n g u:=by
 unfold Sto.done
 rw[show Nat.ble t b=false from by
  cases hb:Nat.ble t b with
  | false=>rfl
  | true=>exact absurd (Nat.le_of_ble_eq_true hb) (by omega)]
 rfl
def g0:Nat→Box:=fun _=>.dead
theorem S_empty:Sto.empty=S 0 g0 []:=rfl
def asg:List (Nat×AV)→(Nat→AV)→Nat→AV
 | [],b=>b
 | (d,v) :: l,b=>upd (asg l b) d v
def Fl (n:Nat)(l:List (Nat×AV))(b:Nat→AV):Fr:=F n (asg l b)
def argL:Nat→List AV→List (Nat×AV)
 | _,[]=>[]
 | i,a :: r=>(i,a) :: argL (i+1) r
def ub:Nat→AV:=fun _=>Ab.undef
theorem yAH {n d:Nat}{l:List (Nat×AV)}{b:Nat→AV}{v:AV}:(Fl n l b).put (some d) v=Fl n ((d,v) :: l) b:=F_put
theorem argL_eq:∀(l:List AV) (i t:Nat),asg (argL i l) ub t=if t<i then Ab.undef else argE l (t-i)
 | [],i,t=>by unfold argL asg ub argE;split<;>rfl
 | a :: r,i,t=>by
  show upd (asg (argL (i+1) r) ub) i a t=_
  unfold upd
  by_cases e:t=i
  ·subst e;rw[if_pos rfl,if_neg (Nat.lt_irrefl t),Nat.sub_self];rfl
  ·rw[if_neg e,argL_eq r (i+1) t]
   by_cases h:t<i
   ·rw[if_pos h,if_pos (by omega)]
   ·rw[if_neg h,if_neg (by omega),show t-i=(t-(i+1))+1 by omega];rfl
theorem zMH {fn:Func}{args:List AV}{n:Nat}(hn:fn.ntmps=n)(h:args.length≤n):zNS fn args=Fl n (argL 0 args) ub:=by
 rw[callFr_F hn h]
 exact F_ext fun t _=>by rw[argL_eq,if_neg (Nat.not_lt_zero t),Nat.sub_zero]
def find (t:Nat):List (Nat×AV)→(Nat→AV)→Option AV
 | [],b=>some (b t)
 | (d,v) :: l,b=>bif Nat.beq t d then some v else find t l b
theorem zRY {t:Nat}{b:Nat→AV}:∀l:List (Nat×AV),find t l b=some (asg l b t)
 | []=>rfl
 | (d,v) :: l=>by
  show(bif Nat.beq t d then some v else find t l b)=some (upd (asg l b) d v t)
  unfold upd
  by_cases e:t=d
  ·subst e;rw[Nat.beq_refl,if_pos rfl];rfl
  ·have:Nat.beq t d=false:=by
    cases h:Nat.beq t d with
    | false=>rfl
    | true=>exact absurd (Nat.eq_of_beq_eq_true h) e
   rw[this,if_neg e];exact zRY l
def look (n:Nat)(l:List (Nat×AV))(b:Nat→AV):Operand→Option AV
 | .tmp t=>bif Nat.blt t n then find t l b else none
 | .const v=>ofConst v
 | .func f=>some (.func 0 (.func f) [] [])
 | .global _=>none
theorem rebase {n:Nat}{l:List (Nat×AV)}{b:Nat→AV}:∀l':List (Nat×AV),(∀x∈l',asg l b x.1=x.2)→Fl n l b=Fl n l' (asg l b):=by
 have key:∀l':List (Nat×AV),(∀x∈l',asg l b x.1=x.2)→∀t,asg l b t=asg l' (asg l b) t:=by
  intro l'
  induction l' with
  | nil=>intro _ t;rfl
  | cons x r ih=>
   intro h t
   obtain⟨d,v⟩:=x
   show asg l b t=upd (asg r (asg l b)) d v t
   unfold upd
   by_cases e:t=d
   ·subst e;rw[if_pos rfl];exact h (t,v) (List.mem_cons_self ..)
   ·rw[if_neg e];exact ih (fun y hy=>h y (List.mem_cons_of_mem _ hy)) t
 intro l' h
 exact F_ext fun t _=>key l' h t
def held (l:List (Nat×AV))(b:Nat→AV):List (Nat×AV)→Prop
 | []=>True
 | (d,v) :: r=>find d l b=some v∧held l b r
theorem reb {n:Nat}{l:List (Nat×AV)}{b:Nat→AV}(l':List (Nat×AV))(h:held l b l'):Fl n l b=Fl n l' (asg l b):=by
 refine rebase l' ?_
 induction l' with
 | nil=>intro x hx;cases hx
 | cons y r ih=>
  obtain⟨d,v⟩:=y
  intro x hx
  cases hx with
  | head=>exact Option.some.inj ((zRY l).symm.trans h.1)
  | tail _ hx=>exact ih h.2 x hx
def EV (n:Nat)(l:List (Nat×AV))(b:Nat→AV)(x:Operand)(a:AV):Prop:=zAD (Fl n l b) x=some a
section
variable {n:Nat}{l:List (Nat×AV)}{b:Nat→AV}
theorem ee {x:Operand}{a:AV}(h:look n l b x=some a):EV n l b x a:=by
 cases x with
 | tmp t=>
  simp only[look,cond_eq_ite] at h
  split at h
  ·rename_i ht
   show some (lget (F n (asg l b)).tmps t)=some a
   rw[F_get (by rw[Nat.blt_eq] at ht;exact ht),← zRY];exact h
  ·cases h
 | const v=>exact h
 | func f=>exact h
 | global g=>cases h
end
theorem zXH (a:Own):ownB a a=true:=by cases a<;>rfl
theorem zQC (l:List UInt8):bytesEq l l=true:=by rw[zD9];simp
theorem ieq_refl (n:Int):ieq n n=true:=by rw[zJC];simp
theorem zDV (k:IntKind):keq k k=true:=by rw[zPS];simp
theorem zZY (a:AV):beqV a a=true:=by
 refine AV.rec (motive_1:=fun a=>beqV a a=true) (motive_2:=fun l=>beqL l l=true)
   ?_ ?_ ?_ ?_ ?_ ?_ ?_ ?_ ?_ ?_ ?_ ?_ ?_ ?_ ?_ ?_ ?_ ?_ ?_ a
 ·intro b;cases b<;>rfl
 ·intro k n;show(keq k k&&ieq n n)=true;rw[zDV,ieq_refl];rfl
 ·intro l;exact zQC l
 ·rfl
 ·intro k o;show(Nat.beq k k&&Nat.beq o o)=true;simp
 ·intro k i o;show(Nat.beq k k&&(Nat.beq i i&&Nat.beq o o))=true;simp
 ·intro t cs ih;show(Nat.beq t t&&beqL cs cs)=true;rw[ih];simp
 ·intro t xs o ih;show(Nat.beq t t&&(ownB o o&&beqL xs xs))=true;rw[ih,zXH];simp
 ·intro k o n;show(Nat.beq k k&&(Nat.beq o o&&Nat.beq n n))=true;simp
 ·rfl
 ·intro k;show Nat.beq k k=true;simp
 ·intro t f a b iha ihb;show(Nat.beq t t&&(decide (f=f)&&(beqL a a&&beqL b b)))=true;rw[iha,ihb];simp
 ·rfl
 ·intro t v ih;show(Nat.beq t t&&beqV v v)=true;rw[ih];simp
 ·rfl
 ·intro cs ih;exact ih
 ·intro cs ih;exact ih
 ·rfl
 ·intro a l ha hl;show(bif beqV a a then beqL l l else false)=true;rw[ha,hl];rfl
class Tk {α:Type} (a:α):Type where
 mk ::
instance tk {α:Type} (a:α):Tk a:=⟨⟩
inductive Rest where
 | lst (ops r:List Oper)
 | pln (ops:List Oper) (r:List PStep)
def zMN (E:Env)(dst:Option Tmp)(fr:Fr)(nx:Nx)(K:Fr→Sto→Prop)(Q:Out→Fr→Sto→Prop):Prop:=
 match nx with
 | .val v s=>K (fr.put dst v) s
 | .call g args s=>C E g args s (RK (fun v s=>K (fr.put dst v) s) (fun v s=>Q (.panic v) fr s))
 | .round l args s=>R E l args s (RK (fun v s=>K (fr.put dst v) s) (fun v s=>Q (.panic v) fr s))
 | .panic v s=>Q (.panic v) fr s
 | _=>False
def rwL (E:Env)(f:FuncId)(ops:List Oper):List Oper→Fr→Sto→(Out→Fr→Sto→Prop)→Prop
 | []=>fun fr s Q=>Q .normal fr s
 | o :: r=>fun fr s Q=>bif zAM ops fr o.guard then zMN E o.dst fr (opA E f fr o.op s) (fun fr s=>rwL E f ops r fr s Q) Q else rwL E f ops r (fr.put o.dst undef) s Q
def quietV (dst:Option Tmp)(fr:Fr)(s:Sto)(x:Option AV)(K:Fr→Sto→Prop):Prop:=
 match x with
 | some v=>K (fr.put dst v) s
 | none=>False
def chkV (dst:Option Tmp)(fr:Fr)(s:Sto)(x:Option AV)(K:Fr→Sto→Prop):Prop:=
 match x with
 | some v=>(match dst with
  | some d=>v=lget fr.tmps d∧K fr s
  | none=>False)
 | none=>False
def rwP (E:Env)(f:FuncId)(ops:List Oper):List PStep→Fr→Sto→(Out→Fr→Sto→Prop)→Prop
 | []=>fun fr s Q=>Q .normal fr s
 | .l i :: r=>fun fr s Q=>match zB7 ops i with
  | some o=>bif zAM ops fr o.guard then zMN E o.dst fr (opA E f fr o.op s) (fun fr s=>rwP E f ops r fr s Q) Q else rwP E f ops r (fr.put o.dst undef) s Q
  | none=>False
 | .q i :: r=>fun fr s Q=>match zB7 ops i with
  | some o=>bif zAM ops fr o.guard then quietV o.dst fr s (opQ E f fr o.op s) (fun fr s=>rwP E f ops r fr s Q) else rwP E f ops r (fr.put o.dst undef) s Q
  | none=>False
 | .chk i :: r=>fun fr s Q=>match zB7 ops i with
  | some o=>bif zAM ops fr o.guard then chkV o.dst fr s (opQ E f fr o.op s) (fun fr s=>rwP E f ops r fr s Q) else rwP E f ops r fr s Q
  | none=>False
 | .apart i j :: r=>fun fr s Q=>zQL ops fr i j=true∧rwP E f ops r fr s Q
def RW (E:Env)(f:FuncId)(k:Rest)[Tk k](fr:Fr)(s:Sto)(Q:Out→Fr→Sto→Prop):Prop:=
 match k with
 | .lst ops r=>rwL E f ops r fr s Q
 | .pln ops r=>rwP E f ops r fr s Q
def SV (E:Env)(f:FuncId)(k:Rest)[Tk k](dst:Option Tmp)(fr:Fr)(nx:Nx)(Q:Out→Fr→Sto→Prop):Prop:=zMN E dst fr nx (fun fr s=>RW E f k fr s Q) Q
def SQ (E:Env)(f:FuncId)(k:Rest)[Tk k](dst:Option Tmp)(fr:Fr)(s:Sto)(x:Option AV)(Q:Out→Fr→Sto→Prop):Prop:=quietV dst fr s x (fun fr s=>RW E f k fr s Q)
def SC (E:Env)(f:FuncId)(k:Rest)[Tk k](dst:Option Tmp)(fr:Fr)(s:Sto)(x:Option AV)(Q:Out→Fr→Sto→Prop):Prop:=chkV dst fr s x (fun fr s=>RW E f k fr s Q)
def GW (E:Env)(f:FuncId)(what:Nat)(k:Rest)[Tk k](dst:Option Tmp)(op:Op)[Tk op](fr:Fr)(s:Sto)(Q:Out→Fr→Sto→Prop)(w:Bool):Prop:=
 match what with
 | 0=>bif w then SV E f k dst fr (opA E f fr op s) Q else RW E f k (fr.put dst undef) s Q
 | 1=>bif w then SQ E f k dst fr s (opQ E f fr op s) Q else RW E f k (fr.put dst undef) s Q
 | _=>bif w then SC E f k dst fr s (opQ E f fr op s) Q else RW E f k fr s Q
def KR (E:Env)(f:FuncId)(k:Rest)[Tk k](dst:Option Tmp)(fr:Fr)(Q:Out→Fr→Sto→Prop):CR→Sto→Prop:=RK (fun v s=>RW E f k (fr.put dst v) s Q) (fun v s=>Q (.panic v) fr s)
def gdst (ops:List Oper)[Tk ops]:Nat→Option Tmp:=
 match ops with
 | []=>fun _=>none
 | o :: r=>fun i=>match i with
  | 0=>o.dst
  | i+1=>gdst r i
def gval (fr:Fr)(w:Bool):Option Tmp→Bool
 | some d=>match lget fr.tmps d with
  | .bool b=>bif w then b else !b
  | _=>false
 | none=>false
def WG (ops:List Oper)[Tk ops](fr:Fr)(g:Option (Nat×Bool)):Bool:=zAM ops fr g
def wp (E:Env)(f:FuncId)(rnd:Option Nat):Code→Fr→Sto→(Out→Fr→Sto→Prop)→Prop
 | .skip=>fun fr s Q=>Q .normal fr s
 | .label _=>fun fr s Q=>Q .normal fr s
 | .ret=>fun fr s Q=>Q .ret fr s
 | .exit id=>fun fr s Q=>Q (.exit id) fr s
 | .region id ops draw=>fun fr s Q=>bif draw then RW E f (.pln ops.toList (E.plan f id)) fr s (zP6 Q) else RW E f (.lst ops.toList ops.toList) fr s Q
 | .seq a b=>fun fr s Q=>wp E f rnd a fr s (zH4 (fun fr s=>wp E f rnd b fr s Q) Q)
 | .cond c a b=>fun fr s Q=>match zAD fr c with
  | some (.bool true)=>wp E f rnd a fr s Q
  | some (.bool false)=>wp E f rnd b fr s Q
  | _=>False
 | .block id b=>fun fr s Q=>wp E f rnd b fr s (zER id Q)
 | .scope b=>fun fr s Q=>wp E f rnd b fr s Q
 | c=>fun fr s Q=>W E f rnd c fr s Q
def WP (E:Env)(f:FuncId)(rnd:Option Nat)(c:Code)[Tk c](fr:Fr)(s:Sto)(Q:Out→Fr→Sto→Prop):Prop:=wp E f rnd c fr s Q
def TQ (E:Env)(f:FuncId)(rnd:Option Nat)(c:Code)[Tk c](Q:Out→Fr→Sto→Prop):Out→Fr→Sto→Prop:=zH4 (fun fr s=>wp E f rnd c fr s Q) Q
def CW (E:Env)(f:FuncId)(rnd:Option Nat)(a b:Code)[Tk (a,b)](fr:Fr)(s:Sto)(Q:Out→Fr→Sto→Prop)(v:Option AV):Prop:=
 match v with
 | some (.bool true)=>wp E f rnd a fr s Q
 | some (.bool false)=>wp E f rnd b fr s Q
 | _=>False
def LO (E:Env)(f:FuncId)(rnd:Option Nat)(c:Code)[Tk c](fr:Fr)(s:Sto)(Q:Out→Fr→Sto→Prop):Prop:=W E f rnd c fr s Q
section
variable {E:Env}{f:FuncId}{rnd:Option Nat}{fr:Fr}{s:Sto}{Q:Out→Fr→Sto→Prop}
theorem afterV_L {ops r:List Oper}{o:Oper}(hg:zAM ops fr o.guard=true)(h:zMN E o.dst fr (opA E f fr o.op s) (fun fr s=>L E f ops r fr s Q) Q):L E f ops (o :: r) fr s Q:=by
 cases hn:opA E f fr o.op s with
 | val v s1=>rw[hn] at h;exact l_val hg hn h
 | call g a s1=>rw[hn] at h;exact l_call hg hn h
 | round l a s1=>rw[hn] at h;exact l_round hg hn h
 | panic v s1=>rw[hn] at h;exact l_panic hg hn h
 | _=>rw[hn] at h;cases h
theorem zMM {dst:Option Tmp}{nx:Nx}{K K':Fr→Sto→Prop}(hk:∀fr s,K fr s→K' fr s)(h:zMN E dst fr nx K Q):zMN E dst fr nx K' Q:=by
 unfold zMN at h ⊢
 split at h
 ·exact hk _ _ h
 ·obtain⟨n,cr,b,s',h1,h2⟩:=h
  refine⟨n,cr,b,s',h1,?_⟩
  cases cr with
  | ret v=>exact hk _ _ h2
  | panic v=>exact h2
 ·obtain⟨n,cr,s',h1,h2⟩:=h
  refine⟨n,cr,s',h1,?_⟩
  cases cr with
  | ret v=>exact hk _ _ h2
  | panic v=>exact h2
 ·exact h
 ·cases h
theorem zLB {ops:List Oper}:∀(r:List Oper) (fr:Fr) (s:Sto),rwL E f ops r fr s Q→L E f ops r fr s Q
 | [],fr,s,h=>l_nil h
 | o :: r,fr,s,h=>by
  simp only[rwL,cond_eq_ite] at h
  split at h
  ·rename_i hg;exact afterV_L hg (zMM (fun fr s h=>zLB r fr s h) h)
  ·rename_i hg
   exact l_skip (by cases hw:zAM ops fr o.guard<;>simp_all) (zLB r _ _ h)
theorem zEI {ops:List Oper}:∀(r:List PStep) (fr:Fr) (s:Sto),rwP E f ops r fr s Q→LP E f ops r fr s Q
 | [],fr,s,h=>lp_nil h
 | .l i :: r,fr,s,h=>by
  simp only[rwP,cond_eq_ite] at h
  split at h
  ·rename_i o ho
   split at h
   ·rename_i hg
    have h:=zMM (fun fr s h=>zEI r fr s h) h
    cases hn:opA E f fr o.op s with
    | val v s1=>rw[hn] at h;exact lp_val ho hg hn h
    | call g a s1=>rw[hn] at h;exact lp_call ho hg hn h
    | round l a s1=>rw[hn] at h;exact lp_round ho hg hn h
    | panic v s1=>rw[hn] at h;exact lp_panic ho hg hn h
    | _=>rw[hn] at h;cases h
   ·rename_i hg
    exact lp_skip ho (by cases hw:zAM ops fr o.guard<;>simp_all) (zEI r _ _ h)
  ·cases h
 | .q i :: r,fr,s,h=>by
  simp only[rwP,cond_eq_ite] at h
  split at h
  ·rename_i o ho
   split at h
   ·rename_i hg
    cases hn:opQ E f fr o.op s with
    | some v=>rw[hn] at h;exact lp_q ho hg hn (zEI r _ _ h)
    | none=>rw[hn] at h;cases h
   ·rename_i hg
    exact lp_qskip ho (by cases hw:zAM ops fr o.guard<;>simp_all) (zEI r _ _ h)
  ·cases h
 | .chk i :: r,fr,s,h=>by
  simp only[rwP,cond_eq_ite] at h
  split at h
  ·rename_i o ho
   split at h
   ·rename_i hg
    cases hn:opQ E f fr o.op s with
    | some v=>
     rw[hn] at h
     unfold chkV at h
     simp only at h
     split at h
     ·rename_i d hd
      exact lp_c ho hg hd hn (by rw[h.1];exact zZY _) (zEI r _ _ h.2)
     ·cases h
    | none=>rw[hn] at h;cases h
   ·rename_i hg
    exact lp_cskip ho (by cases hw:zAM ops fr o.guard<;>simp_all) (zEI r _ _ h)
  ·cases h
 | .apart i j :: r,fr,s,h=>lp_apart h.1 (zEI r fr s h.2)
theorem wp_sound:∀{c:Code} {fr:Fr} {s:Sto} {Q:Out→Fr→Sto→Prop},wp E f rnd c fr s Q→W E f rnd c fr s Q
 | .skip,fr,s,Q,h=>w_skip h
 | .label _,fr,s,Q,h=>w_label h
 | .ret,fr,s,Q,h=>w_ret h
 | .exit id,fr,s,Q,h=>w_exit h
 | .region id ops draw,fr,s,Q,h=>by
  cases draw with
  | true=>exact w_draw (zEI _ fr s h)
  | false=>exact w_region (zLB _ fr s h)
 | .seq a b,fr,s,Q,h=>by
  have h1:=wp_sound (c:=a) h
  refine w_seq ?_
  obtain⟨n,o,fr',s',e,hq⟩:=h1
  refine⟨n,o,fr',s',e,?_⟩
  cases o with
  | normal=>exact wp_sound (c:=b) hq
  | _=>exact hq
 | .cond c a b,fr,s,Q,h=>by
  have h':(match zAD fr c with
   | some (.bool true)=>wp E f rnd a fr s Q
   | some (.bool false)=>wp E f rnd b fr s Q
   | _=>False):=h
  split at h'
  ·rename_i hc;exact w_true hc (wp_sound h')
  ·rename_i hc;exact zVY hc (wp_sound h')
  ·cases h'
 | .block id b,fr,s,Q,h=>w_block (wp_sound (c:=b) h)
 | .loop b,fr,s,Q,h=>h
 | .rangeFunc ..,fr,s,Q,h=>h
 | .scope b,fr,s,Q,h=>w_scope (wp_sound (c:=b) h)
 | .goto _,fr,s,Q,h=>h
 | .refuse _,fr,s,Q,h=>h
end
section
variable {E:Env}{f:FuncId}{rnd:Option Nat}{fr:Fr}{s:Sto}{Q:Out→Fr→Sto→Prop}{n:Nat}{le:List (Nat×AV)}{be:Nat→AV}
theorem WP_skip:WP E f rnd .skip fr s Q=Q .normal fr s:=(rfl)
theorem WP_label {l:Nat}:WP E f rnd (.label l) fr s Q=Q .normal fr s:=(rfl)
theorem WP_ret:WP E f rnd .ret fr s Q=Q .ret fr s:=(rfl)
theorem WP_exit {id:Nat}:WP E f rnd (.exit id) fr s Q=Q (.exit id) fr s:=(rfl)
theorem zZ8 {id:Nat}{ops:Array Oper}:WP E f rnd (.region id ops false) fr s Q=RW E f (.lst ops.toList ops.toList) fr s Q:=(rfl)
def RP (E:Env)(f:FuncId)(ops:List Oper)[Tk ops](l:List PStep)(fr:Fr)(s:Sto)(Q:Out→Fr→Sto→Prop):Prop:=RW E f (.pln ops l) fr s Q
theorem WP_draw {id:Nat}{ops:Array Oper}:WP E f rnd (.region id ops true) fr s Q=RP E f ops.toList (E.plan f id) fr s (zP6 Q):=(rfl)
theorem RP_cons {ops:List Oper}{p:PStep}{r:List PStep}:RP E f ops (p :: r) fr s Q=RW E f (.pln ops (p :: r)) fr s Q:=(rfl)
theorem RP_nil {ops:List Oper}:RP E f ops [] fr s Q=Q .normal fr s:=(rfl)
theorem WP_seq {a b:Code}:WP E f rnd (.seq a b) fr s Q=WP E f rnd a fr s (TQ E f rnd b Q):=(rfl)
theorem WP_block {id:Nat}{b:Code}:WP E f rnd (.block id b) fr s Q=WP E f rnd b fr s (zER id Q):=(rfl)
theorem WP_scope {b:Code}:WP E f rnd (.scope b) fr s Q=WP E f rnd b fr s Q:=(rfl)
theorem WP_cond {c:Operand}{a b:Code}:WP E f rnd (.cond c a b) fr s Q=CW E f rnd a b fr s Q (zAD fr c):=(rfl)
theorem WP_loop {b:Code}:WP E f rnd (.loop b) fr s Q=LO E f rnd (.loop b) fr s Q:=(rfl)
theorem WP_range {x:Operand}{ps:Array Tmp}{a b:Code}:WP E f rnd (.rangeFunc x ps a b) fr s Q=LO E f rnd (.rangeFunc x ps a b) fr s Q:=(rfl)
theorem zZ9 {c:Code}:TQ E f rnd c Q .normal fr s=WP E f rnd c fr s Q:=(rfl)
theorem TQ_ret {c:Code}:TQ E f rnd c Q .ret fr s=Q .ret fr s:=(rfl)
theorem TQ_exit {c:Code}{id:Nat}:TQ E f rnd c Q (.exit id) fr s=Q (.exit id) fr s:=(rfl)
theorem TQ_panic {c:Code}{v:AV}:TQ E f rnd c Q (.panic v) fr s=Q (.panic v) fr s:=(rfl)
theorem yAM {id:Nat}:zER id Q .normal fr s=Q .normal fr s:=(rfl)
theorem BQ_ret {id:Nat}:zER id Q .ret fr s=Q .ret fr s:=(rfl)
theorem BQ_panic {id:Nat}{v:AV}:zER id Q (.panic v) fr s=Q (.panic v) fr s:=(rfl)
theorem BQ_exit {id id':Nat}:zER id Q (.exit id') fr s=if id'=id then Q .normal fr s else Q (.exit id') fr s:=(rfl)
theorem DQ_normal:zP6 Q .normal fr s=Q .normal fr s:=(rfl)
theorem DQ_panic {v:AV}:zP6 Q (.panic v) fr s=(allMarks fr.defers=true∧Q (.panic v) fr s):=(rfl)
theorem CW_true {a b:Code}:CW E f rnd a b fr s Q (some (.bool true))=WP E f rnd a fr s Q:=(rfl)
theorem CW_false {a b:Code}:CW E f rnd a b fr s Q (some (.bool false))=WP E f rnd b fr s Q:=(rfl)
theorem RW_nil {ops:List Oper}:RW E f (.lst ops []) fr s Q=Q .normal fr s:=(rfl)
theorem RW_cons {ops r:List Oper}{dst:Option Tmp}{op:Op}{ty:TypeId}{pos:String}{af:Array Edge}{gd:Option (Nat×Bool)} :
  RW E f (.lst ops (⟨dst,op,ty,pos,af,gd⟩ :: r)) fr s Q=GW E f 0 (.lst ops r) dst op fr s Q (WG ops fr gd):=(rfl)
theorem RW_pnil {ops:List Oper}:RW E f (.pln ops []) fr s Q=Q .normal fr s:=(rfl)
def nthO (ops:List Oper)[Tk ops](i:Nat):Option Oper:=zB7 ops i
theorem nthO_0 {o:Oper}{r:List Oper}:nthO (o :: r) 0=some o:=(rfl)
theorem nthO_s {o:Oper}{r:List Oper}{i:Nat}:nthO (o :: r) (i+1)=nthO r i:=(rfl)
def PW (E:Env)(f:FuncId)(what:Nat)(ops:List Oper)(r:List PStep)[Tk (ops,r)](o:Option Oper)(fr:Fr)(s:Sto)(Q:Out→Fr→Sto→Prop):Prop:=
 match o with
 | some o=>GW E f what (.pln ops r) o.dst o.op fr s Q (WG ops fr o.guard)
 | none=>False
theorem PW_some {what:Nat}{ops:List Oper}{r:List PStep}{dst:Option Tmp}{op:Op}{ty:TypeId}{pos:String}{af:Array Edge}{gd:Option (Nat×Bool)} :
  PW E f what ops r (some ⟨dst,op,ty,pos,af,gd⟩) fr s Q=GW E f what (.pln ops r) dst op fr s Q (WG ops fr gd):=(rfl)
theorem RW_loud {ops:List Oper}{r:List PStep}{i:Nat}:RW E f (.pln ops (.l i :: r)) fr s Q=PW E f 0 ops r (nthO ops i) fr s Q:=by
 unfold PW nthO;simp only[RW,rwP];cases zB7 ops i<;>rfl
theorem RW_quiet {ops:List Oper}{r:List PStep}{i:Nat}:RW E f (.pln ops (.q i :: r)) fr s Q=PW E f 1 ops r (nthO ops i) fr s Q:=by
 unfold PW nthO;simp only[RW,rwP];cases zB7 ops i<;>rfl
theorem RW_chk {ops:List Oper}{r:List PStep}{i:Nat}:RW E f (.pln ops (.chk i :: r)) fr s Q=PW E f 2 ops r (nthO ops i) fr s Q:=by
 unfold PW nthO;simp only[RW,rwP];cases zB7 ops i<;>rfl
theorem RW_apart {ops:List Oper}{r:List PStep}{i j:Nat}:RW E f (.pln ops (.apart i j :: r)) fr s Q=(zQL ops fr i j=true∧RW E f (.pln ops r) fr s Q):=(rfl)
theorem WG_none {ops:List Oper}:WG ops fr none=true:=(rfl)
theorem gdst_eq:∀(ops:List Oper) (i:Nat),gdst ops i=(match zB7 ops i with|some o=>o.dst|none=>none)
 | [],i=>rfl
 | o :: r,0=>rfl
 | o :: r,i+1=>gdst_eq r i
theorem WG_some {ops:List Oper}{j:Nat}{w:Bool}:WG ops fr (some (j,w))=gval fr w (gdst ops j):=by
 rw[gdst_eq]
 unfold WG zAM zKO gval
 simp only
 cases zB7 ops j with
 | none=>rfl
 | some o=>
  simp only
  cases o.dst with
  | none=>rfl
  | some d=>
   simp only
   cases lget fr.tmps d<;>rfl
theorem gdst_0 {o:Oper}{r:List Oper}:gdst (o :: r) 0=o.dst:=(rfl)
theorem gdst_s {o:Oper}{r:List Oper}{i:Nat}:gdst (o :: r) (i+1)=gdst r i:=(rfl)
def zU7 (w:Bool):AV→Bool
 | .bool b=>bif w then b else !b
 | _=>false
theorem zYI {w:Bool}{d:Tmp}:gval fr w (some d)=zU7 w (lget fr.tmps d):=by simp only[gval];generalize lget fr.tmps d=v;cases v<;>rfl
theorem gvalB_t {b:Bool}:zU7 true (.bool b)=b:=(rfl)
theorem gvalB_f {b:Bool}:zU7 false (.bool b)=!b:=(rfl)
section
variable {k:Rest}{dst:Option Tmp}{op:Op}
theorem GW_0t:GW E f 0 k dst op fr s Q true=SV E f k dst fr (opA E f fr op s) Q:=(rfl)
theorem GW_0f:GW E f 0 k dst op fr s Q false=RW E f k (fr.put dst undef) s Q:=(rfl)
theorem GW_1t:GW E f 1 k dst op fr s Q true=SQ E f k dst fr s (opQ E f fr op s) Q:=(rfl)
theorem GW_1f:GW E f 1 k dst op fr s Q false=RW E f k (fr.put dst undef) s Q:=(rfl)
theorem GW_2t:GW E f 2 k dst op fr s Q true=SC E f k dst fr s (opQ E f fr op s) Q:=(rfl)
theorem GW_2f:GW E f 2 k dst op fr s Q false=RW E f k fr s Q:=(rfl)
theorem SV_val {v:AV}{s1:Sto}:SV E f k dst fr (.val v s1) Q=RW E f k (fr.put dst v) s1 Q:=(rfl)
theorem yAC {g:FuncId}{args:List AV}{s1:Sto}:SV E f k dst fr (.call g args s1) Q=C E g args s1 (KR E f k dst fr Q):=(rfl)
theorem SV_round {l:Nat}{args:List AV}{s1:Sto}:SV E f k dst fr (.round l args s1) Q=R E l args s1 (KR E f k dst fr Q):=(rfl)
theorem SV_panic {v:AV}{s1:Sto}:SV E f k dst fr (.panic v s1) Q=Q (.panic v) fr s1:=(rfl)
theorem SQ_some {v:AV}:SQ E f k dst fr s (some v) Q=RW E f k (fr.put dst v) s Q:=(rfl)
theorem SC_some {d:Tmp}{v:AV}:SC E f k (some d) fr s (some v) Q=(v=lget fr.tmps d∧RW E f k fr s Q):=(rfl)
theorem KR_ret {v:AV}:KR E f k dst fr Q (.ret v) s=RW E f k (fr.put dst v) s Q:=(rfl)
theorem KR_panic {v:AV}:KR E f k dst fr Q (.panic v) s=Q (.panic v) fr s:=(rfl)
end
theorem Fl_put' {d:Tmp}{v:AV}:(Fl n le be).put (some d) v=Fl n ((d,v) :: le) be:=yAH
theorem Fl_putN {v:AV}:(Fl n le be).put none v=Fl n le be:=(rfl)
def at_ (t:Nat)(l:List (Nat×AV))(b:Nat→AV):AV:=asg l b t
theorem at_nil {t:Nat}{b:Nat→AV}:at_ t [] b=b t:=(rfl)
theorem at_cons {t d:Nat}{v:AV}{l:List (Nat×AV)}{b:Nat→AV}:at_ t ((d,v) :: l) b=if t=d then v else at_ t l b:=(rfl)
theorem F_get' {t:Nat}{env:Nat→AV}:lget (F n env).tmps t=if t<n then env t else undef:=by
 by_cases h:t<n
 ·rw[if_pos h,F_get h]
 ·rw[if_neg h,zCJ,List.getD_eq_getElem?_getD]
  unfold F
  rw[List.getElem?_eq_none (by simp;omega)];rfl
theorem yAI {t:Nat}:lget (Fl n le be).tmps t=if t<n then at_ t le be else undef:=F_get'
theorem Fl_tmp {t:Nat}:zAD (Fl n le be) (.tmp t)=some (if t<n then at_ t le be else undef):=by show some (lget (F n (asg le be)).tmps t)=_;rw[F_get'];rfl
theorem Fl_const {v:Value}:zAD (Fl n le be) (.const v)=ofConst v:=(rfl)
theorem Fl_func {g:FuncId}:zAD (Fl n le be) (.func g)=some (.func 0 (.func g) [] []):=(rfl)
theorem Fl_defers:(Fl n le be).defers=[]:=(rfl)
section
variable {fn:Func}{md:Mode}{base:Nat}{s0:Sto}{Qc:CR→Sto→Prop}
def isEnd:Out→Bool
 | .ret=>true
 | .normal=>true
 | _=>false
def FN (iso:Bool)(base:Nat)(s0:Sto)(Qc:CR→Sto→Prop)(x:Option (AV×Sto)):Prop:=
 match x with
 | some (v,s1)=>bif iso then top v=0∧Qc (.ret v) s0 else Qc (.ret v) (s1.done base (top v))
 | none=>False
def zH5 (raw:Bool)(s:Sto)(x:Option AV):Option (AV×Sto):=
 match x with
 | some v=>bif raw then some (v,s) else zK8 s v
 | none=>none
def resV (E:Env)(fr:Fr)(s:Sto)(l:List ResultVar):Option AV:=match zDG E fr s l with|some [v]=>some v|some vs=>some (.tuple vs)|none=>none
theorem resV_eq:zLC E fn fr s=resV E fr s fn.results.toList:=by
 unfold zLC resV
 generalize zDG E fr s fn.results.toList=x
 cases x with
 | none=>rfl
 | some l=>cases l with
  | nil=>rfl
  | cons a r=>cases r<;>rfl
theorem zYV {iso raw ra ml:Bool}{o:Out}{fr:Fr}(ho:isEnd o=true)(hf:fr.defers=[])(h:FN iso base s0 Qc (zH5 raw s (resV E fr s fn.results.toList))):finQ E fn ⟨iso,ra,raw,ml⟩ base s0 Qc o fr s:=by
 unfold FN at h
 split at h
 ·rename_i v s1 hx
  have h1:result0 E fn ⟨iso,ra,raw,ml⟩ fr s=some (v,s1):=by
   unfold result0
   rw[resV_eq]
   unfold zH5 at hx
   split at hx
   ·rename_i a ha;rw[ha];exact hx
   ·cases hx
  cases iso with
  | true=>
   have h:top v=0∧Qc (.ret v) s0:=h
   have h2:zI7 true v false base s0 s1=some (.ret v,false,s0):=by unfold zI7;rw[h.1];rfl
   cases o<;>first|exact⟨hf,v,s1,s0,h1,h2,h.2⟩|cases ho
  | false=>
   cases o<;>first|exact⟨hf,v,s1,_,h1,rfl,h⟩|cases ho
 ·cases h
def FE (E:Env)(rs:List ResultVar)(md:Mode)(base:Nat)(s0:Sto)(Qc:CR→Sto→Prop):Out→Fr→Sto→Prop
 | .ret,fr,s=>FN md.iso base s0 Qc (zH5 md.rawRes s (resV E fr s rs))
 | .normal,fr,s=>FN md.iso base s0 Qc (zH5 md.rawRes s (resV E fr s rs))
 | .panic v,_,s=>bif md.iso then top v=0∧Qc (.panic v) s0 else Qc (.panic v) (s.done base (top v))
 | _,_,_=>False
theorem FE_ret {rs:List ResultVar}{a b c d:Bool}:FE E rs ⟨a,b,c,d⟩ base s0 Qc .ret fr s=FN a base s0 Qc (zH5 c s (resV E fr s rs)):=(rfl)
theorem yAK {rs:List ResultVar}{a b c d:Bool}:FE E rs ⟨a,b,c,d⟩ base s0 Qc .normal fr s=FN a base s0 Qc (zH5 c s (resV E fr s rs)):=(rfl)
theorem FE_panic {rs:List ResultVar}{a b c d:Bool}{v:AV}:FE E rs ⟨a,b,c,d⟩ base s0 Qc (.panic v) fr s=(bif a then top v=0∧Qc (.panic v) s0 else Qc (.panic v) (s.done base (top v))):=(rfl)
theorem yAJ {v:AV}{s1:Sto}:FN true base s0 Qc (some (v,s1))=(top v=0∧Qc (.ret v) s0):=(rfl)
theorem FN_not {v:AV}{s1:Sto}:FN false base s0 Qc (some (v,s1))=Qc (.ret v) (s1.done base (top v)):=(rfl)
theorem zWQ {v:AV}:zH5 true s (some v)=some (v,s):=(rfl)
theorem zWR {v:AV}:zH5 false s (some v)=zK8 s v:=(rfl)
theorem resV_1 {t:Nat}:resV E (Fl n le be) s [.tmp t]=some (lget (Fl n le be).tmps t):=(rfl)
theorem resV_0:resV E (Fl n le be) s []=some (.tuple []):=(rfl)
theorem resV_2 {t u:Nat}:resV E (Fl n le be) s [.tmp t,.tmp u]=some (.tuple [lget (Fl n le be).tmps t,lget (Fl n le be).tmps u]):=(rfl)
theorem FE_fin {o:Out}{rs:List ResultVar}{md:Mode}(hr:fn.results.toList=rs)(hf:fr.defers=[])(h:FE E rs md base s0 Qc o fr s):finQ E fn md base s0 Qc o fr s:=by
 subst hr
 obtain⟨iso,ra,raw,ml⟩:=md
 cases o with
 | ret=>exact zYV rfl hf h
 | normal=>exact zYV rfl hf h
 | panic v=>
  refine⟨hf,?_⟩
  cases iso with
  | true=>
   have h:top v=0∧Qc (.panic v) s0:=h
   exact⟨s0,by unfold zNG;rw[h.1];rfl,h.2⟩
  | false=>exact⟨_,rfl,h⟩
 | _=>cases h
theorem W_mono {c:Code}{Q':Out→Fr→Sto→Prop}(hq:∀o fr s,Q o fr s→Q' o fr s)(h:W E f rnd c fr s Q):W E f rnd c fr s Q':=by
 obtain⟨n,o,fr',s',h1,h2⟩:=h;exact⟨n,o,fr',s',h1,hq _ _ _ h2⟩
def FD (E:Env)(rs:List ResultVar)(md:Mode)(base:Nat)(s0:Sto)(Qc:CR→Sto→Prop):Out→Fr→Sto→Prop:=fun o fr s=>fr.defers=[]∧FE E rs md base s0 Qc o fr s
theorem FD_Fl {rs:List ResultVar}{md:Mode}{o:Out}:FD E rs md base s0 Qc o (Fl n le be) s=FE E rs md base s0 Qc o (Fl n le be) s:=by
 unfold FD;rw[Fl_defers];simp
theorem call_iso {body:Code}{args args1:List AV}{s s1:Sto}{md:Mode}{rs:List ResultVar}{n:Nat}(hi:E.intr f args=none)(hns:insM E f args s none=none)(hfn:E.funcs f=some fn)(hb:fn.body=some body)(hmd:E.mode f=md)(hm:md.iso=true)(hn:fn.ntmps=n)(hr:fn.results.toList=rs)
  (ha:(bif md.rawArgs then some (args,s) else zBO s args)=some (args1,s1)) (hl:Nat.ble args1.length n=true) (ht:tops args1=0) (h:WP E f none body (Fl n (argL 0 args1) ub) (S 0 g0 []) (FD E rs md 0 s1 Qc)):C E f args s Qc:=by
 refine C_iso hi hns hfn hb hmd hm ha ht ?_
 rw[zMH hn (Nat.le_of_ble_eq_true hl),S_empty]
 exact W_mono (fun o fr s hq=>FE_fin hr hq.1 hq.2) (wp_sound h)
theorem call_not {body:Code}{args args1:List AV}{s:Sto}{m:Nat}{g:Nat→Box}{u:List (Nat×Nat)}{md:Mode}{rs:List ResultVar}{n:Nat}(hi:E.intr f args=none)(hns:insM E f args s none=none)(hfn:E.funcs f=some fn)(hb:fn.body=some body)(hmd:E.mode f=md)(hm:md.iso=false)(hn:fn.ntmps=n)(hr:fn.results.toList=rs)
  (ha:(bif md.rawArgs then some (args,s) else zBO s args)=some (args1,S m g u)) (hl:Nat.ble args1.length n=true) (h:WP E f none body (Fl n (argL 0 args1) ub) (S m g u) (FD E rs md m (S m g u) Qc)):C E f args s Qc:=by
 refine C_call hi hns hfn hb hmd hm ha ?_
 rw[zMH hn (Nat.le_of_ble_eq_true hl)]
 exact W_mono (fun o fr s hq=>FE_fin hr hq.1 hq.2) (wp_sound h)
theorem sp_C {a b:Code}{b0:Bool}(h1:b0=true→WP E f rnd a fr s Q)(h2:b0=false→WP E f rnd b fr s Q):CW E f rnd a b fr s Q (some (.bool b0)):=by cases b0<;>first|exact h1 rfl|exact h2 rfl
theorem sp_G {what:Nat}{k:Rest}{dst:Option Tmp}{op:Op}{b0:Bool}(h1:b0=true→GW E f what k dst op fr s Q true)(h2:b0=false→GW E f what k dst op fr s Q false):GW E f what k dst op fr s Q b0:=by cases b0<;>first|exact h1 rfl|exact h2 rfl
def mg (b:Bool)(v:AV):AV:=if b=true then v else undef
theorem gw_m {k:Rest}{d:Tmp}{op:Op}{b0:Bool}{v:AV}(h1:b0=true→opA E f fr op s=.val v s)(h2:RW E f k (fr.put (some d) (mg b0 v)) s Q):GW E f 0 k (some d) op fr s Q b0:=by
 cases b0 with
 | true=>show SV E f k (some d) fr (opA E f fr op s) Q;rw[h1 rfl];exact h2
 | false=>exact h2
theorem gw_q {k:Rest}{d:Tmp}{op:Op}{b0:Bool}{v:AV}(h1:b0=true→opQ E f fr op s=some v)(h2:RW E f k (fr.put (some d) (mg b0 v)) s Q):GW E f 1 k (some d) op fr s Q b0:=by
 cases b0 with
 | true=>show SQ E f k (some d) fr s (opQ E f fr op s) Q;rw[h1 rfl];exact h2
 | false=>exact h2
theorem mg_t {v:AV}:mg true v=v:=rfl
theorem mg_f {v:AV}:mg false v=undef:=rfl
theorem gvalB_u {w:Bool}:zU7 w undef=false:=(rfl)
theorem gvalB_mt {b c:Bool}:zU7 true (mg b (.bool c))=(b&&c):=by cases b<;>rfl
theorem gvalB_mf {b c:Bool}:zU7 false (mg b (.bool c))=(b&&!c):=by cases b<;>rfl
theorem pk_and {b c:Bool}:zHC (some (.bool b)) (some (mg b (.bool c))) (some (.bool false)) s=.val (.bool (b&&c)) s:=by cases b<;>rfl
theorem pk_or {b c:Bool}:zHC (some (.bool b)) (some (.bool true)) (some (mg (!b) (.bool c))) s=.val (.bool (b||c)) s:=by cases b<;>rfl
theorem pk_nand {b c:Bool}:zHC (some (.bool (!b))) (some (mg (!b) (.bool c))) (some (.bool false)) s=.val (.bool (!b&&c)) s:=by cases b<;>rfl
theorem pk_nor {b c:Bool}:zHC (some (.bool (!b))) (some (.bool true)) (some (mg b (.bool c))) s=.val (.bool (!b||c)) s:=by cases b<;>rfl
theorem yAG {b:Code}(h:WP E f rnd b fr s (zH4 (fun fr s=>LO E f rnd (.loop b) fr s Q) Q)):LO E f rnd (.loop b) fr s Q:=w_loop (wp_sound h)
theorem zV9 {K:Fr→Sto→Prop}:zH4 K Q .ret fr s=Q .ret fr s:=(rfl)
theorem zTY {K:Fr→Sto→Prop}{id:Nat}:zH4 K Q (.exit id) fr s=Q (.exit id) fr s:=(rfl)
theorem zQU {K:Fr→Sto→Prop}{v:AV}:zH4 K Q (.panic v) fr s=Q (.panic v) fr s:=(rfl)
theorem zO2 {K:Fr→Sto→Prop}:zH4 K Q .normal fr s=K fr s:=(rfl)
end
end
theorem yAL {E:Env}{f:FuncId}{args:List AV}{s:Sto}{v:AV}{Q:CR→Sto→Prop}(hi:E.intr f args=some v)(h:Q (.ret v) s):C E f args s Q:=by
 refine⟨1,.ret v,false,s,?_,h⟩
 show zHR (iter E 0) E f args none s=_
 unfold zHR zJY
 simp only[hi]
theorem zAF {E:Env}{f:FuncId}{rnd:Option Nat}{c:Code}{n:Nat}{Q:Out→Fr→Sto→Prop}{ι:Type}(frs:ι→List (Nat×AV))(st:ι→Sto)(inv:ι→Prop)(meas:ι→Nat)
  (step:∀i b,inv i→(∀j l b' s,inv j→meas j<meas i→held l b' (frs j)→s=st j→LO E f rnd (.loop c) (Fl n l b') s Q)→WP E f rnd c (Fl n (frs i) b) (st i) (zH4 (fun fr s=>LO E f rnd (.loop c) fr s Q) Q))
  (i:ι) {l:List (Nat×AV)} {b:Nat→AV} {s:Sto} (hi:inv i) (hl:held l b (frs i)) (hs:s=st i):LO E f rnd (.loop c) (Fl n l b) s Q:=by
 have key:∀N i l b s,meas i<N→inv i→held l b (frs i)→s=st i→LO E f rnd (.loop c) (Fl n l b) s Q:=by
  intro N
  induction N with
  | zero=>intro i l b s h;exact absurd h (Nat.not_lt_zero _)
  | succ N ih=>
   intro i l b s hN hi hl hs
   subst hs
   rw[reb (frs i) hl]
   exact yAG (step i _ hi fun j l b' s hj hm hl hs=>ih j l b' s (Nat.lt_of_lt_of_le hm (Nat.le_of_lt_succ hN)) hj hl hs)
 exact key _ i l b s (Nat.lt_succ_self _) hi hl hs
theorem sv_CV {E:Env}{f:FuncId}{k:Rest}{dst:Option Tmp}{fr:Fr}{s:Sto}{Q:Out→Fr→Sto→Prop}{fv:AV}{args:List AV}(h:CV E fv args s (KR E f k dst fr Q)):SV E f k dst fr (zIM fv args s) Q:=by
 unfold CV at h
 split at h
 ·rename_i e;rw[e];exact h
 ·rename_i e;rw[e];exact h
 ·cases h
theorem zB1 {E:Env}{t:Nat}{h:FuncId}{a b args args':List AV}{s:Sto}{Q:CR→Sto→Prop}(hl:a++(args++b)=args')(hc:C E h args' s Q):CV E (.func t (.func h) a b) args s Q:=by
 subst hl;unfold CV;simp only[zIM,zBP];exact hc
theorem leaf {Q:CR→Sto→Prop}{v w:AV}{s:Sto}(h:Q (.ret w) s)(e:w=v):Q (.ret v) s:=e ▸ h
attribute [irreducible] WP wp RP nthO RW rwL rwP SV SQ SC GW KR TQ CW LO PW WG gdst gval FD FE FN finQ W L LP C R CV zH4 zER zP6 S F Fl asg at_ RK
end Go.Ab
namespace Pl
abbrev Str:=List UInt8
inductive V where
 | mk (kind n:Int) (neg:Bool) (d:List Int) (s:Str) (l m:List V)
 deriving Inhabited
inductive X where
 | mk (kind n:Int) (s:List Str) (v:V)(l:List X)
 deriving Inhabited
inductive T where
 | mk (kind:Int) (e sub:X)(l:List T)
 deriving Inhabited
namespace V
def kind:V→Int|.mk k _ _ _ _ _ _=>k
def n:V→Int|.mk _ n _ _ _ _ _=>n
def neg:V→Bool|.mk _ _ b _ _ _ _=>b
def d:V→List Int|.mk _ _ _ d _ _ _=>d
def s:V→Str|.mk _ _ _ _ s _ _=>s
def l:V→List V|.mk _ _ _ _ _ l _=>l
def m:V→List V|.mk _ _ _ _ _ _ m=>m
theorem eta:∀v:V,v=.mk v.kind v.n v.neg v.d v.s v.l v.m|.mk _ _ _ _ _ _ _=>rfl
end V
namespace X
def kind:X→Int|.mk k _ _ _ _=>k
def n:X→Int|.mk _ n _ _ _=>n
def s:X→List Str|.mk _ _ s _ _=>s
def v:X→V|.mk _ _ _ v _=>v
def l:X→List X|.mk _ _ _ _ l=>l
theorem eta:∀e:X,e=.mk e.kind e.n e.s e.v e.l|.mk _ _ _ _ _=>rfl
end X
namespace T
def kind:T→Int|.mk k _ _ _=>k
def e:T→X|.mk _ e _ _=>e
def sub:T→X|.mk _ _ s _=>s
def l:T→List T|.mk _ _ _ l=>l
end T
structure Def where
 name:Str
 params:List Int
 recu:Bool
 body:X
 deriving Inhabited
structure Var where
 name:Str
 typ:X
 deriving Inhabited
structure Const where
 name:Str
 v:V
 deriving Inhabited
structure Named where
 name:Str
 e:X
 deriving Inhabited
structure Fair where
 strong:Bool
 a:X
 sub:X
 deriving Inhabited
structure Prp where
 name:Str
 t:T
 deriving Inhabited
structure Spec where
 models:List Str
 consts:List Const
 vars:List Var
 defs:List Def
 assume:List X
 init:X
 next:X
 fair:List Fair
 invs:List Named
 props:List Prp
 cons:List X
 acons:List X
 groups:List (List Str)
 view:List X
 dead:Bool
 deriving Inhabited
def lens:List Str→Nat
 | []=>0
 | s :: r=>1+s.length+lens r
mutual
def szV:V→Nat
 | .mk _ _ _ d s l m=>1+d.length+s.length+szVs l+szVs m
def szVs:List V→Nat
 | []=>0
 | v :: r=>1+szV v+szVs r
end
mutual
def szX:X→Nat
 | .mk _ _ s v l=>1+lens s+szV v+szXs l
def szXs:List X→Nat
 | []=>0
 | e :: r=>1+szX e+szXs r
end
mutual
def szT:T→Nat
 | .mk _ e s l=>1+szX e+szX s+szTs l
def szTs:List T→Nat
 | []=>0
 | e :: r=>1+szT e+szTs r
end
theorem zD2 (v:V):szV v=1+v.d.length+v.s.length+szVs v.l+szVs v.m:=by cases v;rfl
theorem zGY (e:X):szX e=1+lens e.s+szV e.v+szXs e.l:=by cases e;rfl
theorem szVs_len:∀l:List V,l.length≤szVs l
 | []=>Nat.le_refl _
 | v :: r=>by have:=szVs_len r;simp only[List.length_cons,szVs];omega
theorem szVs_mem:∀{l:List V} {v:V},v∈l→szV v<szVs l
 | x :: r,v,h=>by
  simp only[szVs]
  cases h with
  | head=>omega
  | tail _ h=>have:=szVs_mem h;omega
theorem szXs_len:∀l:List X,l.length≤szXs l
 | []=>Nat.le_refl _
 | v :: r=>by have:=szXs_len r;simp only[List.length_cons,szXs];omega
theorem szXs_mem:∀{l:List X} {v:X},v∈l→szX v<szXs l
 | x :: r,v,h=>by
  simp only[szXs]
  cases h with
  | head=>omega
  | tail _ h=>have:=szXs_mem h;omega
theorem lens_len:∀l:List Str,l.length≤lens l
 | []=>Nat.le_refl _
 | v :: r=>by have:=lens_len r;simp only[List.length_cons,lens];omega
theorem lens_mem:∀{l:List Str} {v:Str},v∈l→v.length<lens l
 | x :: r,v,h=>by
  simp only[lens]
  cases h with
  | head=>omega
  | tail _ h=>have:=lens_mem h;omega
def letter (c:UInt8):Bool:=(decide ((97:Int)≤c.toNat)&&decide ((c.toNat:Int)≤122))||(decide ((65:Int)≤c.toNat)&&decide ((c.toNat:Int)≤90))
def inside (c:UInt8):Bool:=letter c||(decide ((48:Int)≤c.toNat)&&decide ((c.toNat:Int)≤57))||decide ((c.toNat:Int)=95)
def zC7 (s:Str):Bool:=
 match s with
 | []=>false
 | c :: _=>decide (s.length≤40)&&letter c&&decide (s≠[84,82,85,69])&&decide (s≠[70,65,76,83,69])&&s.all inside
def zLX (s:Str):Bool:=decide (s.length≤200)&&s.all fun c=>decide ((32:Int)≤c.toNat)&&decide ((c.toNat:Int)≤126)
def zKK (neg:Bool)(d:List Int):Bool:=
 decide (d.length≤40)&&!(decide (d.length=0)&&neg)&&!(decide (d.getLast?=some 0))&&d.all fun x=>decide (0≤x)&&decide (x≤999999999)
def cmp (a b:Int):Int:=if a<b then -1 else if b<a then 1 else 0
def cmpS:Str→Str→Int
 | [],[]=>0
 | [],_ :: _=>-1
 | _ :: _,[]=>1
 | a :: x,b :: y=>if a.toNat<b.toNat then -1 else if b.toNat<a.toNat then 1 else cmpS x y
def cmpD:List Int→List Int→Int
 | a :: x,b :: y=>if cmp a b=0 then cmpD x y else cmp a b
 | _,_=>0
def cmpI (na:Bool)(a:List Int)(nb:Bool)(b:List Int):Int:=
 if na≠nb then(if na then -1 else 1)
 else
  let c:=if a.length≠b.length then cmp a.length b.length else cmpD a.reverse b.reverse
  if na then -c else c
mutual
def cmpV:V→V→Int
 | .mk k n ng d s l m,.mk k' n' ng' d' s' l' m'=>
  if k≠k' then cmp k k' else if n≠n' then cmp n n' else
  if cmpI ng d ng' d'≠0 then cmpI ng d ng' d' else if cmpS s s'≠0 then cmpS s s' else
  let c:=if l.length≠l'.length then cmp l.length l'.length else cmpL l l'
  if c≠0 then c else if m.length≠m'.length then cmp m.length m'.length else cmpL m m'
def cmpL:List V→List V→Int
 | a :: x,b :: y=>if cmpV a b≠0 then cmpV a b else cmpL x y
 | _,_=>0
end
def zKN (a b:List V):Int:=if a.length≠b.length then cmp a.length b.length else cmpL a b
theorem zZF (a b:V):cmpV a b =
  if a.kind≠b.kind then cmp a.kind b.kind else if a.n≠b.n then cmp a.n b.n else
  if cmpI a.neg a.d b.neg b.d≠0 then cmpI a.neg a.d b.neg b.d else if cmpS a.s b.s≠0 then cmpS a.s b.s else
  if zKN a.l b.l≠0 then zKN a.l b.l else zKN a.m b.m:=by
 cases a;cases b;simp only[cmpV,V.kind,V.n,V.neg,V.d,V.s,V.l,V.m,zKN];rfl
mutual
def cntV:V→Nat
 | .mk _ _ _ _ _ l m=>1+cntVs l+cntVs m
def cntVs:List V→Nat
 | []=>0
 | v :: r=>cntV v+cntVs r
end
mutual
def depV:V→Nat
 | .mk _ _ _ _ _ l m=>max (depVs l) (depVs m)+1
def depVs:List V→Nat
 | []=>0
 | v :: r=>max (depV v) (depVs r)
end
def rising:List V→Bool
 | a :: b :: r=>decide (cmpV a b<0)&&rising (b :: r)
 | _=>true
def zEP (neg:Bool)(d:List Int):Bool:=!neg&&decide (d.length=0)
def node (v:V):Bool:=
 if v.kind=1 then(decide (v.n=0)||decide (v.n=1))&&zEP v.neg v.d&&decide (v.s=[])&&decide (v.l.length=0)&&decide (v.m.length=0)
 else if v.kind=2 then decide (v.n=0)&&zKK v.neg v.d&&decide (v.s=[])&&decide (v.l.length=0)&&decide (v.m.length=0)
 else if v.kind=3 then decide (v.n=0)&&zEP v.neg v.d&&zLX v.s&&decide (v.l.length=0)&&decide (v.m.length=0)
 else if v.kind=4 then decide (v.n=0)&&zEP v.neg v.d&&zC7 v.s&&decide (v.l.length=0)&&decide (v.m.length=0)
 else if v.kind=5 then decide (v.n=0)&&zEP v.neg v.d&&decide (v.s=[])&&rising v.l&&decide (v.l.length≤4000)&&decide (v.m.length=0)
 else if v.kind=6 then decide (v.n=0)&&zEP v.neg v.d&&decide (v.s=[])&&rising v.l&&decide (v.l.length≤4000)&&decide (v.m.length=v.l.length)
 else false
mutual
def formed:V→Bool
 | .mk k n ng d s l m=>node (.mk k n ng d s l m)&&formedL l&&formedL m
def formedL:List V→Bool
 | []=>true
 | v :: r=>formed v&&formedL r
end
def zBD (v:V):Bool:=decide (cntV v≤8000)&&decide (depV v≤50)&&formed v
mutual
def known (ms:List Str):V→Bool
 | .mk k _ _ _ s l m=>(decide (k≠4)||decide (s∈ms))&&zDM ms l&&zDM ms m
def zDM (ms:List Str):List V→Bool
 | []=>true
 | v :: r=>known ms v&&zDM ms r
end
def zF4 (v:V):Bool:=decide (v.kind=0)&&decide (v.n=0)&&!v.neg&&decide (v.d.length=0)&&decide (v.s=[])&&decide (v.l.length=0)&&decide (v.m.length=0)
mutual
def cntX:X→Nat
 | .mk _ _ _ _ l=>1+cntXs l
def cntXs:List X→Nat
 | []=>0
 | e :: r=>cntX e+cntXs r
end
mutual
def depX:X→Nat
 | .mk _ _ _ _ l=>depXs l+1
def depXs:List X→Nat
 | []=>0
 | e :: r=>max (depX e) (depXs r)
end
mutual
def lits:X→Bool
 | .mk k _ _ v l=>(decide (k≠1)||zBD v)&&litsL l
def litsL:List X→Bool
 | []=>true
 | e :: r=>lits e&&litsL r
end
def distinct:List Str→List Str→Bool
 | _,[]=>true
 | pre,s :: r=>zC7 s&&!decide (s∈pre)&&distinct (pre++[s]) r
def ltS (a b:Str):Bool:=decide (cmpS a b<0)
def rise:List Str→Bool
 | []=>true
 | [a]=>zC7 a
 | a :: b :: r=>zC7 a&&ltS a b&&rise (b :: r)
def fields (l:List Str):Bool:=rise l&&decide ((0:Int)<l.length)
def prims (n:Int):Int:=
 if n=3∨n=11∨n=12∨n=13∨n=17 then 1 else if n=16 then 3 else 2
def sees (k n:Int)(i:Nat):Int:=
 if k=16∨k=17 then i
 else if k=24∨k=30 then(if(i:Int)=n then n else 0)
 else if k=18∨k=23∨k=42 then i
 else if k=34 then(if i=2 then 1 else 0)
 else if k=9 then n
 else 0
def zeros (n:Int):List Int:=List.replicate n.toNat 0
def zLF (e:X):Bool:=
 if e.kind=1 then decide (e.n=0)&&decide ((e.s.length:Int)=0)
 else if e.kind=35∨e.kind=36∨e.kind=37 then decide (e.n=0)&&zF4 e.v
 else if e.kind=2∨e.kind=3∨e.kind=4∨e.kind=6∨e.kind=7∨e.kind=8∨e.kind=9∨e.kind=10∨e.kind=16∨e.kind=17∨e.kind=24∨e.kind=30∨e.kind=41∨e.kind=46∨e.kind=47 then
  decide ((e.s.length:Int)=0)&&zF4 e.v
 else decide (e.n=0)&&decide ((e.s.length:Int)=0)&&zF4 e.v
def callable (sp:Spec)(def_ n:Int):Bool:=
 decide (0≤n)&&decide (n<sp.defs.length) &&
  (decide (def_<0)||decide (n<def_)||((sp.defs.getD n.toNat default).recu&&(sp.defs.getD def_.toNat default).recu))
def params (sp:Spec)(n:Int):List Int:=(sp.defs.getD n.toNat default).params
def own (sp:Spec)(def_:Int)(sc:List Int)(e:X):Bool:=
 let n:=e.n
 let m:Int:=e.l.length
 zLF e &&
 (if e.kind=1 then decide (m=0)&&known sp.models e.v
 else if e.kind=2 then decide (m=0)&&decide (0≤n)&&decide (n<sp.vars.length)
 else if e.kind=3 then decide (m=0)&&decide (0≤n)&&decide (n<sp.consts.length)
 else if e.kind=4 then decide (m=0)&&decide (0≤n)&&decide (n<sc.length)&&decide (sc.getD n.toNat 0=0)
 else if e.kind=5∨e.kind=13∨e.kind=25∨e.kind=26∨e.kind=32∨e.kind=43∨e.kind=45 then decide (m=1)
 else if e.kind=14∨e.kind=15∨e.kind=19∨e.kind=20∨e.kind=21∨e.kind=27∨e.kind=28∨e.kind=29∨e.kind=31∨e.kind=33∨e.kind=44 then decide (m=2)
 else if e.kind=40 then decide (m=3)
 else if e.kind=11∨e.kind=12∨e.kind=22∨e.kind=38 then true
 else if e.kind=39 then decide (2≤m)
 else if e.kind=16∨e.kind=17∨e.kind=24∨e.kind=30 then decide (1≤n)&&decide (n≤8)&&decide (m=n+1)&&decide (sc.length+n≤40)
 else if e.kind=18∨e.kind=23∨e.kind=42 then decide (m=2)&&decide ((sc.length:Int)<40)
 else if e.kind=34 then decide (m=3)&&decide ((sc.length:Int)<40)
 else if e.kind=35∨e.kind=36 then decide (m=(e.s.length:Int))&&fields e.s
 else if e.kind=37 then decide (m=1)&&decide ((e.s.length:Int)=1)&&fields e.s
 else if e.kind=41 then(decide (n=0)||decide (n=1))&&decide (2≤m)&&decide (m % 2=n)
 else if e.kind=46 then decide (1≤n)&&decide (n≤19)&&decide (m=prims n)
 else if e.kind=47 then decide (1≤n)&&decide (n≤4)&&((decide (m=0)&&decide (n≠4))||(decide (m=1)&&decide (n=4)))
 else if e.kind=6 then callable sp def_ n&&decide (m=((params sp n).length:Int))
 else if e.kind=7 then decide (0≤n)&&decide (n<sc.length)&&decide (0<sc.getD n.toNat 0)&&decide (m=sc.getD n.toNat 0)
 else false)
def oper (sp:Spec)(def_:Int)(sc:List Int)(e:X)(ar:Int):Bool:=
 zLF e&&decide (1≤ar)&&decide (ar≤8) &&
 (if e.kind=8 then decide ((e.l.length:Int)=0)&&callable sp def_ e.n&&decide (((params sp e.n).length:Int)=ar)&&(params sp e.n).all fun p=>decide (p=0)
 else if e.kind=9 then decide (e.n=ar)&&decide ((e.l.length:Int)=1)&&decide (sc.length+ar≤40)
 else if e.kind=10 then decide ((e.l.length:Int)=0)&&decide (0≤e.n)&&decide (e.n<sc.length)&&decide (sc.getD e.n.toNat 0=ar)
 else false)
def zIF (sp:Spec)(def_:Int)(sc:List Int)(e:X)(ar:Int):Bool:=if ar=0 then own sp def_ sc e else oper sp def_ sc e ar
def arity (sp:Spec)(k n:Int)(i:Nat):Int:=if k=6 then(params sp n).getD i 0 else 0
mutual
def ok (sp:Spec)(def_:Int):List Int→X→Int→Bool
 | sc,.mk k n s v l,ar=>zIF sp def_ sc (.mk k n s v l) ar&&okL sp def_ sc k n 0 l
def okL (sp:Spec)(def_:Int):List Int→Int→Int→Nat→List X→Bool
 | _,_,_,_,[]=>true
 | sc,k,n,i,e :: r=>ok sp def_ (sc++zeros (sees k n i)) e (arity sp k n i)&&okL sp def_ sc k n (i+1) r
end
theorem ok_eq (sp:Spec)(def_:Int)(sc:List Int)(e:X)(ar:Int):ok sp def_ sc e ar=(zIF sp def_ sc e ar&&okL sp def_ sc e.kind e.n 0 e.l):=by cases e;rfl
def zRG (s:Str):Bool:=decide (1≤(s.length:Int))&&decide ((s.length:Int)≤40)&&s.all fun c=>decide ((33:Int)≤c.toNat)&&decide ((c.toNat:Int)≤126)
def defHeads:List Def→List Def→Bool
 | _,[]=>true
 | pre,d :: r=>zRG d.name&&decide ((d.params.length:Int)≤8)&&d.params.all (fun p=>decide (0≤p)&&decide (p≤8))&&!(pre.any fun x=>decide (x.name=d.name))&&defHeads (pre++[d]) r
def exprs (sp:Spec):List X:=
 sp.vars.map (·.typ)++sp.assume++[sp.init,sp.next]++sp.fair.flatMap (fun x=>[x.a,x.sub])++sp.invs.map (·.e)++sp.cons++sp.acons++sp.view
def bodies (sp:Spec):Nat→List Def→Bool
 | _,[]=>true
 | i,d :: r=>ok sp i d.params d.body 0&&bodies sp (i+1) r
def zEC (sp:Spec):Bool:=
 decide ((sp.groups.length:Int)≤10)&&sp.groups.all (fun l=>decide (2≤(l.length:Int)))&&distinct [] sp.groups.flatten&&sp.groups.flatten.all (fun s=>decide (s∈sp.models))
def zNJ (sp:Spec):Bool:=
 decide ((sp.models.length:Int)≤40)&&decide ((sp.consts.length:Int)≤20)&&decide (1≤(sp.vars.length:Int))&&decide ((sp.vars.length:Int)≤16)&&decide ((sp.defs.length:Int)≤100)&&decide ((sp.view.length:Int)≤1) &&
 decide ((sp.assume.length:Int)≤40)&&decide ((sp.fair.length:Int)≤40)&&decide ((sp.invs.length:Int)≤40)&&decide ((sp.cons.length:Int)≤40)&&decide ((sp.acons.length:Int)≤40)&&decide ((sp.props.length:Int)≤40) &&
 distinct [] sp.models&&distinct [] (sp.consts.map (·.name))&&distinct [] (sp.vars.map (·.name))&&distinct [] (sp.invs.map (·.name))&&distinct [] (sp.props.map (·.name)) &&
 zDM sp.models (sp.consts.map (·.v))&&zEC sp&&defHeads [] sp.defs
def zCQ (sp:Spec):Bool:=
 zNJ sp&&bodies sp 0 sp.defs&&(exprs sp).all (fun e=>ok sp (-1) [] e 0) &&
 (sp.defs.all fun d=>decide (depX d.body≤100))&&((exprs sp).all fun e=>decide (depX e≤100))&&decide (cntXs (sp.defs.map (·.body))+cntXs (exprs sp)≤3000)
def zCL (sp:Spec):Bool:=
 zCQ sp&&(sp.consts.all fun c=>zBD c.v)&&(sp.defs.all fun d=>lits d.body)&&(exprs sp).all lits
def zA1 (sp:Spec)(e:X)(bound:Int):Bool:=
 ok sp (-1) (zeros bound) e 0&&decide (cntX e≤3000)&&decide (depX e≤100)&&lits e
def check (sp:Spec):Int:=if zCL sp then 0 else 6
def checkExpr (sp:Spec)(e:X)(bound:Int):Int:=if !zCL sp then 6 else if bound<0∨40<bound then 1 else if !zA1 sp e bound then 5 else 0
end Pl
namespace Go.Ab
open Go Pl
def iv (n:Int):AV:=.int .i64 n
def slS (l:List Str):AV:=.sl 0 (l.map AV.str) .shut
mutual
def encV:V→AV
 | .mk k n b d s l m=>.agg [.int .i64 k,.int .i64 n,.bool b,.sl 0 (d.map iv) .shut,.str s,.sl 0 (encVs l) .shut,.sl 0 (encVs m) .shut]
def encVs:List V→List AV
 | []=>[]
 | v :: r=>encV v :: encVs r
end
theorem encVs_map:∀l:List V,encVs l=l.map encV
 | []=>rfl
 | v :: r=>by simp only[encVs,List.map_cons];rw[encVs_map r]
def zAW (v:V):List AV:=[.int .i64 v.kind,.int .i64 v.n,.bool v.neg,.sl 0 (v.d.map iv) .shut,.str v.s,.sl 0 (v.l.map encV) .shut,.sl 0 (v.m.map encV) .shut]
theorem zFV (v:V):encV v=.agg (zAW v):=by cases v;simp only[encV,encVs_map];rfl
mutual
def encX:X→AV
 | .mk k n s v l=>.agg (.int .i64 k :: .int .i64 n :: .sl 0 (s.map AV.str) .shut :: (zAW v++[.sl 0 (encXs l) .shut]))
def encXs:List X→List AV
 | []=>[]
 | v :: r=>encX v :: encXs r
end
theorem encXs_map:∀l:List X,encXs l=l.map encX
 | []=>rfl
 | v :: r=>by simp only[encXs,List.map_cons];rw[encXs_map r]
def zAL (e:X):List AV:=[.int .i64 e.kind,.int .i64 e.n,.sl 0 (e.s.map AV.str) .shut,.int .i64 e.v.kind,.int .i64 e.v.n,.bool e.v.neg,.sl 0 (e.v.d.map iv) .shut,.str e.v.s,.sl 0 (e.v.l.map encV) .shut,.sl 0 (e.v.m.map encV) .shut,.sl 0 (e.l.map encX) .shut]
theorem zBQ (e:X):encX e=.agg (zAL e):=by cases e;simp only[encX,encXs_map];rfl
mutual
def encT:T→AV
 | .mk k e s l=>.agg (.int .i64 k :: (zAL e++(zAL s++[.sl 0 (encTs l) .shut])))
def encTs:List T→List AV
 | []=>[]
 | v :: r=>encT v :: encTs r
end
theorem encTs_map:∀l:List T,encTs l=l.map encT
 | []=>rfl
 | v :: r=>by simp only[encTs,List.map_cons];rw[encTs_map r]
def zCH (e:T):List AV:=.int .i64 e.kind :: (zAL e.e++(zAL e.sub++[.sl 0 (e.l.map encT) .shut]))
theorem zIJ (e:T):encT e=.agg (zCH e):=by cases e;simp only[encT,encTs_map];rfl
def zBG (d:Pl.Def):List AV:=.str d.name :: .sl 0 (d.params.map iv) .shut :: .bool d.recu :: zAL d.body
def zCO (d:Pl.Def):AV:=.agg (zBG d)
def zDD (d:Pl.Var):List AV:=.str d.name :: zAL d.typ
def zDX (d:Pl.Var):AV:=.agg (zDD d)
def zBX (d:Pl.Const):List AV:=.str d.name :: zAW d.v
def zBF (d:Pl.Const):AV:=.agg (zBX d)
def zB5 (d:Pl.Named):List AV:=.str d.name :: zAL d.e
def zBU (d:Pl.Named):AV:=.agg (zB5 d)
def zCD (d:Pl.Fair):List AV:=.bool d.strong :: (zAL d.a++zAL d.sub)
def zEO (d:Pl.Fair):AV:=.agg (zCD d)
def zDE (d:Pl.Prp):List AV:=.str d.name :: zCH d.t
def zDB (d:Pl.Prp):AV:=.agg (zDE d)
def zAC (s:Pl.Spec):List AV:=
 [.sl 0 (s.models.map AV.str) .shut,.sl 0 (s.consts.map zBF) .shut,.sl 0 (s.vars.map zDX) .shut,.sl 0 (s.defs.map zCO) .shut,.sl 0 (s.assume.map encX) .shut] ++
 (zAL s.init++(zAL s.next++[.sl 0 (s.fair.map zEO) .shut,.sl 0 (s.invs.map zBU) .shut,.sl 0 (s.props.map zDB) .shut,.sl 0 (s.cons.map encX) .shut,.sl 0 (s.acons.map encX) .shut,
  .sl 0 (s.groups.map slS) .shut,.sl 0 (s.view.map encX) .shut,.bool s.dead]))
def zAN (s:Pl.Spec):AV:=.agg (zAC s)
theorem zZL (l:List AV):cellsOf (.agg l)=l:=(rfl)
theorem zA3 (v:V):cellsOf (encV v)=zAW v:=by rw[zFV];rfl
theorem zA2 (v:X):cellsOf (encX v)=zAL v:=by rw[zBQ];rfl
theorem zA4 (v:T):cellsOf (encT v)=zCH v:=by rw[zIJ];rfl
theorem zZK (k:IntKind)(n:Int):cellsOf (.int k n)=[.int k n]:=(rfl)
theorem zVL (b:Bool):cellsOf (.bool b)=[.bool b]:=(rfl)
theorem zZI (b:Str):cellsOf (.str b)=[.str b]:=(rfl)
theorem cells_sl (t:Nat)(xs:List AV)(o:Own):cellsOf (.sl t xs o)=[.sl t xs o]:=(rfl)
theorem zZJ (k o:Nat):cellsOf (.ptr k o)=[.ptr k o]:=(rfl)
theorem zVK (t:Nat)(f:Fn)(a b:List AV):cellsOf (.func t f a b)=[.func t f a b]:=(rfl)
theorem top_V (v:V):top (encV v)=0:=by rw[zFV];rfl
theorem top_X (v:X):top (encX v)=0:=by rw[zBQ];rfl
theorem top_T (v:T):top (encT v)=0:=by rw[zIJ];rfl
theorem zO0 {α:Type}{h:α→AV}(hh:∀a,top (h a)=0):∀l:List α,tops (l.map h)=0
 | []=>rfl
 | a :: r=>by show Nat.max (top (h a)) (tops (r.map h))=0;rw[hh,zO0 hh r];rfl
theorem zF6 {α:Type}{h:α→AV}{es:Nat}(hh:∀a,(Nat.beq (llen (cellsOf (h a))) es&&flatC (cellsOf (h a)))=true):∀l:List α,zBK es (l.map h)=true
 | []=>rfl
 | a :: r=>by show(bif _ then _ else _)=true;rw[hh];exact zF6 hh r
theorem wr_id {a:Int}(h:-9223372036854775808≤a∧a<9223372036854775808):wr .i64 a=a:=by
 unfold wr
 have:inR .i64 a=true:=by
  cases a with
  | ofNat a=>simp only[inR,Nat.blt_eq];have:=h.2;simp only[Int.ofNat_eq_natCast] at this;omega
  | negSucc a=>simp only[inR,Nat.blt_eq];have:=h.1;omega
 rw[this];rfl
theorem zOJ {α:Type}{h:α→AV}(l:List α):llen (l.map h)=l.length:=by rw[zAH,List.length_map]
theorem llen_X (e:X):llen (zAL e)=11:=(rfl)
theorem llen_V (e:V):llen (zAW e)=7:=(rfl)
theorem zXZ (e:T):llen (zCH e)=24:=(rfl)
theorem llen_Def (e:Pl.Def):llen (zBG e)=14:=(rfl)
theorem llen_Var (e:Pl.Var):llen (zDD e)=12:=(rfl)
theorem zU4 (e:Pl.Const):llen (zBX e)=8:=(rfl)
theorem zU3 (e:Pl.Named):llen (zB5 e)=12:=(rfl)
theorem zX1 (e:Pl.Fair):llen (zCD e)=23:=(rfl)
theorem llen_Prp (e:Pl.Prp):llen (zDE e)=25:=(rfl)
theorem zX0 (e:Pl.Spec):llen (zAC e)=35:=(rfl)
theorem lnth_0 (a:AV)(l:List AV):lnth (a :: l) 0=some a:=rfl
theorem lnth_s (a:AV)(l:List AV)(n:Nat):lnth (a :: l) (n+1)=lnth l n:=rfl
theorem lnth_nil (n:Nat):lnth [] n=none:=rfl
theorem zXY {α:Type}(a:α)(l:List α):llen (a :: l)=llen l+1:=(rfl)
theorem llen_nil {α:Type}:llen ([]:List α)=0:=(rfl)
theorem zCK (a b:Nat):Nat.ble a b=decide (a≤b):=by rw[Bool.eq_iff_iff];simp
theorem zGV (a b:Nat):Nat.blt a b=decide (a<b):=by rw[Bool.eq_iff_iff];simp
theorem zSD (a b:Nat):Nat.beq a b=decide (a=b):=by rw[Bool.eq_iff_iff];simp
def ldB (b:Box)(ti:TI)(o:Nat):Option AV:=match b with|.cells _ cs=>pick1 ti cs o|_=>none
def ldX (ti:TI)(o:Nat)(x:Option AV):Option AV:=match x with|some x=>pick1 ti (cellsOf x) o|none=>none
def ldR (b:Box)(ti:TI)(i o:Nat):Option AV:=match b with|.row _ _ xs _=>ldX ti o (lnth xs i)|_=>none
section
variable {m:Nat}{g:Nat→Box}{u:List (Nat×Nat)}{ti:TI}{k o i:Nat}{s:Sto}
theorem loadA_p (h:k<m):zI6 (S m g u) ti (.ptr k o)=ldB (g k) ti o:=by simp only[zI6,zEY h];unfold ldB;cases g k<;>rfl
theorem loadA_e (h:k<m):zI6 (S m g u) ti (.eptr k i o)=ldR (g k) ti i o:=by
 simp only[zI6,zEY h];unfold ldR ldX;cases g k with
 | row a b xs d=>simp only;cases lnth xs i<;>rfl
 | _=>rfl
theorem loadA_r {t:Nat}{cs:List AV}:zI6 s ti (.rptr t cs)=pick1 ti cs 0:=(rfl)
theorem zX7 {ty:TypeId}{cs:List AV}:ldB (.cells ty cs) ti o=pick1 ti cs o:=(rfl)
theorem ldR_row {ty:TypeId}{es:Nat}{xs:List AV}{sl:Bool}:ldR (.row ty es xs sl) ti i o=ldX ti o (lnth xs i):=(rfl)
theorem ldX_some {x:AV}:ldX ti o (some x)=pick1 ti (cellsOf x) o:=(rfl)
theorem zAB {b:Box}:updB g k b k=b:=if_pos rfl
theorem zAA {b:Box}{j:Nat}(h:k≠j):updB g j b k=g k:=if_neg h
theorem zAS (h1:ti.size=1)(h2:ti.agg=false)(cs:List AV):pick1 ti cs o=lnth cs o:=by
 unfold pick1;rw[h1,h2,zE6,zAH,zCK]
 by_cases h:o+1≤cs.length
 ·rw[decide_eq_true h];rfl
 ·rw[decide_eq_false h];simp only[cond_false];rw[List.getElem?_eq_none (by omega)]
def stB (m:Nat)(g:Nat→Box)(u:List (Nat×Nat))(k:Nat)(b:Box)(ti:TI)(o:Nat)(v:AV):Option Sto:=
 match b with
 | .cells ty cs=>bif Nat.beq (llen (cellsOf v)) ti.size&&(Nat.ble (o+ti.size) (llen cs)&&flatC (cellsOf v)) then some ((S m (updB g k (.cells ty (splice cs o (cellsOf v)))) u).note k (top v)) else none
 | _=>none
theorem storeA_p {v:AV}(h:k<m):zGZ (S m g u) ti (.ptr k o) v=stB m g u k (g k) ti o v:=by
 simp only[zGZ,zEY h];unfold stB;cases g k with
 | cells ty cs=>simp only;rw[zIP h]
 | _=>rfl
theorem zWI {v:AV}{ty:TypeId}{cs:List AV}:stB m g u k (.cells ty cs) ti o v=bif Nat.beq (llen (cellsOf v)) ti.size&&(Nat.ble (o+ti.size) (llen cs)&&flatC (cellsOf v)) then some ((S m (updB g k (.cells ty (splice cs o (cellsOf v)))) u).note k (top v)) else none:=(rfl)
def faV (x:AV)(s:Sto)(q:Option (Nat×TypeId)):Nx:=
 match q with
 | some (off,_)=>(match x with
   | .ptr k o=>.val (.ptr k (o+off)) s
   | .eptr k j o=>.val (.eptr k j (o+off)) s
   | .rptr t cs=>bif Nat.ble off (llen cs) then .val (.rptr t (ldrop cs off)) s else .no
   | _=>.no)
 | none=>.no
theorem faddr_eq {fs:List (Nat×TypeId)}{x:AV}:zB4 (.struct fs) (some x) i s=faV x s (zB7 fs i):=by
 unfold zB4 faV;simp only;cases zB7 fs i with
 | none=>rfl
 | some q=>obtain⟨a,b⟩:=q;cases x<;>rfl
theorem faV_p {off:Nat}{ft:TypeId}:faV (.ptr k o) s (some (off,ft))=.val (.ptr k (o+off)) s:=(rfl)
theorem faV_e {off:Nat}{ft:TypeId}:faV (.eptr k i o) s (some (off,ft))=.val (.eptr k i (o+off)) s:=(rfl)
theorem faV_r {off:Nat}{ft:TypeId}{t:Nat}{cs:List AV}:faV (.rptr t cs) s (some (off,ft))=bif Nat.ble off (llen cs) then .val (.rptr t (ldrop cs off)) s else .no:=(rfl)
theorem zZ1 {k:IntKind}{j:Nat}:asNat (.int k (j:Int))=some j:=(rfl)
theorem zGF {k:IntKind}{z:Int}(h:0≤z):asNat (.int k z)=some z.toNat:=by cases z with
 | ofNat a=>rfl
 | negSucc a=>omega
def ixX (es tp:Nat)(s:Sto)(x:Option AV):Nx:=match x with|some x=>bif Nat.beq (llen (cellsOf x)) es then .val (.rptr tp (cellsOf x)) s else .no|none=>.no
theorem ixSl_eq {es tp:Nat}{xs:List AV}:ixSl es i tp xs s=ixX es tp s (lnth xs i):=by unfold ixSl ixX;cases lnth xs i<;>rfl
theorem ixX_some {es tp:Nat}{x:AV}:ixX es tp s (some x)=bif Nat.beq (llen (cellsOf x)) es then .val (.rptr tp (cellsOf x)) s else .no:=(rfl)
def ixO (es i k off len m:Nat)(g:Nat→Box)(u:List (Nat×Nat))(b:Box):Nx:=match b with|.row _ es' _ _=>bif Nat.blt i len&&Nat.beq es es' then .val (.eptr k (off+i) 0) (S m g u) else .no|_=>.no
theorem ixOsl_eq {es off len:Nat}(h:k<m):zRM es i k off len (S m g u)=ixO es i k off len m g u (g k):=by unfold zRM ixO;rw[zEY h];cases g k<;>rfl
theorem ixO_row {es es' off len:Nat}{ty:TypeId}{xs:List AV}{sl:Bool}:ixO es i k off len m g u (.row ty es' xs sl)=bif Nat.blt i len&&Nat.beq es es' then .val (.eptr k (off+i) 0) (S m g u) else .no:=(rfl)
theorem zXX {α:Type}{h:α→AV}{l:List α}:lnth (l.map h) i=(l[i]?).map h:=by rw[zE6,List.getElem?_map]
end
theorem seal_V (s:Sto)(v:V):zBC s (encV v)=some (encV v,s):=by rw[zFV];rfl
theorem zIT (s:Sto)(v:X):zBC s (encX v)=some (encX v,s):=by rw[zBQ];rfl
theorem zWM (s:Sto)(v:Pl.Spec):zBC s (zAN v)=some (zAN v,s):=(rfl)
theorem seal_Def (s:Sto)(v:Pl.Def):zBC s (zCO v)=some (zCO v,s):=(rfl)
theorem zUD (s:Sto)(v:Pl.Const):zBC s (zBF v)=some (zBF v,s):=(rfl)
theorem seal_Var (s:Sto)(v:Pl.Var):zBC s (zDX v)=some (zDX v,s):=(rfl)
theorem zUC (s:Sto)(v:Pl.Named):zBC s (zBU v)=some (zBU v,s):=(rfl)
theorem seal_Prp (s:Sto)(v:Pl.Prp):zBC s (zDB v)=some (zDB v,s):=(rfl)
theorem zEW (s:Sto)(k:IntKind)(n:Int):zBC s (.int k n)=some (.int k n,s):=(rfl)
theorem zWL (s:Sto)(b:Bool):zBC s (.bool b)=some (.bool b,s):=(rfl)
theorem seal_str (s:Sto)(b:Str):zBC s (.str b)=some (.str b,s):=(rfl)
theorem zFN (s:Sto)(t:Nat)(xs:List AV)(o:Own):zBC s (.sl t xs o)=some (.sl t xs .shut,s):=(rfl)
theorem zGJ (s:Sto)(k o:Nat):zBC s (.ptr k o)=some (.ptr k o,s):=(rfl)
theorem seal_map (s:Sto)(k:Nat):zBC s (.map k)=some (.map k,s):=(rfl)
theorem zG6 (s:Sto)(t:Nat)(f:Fn)(a b:List AV):zBC s (.func t f a b)=some (.func t f a b,s):=(rfl)
theorem zV3 (k:IntKind)(n:Int):top (.int k n)=0:=(rfl)
theorem top_bool (b:Bool):top (.bool b)=0:=(rfl)
theorem top_str (b:Str):top (.str b)=0:=(rfl)
theorem top_sl (t:Nat)(xs:List AV)(o:Own):top (.sl t xs o)=t:=(rfl)
theorem top_ptr (k o:Nat):top (.ptr k o)=k+1:=(rfl)
theorem top_osl (k o n:Nat):top (.osl k o n)=k+1:=(rfl)
theorem top_map (k:Nat):top (.map k)=k+1:=(rfl)
theorem top_rptr (t:Nat)(cs:List AV):top (.rptr t cs)=t:=(rfl)
theorem top_func (t:Nat)(f:Fn)(a b:List AV):top (.func t f a b)=t:=(rfl)
theorem max0 (n:Nat):Nat.max 0 n=n:=Nat.zero_max n
theorem maxn (n:Nat):Nat.max n 0=n:=Nat.max_zero n
theorem top_Def (d:Pl.Def):top (zCO d)=0:=(rfl)
theorem top_Var (d:Pl.Var):top (zDX d)=0:=(rfl)
theorem zV6 (d:Pl.Const):top (zBF d)=0:=(rfl)
theorem zV4 (d:Pl.Named):top (zBU d)=0:=(rfl)
theorem top_Fair (d:Pl.Fair):top (zEO d)=0:=(rfl)
theorem top_Prp (d:Pl.Prp):top (zDB d)=0:=(rfl)
theorem zST (d:Pl.Spec):top (zAN d)=0:=(rfl)
theorem zZP (d:Pl.Def):cellsOf (zCO d)=zBG d:=(rfl)
theorem zZM (d:Pl.Var):cellsOf (zDX d)=zDD d:=(rfl)
theorem zR8 (d:Pl.Const):cellsOf (zBF d)=zBX d:=(rfl)
theorem zR7 (d:Pl.Named):cellsOf (zBU d)=zB5 d:=(rfl)
theorem zVN (d:Pl.Fair):cellsOf (zEO d)=zCD d:=(rfl)
theorem zZN (d:Pl.Prp):cellsOf (zDB d)=zDE d:=(rfl)
theorem zVM (d:Pl.Spec):cellsOf (zAN d)=zAC d:=(rfl)
section
variable {E:Env}{t:TypeId}{c:Bool}{k:IntKind}{a b:Int}{s:Sto}{x y:Str}{p q:Bool}
theorem b_eq:binA E .eql t c (.int k a) (.int k b) s=some (.bool (decide (a=b))):=by simp only[binA,isShift,zDV,cond_true,cond_false,arith,zJC]
theorem b_ne:binA E .neq t c (.int k a) (.int k b) s=some (.bool (!decide (a=b))):=by simp only[binA,isShift,zDV,cond_true,cond_false,arith,zJC]
theorem b_lt:binA E .lss t c (.int k a) (.int k b) s=some (.bool (decide (a<b))):=by simp only[binA,isShift,zDV,cond_true,cond_false,arith,zHH]
theorem b_gt:binA E .gtr t c (.int k a) (.int k b) s=some (.bool (decide (b<a))):=by simp only[binA,isShift,zDV,cond_true,cond_false,arith,zHH]
theorem b_le:binA E .leq t c (.int k a) (.int k b) s=some (.bool (decide (a≤b))):=by
 simp only[binA,isShift,zDV,cond_true,cond_false,arith,zHH];congr 2;rw[Bool.eq_iff_iff];simp
theorem b_ge:binA E .geq t c (.int k a) (.int k b) s=some (.bool (decide (b≤a))):=by
 simp only[binA,isShift,zDV,cond_true,cond_false,arith,zHH];congr 2;rw[Bool.eq_iff_iff];simp
theorem b_add:binA E .add t c (.int k a) (.int k b) s=some (.int k (wr k (a+b))):=by simp only[binA,isShift,zDV,cond_true,cond_false,arith]
theorem b_sub:binA E .sub t c (.int k a) (.int k b) s=some (.int k (wr k (a-b))):=by simp only[binA,isShift,zDV,cond_true,cond_false,arith]
theorem b_seq:binA E .eql t c (.str x) (.str y) s=some (.bool (decide (x=y))):=by simp only[binA,zO3,zD9]
theorem b_sne:binA E .neq t c (.str x) (.str y) s=some (.bool (!decide (x=y))):=by simp only[binA,zO3,zD9]
theorem b_beq:binA E .eql t c (.bool p) (.bool q) s=eqTy E .eql (E.types t).d c (.bool p) (.bool q) s:=(rfl)
theorem b_bne:binA E .neq t c (.bool p) (.bool q) s=eqTy E .neq (E.types t).d c (.bool p) (.bool q) s:=(rfl)
theorem e_beq:eqTy E .eql .bool c (.bool p) (.bool q) s=some (.bool (decide (p=q))):=by cases p<;>cases q<;>rfl
theorem e_bne:eqTy E .neq .bool c (.bool p) (.bool q) s=some (.bool (!decide (p=q))):=by cases p<;>cases q<;>rfl
theorem u_not:oUn .not (some (.bool p)) s=.val (.bool (!p)) s:=(rfl)
theorem lenA_sl {e:TypeId}{tp:Nat}{xs:List AV}{o:Own}:lenA (.slice e) (.sl tp xs o) s=some (llen xs):=(rfl)
theorem lenA_osl {e:TypeId}{j o n:Nat}:lenA (.slice e) (.osl j o n) s=some n:=(rfl)
theorem lenA_str:lenA .str (.str x) s=some x.length:=by simp only[lenA,zAH]
theorem max_2 {a b:Int}:bMax [.int k a,.int k b] s=.val (.int k (max a b)) s:=by
 simp only[bMax,foldMax,zHH,cond_eq_ite,decide_eq_true_eq];congr 2;simp only[Int.max_def];split<;>split<;>omega
theorem min_2 {a b:Int}:bMin [.int k a,.int k b] s=.val (.int k (min a b)) s:=by
 simp only[bMin,foldMin,zHH,cond_eq_ite,decide_eq_true_eq];congr 2;simp only[Int.min_def];split<;>split<;>omega
theorem zV0 {v:AV}:valOf (.val v s)=some v:=(rfl)
theorem pick_t {o1 o2:AV}:zHC (some (.bool true)) (some o1) (some o2) s=.val o1 s:=(rfl)
theorem pick_f {o1 o2:AV}:zHC (some (.bool false)) (some o1) (some o2) s=.val o2 s:=(rfl)
theorem pick_bb {b p q:Bool}:zHC (some (.bool b)) (some (.bool p)) (some (.bool q)) s=.val (.bool (if b=true then p else q)) s:=by cases b<;>rfl
end
attribute [go_sem] iv slS mg_t mg_f gvalB_u gvalB_mt gvalB_mf pk_and pk_or pk_nand pk_nor Bool.not_not
theorem fl_b (b:Bool):flat1 (.bool b)=true:=rfl
theorem fl_i (k:IntKind)(n:Int):flat1 (.int k n)=true:=rfl
theorem fl_s (b:Str):flat1 (.str b)=true:=rfl
theorem fl_np:flat1 .nilptr=true:=rfl
theorem fl_p (k o:Nat):flat1 (.ptr k o)=true:=rfl
theorem fl_e (k i o:Nat):flat1 (.eptr k i o)=true:=rfl
theorem fl_r (t:Nat)(cs:List AV):flat1 (.rptr t cs)=true:=rfl
theorem fl_sl (t:Nat)(xs:List AV)(o:Own):flat1 (.sl t xs o)=true:=rfl
theorem fl_o (k o n:Nat):flat1 (.osl k o n)=true:=rfl
theorem fl_nm:flat1 .nilmap=true:=rfl
theorem fl_m (k:Nat):flat1 (.map k)=true:=rfl
theorem fl_f (t:Nat)(f:Fn)(a b:List AV):flat1 (.func t f a b)=true:=rfl
theorem fl_nf:flat1 .nilfunc=true:=rfl
theorem fl_if (t:TypeId)(v:AV):flat1 (.iface t v)=true:=rfl
theorem fl_ni:flat1 .niliface=true:=rfl
theorem fl_a (cs:List AV):flat1 (.agg cs)=false:=rfl
attribute [go_sem] WP_skip WP_label WP_ret WP_exit zZ8 WP_draw WP_seq WP_block WP_scope WP_cond WP_loop WP_range zZ9 TQ_ret TQ_exit TQ_panic yAM BQ_ret BQ_panic BQ_exit DQ_normal DQ_panic CW_true CW_false
 nthO_0 nthO_s RP_cons RP_nil RW_nil RW_cons RW_pnil PW_some RW_loud RW_quiet RW_chk RW_apart WG_none WG_some gdst_0 gdst_s zYI gvalB_t gvalB_f GW_0t GW_0f GW_1t GW_1f GW_2t GW_2f SV_val yAC SV_round SV_panic SQ_some SC_some KR_ret KR_panic
 Fl_put' Fl_putN at_nil at_cons Fl_tmp yAI Fl_const Fl_func Fl_defers FD_Fl FE_ret yAK FE_panic yAJ FN_not zWQ zWR resV_0 resV_1 resV_2 zV9 zTY zQU zO2 argL ub
 zZL zA3 zA2 zA4 zZK zVL zZI cells_sl zZJ zVK zZP zZM zR8 zR7 zVN zZN zVM
 top_V top_X top_T zV3 top_bool top_str top_sl top_ptr top_osl top_map top_rptr top_func zDQ zCU tops_nil zAU max0 maxn top_Def top_Var zV6 zV4 top_Fair top_Prp zST
 seal_V zIT zWM seal_Def zUD seal_Var zUC seal_Prp zEW zWL seal_str zFN zGJ seal_map zG6 zBO zK8 cond_false cond_true
 zOJ llen_X llen_V zXZ llen_Def llen_Var zU4 zU3 zX1 llen_Prp zX0 zCK zGV zSD
 loadA_p loadA_e loadA_r zX7 ldR_row ldX_some zAB zAA storeA_p zWI faddr_eq faV_p faV_e faV_r zZ1 zGF ixSl_eq ixX_some ixOsl_eq ixO_row zXX
 b_eq b_ne b_lt b_gt b_le b_ge b_add b_sub b_seq b_sne b_beq b_bne e_beq e_bne u_not max_2 min_2 zV0 pick_t pick_f pick_bb wr_id
 opA opQ oBin zRB zNB oBox oNil zOE zEA zCN zCP zHD zGS bLen lenA_sl lenA_osl lenA_str hd0 nv nvs ns zBR zBW ofConst ofValue zUO zKV splice flatC fl_b fl_i fl_s fl_np fl_p fl_e fl_r fl_sl fl_o fl_nm fl_m fl_f fl_nf fl_if fl_ni fl_a
 S_n zJ6 zMO yAB zEY
 zDC zXY llen_nil lnth_0 lnth_s lnth_nil zCA zCZ zBP List.length_cons List.length_nil List.getElem?_cons_succ List.getElem?_cons_zero List.take_succ_cons List.take_zero List.drop_succ_cons List.drop_zero List.take_nil List.drop_nil
 List.cons_append List.nil_append List.append_nil List.toList_toArray Option.map_some Int.toNat_natCast Int.cast_ofNat_Int Int.ofNat_eq_natCast decide_true decide_false Bool.and_true Bool.true_and Bool.and_false Bool.false_and Bool.not_true Bool.not_false Bool.or_false Bool.false_or Bool.or_true Bool.true_or if_true if_false Bool.false_eq_true true_and and_true
end Go.Ab
end
