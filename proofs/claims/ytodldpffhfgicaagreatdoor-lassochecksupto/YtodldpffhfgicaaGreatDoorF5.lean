/- A part. -/
import Derived.Test.YtodldpffhfgicaaGreatDoorF4
set_option linter.all false
noncomputable section
namespace Go.Ab
open Go
theorem zTZ {x:Option (Out×Fr×Sto)}{k:Fr→Sto→Option (Out×Fr×Sto)}{o:Out}{fr':Fr}{s':Sto}(h:zKI x k=some (o,fr',s')) :
  (∃fr1 s1,x=some (.normal,fr1,s1)∧k fr1 s1=some (o,fr',s'))∨(x=some (o,fr',s')∧o≠.normal):=by
 unfold zKI at h
 split at h
 ·split at h
  ·exact .inl ⟨_,_,rfl,h⟩
  ·rename_i hne
   cases h
   exact .inr ⟨rfl,fun e=>hne e⟩
 ·cases h
def front (m:Machine):Option (List Item×FrameMode):=(m.gs[0]?).map fun g=>(g.frame.todo,g.frame.mode)
theorem zDO (fr:Frame)(cs:List Frame)(w:World):front (lone fr cs w)=some (fr.todo,fr.mode):=rfl
theorem Steps.behind {P:Program}{m m1 m':Machine}(h:Steps P m m')(h1:step P m=.next m1)(hne:m'≠m):Steps P m1 m':=by
 obtain⟨n,hn⟩:=h
 cases n with
 | zero=>simp[runN] at hn;exact absurd hn.symm hne
 | succ n=>simp only[runN,h1] at hn;exact⟨n,hn⟩
section
variable {P:Program}{base:Nat}{w0:World}{fid:FuncId}{kd:CallKind}{rn:Option Nat}{k:List Item}{m m1:Machine}{g:Gh}{n:Nat}{rc:Option AV}{cs:List Frame}{o:Out}{fr':Fr}{s':Sto}
theorem Lands.behindLoop {c:Code}{tm:Array Value}{df:List Deferred}{w:World}(h:Lands P base w0 fid kd rn k (lone (mk fid kd rn tm df (.code (.loop c) :: k)) cs w) g n rc cs o fr' s') :
  Lands P base w0 fid kd rn k (lone (mk fid kd rn tm df (.code c :: .inLoop c :: k)) cs w) g n rc cs o fr' s':=by
 obtain⟨g',w',tm',df',cs',h1,h2,h3,h4⟩:=h
 refine⟨g',w',tm',df',cs',h1,h2,h3,?_⟩
 have hst:=zWG (P:=P) (f:=fid) (kd:=kd) (rn:=rn) (tm:=tm) (df:=df) (k:=k) (cs:=cs) (w:=w) (c:=c)
 cases o with
 | normal=>
  refine⟨h4.1,Steps.behind h4.2 hst fun e=>?_⟩
  have:=congrArg front e
  rw[zDO,zDO] at this
  simp only[mk,Option.some.injEq,Prod.mk.injEq] at this
  have:=congrArg List.length this.1
  simp at this
 | exit id=>
  obtain⟨h5,k2,h6,h7⟩:=h4
  refine⟨h5,k2,h6,Steps.behind h7 hst fun e=>?_⟩
  have:=congrArg front e
  rw[zDO,zDO] at this
  simp[mk] at this
 | ret=>
  obtain⟨h5,k2,h7⟩:=h4
  refine⟨h5,k2,Steps.behind h7 hst fun e=>?_⟩
  have:=congrArg front e
  rw[zDO,zDO] at this
  simp[mk] at this
 | panic v=>
  obtain⟨h5,v',k2,h6,h8,h9,h7⟩:=h4
  refine⟨h5,v',k2,h6,h8,h9,Steps.behind h7 hst fun e=>?_⟩
  have:=congrArg front e
  rw[zDO,zDO] at this
  simp[mk] at this
 | goto l=>exact h4
end
section
variable {P:Program}{OK:FuncId→Code→Prop}{r:Rec}{E:Env}{fid:FuncId}{rnd:Option Nat}{fr:Fr}{s:Sto}{o:Out}{fr':Fr}{s':Sto}
 {base:Nat} {w0:World} {g:Gh} {w:World} {tm:Array Value} {df:List Deferred} {kd:CallKind} {rn:Option Nat} {cs:List Frame} {k:List Item}
theorem Lands.now {m:Machine}(hf:FI base w0 g s w fr tm df kd rn cs false)(hs:Steps P m (lone (mk fid kd rn tm df k) cs w)):Lands P base w0 fid kd rn k m g s.n fr.rec_ cs .normal fr s:=
 ⟨g,w,tm,df,cs,.refl _ _,Nat.le_refl _,.refl _ _,hf,hs⟩
theorem zSU {x:Option (Out×Fr×Sto)}{y:Fr→Sto→Option (Out×Fr×Sto)}{kb:List Item}{m:Machine}(h:zKI x y=some (o,fr',s'))
  (hx:∀{o1 fr1 s1},x=some (o1,fr1,s1)→Lands P base w0 fid kd rn kb m g s.n fr.rec_ cs o1 fr1 s1)
  (hp:∀{o1 fr1 s1},o1≠.normal→Lands P base w0 fid kd rn kb m g s.n fr.rec_ cs o1 fr1 s1→Lands P base w0 fid kd rn k m g s.n fr.rec_ cs o1 fr1 s1)
  (hb:∀{fr1 s1 g1 w1 tm1 df1 cs1},x=some (.normal,fr1,s1)→y fr1 s1=some (o,fr',s')→Grows s.n g g1→s.n≤s1.n→FI base w0 g1 s1 w1 fr1 tm1 df1 kd rn cs1 false→
   Lands P base w0 fid kd rn k (lone (mk fid kd rn tm1 df1 kb) cs1 w1) g1 s1.n fr1.rec_ cs1 o fr' s') :
  Lands P base w0 fid kd rn k m g s.n fr.rec_ cs o fr' s':=by
 rcases zTZ h with⟨fr1,s1,h1,h2⟩|⟨h1,hne⟩
 ·obtain⟨g1,w1,tm1,df1,cs1,hg,hn,hc,hfi,hst⟩:=hx h1
  exact((hb h1 h2 hg hn hfi).steps hst).from hg hn hc
 ·exact hp hne (hx h1)
theorem seq_sim (hr:ExecSim P OK r){a b:Code}(h:zCR r E fid rnd (.seq a b) fr s=some (o,fr',s'))(ha:OK fid a)(hb:OK fid b)
  (hok:g.ok=OK) (hf:FI base w0 g s w fr tm df kd rn cs false) (hrn:RnR g s.n rnd rn) :
  Lands P base w0 fid kd rn k (lone (mk fid kd rn tm df (.code (.seq a b) :: k)) cs w) g s.n fr.rec_ cs o fr' s':=by
 refine Lands.steps (.one zSZ) ?_
 refine zSU (kb:=.code b :: k) (by simpa only[zCR] using h) (fun hx=>hr.run hx ha _ hok hf hrn) (fun hne hl=>hl.pass rfl hne) ?_
 intro fr1 s1 g1 w1 tm1 df1 cs1 _ hy hg hn hfi
 exact hr.run hy hb k (hg.ok.trans hok) hfi (hrn.grows hg hn)
theorem loop_sim (hr:ExecSim P OK r){b:Code}(h:zCR r E fid rnd (.loop b) fr s=some (o,fr',s'))(hb:OK fid b)(hl:OK fid (.loop b))
  (hok:g.ok=OK) (hf:FI base w0 g s w fr tm df kd rn cs false) (hrn:RnR g s.n rnd rn) :
  Lands P base w0 fid kd rn k (lone (mk fid kd rn tm df (.code (.loop b) :: k)) cs w) g s.n fr.rec_ cs o fr' s':=by
 refine Lands.steps (.one zWG) ?_
 refine zSU (kb:=.inLoop b :: k) (by simpa only[zCR] using h) (fun hx=>hr.run hx hb _ hok hf hrn) (fun hne hl=>hl.pass rfl hne) ?_
 intro fr1 s1 g1 w1 tm1 df1 cs1 _ hy hg hn hfi
 exact(hr.run hy hl k (hg.ok.trans hok) hfi (hrn.grows hg hn)).behindLoop.steps (.one zWH)
theorem cond_sim (hr:ExecSim P OK r){c:Operand}{a b:Code}(h:zCR r E fid rnd (.cond c a b) fr s=some (o,fr',s'))(ha:OK fid a)(hb:OK fid b)
  (hok:g.ok=OK) (hf:FI base w0 g s w fr tm df kd rn cs false) (hrn:RnR g s.n rnd rn) :
  Lands P base w0 fid kd rn k (lone (mk fid kd rn tm df (.code (.cond c a b) :: k)) cs w) g s.n fr.rec_ cs o fr' s':=by
 simp only[zCR] at h
 unfold zZB at h
 split at h
 ·rename_i hc
  have:=zA9 (hf.tm rfl).1 hc
  cases hv:zAE tm c<;>rw[hv] at this<;>cases this
  exact Lands.steps (.one (zQY hv)) (hr.run h ha k hok hf hrn)
 ·rename_i hc
  have:=zA9 (hf.tm rfl).1 hc
  cases hv:zAE tm c<;>rw[hv] at this<;>cases this
  exact Lands.steps (.one (zQY hv)) (hr.run h hb k hok hf hrn)
 ·cases h
theorem zZX (hr:ExecSim P OK r){id:Nat}{b:Code}(h:zCR r E fid rnd (.block id b) fr s=some (o,fr',s'))(hb:OK fid b)
  (hok:g.ok=OK) (hf:FI base w0 g s w fr tm df kd rn cs false) (hrn:RnR g s.n rnd rn) :
  Lands P base w0 fid kd rn k (lone (mk fid kd rn tm df (.code (.block id b) :: k)) cs w) g s.n fr.rec_ cs o fr' s':=by
 refine Lands.steps (.one st_block) ?_
 simp only[zCR] at h
 unfold zQE at h
 split at h
 ·rename_i o1 fr1 s1 hx
  have hl:=hr.run hx hb (.inBlock id :: k) hok hf hrn
  obtain⟨g1,w1,tm1,df1,cs1,hg,hn,hc,harr⟩:=hl
  cases o1 with
  | normal=>
   cases h
   exact⟨g1,w1,tm1,df1,cs1,hg,hn,hc,harr.1,harr.2.trans (.one zT6)⟩
  | exit id'=>
   simp only[cond_eq_ite] at h
   obtain⟨hfi,k2,hk2,hst⟩:=harr
   by_cases e:id'=id
   ·subst e
    rw[if_pos (Nat.beq_refl _)] at h
    cases h
    refine⟨g1,w1,tm1,df1,cs1,hg,hn,hc,hfi,hst.trans (.one (st_exit ?_))⟩
    rw[hk2];simp[exitTo]
   ·rw[if_neg (by simpa using e)] at h
    cases h
    refine⟨g1,w1,tm1,df1,cs1,hg,hn,hc,hfi,k2,?_,hst⟩
    rw[hk2]
    have:(id == id')=false:=by simp;exact fun h=>e h.symm
    simp[exitTo,this]
  | ret=>cases h;exact⟨g1,w1,tm1,df1,cs1,hg,hn,hc,harr⟩
  | panic v=>cases h;exact⟨g1,w1,tm1,df1,cs1,hg,hn,hc,harr⟩
  | goto l=>exact harr.elim
 ·cases h
theorem zWT (hr:ExecSim P OK r){b:Code}(h:r.exec fid rnd b fr s=some (o,fr',s'))(hb:OK fid b)
  (hok:g.ok=OK) (hf:FI base w0 g s w fr tm df kd rn cs false) (hrn:RnR g s.n rnd rn) :
  Lands P base w0 fid kd rn k (lone (mk fid kd rn tm df (.code (.scope b) :: k)) cs w) g s.n fr.rec_ cs o fr' s':=by
 refine Lands.steps (.one st_scope) ?_
 obtain⟨g1,w1,tm1,df1,cs1,hg,hn,hc,harr⟩:=hr.run h hb (.inScope b :: k) hok hf hrn
 refine⟨g1,w1,tm1,df1,cs1,hg,hn,hc,?_⟩
 cases o with
 | normal=>exact⟨harr.1,harr.2.trans (.one zT5)⟩
 | exit id=>
  obtain⟨h1,k2,h2,h3⟩:=harr
  exact⟨h1,k2,h2.trans (by simp[exitTo]),h3⟩
 | ret=>exact harr
 | panic v=>exact harr
 | goto l=>exact harr.elim
theorem skip_sim (hf:FI base w0 g s w fr tm df kd rn cs false) :
  Lands P base w0 fid kd rn k (lone (mk fid kd rn tm df (.code .skip :: k)) cs w) g s.n fr.rec_ cs .normal fr s:=Lands.now hf (.one st_skip)
theorem zX9 {l:Nat}(hf:FI base w0 g s w fr tm df kd rn cs false) :
  Lands P base w0 fid kd rn k (lone (mk fid kd rn tm df (.code (.label l) :: k)) cs w) g s.n fr.rec_ cs .normal fr s:=Lands.now hf (.one st_label)
theorem ret_sim (hf:FI base w0 g s w fr tm df kd rn cs false) :
  Lands P base w0 fid kd rn k (lone (mk fid kd rn tm df (.code .ret :: k)) cs w) g s.n fr.rec_ cs .ret fr s:=
 ⟨g,w,tm,df,cs,.refl _ _,Nat.le_refl _,.refl _ _,hf,k,.refl P _⟩
theorem exit_sim {id:Nat}(hf:FI base w0 g s w fr tm df kd rn cs false) :
  Lands P base w0 fid kd rn k (lone (mk fid kd rn tm df (.code (.exit id) :: k)) cs w) g s.n fr.rec_ cs (.exit id) fr s:=
 ⟨g,w,tm,df,cs,.refl _ _,Nat.le_refl _,.refl _ _,hf,k,rfl,.refl P _⟩
end
theorem zKP {l:List AV}{n i:Nat}{v:AV}(h:tops l≤n)(hv:top v≤n):tops (l.set i v)≤n:=by
 refine zAP.2 fun x hx=>?_
 rcases List.mem_or_eq_of_mem_set hx with h1|h1
 ·exact zAP.1 h x h1
 ·subst h1;exact hv
theorem VRs.put {g:Gh}{l:List AV}{tm:Array Value}(h:VRs g l tm)(t:Tmp){v:AV}{v':Value}(hv:VR g v v'):VRs g (l.set t v) (tm.setIfInBounds t v'):=by
 refine⟨by simp[h.1],fun i x u hx hu=>?_⟩
 rw[List.getElem?_set] at hx
 rw[Array.getElem?_setIfInBounds] at hu
 by_cases e:t=i
 ·subst e
  rw[if_pos rfl] at hx hu
  split at hx
  ·cases hx
   split at hu
   ·cases hu;exact hv
   ·cases hu
  ·cases hx
 ·rw[if_neg e] at hx hu
  exact h.2 i x u hx hu
section
variable {P:Program}{base:Nat}{w0:World}{g g':Gh}{s s':Sto}{w w':World}{fr:Fr}{tm:Array Value}{df:List Deferred}{kd:CallKind}{rn:Option Nat}{cs:List Frame}{ls:Bool}
theorem FI.loosen (h:FI base w0 g s w fr tm df kd rn cs false):FI base w0 g s w fr tm df kd rn cs ls:=⟨h.rel,fun _=>h.tm rfl,h.df,h.rec_,h.rnd,h.kd⟩
theorem FI.moves (h:FI base w0 g s w fr tm df kd rn cs ls)(hr:Rel base w0 g' s' w')(hg:Grows s.n g g')(hn:s.n≤s'.n):FI base w0 g' s' w' fr tm df kd rn cs ls:=
 ⟨hr,fun e=>⟨(h.tm e).1.grows hg (h.tm e).2,Nat.le_trans (h.tm e).2 hn⟩,h.df.grows hg hn,h.rec_.grows hg hn,h.rnd,h.kd⟩
theorem FI.put (h:FI base w0 g s w fr tm df kd rn cs ls)(dst:Option Tmp){v:AV}{v':Value}(hv:VR g v v')(ht:top v≤s.n):FI base w0 g s w (fr.put dst v) (putT dst v' tm) df kd rn cs ls:=by
 cases dst with
 | none=>exact h
 | some t=>
  refine⟨h.rel,fun e=>?_,h.df,h.rec_,h.rnd,h.kd⟩
  simp only[Fr.put,putT,zFR]
  exact⟨(h.tm e).1.put t hv,zKP (h.tm e).2 ht⟩
theorem zFO (fr:Fr)(dst:Option Tmp)(v:AV):(fr.put dst v).rec_=fr.rec_:=by cases dst<;>rfl
theorem zJR (fr:Fr)(dst:Option Tmp)(v:AV):(fr.put dst v).defers=fr.defers:=by cases dst<;>rfl
theorem zJN {ops:Array Oper}(h:VRs g fr.tmps tm)(o:Oper):zAM ops.toList fr o.guard=Region.wanted o (yielded ops tm):=by
 unfold zAM Region.wanted
 cases hg:o.guard with
 | none=>rfl
 | some p=>
  obtain⟨j,want⟩:=p
  simp only
  unfold zKO yielded
  rw[zDC,Array.getElem?_toList]
  cases hj:ops[j]? with
  | none=>simp
  | some oj=>
   cases hd:oj.dst with
   | none=>simp[hd]
   | some d=>
    simp only[Option.bind_some,hd]
    rw[zCJ]
    cases hx:fr.tmps[d]? with
    | none=>
     have hlt:tm[d]?=none:=by
      rw[Array.getElem?_eq_none_iff,← h.1];exact List.getElem?_eq_none_iff.1 hx
     have hg:fr.tmps.getD d Ab.undef=Ab.undef:=by rw[List.getD_eq_getElem?_getD,hx];rfl
     rw[hg,hlt];simp[Ab.undef]
    | some x=>
     have hlt:d<tm.size:=by rw[← h.1];exact(List.getElem?_eq_some_iff.1 hx).1
     have hv:=h.2 d x tm[d] hx (Array.getElem?_eq_getElem hlt)
     have hg:fr.tmps.getD d Ab.undef=x:=by rw[List.getD_eq_getElem?_getD,hx];rfl
     rw[hg,Array.getElem?_eq_getElem hlt]
     generalize tm[d]=u at hv ⊢
     cases hv with
     | bool b=>cases want<;>cases b<;>rfl
     | _=>rfl
end
def OpR (P:Program)(base:Nat)(w0:World)(g:Gh)(s:Sto)(w:World)(tm:Array Value)(o:Oper):Nx→Prop
 | .val v s'=>∃v' w' g',((execOp (zAE tm) o).run P w=.ok (.value v') w'∨((execOp (zAE tm) o).run P w=.ok .skip w'∧v'=Go.undef))∧Rel base w0 g' s' w'∧Grows s.n g g'∧VR g' v v'∧top v≤s'.n∧s.n≤s'.n
 | .call f args s'=>s'=s∧∃args',(execOp (zAE tm) o).run P w=(callFunc f args').run P w∧VRs g args args'∧tops args≤s.n
 | .round l args s'=>s'=s∧l<s.n∧∃args',(execOp (zAE tm) o).run P w=(Instr.yield (g.mu l) args').run P w∧VRs g args args'∧tops args≤s.n
 | .panic v s'=>s'=s∧isI v=true∧top v≤s.n∧∃v',(execOp (zAE tm) o).run P w=.halt (.panic v') w∧VR g v v'
 | .defer f args s'=>s'=s∧∃d,(execOp (zAE tm) o).run P w=.ok (.defer d) w∧DfR g s.n (f,args) d
 | .recover s'=>s'=s∧(execOp (zAE tm) o).run P w=.ok .recover w
 | .no=>True
def zTT (P:Program)(g:Gh)(n:Nat)(m:Machine)(w':World)(c:Frame)(cs:List Frame):CR→Prop
 | .ret v=>∃v',VR g v v'∧top v≤n∧Steps P m (lone (c.finish v') cs w')
 | .panic v=>∃v',VR g v v'∧isI v=true∧top v≤n∧Steps P m (lone (c.raise [{ v:=v',recovered:=false }]) cs w')
def yAD (P:Program)(base:Nat)(w0:World)(g:Gh)(s:Sto)(w:World)(l:Nat)(args:Array Value)(cr:CR)(s':Sto):Prop:=
 ∀(c:Frame) (cs:List Frame),∃g' w' f ts as body,Grows s.n g g'∧Rel base w0 g' s' w'∧s.n≤s'.n∧(Instr.yield l args).run P w=.ok (.round l f ts as body) w∧
  zTT P g' s'.n (lone (Frame.round l f ts as body .normal) (c :: cs) w) w' c cs cr
def zFK (P:Program)(OK:FuncId→Code→Prop)(r:Rec):Prop:=
 ∀{l:Nat} {args:List AV} {s:Sto} {cr:CR} {s':Sto},zFA r l args s=some (cr,s')→
  ∀{base:Nat} {w0:World} {g:Gh} {w:World} {args':Array Value},g.ok=OK→Rel base w0 g s w→l<s.n→VRs g args args'→tops args≤s.n→yAD P base w0 g s w (g.mu l) args' cr s'
section
variable {P:Program}{OK:FuncId→Code→Prop}{r:Rec}{E:Env}{fid:FuncId}{rnd:Option Nat}{fr:Fr}{s:Sto}{out:Out}{fr':Fr}{s':Sto}
 {base:Nat} {w0:World} {g:Gh} {w:World} {tm:Array Value} {df:List Deferred} {kd:CallKind} {rn:Option Nat} {cs:List Frame} {k:List Item}
theorem zT3 (hc:CallSim P OK r)(hro:zFK P OK r){ops:Array Oper}{i:Nat}{rest:List Nat}{o:Oper}{nx:Nx}{kont:Fr→Sto→Option (Out×Fr×Sto)}
  (h:zBN r E fid o.dst fr nx kont=some (out,fr',s')) (ho:ops[i]?=some o) (hw:Region.wanted o (yielded ops tm)=true)
  (hop:OpR P base w0 g s w tm o nx) (hdf:isDefer o.op=true→(∃f a s1,nx=.defer f a s1)∨nx=.no)
  (hok:g.ok=OK) (hf:FI base w0 g s w fr tm df kd rn cs false)
  (hk:∀{fr1 s1 g1 w1 tm1 df1 cs1},kont fr1 s1=some (out,fr',s')→Grows s.n g g1→s.n≤s1.n→FI base w0 g1 s1 w1 fr1 tm1 df1 kd rn cs1 false→
   Lands P base w0 fid kd rn k (lone (mk fid kd rn tm1 df1 (.inRegion ops rest :: k)) cs1 w1) g1 s1.n fr1.rec_ cs1 out fr' s') :
  Lands P base w0 fid kd rn k (lone (mk fid kd rn tm df (.inRegion ops (i :: rest) :: k)) cs w) g s.n fr.rec_ cs out fr' s':=by
 have hnd:(∀f a s1,nx≠.defer f a s1)→nx≠.no→rn=none∨isDefer o.op=false:=by
  intro h1 h2
  cases hd:isDefer o.op with
  | false=>exact .inr rfl
  | true=>
   rcases hdf hd with⟨f,a,s1,e⟩|e
   ·exact absurd e (h1 f a s1)
   ·exact absurd e h2
 have hfin:∀v,(mk fid kd rn tm df (.inRegion ops (i :: rest) :: k)).finish v=mk fid kd rn (putT o.dst v tm) df (.inRegion ops rest :: k):=by
  intro v;rw[zE4,ho];rfl
 cases nx with
 | val v s1=>
  obtain⟨v',w1,g1,hrun,hrel,hg,hv,ht,hn⟩:=hop
  have hd:=hnd (by intros;simp) (by simp)
  have hfi:=(hf.moves hrel hg hn).put o.dst hv ht
  have hl:=hk (by simpa only[zBN] using h) hg hn hfi
  rw[zFO] at hl
  refine(hl.steps (.one ?_)).from hg hn (.refl _ _)
  rcases hrun with hrun|⟨hrun,rfl⟩
  ·exact zFD ho hw hd hrun
  ·exact zHV ho hw hd hrun
 | call f args s1=>
  obtain⟨rfl,args',hrun,ha,hta⟩:=hop
  have hd:=hnd (by intros;simp) (by simp)
  simp only[zBN] at h
  split at h
  ·rename_i v recd s2 hcall
   obtain⟨g1,w1,hg,hrel,hn,v',hv,ht,hm⟩:=hc.norm hcall hok hf.rel ha hta (mk fid kd rn tm df (.inRegion ops (i :: rest) :: k)) cs
   have hfi:=(hf.moves hrel hg hn).put o.dst hv ht
   have hl:=hk h hg hn hfi
   rw[zFO] at hl
   refine(hl.steps ?_).from hg hn (.refl _ _)
   rcases hm with hm|⟨hm,hst⟩
   ·exact .one (zFD ho hw hd (hrun.trans hm))
   ·rw[hfin] at hst
    exact .head (zKR ho hw hd (hrun.trans hm)) hst
  ·rename_i v recd s2 hcall
   cases h
   obtain⟨g1,w1,hg,hrel,hn,v',hv,hi,ht,hm,hst⟩:=hc.norm hcall hok hf.rel ha hta (mk fid kd rn tm df (.inRegion ops (i :: rest) :: k)) cs
   exact⟨g1,w1,tm,df,cs,hg,hn,.refl _ _,(hf.moves hrel hg hn).loosen,v',_,hv,hi,ht,.head (zKR ho hw hd (hrun.trans hm)) hst⟩
  ·cases h
 | round l args s1=>
  obtain⟨rfl,hl',args',hrun,ha,hta⟩:=hop
  have hd:=hnd (by intros;simp) (by simp)
  simp only[zBN] at h
  split at h
  ·rename_i v s2 hcall
   obtain⟨g1,w1,f1,ts,as,body,hg,hrel,hn,hy,v',hv,ht,hst⟩:=hro hcall hok hf.rel hl' ha hta (mk fid kd rn tm df (.inRegion ops (i :: rest) :: k)) cs
   have hfi:=(hf.moves hrel hg hn).put o.dst hv ht
   have hl:=hk h hg hn hfi
   rw[zFO] at hl
   refine(hl.steps ?_).from hg hn (.refl _ _)
   rw[hfin] at hst
   exact .head (zKQ ho hw hd (hrun.trans hy)) hst
  ·rename_i v s2 hcall
   cases h
   obtain⟨g1,w1,f1,ts,as,body,hg,hrel,hn,hy,v',hv,hi,ht,hst⟩:=hro hcall hok hf.rel hl' ha hta (mk fid kd rn tm df (.inRegion ops (i :: rest) :: k)) cs
   exact⟨g1,w1,tm,df,cs,hg,hn,.refl _ _,(hf.moves hrel hg hn).loosen,v',_,hv,hi,ht,.head (zKQ ho hw hd (hrun.trans hy)) hst⟩
  ·cases h
 | panic v s1=>
  obtain⟨rfl,hi,ht,v',hrun,hv⟩:=hop
  have hd:=hnd (by intros;simp) (by simp)
  simp only[zBN] at h
  cases h
  exact⟨g,w,tm,df,cs,.refl _ _,Nat.le_refl _,.refl _ _,hf.loosen,v',_,hv,hi,ht,.one (zS0 ho hw hd hrun)⟩
 | defer f args s1=>
  obtain⟨rfl,d,hrun,hd⟩:=hop
  simp only[zBN,cond_eq_ite] at h
  split at h
  ·cases h
  ·rename_i hin
   have hrn:rn=none:=by
    have:=hf.rnd
    cases rn with
    | none=>rfl
    | some l=>exact absurd this.symm hin
   have hfi:FI base w0 g s1 w ⟨fr.tmps,(f,args) :: fr.defers,fr.rec_⟩ tm (d :: df) kd rn cs false:=⟨hf.rel,hf.tm,⟨hd,hf.df⟩,hf.rec_,hf.rnd,hf.kd⟩
   have hfi:=hfi.put o.dst (VR.undef _) (v:=Ab.undef) (Nat.zero_le _)
   have hl:=hk h (.refl _ _) (Nat.le_refl _) hfi
   rw[zFO] at hl
   exact hl.steps (.one (st_defer ho hw hrn hrun))
 | recover s1=>
  obtain⟨rfl,hrun⟩:=hop
  simp only[zBN] at h
  split at h
  ·rename_i t v hrec
   have hrn:rn=none:=by
    have:=hf.rnd
    unfold zGO at this
    rw[hrec] at this
    cases rn with
    | none=>rfl
    | some l=>cases this
   have hr:=hf.rec_
   rw[hrec] at hr
   obtain⟨hkd,c,cr,v',hcs,hmode,hv,ht⟩:=hr
   have htr:tryRecover (mk fid kd rn tm df (.inRegion ops (i :: rest) :: k)) cs=some (v',recMark cs):=by
    rw[tryRecover_deferred (by simp[mk,hkd]),hcs]
    simp[recoverD,recMark,hmode]
   have hno:RecR g s1.n kd none (recMark cs):=by
    intro f0 hk0
    rw[hkd] at hk0
    rw[tryRecover_deferred hk0,hcs]
    simp[recoverD,recMark,hmode]
   have hfi:FI base w0 g s1 w ⟨fr.tmps,fr.defers,none⟩ tm df kd rn (recMark cs) false:=⟨hf.rel,hf.tm,hf.df,hno,by rw[hrn];rfl,hf.kd⟩
   have hfi:=hfi.put o.dst hv (v:=.iface t v) ht
   have hl:=hk h (.refl _ _) (Nat.le_refl _) hfi
   rw[zFO] at hl
   refine(hl.steps (.one (zM3 ho hw hrn hrun (r:=(v',recMark cs)) (by rw[htr];rfl)))).from (.refl _ _) (Nat.le_refl _) (.inr ⟨⟨_,hrec,rfl⟩,rfl,rfl⟩)
  ·cases h
  ·rename_i hrec
   have hrn:rn=none:=by
    have:=hf.rnd
    unfold zGO at this
    rw[hrec] at this
    cases rn with
    | none=>rfl
    | some l=>cases this
   have hr:=hf.rec_
   rw[hrec] at hr
   have htr:tryRecover (mk fid kd rn tm df (.inRegion ops (i :: rest) :: k)) cs=none:=hr _ rfl
   have hfi:=hf.put o.dst (VR.niliface (g:=g)) (Nat.zero_le _)
   have hl:=hk h (.refl _ _) (Nat.le_refl _) hfi
   rw[zFO] at hl
   exact hl.steps (.one (zM3 ho hw hrn hrun (r:=(.nilIface,cs)) (by rw[htr];rfl)))
 | no=>simp[zBN] at h
theorem runL_sim (hc:CallSim P OK r)(hro:zFK P OK r){ops:Array Oper}(hok:g.ok=OK)
  (hsim:∀{o:Oper} {fr s g w tm df cs},o∈ops→g.ok=OK→FI base w0 g s w fr tm df kd rn cs false→OpR P base w0 g s w tm o (opA E fid fr o.op s))
  (hdf:∀{o:Oper} {fr s},o∈ops→isDefer o.op=true→(∃f a s1,opA E fid fr o.op s=.defer f a s1)∨opA E fid fr o.op s=.no) :
  ∀(rest:List Oper) (idx:List Nat),idx.map (fun i=>ops[i]?)=rest.map some→∀{fr s g w tm df cs},runL r E fid ops.toList rest fr s=some (out,fr',s')→g.ok=OK→
   FI base w0 g s w fr tm df kd rn cs false→Lands P base w0 fid kd rn k (lone (mk fid kd rn tm df (.inRegion ops idx :: k)) cs w) g s.n fr.rec_ cs out fr' s':=by
 intro rest
 induction rest with
 | nil=>
  intro idx hi fr s g w tm df cs h hok hf
  cases idx with
  | cons a b=>simp at hi
  | nil=>
   simp only[runL] at h
   cases h
   exact Lands.now hf (.one zEH)
 | cons o rest ih=>
  intro idx hi fr s g w tm df cs h hok hf
  cases idx with
  | nil=>simp at hi
  | cons i idx=>
   simp only[List.map_cons,List.cons.injEq] at hi
   have hmem:o∈ops:=Array.mem_of_getElem? hi.1
   simp only[runL,cond_eq_ite] at h
   have hwe:=zJN (ops:=ops) (hf.tm rfl).1 o
   split at h
   ·rename_i hw
    rw[hwe] at hw
    exact zT3 hc hro h hi.1 hw (hsim hmem hok hf) (hdf hmem) hok hf (fun hk hg hn hfi=>ih idx hi.2 hk (hg.ok.trans hok) hfi)
   ·rename_i hw
    rw[hwe] at hw
    have hfi:=hf.put o.dst (VR.undef _) (v:=Ab.undef) (Nat.zero_le _)
    have hl:=ih idx hi.2 h hok hfi
    rw[zFO] at hl
    refine hl.steps (.one ?_)
    have:=zK5 (P:=P) (f:=fid) (kd:=kd) (rn:=rn) (tm:=tm) (df:=df) (k:=k) (cs:=cs) (w:=w) (ops:=ops) (i:=i) (rest:=idx) (by rw[hi.1];simpa using hw)
    rw[hi.1] at this
    exact this
end
section
variable {E:Env}{P:Program}{base:Nat}{w0:World}{g:Gh}{s:Sto}{w:World}{fr:Fr}{tm:Array Value}
def zW3 (tm:Array Value):ResultVar→Sem Value
 | .tmp t=>pure (tm.getD t Go.undef)
 | .cell a t=>do loadVar t (← asAddr (tm.getD a Go.undef))
theorem zUN (fn:Func)(tm:Array Value):results fn tm=(do let vs ← fn.results.mapM (zW3 tm);pure (if h:vs.size=1 then vs[0] else .tuple vs)):=by
 unfold results
 congr 1
theorem zV7 (hf:VRs g fr.tmps tm)(ht:tops fr.tmps≤s.n)(t:Tmp):VR g (lget fr.tmps t) (tm.getD t Go.undef)∧top (lget fr.tmps t)≤s.n:=by
 have h1:=zA9 hf (o:=.tmp t) (x:=lget fr.tmps t) rfl
 exact⟨h1,zCX ht (o:=.tmp t) rfl⟩
theorem zSF {E:Env}{t:TypeId}(hti:TIR E P t (E.types t))(h:Rel base w0 g s w){a v:AV}{a':Value}
  (hl:zI6 s (E.types t) a=some v) (ha:VR g a a') (hta:top a≤s.n):∃v',(do loadVar t (← asAddr a'):Sem Value).run P w=.ok v' w∧VR g v v'∧top v≤s.n:=by
 obtain⟨v',hv,h1,h2⟩:=zPO hti h hl ha hta
 refine⟨v',?_,h1,h2⟩
 cases ha with
 | ptr k off=>simpa[Instr.loadAt,Instr.sureAddr,asAddr] using hv
 | eptr k i off=>simpa[Instr.loadAt,Instr.sureAddr,asAddr] using hv
 | rptr=>simpa[Instr.loadAt,Instr.sureAddr,asAddr] using hv
 | _=>cases hl
theorem zQ6 (hE:TysOk E P)(hr:Rel base w0 g s w)(hf:VRs g fr.tmps tm)(ht:tops fr.tmps≤s.n) :
  ∀{l:List ResultVar} {vs:List AV},(∀a t,ResultVar.cell a t∈l→(E.types t).ok=true)→zDG E fr s l=some vs→
   ∃us:List Value,(l.mapM (zW3 tm)).run P w=.ok us w∧VRs g vs us.toArray∧tops vs≤s.n:=by
 intro l
 induction l with
 | nil=>intro vs _ h;cases h;exact⟨[],rfl,⟨rfl,fun i x v hx _=>by simp at hx⟩,Nat.zero_le _⟩
 | cons x r ih=>
  intro vs hok h
  have hok':∀a t,ResultVar.cell a t∈r→(E.types t).ok=true:=fun a t hm=>hok a t (.tail _ hm)
  have cons:∀{v:AV} {vs:List AV} {u:Value} {us:List Value},VR g v u→top v≤s.n→VRs g vs us.toArray→tops vs≤s.n→VRs g (v :: vs) (u :: us).toArray∧tops (v :: vs)≤s.n:=by
   intro v vs u us h1 h2 h3 h4
   refine⟨⟨by have:=h3.1;simp at this ⊢;exact this,fun i x y hx hy=>?_⟩,by rw[zAU];exact Nat.max_le.2 ⟨h2,h4⟩⟩
   cases i with
   | zero=>simp at hx hy;subst hx;subst hy;exact h1
   | succ i=>exact h3.2 i x y (by simpa using hx) (by simpa using hy)
  cases x with
  | tmp t=>
   simp only[zDG] at h
   split at h
   ·rename_i vs' hv
    cases h
    obtain⟨us,h1,h2,h3⟩:=ih hok' hv
    obtain⟨h4,h5⟩:=zV7 (s:=s) hf ht t
    refine⟨tm.getD t Go.undef :: us,?_,cons h4 h5 h2 h3⟩
    rw[List.mapM_cons]
    simp only[zW3,Sem.run_bind,Sem.run_pure,Result.andThen_ok,h1]
   ·cases h
  | cell a t=>
   simp only[zDG] at h
   split at h
   ·rename_i v hl
    split at h
    ·rename_i vs' hv
     cases h
     obtain⟨us,h1,h2,h3⟩:=ih hok' hv
     obtain⟨h4,h5⟩:=zV7 (s:=s) hf ht a
     obtain⟨u,h6,h7,h8⟩:=zSF (hE.ti t (hok a t (.head _))) hr hl h4 h5
     refine⟨u :: us,?_,cons h7 h8 h2 h3⟩
     rw[List.mapM_cons]
     simp only[zW3,Sem.run_bind,Sem.run_pure,Result.andThen_ok,h1] at h6 ⊢
     rw[h6]
     simp only[Result.andThen_ok,h1]
    ·cases h
   ·cases h
def zI1 (E:Env):List ResultVar→Bool
 | []=>true
 | .tmp _ :: r=>zI1 E r
 | .cell _ t :: r=>(E.types t).ok&&zI1 E r
theorem okRes_spec:∀{l:List ResultVar},zI1 E l=true→∀a t,ResultVar.cell a t∈l→(E.types t).ok=true:=by
 intro l
 induction l with
 | nil=>intro _ a t h;cases h
 | cons x r ih=>
  intro h a t hm
  cases x with
  | tmp u=>cases hm with|tail _ hm=>exact ih h a t hm
  | cell b u=>
   simp only[zI1,Bool.and_eq_true] at h
   cases hm with
   | head=>exact h.1
   | tail _ hm=>exact ih h.2 a t hm
theorem zQ4 (hE:TysOk E P)(hr:Rel base w0 g s w)(hf:VRs g fr.tmps tm)(ht:tops fr.tmps≤s.n){fn:Func}(hok:zI1 E fn.results.toList=true){v:AV}(h:zLC E fn fr s=some v) :
  ∃v',(results fn tm).run P w=.ok v' w∧VR g v v'∧top v≤s.n:=by
 unfold zLC at h
 have key:∀{vs:List AV},zDG E fr s fn.results.toList=some vs→∃us:List Value,(fn.results.mapM (zW3 tm)).run P w=.ok us.toArray w∧VRs g vs us.toArray∧tops vs≤s.n:=by
  intro vs hv
  obtain⟨us,h1,h2,h3⟩:=zQ6 hE hr hf ht (okRes_spec hok) hv
  refine⟨us,?_,h2,h3⟩
  rw[Array.mapM_eq_mapM_toList]
  simp only[map_eq_pure_bind,Sem.run_bind,h1,Result.andThen_ok,Sem.run_pure]
 rw[zUN]
 split at h
 ·rename_i x hv
  cases h
  obtain⟨us,h1,h2,h3⟩:=key hv
  have hl:=h2.1
  match us,hl,h2,h1 with
  | [u],_,h2,h1=>
   refine⟨u,?_,h2.2 0 v u rfl rfl,?_⟩
   ·simp only[Sem.run_bind,h1,Result.andThen_ok];rfl
   ·rw[zAU] at h3;exact Nat.le_trans (Nat.le_max_left _ _) h3
 ·rename_i vs hne hv
  cases h
  obtain⟨us,h1,h2,h3⟩:=key hv
  refine⟨.tuple us.toArray,?_,.tuple vs us.toArray h2.1 h2.2,by rw[zCU];exact h3⟩
  simp only[Sem.run_bind,h1,Result.andThen_ok]
  have:¬ us.toArray.size=1:=by
   intro e
   have hl:=h2.1
   rw[e] at hl
   match vs,hl with
   | [x],_=>exact hne x rfl
  rw[dif_neg this]
  rfl
 ·cases h
theorem zQ5 (hE:TysOk E P)(hr:Rel base w0 g s w)(hf:VRs g fr.tmps tm)(ht:tops fr.tmps≤s.n){fn:Func}(hok:zI1 E fn.results.toList=true){md:Mode}{v:AV}{s':Sto}
  (h:result0 E fn md fr s=some (v,s')):∃g' v',(results fn tm).run P w=.ok v' w∧Rel base w0 g' s' w∧Grows s.n g g'∧s'.n=s.n∧VR g' v v'∧top v≤s.n:=by
 unfold result0 at h
 split at h
 ·rename_i x hx
  obtain⟨v',h1,h2,h3⟩:=zQ4 hE hr hf ht hok hx
  rw[cond_eq_ite] at h
  split at h
  ·cases h;exact⟨g,v',h1,hr,.refl _ _,rfl,h2,h3⟩
  ·obtain⟨g',hs,h4,h5⟩:=zWP hr h h2 h3
   exact⟨g',v',h1,hs.rel,hs.grows,hs.n,h4,h5⟩
 ·cases h
theorem Rel.killW (h:Rel base w0 g s w){k:Nat}(hk:k<s.n)(hl:liveBox (s.get k)=true)(o:Obj)(hC:∀i,g.C (g.mu k) i=none):Rel base w0 g (s.put k .dead) (putB w (g.mu k) o):=by
 have:=h.update (g':=g) (w':=putB w (g.mu k) o) hk .dead (.refl _ _) hl (fun b i v hv=>by
   have hne:b≠g.mu k:=fun e=>by subst e;rw[hC] at hv;cases hv
   have:=h.C b i v hv
   unfold World.cell? at this ⊢
   rw[zCY hne];exact this) (fun _ _ _=>rfl) (fun b hb=>zCY hb) (zG9 ..) trivial (Nat.zero_le _) 0 (.inl (Nat.zero_le _))
 rwa [zFQ (Nat.zero_le _)] at this
theorem zWF {fr0:Frame}{cs:List Frame}{b:Nat}{ds:List Deferred}(hm:fr0.mode≠.run)(hd:fr0.defers=⟨.collected b,#[]⟩ :: ds)(hb:w.heap[b]?=some (.deferred (some []))) :
  step P (lone fr0 cs w)=.next (lone { fr0 with defers:=ds } cs (putB w b (.deferred none))):=by
 have hr:(Instr.takeDeferred b).run P w=.ok [] (putB w b (.deferred none)):=by
  simp[Instr.takeDeferred,getObj,setObj,Sem.run,hb,putB]
  try rfl
 refine step_lone_go ?_
 cases hmode:fr0.mode with
 | run=>exact absurd hmode hm
 | returning=>simp[stepG,unwind,hmode,hd,hr]
 | panicking chain=>simp[stepG,unwind,hmode,hd,hr]
theorem VRs.append {l1 l2:List AV}{a1 a2:Array Value}(h1:VRs g l1 a1)(h2:VRs g l2 a2):VRs g (l1++l2) (a1++a2):=by
 refine⟨by simp[h1.1,h2.1],fun i x v hx hv=>?_⟩
 rw[List.getElem?_append] at hx
 rw[Array.getElem?_append] at hv
 rw[← h1.1] at hv
 split at hx
 ·rename_i hlt;rw[if_pos hlt] at hv;exact h1.2 i x v hx hv
 ·rename_i hlt;rw[if_neg hlt] at hv;exact h2.2 _ x v hx hv
theorem zDF {l1 l2:List AV}{n:Nat}(h1:tops l1≤n)(h2:tops l2≤n):tops (l1++l2)≤n:=
 zAP.2 fun x hx=>(List.mem_append.1 hx).elim (zAP.1 h1 x) (zAP.1 h2 x)
theorem zQO.grows {g':Gh}{n m:Nat}{x:Option AV}{u:FrameMode}(h:zQO g n x u)(hg:Grows n g g')(hm:n≤m):zQO g' m x u:=by
 cases x with
 | none=>exact h
 | some v=>obtain⟨h1,h2,v',h3,h4⟩:=h;exact⟨h1,by omega,v',h3,h4.grows hg h2⟩
theorem zIW {OK:FuncId→Code→Prop}{r:Rec}(hc:CallSim P OK r)(fid:FuncId)(kd:CallKind)(tm:Array Value)(todo:List Item)(cs:List Frame) :
  ∀{ds:List (AV×List AV)} {m m':Option AV} {s s':Sto},zBY r ds m s=some (m',s')→∀{g:Gh} {w:World} {dfs:List Deferred} {u:FrameMode},g.ok=OK→Rel base w0 g s w→DfsR g s.n ds dfs→zQO g s.n m u→
   ∃g' w' u',Grows s.n g g'∧s.n≤s'.n∧Rel base w0 g' s' w'∧zQO g' s'.n m' u'∧(allMarks ds=true→m'=m)∧
    Steps P (lone { mk fid kd none tm dfs todo with mode:=u } cs w) (lone { mk fid kd none tm [] todo with mode:=u' } cs w'):=by
 intro ds
 induction ds with
 | nil=>
  intro m m' s s' h g w dfs u hok hr hd hm
  cases dfs with
  | cons d ds=>exact hd.elim
  | nil=>
   simp only[zBY] at h
   cases h
   exact⟨g,w,u,.refl _ _,Nat.le_refl _,hr,hm,fun _=>rfl,.refl P _⟩
 | cons x ds ih=>
  intro m m' s s' h g w dfs u hok hr hd hm
  obtain⟨f,args⟩:=x
  cases dfs with
  | nil=>exact hd.elim
  | cons d dfs=>
   have hne:u≠.run:=by
    cases m with
    | none=>rw[show u=.returning from hm];simp
    | some v=>obtain⟨_,_,v',h3,_⟩:=hm;rw[h3];simp
   obtain⟨hd1,hd2⟩:=hd
   cases hd1 with
   | mark k l hk=>
    simp only[zBY] at h
    split at h
    ·rename_i hbox
     have hb:=hr.box k hk
     rw[hbox] at hb
     have hlive:liveBox (s.get k)=true:=by rw[hbox];rfl
     obtain⟨g',w',u',h1,h2,h3,h4,h5,h6⟩:=ih h (g:=g) (dfs:=dfs) hok (hr.killW hk hlive (.deferred none) hb.2) hd2 hm
     refine⟨g',w',u',h1,h2,h3,h4,fun ha=>h5 (by simpa[allMarks] using ha),.head (zWF ?_ rfl hb.1) h6⟩
     exact hne
    ·cases h
   | call t hh a b args a' b' args' ha hb hs ta tb ts=>
    simp only[zBY,zBP] at h
    split at h
    ·rename_i v recd s1 hcall
     have hargs:=(ha.append hs).append hb
     rw[List.append_assoc] at hargs
     obtain⟨g1,w1,hg,hrel,hn,hent,hrs,hst⟩:=hc.defd hcall hok hr hargs (zDF ta (zDF ts tb)) { mk fid kd none tm dfs todo with mode:=u } cs hm
     have hm1:zQO g1 s1.n (bif recd then none else m) (if recd then .returning else u):=by
      cases recd with
      | true=>rfl
      | false=>exact hm.grows hg hn
     obtain⟨g',w',u',h1,h2,h3,h4,h5,h6⟩:=ih h (hg.ok.trans hok) hrel (hd2.grows hg hn) hm1
     refine⟨g',w',u',hg.trans (h1.less hn),by omega,h3,h4,fun ha=>by simp[allMarks] at ha,.head (step_defer ?_ rfl rfl ?_) (hst.trans h6)⟩
     ·exact hne
     ·exact hent
    ·cases h
end
section
variable {base:Nat}{w0:World}{g g1:Gh}{s s1:Sto}{w w1:World}
theorem Rel.enterIso (h:Rel base w0 g s w):Rel w.heap.size w { g with Cb:=g.C } .empty w:=
 ⟨rfl,fun k hk=>absurd hk (Nat.not_lt_zero _),fun k hk=>absurd hk (Nat.not_lt_zero _),fun j k hj=>absurd hj (Nat.not_lt_zero _),fun k hk=>absurd hk (Nat.not_lt_zero _),fun k hk=>absurd hk (Nat.not_lt_zero _),
  h.C,⟨rfl,Nat.le_refl _⟩,fun _ _=>rfl,fun _ _ _=>rfl,fun b o hz=>⟨(h.Z b o hz).1,fun k hk=>absurd hk (Nat.not_lt_zero _),(h.Z b o hz).2.2⟩,⟨rfl,rfl⟩⟩
theorem Rel.leaveIso (h:Rel base w0 g s w)(h1:Rel w.heap.size w g1 s1 w1)(hg:Grows 0 { g with Cb:=g.C } g1) :
  Rel base w0 { g with C:=g1.C } s w1∧Grows s.n g { g with C:=g1.C }∧(∀{v:AV} {v':Value},VR g1 v v'→Ab.top v=0→VR { g with C:=g1.C } v v'):=by
 have hgr:Grows s.n g { g with C:=g1.C }:=⟨fun _ _=>rfl,fun _ _=>rfl,fun _ _=>rfl,fun _ _=>rfl,hg.C,rfl,rfl,rfl⟩
 have hCb:g1.Cb=g.C:=hg.Cb
 refine⟨⟨h.len,?_,?_,h.inj,h.top,h.ups,h1.C,⟨h.size.1,Nat.le_trans h.size.2 h1.size.2⟩,?_,?_,?_,⟨h1.os.1.trans h.os.1,h1.os.2.trans h.os.2⟩⟩,hgr,?_⟩
 ·intro k hk
  by_cases hl:liveBox (s.get k)=true
  ·have hlt:=(h.at_ k hk hl).2
   refine(h.box k hk).mono hgr hk (h.top k hk) (h1.old _ hlt) (fun o=>?_)
   have:=h1.oldC (g.mu k) o hlt
   rw[hCb] at this
   exact this
  ·cases hb:s.get k<;>rw[hb] at hl<;>simp[liveBox] at hl
   trivial
 ·intro k hk hl
  have:=h.at_ k hk hl
  exact⟨this.1,Nat.lt_of_lt_of_le this.2 h1.size.2⟩
 ·intro b hb
  rw[h1.old b (by have:=h.size.2;omega)]
  exact h.old b hb
 ·intro b o hb
  have:=h1.oldC b o (by have:=h.size.2;omega)
  rw[hCb] at this
  exact this.trans (h.oldC b o hb)
 ·intro b o hz
  have hz1:g1.Z b=some o:=by rw[hg.Z];exact hz
  obtain⟨z1,z2,z3⟩:=h1.Z b o hz1
  exact⟨z1,(h.Z b o hz).2.1,z3⟩
 ·intro v v' hv ht
  exact hv.grw (n:=0) ⟨fun k hk=>absurd hk (Nat.not_lt_zero _),fun k hk=>absurd hk (Nat.not_lt_zero _),fun k hk=>absurd hk (Nat.not_lt_zero _),fun k hk=>absurd hk (Nat.not_lt_zero _),fun _ _ _ h=>h⟩ (by omega)
end
def topCR:CR→Nat
 | .ret v=>top v
 | .panic v=>top v
def EndR (P:Program)(g:Gh)(n:Nat)(fn:Func)(tm:Array Value)(w:World)(u:FrameMode):CR→Prop
 | .ret v=>u=.returning∧∃v',(results fn tm).run P w=.ok v' w∧VR g v v'∧top v≤n
 | .panic v=>isI v=true∧top v≤n∧∃v',u=.panicking [{ v:=v',recovered:=false }]∧VR g v v'
section
variable {P:Program}{OK:FuncId→Code→Prop}{r:Rec}{E:Env}
theorem zRK {iso:Bool}{v:AV}{recd:Bool}{base:Nat}{s0 s:Sto}{x:CR×Bool×Sto}(h:zI7 iso v recd base s0 s=some x) :
  x.1=.ret v∧x.2.1=recd∧(iso=true→top v=0∧x.2.2=s0)∧(iso=false→x.2.2=s.done base (top v)):=by
 unfold zI7 at h
 cases iso with
 | true=>
  simp only[cond_true] at h
  rw[cond_eq_ite] at h
  split at h
  ·rename_i ht;cases h;exact⟨rfl,rfl,fun _=>⟨Nat.eq_of_beq_eq_true ht,rfl⟩,fun e=>(by cases e)⟩
  ·cases h
 | false=>
  simp only[cond_false] at h
  cases h
  exact⟨rfl,rfl,fun e=>(by cases e),fun _=>rfl⟩
theorem zRL {iso:Bool}{v:AV}{recd:Bool}{base:Nat}{s0 s:Sto}{x:CR×Bool×Sto}(h:zNG iso v recd base s0 s=some x) :
  x.1=.panic v∧x.2.1=recd∧(iso=true→top v=0∧x.2.2=s0)∧(iso=false→x.2.2=s.done base (top v)):=by
 unfold zNG at h
 cases iso with
 | true=>
  simp only[cond_true] at h
  rw[cond_eq_ite] at h
  split at h
  ·rename_i ht;cases h;exact⟨rfl,rfl,fun _=>⟨Nat.eq_of_beq_eq_true ht,rfl⟩,fun e=>(by cases e)⟩
  ·cases h
 | false=>
  simp only[cond_false] at h
  cases h
  exact⟨rfl,rfl,fun e=>(by cases e),fun _=>rfl⟩
theorem zOR (hE:TysOk E P)(hx:ExecSim P OK r)(hc:CallSim P OK r){f:FuncId}{fn:Func}{body:Code}(hbody:OK f body)(hres:zI1 E fn.results.toList=true)
  {md:Mode} {m:Option AV} {bs:Nat} {s0 s s':Sto} {fr:Fr} {cr:CR} {recd:Bool} (h:behind r E fn md m bs s0 (r.exec f none body fr s)=some (cr,recd,s')) (hrec:fr.rec_=m)
  {base:Nat} {w0:World} {g:Gh} {w:World} {tm:Array Value} {kd:CallKind} {cs:List Frame} (hok:g.ok=OK) (hf:FI base w0 g s w fr tm [] kd none cs false) :
  ∃g' w' u tm' todo cs' s2,Grows s.n g g'∧s.n≤s2.n∧Rel base w0 g' s2 w'∧((recd=false∧cs'=cs)∨(recd=true∧m.isSome=true∧cs'=recMark cs))∧
   Steps P (lone (mk f kd none tm [] [.code body]) cs w) (lone { mk f kd none tm' [] todo with mode:=u } cs' w')∧EndR P g' s2.n fn tm' w' u cr∧
   (md.iso=true→topCR cr=0∧s'=s0)∧(md.iso=false→s'=s2.done bs (topCR cr)):=by
 unfold behind at h
 split at h
 ·rename_i o fr1 s1 he
  obtain⟨g1,w1,tm1,df1,cs1,hg,hn,hcs,harr⟩:=hx.run he hbody [] hok hf ⟨rfl,fun l hl=>by cases hl⟩
  rw[hrec] at hcs
  split at h
  ·rename_i m0 hm0
   have hend:∃u todo,FI base w0 g1 s1 w1 fr1 tm1 df1 kd none cs1 (m0.isSome&&allMarks fr1.defers)∧zQO g1 s1.n m0 u∧
     Steps P (lone (mk f kd none tm [] [.code body]) cs w) (lone { mk f kd none tm1 df1 todo with mode:=u } cs1 w1):=by
    cases o with
    | normal=>cases hm0;exact⟨.returning,[],harr.1,rfl,harr.2.trans (.one st_end)⟩
    | ret=>cases hm0;obtain⟨h1,k2,h2⟩:=harr;exact⟨.returning,_,h1,rfl,h2.trans (.one st_ret)⟩
    | panic v=>cases hm0;obtain⟨h1,v',k2,h2,h3,h4,h5⟩:=harr;exact⟨_,k2,by simpa using h1,⟨h3,h4,v',rfl,h2⟩,h5⟩
    | exit id=>cases hm0
    | goto l=>cases hm0
   obtain⟨u,todo,hfi,hmode,hst⟩:=hend
   unfold leave at h
   have hrd:(recd':Bool)→recd'=(m.isSome&&fr1.rec_.isNone)→(recd'=false∧cs1=cs)∨(recd'=true∧m.isSome=true∧cs1=recMark cs):=by
    intro recd' e
    subst e
    rcases hcs with⟨h1,h2⟩|⟨⟨v,hv,_⟩,h1,h2⟩
    ·refine .inl ⟨?_,h2⟩
     rw[h1];cases m<;>rfl
    ·refine .inr ⟨?_,by rw[hv];rfl,h2⟩
     rw[hv,h1];rfl
   split at h
   ·rename_i v s2 hd
    obtain⟨g2,w2,u2,h1,h2,h3,h4,h5,h6⟩:=zIW hc f kd tm1 todo cs1 hd (hg.ok.trans hok) hfi.rel hfi.df hmode
    obtain⟨e1,e2,e3,e4⟩:=zRL h
    simp only at e1 e2 e3 e4
    subst e1
    obtain⟨hi,ht,v',hu,hv⟩:=h4
    exact⟨g2,w2,u2,tm1,todo,cs1,s2,hg.trans (h1.less hn),by omega,h3,hrd _ e2,hst.trans h6,⟨hi,ht,v',hu,hv⟩,e3,e4⟩
   ·rename_i s2 hd
    obtain⟨g2,w2,u2,h1,h2,h3,h4,h5,h6⟩:=zIW hc f kd tm1 todo cs1 hd (hg.ok.trans hok) hfi.rel hfi.df hmode
    split at h
    ·rename_i v s3 hv0
     have hls:(m0.isSome&&allMarks fr1.defers)=false:=by
      cases hall:allMarks fr1.defers with
      | false=>simp
      | true=>rw[← h5 hall];rfl
     have htm:=hfi.tm hls
     obtain⟨g3,v',k1,k2,k3,k4,k5,k6⟩:=zQ5 hE h3 (htm.1.grows h1 htm.2) (Nat.le_trans htm.2 h2) hres hv0
     obtain⟨e1,e2,e3,e4⟩:=zRK h
     simp only at e1 e2 e3 e4
     subst e1
     exact⟨g3,w2,u2,tm1,todo,cs1,s3,hg.trans ((h1.trans (k3.less h2)).less hn),by omega,k2,hrd _ e2,hst.trans h6,⟨h4,v',k1,k5,by omega⟩,e3,e4⟩
    ·cases h
   ·cases h
  ·cases h
 ·cases h
structure FuncsOk (E:Env) (P:Program) (OK:FuncId→Code→Prop):Prop where
 fn : ∀ {f : FuncId} {fn : Func} {body : Code}, E.funcs f = some fn → fn.body = some body → P.funcs[f]? = some fn ∧ fn.name ≠ "runtime.NumGoroutine" ∧ OK f body ∧ zI1 E fn.results.toList = true
 intr:∀{f:FuncId} {args:List AV} {v:AV},E.intr f args=some v→∀{base:Nat} {w0:World} {g:Gh} {s:Sto} {w:World} {args':Array Value},g.ok=OK→Rel base w0 g s w→VRs g args args'→tops args≤s.n→
  zC3 P base w0 g s w f args' (.ret v) s
 ins:∀{f:FuncId} {e:TypeId} {args:List AV} {v:AV} {s s':Sto},E.ins f=some e→insA e args s=some (v,s')→∀{base:Nat} {w0:World} {g:Gh} {w:World} {args':Array Value},g.ok=OK→Rel base w0 g s w→VRs g args args'→tops args≤s.n→
  zC3 P base w0 g s w f args' (.ret v) s'
theorem zDJ {f : FuncId} {fn : Func} {body : Code} (h1 : P.funcs[f]? = some fn) (h2 : fn.name ≠ "runtime.NumGoroutine") (h3 : fn.body = some body) (args : Array Value) (w : World) :
  (callFunc f args).run P w=.ok (.enter f args) w:=by
 simp[callFunc,h1,h2,h3,program,Sem.run]
 try rfl
theorem zH1 {f:FuncId}{fn:Func}{body:Code}(h1:P.funcs[f]?=some fn)(h3:fn.body=some body)(args:Array Value)(kd:CallKind) :
  Frame.enter P f args kd=mk f kd none (args++Array.replicate (fn.ntmps-args.size) Go.undef) [] [.code body]:=by
 simp[Frame.enter,mk,h1,h3]
theorem zJ1 {g:Gh}{args:List AV}{args':Array Value}(h:VRs g args args')(n:Nat):VRs g (lapp args (lrep Ab.undef (n-llen args))) (args'++Array.replicate (n-args'.size) Go.undef):=by
 rw[zBP,zD7,zAH,h.1]
 refine h.append ⟨by simp,fun i x v hx hv=>?_⟩
 rw[List.getElem?_replicate] at hx
 rw[Array.getElem?_replicate] at hv
 by_cases hlt:i<n-args'.size
 ·rw[if_pos hlt] at hx hv
  cases hx;cases hv;exact .undef _
 ·rw[if_neg hlt] at hx;cases hx
theorem zNQ {args:List AV}{n k:Nat}(h:tops args≤n):tops (lapp args (lrep Ab.undef k))≤n:=by
 rw[zBP,zD7]
 exact zDF h (zAP.2 fun x hx=>by rw[List.eq_of_mem_replicate hx];exact Nat.zero_le _)
theorem zHP (hE:TysOk E P)(hx:ExecSim P OK r)(hc:CallSim P OK r){f:FuncId}{fn:Func}{body:Code}(hbody:OK f body)(hres:zI1 E fn.results.toList=true)
  {md:Mode} {m:Option AV} {s s':Sto} {args:List AV} {cr:CR} {recd:Bool} (h:enter r E f fn body md args m s=some (cr,recd,s'))
  {base:Nat} {w0:World} {g:Gh} {w:World} {args':Array Value} {kd:CallKind} {cs:List Frame} (hok:g.ok=OK) (hr:Rel base w0 g s w) (ha:VRs g args args') (hta:tops args≤s.n)
  (hkd:kd=.normal∨kd=.deferred) (hrec:RecR g s.n kd m cs) (hrnd:zGO ⟨[],[],m⟩=false) :
  ∃g' w' u tm' todo cs',Grows s.n g g'∧s.n≤s'.n∧Rel base w0 g' s' w'∧((recd=false∧cs'=cs)∨(recd=true∧m.isSome=true∧cs'=recMark cs))∧
   Steps P (lone (mk f kd none (args'++Array.replicate (fn.ntmps-args'.size) Go.undef) [] [.code body]) cs w) (lone { mk f kd none tm' [] todo with mode:=u } cs' w')∧EndR P g' s'.n fn tm' w' u cr:=by
 unfold enter at h
 cases hiso:md.iso with
 | false=>
  rw[hiso] at h
  simp only[cond_false] at h
  have hf:FI base w0 g s w ⟨lapp args (lrep Ab.undef (fn.ntmps-llen args)),[],m⟩ (args'++Array.replicate (fn.ntmps-args'.size) Go.undef) [] kd none cs false:=
   ⟨hr,fun _=>⟨zJ1 ha _,zNQ hta⟩,trivial,hrec,hrnd.symm,hkd⟩
  obtain⟨g',w',u,tm',todo,cs',s2,h1,h2,h3,h4,h5,h6,_,h7⟩:=zOR hE hx hc hbody hres h rfl hok hf
  have hs':=h7 hiso
  obtain⟨d1,d2,d3⟩:=h3.done (t:=topCR cr) h2
  rw[← hs'] at d1 d2 d3
  refine⟨g',w',u,tm',todo,cs',h1,d2,d1,h4,h5,?_⟩
  cases cr with
  | ret v=>obtain⟨e1,v',e2,e3,e4⟩:=h6;exact⟨e1,v',e2,e3,d3 e4⟩
  | panic v=>obtain⟨e1,e2,e3⟩:=h6;exact⟨e1,d3 e2,e3⟩
 | true=>
  rw[hiso] at h
  simp only[cond_true] at h
  split at h
  ·rw[cond_eq_ite] at h
   split at h
   ·rename_i htop
    have htop:=Nat.eq_of_beq_eq_true htop
    have hgr:Grw 0 g { g with Cb:=g.C }:=⟨fun _ _=>rfl,fun _ _=>rfl,fun _ _=>rfl,fun _ _=>rfl,fun _ _ _ h=>h⟩
    have ha0:VRs { g with Cb:=g.C } args args':=ha.grw hgr (by omega)
    have hf:FI w.heap.size w { g with Cb:=g.C } .empty w ⟨lapp args (lrep Ab.undef (fn.ntmps-llen args)),[],none⟩ (args'++Array.replicate (fn.ntmps-args'.size) Go.undef) [] kd none cs false:=
     ⟨hr.enterIso,fun _=>⟨zJ1 ha0 _,zNQ (by rw[htop];exact Nat.zero_le _)⟩,trivial,hrec,rfl,hkd⟩
    obtain⟨g',w',u,tm',todo,cs',s2,h1,h2,h3,h4,h5,h6,h7,_⟩:=zOR hE hx hc hbody hres h rfl (show({ g with Cb:=g.C }:Gh).ok=OK from hok) hf
    obtain⟨e1,e2⟩:=h7 hiso
    subst e2
    obtain⟨k1,k2,k3⟩:=hr.leaveIso h3 h1
    refine⟨_,w',u,tm',todo,cs',k2,Nat.le_refl _,k1,h4,h5,?_⟩
    cases cr with
    | ret v=>
     obtain⟨e3,v',e4,e5,e6⟩:=h6
     have e1:top v=0:=e1
     exact⟨e3,v',e4,k3 e5 e1,by omega⟩
    | panic v=>
     obtain⟨e3,e4,v',e5,e6⟩:=h6
     have e1:top v=0:=e1
     exact⟨e3,by omega,v',e5,k3 e6 e1⟩
   ·cases h
  ·cases h
theorem call_sim (hE:TysOk E P)(hF:FuncsOk E P OK)(hx:ExecSim P OK r)(hc:CallSim P OK r):CallSim P OK (zO5 E r):=by
 constructor
 ·intro f args s cr recd s' h base w0 g w args' hok hr ha hta
  simp only[zO5,zHR,zJY] at h
  split at h
  ·rename_i v hv
   cases h
   exact hF.intr hv hok hr ha hta
  split at h
  ·rename_i v s1 hv
   cases h
   unfold insM at hv
   dsimp only at hv
   split at hv
   ·rename_i hi;exact hF.ins hi hv hok hr ha hta
   ·cases hv
  ·split at h
   ·rename_i fn hfn
    split at h
    ·rename_i body hb
     obtain⟨hP,hname,hbody,hres⟩:=hF.fn hfn hb
     intro c cs
     have fin:∀{args1:List AV} {s1:Sto} {g1:Gh},enter r E f fn body (E.mode f) args1 (mJoin none) s1=some (cr,recd,s')→g1.ok=OK→Rel base w0 g1 s1 w→VRs g1 args1 args'→tops args1≤s1.n→Grows s.n g g1→s1.n=s.n→
       ∃g' w',Grows s.n g g'∧Rel base w0 g' s' w'∧s.n≤s'.n∧zSM P g' s'.n f args' w w' c cs cr:=by
      intro args1 s1 g1 he hok1 hr1 ha1 hta1 hg1 hn1
      have hrec:RecR g1 s1.n .normal none (c :: cs):=by
       intro f0 hk;simp[tryRecover,hk]
      obtain⟨g',w',u,tm',todo,cs',h1,h2,h3,h4,h5,h6⟩:=zHP hE hx hc hbody hres he hok1 hr1 ha1 hta1 (.inl rfl) hrec rfl
      have hcs:cs'=c :: cs:=by
       rcases h4 with⟨_,e⟩|⟨_,e,_⟩
       ·exact e
       ·cases e
      subst hcs
      refine⟨g',w',hg1.trans (h1.less (by omega)),h3,by omega,?_⟩
      have hent:=zH1 hP hb args' .normal
      cases cr with
      | ret v=>
       obtain⟨e1,v',e2,e3,e4⟩:=h6
       subst e1
       refine⟨v',e3,e4,.inr ⟨zDJ hP hname hb args' w,?_⟩⟩
       rw[hent]
       exact h5.trans (.one (step_leave_returned ⟨rfl,rfl,rfl,fn,hP,e2⟩))
      | panic v=>
       obtain⟨e1,e2,v',e3,e4⟩:=h6
       subst e3
       refine⟨v',e4,e1,e2,zDJ hP hname hb args' w,?_⟩
       rw[hent]
       exact h5.trans (.one (step_leave_panicked ⟨rfl,rfl,fn,hP⟩))
     rw[cond_eq_ite] at h
     split at h
     ·exact fin h hok hr ha hta (.refl _ _) rfl
     ·split at h
      ·rename_i args1 s1 hs
       have ha':VRs g args args'.toList.toArray:=by simpa using ha
       obtain⟨g1,hsr,ha1,hta1⟩:=sealVs_sim hr hs ha' hta
       have ha1:VRs g1 args1 args':=by simpa using ha1
       exact fin h (hsr.grows.ok.trans hok) hsr.rel ha1 (by have:=hsr.n;omega) hsr.grows hsr.n
      ·cases h
    ·cases h
   ·cases h
 ·intro f args m s v recd s' h base w0 g w args' hok hr ha hta
  simp only[zO5,zHR,zJY,insM] at h
  split at h
  ·rename_i fn hfn
   split at h
   ·rename_i body hb
    obtain⟨hP,hname,hbody,hres⟩:=hF.fn hfn hb
    intro c cs hmode
    have fin:∀{args1:List AV} {s1:Sto} {g1:Gh},enter r E f fn body (E.mode f) args1 (mJoin (some m)) s1=some (.ret v,recd,s')→g1.ok=OK→Rel base w0 g1 s1 w→VRs g1 args1 args'→tops args1≤s1.n→Grows s.n g g1→s1.n=s.n→
      ∃g' w',Grows s.n g g'∧Rel base w0 g' s' w'∧s.n≤s'.n∧(callFunc f args').run P w=.ok (.enter f args') w∧(recd=true→m.isSome=true)∧
       Steps P (lone (Frame.enter P f args' .deferred) (c :: cs) w) (lone { c with mode:=if recd then .returning else c.mode } cs w'):=by
     intro args1 s1 g1 he hok1 hr1 ha1 hta1 hg1 hn1
     have hmode1:=hmode.grows hg1 (Nat.le_of_eq hn1.symm)
     have hrec:RecR g1 s1.n .deferred m (c :: cs)∧zGO ⟨[],[],m⟩=false:=by
      cases m with
      | none=>
       refine⟨fun f0 hk=>?_,rfl⟩
       rw[tryRecover_deferred hk]
       simp[recoverD,show c.mode=.returning from hmode1]
      | some x=>
       obtain⟨e1,e2,v',e3,e4⟩:=hmode1
       cases x with
       | iface t y=>exact⟨⟨rfl,c,cs,v',rfl,e3,e4,e2⟩,rfl⟩
       | _=>cases e1
     obtain⟨g',w',u,tm',todo,cs',h1,h2,h3,h4,h5,h6⟩:=zHP hE hx hc hbody hres he hok1 hr1 ha1 hta1 (.inr rfl) hrec.1 hrec.2
     obtain⟨e1,v',e2,e3,e4⟩:=h6
     subst e1
     refine⟨g',w',hg1.trans (h1.less (by omega)),h3,by omega,zDJ hP hname hb args' w,?_,?_⟩
     ·intro e
      rcases h4 with⟨e5,_⟩|⟨_,e5,_⟩
      ·rw[e] at e5;cases e5
      ·exact e5
     ·rw[zH1 hP hb args' .deferred]
      refine h5.trans (.one ?_)
      rcases h4 with⟨e5,e6⟩|⟨e5,e6,e7⟩
      ·subst e5;subst e6
       rw[step_going_returned rfl ⟨rfl,rfl,fn,hP,e2⟩]
       congr 3
       cases m with
       | none=>rw[show c.mode=.returning from hmode1];rfl
       | some x=>obtain⟨_,_,v',e3,_⟩:=hmode1;rw[e3];rfl
      ·subst e5;subst e7
       simp only[recMark]
       rw[step_going_returned rfl ⟨rfl,rfl,fn,hP,e2⟩]
       cases m with
       | none=>cases e6
       | some x=>
        obtain⟨_,_,v',e3,_⟩:=hmode1
        simp[e3,settle]
    rw[cond_eq_ite] at h
    split at h
    ·exact fin h hok hr ha hta (.refl _ _) rfl
    ·split at h
     ·rename_i args1 s1 hs
      have ha':VRs g args args'.toList.toArray:=by simpa using ha
      obtain⟨g1,hsr,ha1,hta1⟩:=sealVs_sim hr hs ha' hta
      have ha1:VRs g1 args1 args':=by simpa using ha1
      exact fin h (hsr.grows.ok.trans hok) hsr.rel ha1 (by have:=hsr.n;omega) hsr.grows hsr.n
     ·cases h
   ·cases h
  ·cases h
end
section
variable {P:Program}{f:FuncId}{kd:CallKind}{rn:Option Nat}{tm:Array Value}{df:List Deferred}{k:List Item}{cs:List Frame}{w w1:World}
theorem zIR {fo:Operand}{ps:Array Tmp}{as body:Code}{l:Nat}{mark:List Deferred}{h:FuncId}{a b:Array Value}
  (hl:(Instr.enterLoop f tm ps as body rn).run P w=.ok (l,mark) w1) (hv:zAE tm fo=.func (.func h) a b) {args:Array Value} (ha:args=a++#[.func (.yield l) #[] #[]]++b)
  (hc:(callFunc h args).run P w1=.ok (.enter h args) w1) :
  step P (lone (mk f kd rn tm df (.code (.rangeFunc fo ps as body) :: k)) cs w)=.next (lone (Frame.enter P h args .normal) (mk f kd rn tm (mark++df) (.inRangeFunc l :: k) :: cs) w1):=by
 subst ha
 rw[show a++#[.func (.yield l) #[] #[]]=a.push (.func (.yield l) #[] #[]) by simp] at hc ⊢
 refine step_lone_go ?_
 have he:=congrFun (zJU (f:=f) (kd:=kd) (rn:=rn) (tm:=tm) (df:=mark++df) (.inRangeFunc l :: k)) fo |>.trans hv
 have he2:=congrFun (zJU (f:=f) (kd:=kd) (rn:=rn) (tm:=tm) (df:=mark++df) (.inRangeFunc l :: k)) (.const (.func (.yield l) #[] #[]))
 simp only[mk] at he he2
 simp only[zAE] at he2
 simp[stepG,stepG.exec,mk,hl,stepG.apply,resolve,he,Deferred.ofValue,invoke,hc,he2]
theorem zN5 {fo:Operand}{ps:Array Tmp}{as body:Code}{l:Nat}{mark:List Deferred}{h:FuncId}{a b:Array Value}{w2:World}{v:Value}
  (hl:(Instr.enterLoop f tm ps as body rn).run P w=.ok (l,mark) w1) (hv:zAE tm fo=.func (.func h) a b) {args:Array Value} (ha:args=a++#[.func (.yield l) #[] #[]]++b)
  (hc:(callFunc h args).run P w1=.ok (.value v) w2) :
  step P (lone (mk f kd rn tm df (.code (.rangeFunc fo ps as body) :: k)) cs w)=.next (lone (mk f kd rn tm (mark++df) (.endRangeFunc l :: k)) cs w2):=by
 subst ha
 rw[show a++#[.func (.yield l) #[] #[]]=a.push (.func (.yield l) #[] #[]) by simp] at hc
 refine step_lone_go ?_
 have he:=congrFun (zJU (f:=f) (kd:=kd) (rn:=rn) (tm:=tm) (df:=mark++df) (.inRangeFunc l :: k)) fo |>.trans hv
 have he2:=congrFun (zJU (f:=f) (kd:=kd) (rn:=rn) (tm:=tm) (df:=mark++df) (.inRangeFunc l :: k)) (.const (.func (.yield l) #[] #[]))
 simp only[mk] at he he2
 simp only[zAE] at he2
 simp[stepG,stepG.exec,mk,hl,stepG.apply,resolve,he,Deferred.ofValue,invoke,hc,he2,Frame.finish]
theorem zIA {l:Nat}{jump:Option Code}(hl:(Instr.endLoop l).run P w=.ok jump w1) :
  step P (lone (mk f kd rn tm df (.endRangeFunc l :: k)) cs w)=.next (lone (mk f kd rn tm df ((jump.map Item.code).toList++k)) cs w1):=by
 refine step_lone_go ?_
 simp[stepG,stepG.exec,mk,hl]
theorem zN6 {l:Nat}(hl:(Instr.beginRound l).run P w=.ok () w1) :
  step P (lone (mk f kd (some l) tm df (.beginRound :: k)) cs w)=.next (lone (mk f kd (some l) tm df k) cs w1):=by
 refine step_lone_go ?_
 simp[stepG,stepG.exec,mk,stepG.apply,hl,Frame.finish]
theorem zQX {l:Nat}{v:Value}{c:Frame}(hl:(Instr.endRound l none).run P w=.ok v w1) :
  step P (lone (mk f .normal (some l) tm df []) (c :: cs) w)=.next (lone (c.finish v) cs w1):=by
 refine step_lone_go ?_
 simp[stepG,stepG.exec,mk,hl,doReturn]
theorem zQW {l:Nat}{v:Value}{c:Frame}(hl:(Instr.endRound l (some .ret)).run P w=.ok v w1) :
  step P (lone (mk f .normal (some l) tm df (.code .ret :: k)) (c :: cs) w)=.next (lone (c.finish v) cs w1):=by
 refine step_lone_go ?_
 simp[stepG,stepG.exec,mk,hl,doReturn]
theorem zO6 {l id:Nat}{v:Value}{c:Frame}(hk:exitTo id k=none)(hl:(Instr.endRound l (some (.exit id))).run P w=.ok v w1) :
  step P (lone (mk f .normal (some l) tm df (.code (.exit id) :: k)) (c :: cs) w)=.next (lone (c.finish v) cs w1):=by
 refine step_lone_go ?_
 simp[stepG,stepG.exec,mk,hl,doReturn,hk]
theorem zN4 {l:Nat}{chain:List PanicEntry}{c:Frame}{fn:Func}(hf:P.funcs[f]?=some fn) :
  step P (lone { mk f .normal (some l) tm [] k with mode:=.panicking chain } (c :: cs) w)=.next (lone (c.raise chain) cs w):=by
 refine step_lone_go ?_
 simp[stepG,unwind,mk,Frame.catches,hf]
end
section
variable {P:Program}{OK:FuncId→Code→Prop}{r:Rec}{E:Env}{base:Nat}{w0:World}{g:Gh}{s:Sto}{w:World}
theorem zE1 {b:Nat}{lp:Loop}(h:w.heap[b]?=some (.loop lp)):(Instr.getLoop b).run P w=.ok lp w:=by
 simp[Instr.getLoop,getObj,Sem.run,h]
theorem zID {b:Nat}{lp:Loop}(o:Obj)(h:w.heap[b]?=some (.loop lp)):(setObj b o).run P w=.ok () (putB w b o):=by
 simp[setObj,Sem.run,h,putB]
 try rfl
theorem Rel.loopBox (hr:Rel base w0 g s w){l:Nat}{lb:LoopB}(h:s.get l=.loop lb):l<s.n∧∃lp:Loop,w.heap[g.mu l]?=some (.loop lp)∧
  lp.state=(match lb.state with|0=>.ready|1=>.busy|_=>.done)∧lp.pending=lb.pending∧lp.fn=lb.fn∧VRs g lb.tmps lp.tmps∧lp.params.toList=lb.params∧lp.assign=lb.assign∧lp.body=lb.body∧
   (g.ok lb.fn lb.assign∧g.ok lb.fn lb.body)∧(∀o,g.C (g.mu l) o=none)∧tops lb.tmps≤s.n:=by
 have hl:=zEQ h (by simp)
 have hb:=hr.box l hl
 rw[h] at hb
 obtain⟨lp,d,h1,h2,h3,h4,h5,h6,h7,h8,h9,h11,h10⟩:=hb
 have ht:=hr.top l hl
 rw[h] at ht
 exact⟨hl,lp,h1,h2,h3,h4,h5,h6,h7,h8,h11,h10,ht⟩
theorem Rel.loopPut (hr:Rel base w0 g s w){l:Nat}{lb:LoopB}{lp lp':Loop}(h:s.get l=.loop lb)(hh:w.heap[g.mu l]?=some (.loop lp))(st:Nat)(pd:Option Code)
  (hst:lp'.state=(match st with|0=>.ready|1=>.busy|_=>.done)) (hpd:lp'.pending=pd) (hlp:lp'.fn=lp.fn∧lp'.tmps=lp.tmps∧lp'.params=lp.params∧lp'.assign=lp.assign∧lp'.body=lp.body) :
  Rel base w0 g (s.put l (.loop ⟨st,pd,lb.fn,lb.tmps,lb.params,lb.assign,lb.body⟩)) (putB w (g.mu l) (.loop lp')):=by
 obtain⟨hl,lp0,h1,h2,h3,h4,h5,h6,h7,h8,h11,h10,ht⟩:=hr.loopBox h
 rw[hh] at h1
 cases h1
 have hlive:liveBox (s.get l)=true:=by rw[h];rfl
 have hup:=hr.ups l hl
 rw[h] at hup
 have:=hr.update (g':=g) (w':=putB w (g.mu l) (.loop lp')) hl (.loop ⟨st,pd,lb.fn,lb.tmps,lb.params,lb.assign,lb.body⟩) (.refl _ _) hlive (fun b i v hv=>by
   have hne:b≠g.mu l:=fun e=>by subst e;rw[h10] at hv;cases hv
   have:=hr.C b i v hv
   unfold World.cell? at this ⊢
   rw[zCY hne];exact this) (fun _ _ _=>rfl) (fun b hb=>zCY hb) (zG9 ..)
  ⟨lp',lp'.defers,zIY hh,hst,hpd,hlp.1.trans h4,by rw[hlp.2.1];exact h5,by rw[hlp.2.2.1];exact h6,hlp.2.2.2.1.trans h7,hlp.2.2.2.2.trans h8,rfl,h11,h10⟩ ht 0
  (by
    rcases hup with e|⟨t,e1,e2⟩
    ·exact .inl e
    ·exact .inr (.inr ⟨t,e1,e2⟩))
 rwa [zFQ (Nat.zero_le _)] at this
theorem bindAll_sim:∀{ts:List Tmp} {as tm:List AV} {a':List Value} {tms:Array Value} {res:List AV},zFC tm ts as=some res→VRs g tm tms→VRs g as a'.toArray→tops tm≤s.n→tops as≤s.n→
  VRs g res ((ts.zip a').foldl (fun tmps (x:Tmp×Value)=>tmps.setIfInBounds x.1 x.2) tms)∧tops res≤s.n∧ts.length=a'.length:=by
 intro ts
 induction ts with
 | nil=>
  intro as tm a' tms res h h1 h2 h3 h4
  cases as with
  | nil=>
   simp only[zFC] at h
   cases h
   have:a'=[]:=by have:=h2.1;simp at this;exact List.eq_nil_of_length_eq_zero this.symm
   subst this
   exact⟨h1,h3,rfl⟩
  | cons a as=>simp[zFC] at h
 | cons t ts ih=>
  intro as tm a' tms res h h1 h2 h3 h4
  cases as with
  | nil=>simp[zFC] at h
  | cons a as=>
   cases a' with
   | nil=>have:=h2.1;simp at this
   | cons u a'=>
    simp only[zFC,zFR] at h
    rw[zAU] at h4
    have h4':=Nat.max_le.1 h4
    have hu:VR g a u:=h2.2 0 a u rfl rfl
    have hrest:VRs g as a'.toArray:=⟨by have:=h2.1;simp at this ⊢;exact this,fun i x v hx hv=>h2.2 (i+1) x v (by simpa using hx) (by simpa using hv)⟩
    obtain⟨k1,k2,k3⟩:=ih h (h1.put t hu) hrest (zKP h3 h4'.1) h4'.2
    exact⟨k1,k2,by simp[k3]⟩
theorem zW2 (hx:ExecSim P OK r)(hOK:∀f c,OK f c→∃fn,P.funcs[f]?=some fn):zFK P OK r:=by
 intro l args s cr s' h base w0 g w args' hok hr hl ha hta c cs
 unfold zFA at h
 split at h
 ·rename_i lb hbox
  split at h
  ·rename_i args1 s1 hs
   have ha':VRs g args args'.toList.toArray:=by simpa using ha
   obtain⟨g1,hsr,ha1,hta1⟩:=sealVs_sim hr hs ha' hta
   have hn1:=hsr.n
   obtain⟨_,lp,h1,h2,h3,h4,h5,h6,h7,h8,h11,h10,ht⟩:=hr.loopBox hbox
   split at h
   ·rename_i tm0 hbind
    obtain⟨b1,b2,b3⟩:=bindAll_sim (s:=s1) hbind (h5.grows hsr.grows ht) ha1 (by omega) (by omega)
    split at h
    ·rename_i fr1 s2 hasg
     have hmu1:g1.mu l=g.mu l:=hsr.grows.mu l hl
     have hyield:(Instr.yield (g.mu l) args').run P w=.ok (.round (g.mu l) lp.fn ((lp.params.zip args').foldl (fun tmps (t,a)=>tmps.setIfInBounds t a) lp.tmps) lp.assign lp.body) w:=by
      have hsz:args'.size=lp.params.size:=by
       rw[← Array.length_toList,← Array.length_toList,h6,b3]
      simp only[Instr.yield,Sem.run_bind,zE1 h1,Result.andThen_ok]
      simp[hsz]
     have hfold:(lp.params.zip args').foldl (fun tmps (t,a)=>tmps.setIfInBounds t a) lp.tmps=(lb.params.zip args'.toList).foldl (fun tmps (x:Tmp×Value)=>tmps.setIfInBounds x.1 x.2) lp.tmps:=by
      rw[← Array.foldl_toList,Array.toList_zip,h6]
     rw[hfold] at hyield
     rw[h4,h7,h8] at hyield
     have hok1:g1.ok=OK:=hsr.grows.ok.trans hok
     have hf0:FI base w0 g1 s1 w ⟨tm0,[],some (.tuple [])⟩ ((lb.params.zip args'.toList).foldl (fun tmps (x:Tmp×Value)=>tmps.setIfInBounds x.1 x.2) lp.tmps) [] .normal (some (g.mu l)) (c :: cs) false:=
      ⟨hsr.rel,fun _=>⟨b1,b2⟩,trivial,trivial,rfl,.inl rfl⟩
     have hrn0:RnR g1 s1.n (some l) (some (g.mu l)):=⟨by simp[hmu1],fun l' e=>by cases e;omega⟩
     obtain⟨g2,w2,tm2,df2,cs2,hg2,hn2,hc2,hf2,hst2⟩:=hx.run hasg (by rw[← hok];exact h11.1) [.beginRound,.code lb.body] hok1 hf0 hrn0
     have hcs2:cs2=c :: cs:=by
      rcases hc2 with⟨_,e⟩|⟨⟨v,e1,e2⟩,_⟩
      ·exact e
      ·cases e1;cases e2
     have hrec2:fr1.rec_=some (.tuple []):=by
      rcases hc2 with⟨e,_⟩|⟨⟨v,e1,e2⟩,_⟩
      ·exact e
      ·cases e1;cases e2
     subst hcs2
     unfold zIX at h
     split at h
     ·rename_i lb2 hbox2
      rw[cond_eq_ite] at h
      split at h
      ·rename_i hst0
       have hst0:=Nat.eq_of_beq_eq_true hst0
       split at h
       ·rename_i o3 fr3 s3 hbody
        have hmu2:g2.mu l=g.mu l:=(hg2.mu l (by omega)).trans hmu1
        obtain⟨_,lp2,p1,p2,p3,p4,p5,p6,p7,p8,p11,p10,pt⟩:=hf2.rel.loopBox hbox2
        rw[hmu2] at p1
        have hready:lp2.state=.ready:=by rw[p2,hst0];rfl
        have hbegin:(Instr.beginRound (g.mu l)).run P w2=.ok () (putB w2 (g.mu l) (.loop { lp2 with state:=.busy })):=by
         simp only[Instr.beginRound,Sem.run_bind,zE1 p1,Result.andThen_ok]
         rw[zID _ p1]
         simp[hready]
        have hrel2:=hf2.rel.loopPut (lp:=lp2) (lp':={ lp2 with state:=.busy }) hbox2 (by rw[hmu2];exact p1) 1 lb2.pending rfl p3 ⟨rfl,rfl,rfl,rfl,rfl⟩
        rw[hmu2] at hrel2
        have hfB:FI base w0 g2 (s2.put l (.loop ⟨1,lb2.pending,lb2.fn,lb2.tmps,lb2.params,lb2.assign,lb2.body⟩)) (putB w2 (g.mu l) (.loop { lp2 with state:=.busy })) fr1 tm2 df2 .normal (some (g.mu l)) (c :: cs) false:=
         hf2.moves hrel2 (.refl _ _) (Nat.le_refl _)
        obtain⟨g3,w3,tm3,df3,cs3,hg3,hn3,hc3,harr⟩:=hx.run hbody (by rw[← hok];exact h11.2) [] (hg2.ok.trans hok1) hfB (hrn0.grows hg2 hn2)
        have hcs3:cs3=c :: cs:=by
         rw[hrec2] at hc3
         rcases hc3 with⟨_,e⟩|⟨⟨v,e1,e2⟩,_⟩
         ·exact e
         ·cases e1;cases e2
        subst hcs3
        have hput:(s2.put l (.loop ⟨1,lb2.pending,lb2.fn,lb2.tmps,lb2.params,lb2.assign,lb2.body⟩)).n=s2.n:=rfl
        rw[hput] at hg3 hn3
        have hgAll:Grows s.n g g3:=hsr.grows.trans ((hg2.trans (hg3.less hn2)).less (by omega))
        have hsteps:∀{m:Machine},Steps P (lone (mk lb.fn .normal (some (g.mu l)) tm2 df2 [.code lb.body]) (c :: cs) (putB w2 (g.mu l) (.loop { lp2 with state:=.busy }))) m→
          Steps P (lone (Frame.round (g.mu l) lb.fn ((lb.params.zip args'.toList).foldl (fun tmps (x:Tmp×Value)=>tmps.setIfInBounds x.1 x.2) lp.tmps) lb.assign lb.body .normal) (c :: cs) w) m:=by
         intro m hm
         exact hst2.trans (.head (zN6 hbegin) hm)
        unfold zGL at h
        rw[cond_eq_ite] at h
        split at h
        ·cases h
        ·rename_i hemp
         split at h
         ·rename_i lb3 hbox3
          have hmu3:g3.mu l=g.mu l:=(hg3.mu l (by omega)).trans hmu2
          have fin:∀{j:Option Code} {fr3:Fr} {tm3:Array Value} {df3:List Deferred},FI base w0 g3 s3 w3 fr3 tm3 df3 .normal (some (g.mu l)) (c :: cs) false→endRound l lb3 s.n j s3=some (cr,s')→
            (∀{w4:World} {v:Value},(Instr.endRound (g.mu l) j).run P w3=.ok v w4→
             Steps P (lone (Frame.round (g.mu l) lb.fn ((lb.params.zip args'.toList).foldl (fun tmps (x:Tmp×Value)=>tmps.setIfInBounds x.1 x.2) lp.tmps) lb.assign lb.body .normal) (c :: cs) w) (lone (c.finish v) cs w4))→
            ∃g' w' f ts as body,Grows s.n g g'∧Rel base w0 g' s' w'∧s.n≤s'.n∧(Instr.yield (g.mu l) args').run P w=.ok (.round (g.mu l) f ts as body) w∧
             zTT P g' s'.n (lone (Frame.round (g.mu l) f ts as body .normal) (c :: cs) w) w' c cs cr:=by
           intro j fr3 tm3 df3 hf3 he hst
           obtain⟨_,lp3,q1,q2,q3,q4,q5,q6,q7,q8,q11,q10,qt⟩:=hf3.rel.loopBox hbox3
           rw[hmu3] at q1
           unfold endRound at he
           cases he
           have hrel3:=hf3.rel.loopPut (lp:=lp3) (lp':={ lp3 with state:=if j.isNone then .ready else .done,pending:=j }) hbox3 (by rw[hmu3];exact q1) (bif j.isNone then 0 else 2) j
            (by cases j<;>rfl) rfl ⟨rfl,rfl,rfl,rfl,rfl⟩
           rw[hmu3] at hrel3
           obtain⟨d1,d2,d3⟩:=hrel3.done (n:=s.n) (t:=0) (by show s.n≤s3.n;omega)
           refine⟨g3,_,_,_,_,_,hgAll,d1,d2,hyield,.bool j.isNone,.bool _,Nat.zero_le _,hst ?_⟩
           simp only[Instr.endRound,Sem.run_bind,zE1 q1,Result.andThen_ok]
           rw[zID _ q1]
           rfl
          cases o3 with
          | normal=>exact fin harr.1 h (fun he=>hsteps (harr.2.trans (.one (zQX he))))
          | ret=>
           obtain⟨k1,k2,k3⟩:=harr
           exact fin k1 h (fun he=>hsteps (k3.trans (.one (zQW he))))
          | exit id=>
           obtain⟨k1,k2,k3,k4⟩:=harr
           exact fin k1 h (fun he=>hsteps (k4.trans (.one (zO6 (k3.trans rfl) he))))
          | goto _=>cases h
          | panic v=>
           obtain⟨k1,v',k2,k3,k4,k5,k6⟩:=harr
           cases h
           obtain⟨d1,d2,d3⟩:=k1.rel.done (n:=s.n) (t:=top v) (by omega)
           have hdf:df3=[]:=by
            have:=k1.df
            have hnil:fr3.defers=[]:=by simpa using hemp
            rw[hnil] at this
            cases df3 with
            | nil=>rfl
            | cons a b=>exact this.elim
           subst hdf
           obtain⟨fn0,hfn0⟩:=hOK lb.fn lb.assign (by rw[← hok];exact h11.1)
           exact⟨g3,w3,_,_,_,_,hgAll,d1,d2,hyield,v',k3,k4,d3 k5,hsteps (k6.trans (.one (zN4 hfn0)))⟩
         ·cases h
       ·cases h
      ·cases h
     ·cases h
    ·cases h
   ·cases h
  ·cases h
 ·cases h
theorem zM0 {f:FuncId}{tm:Array Value}{ps:Array Tmp}{as body:Code}{l0:Nat}{lp:Loop}(h:w.heap[l0]?=some (.loop lp)) :
  (Instr.enterLoop f tm ps as body (some l0)).run P w=.ok (w.heap.size,[]) (push w (.loop { state:=.ready,pending:=none,fn:=f,tmps:=tm,params:=ps,assign:=as,body:=body,defers:=lp.defers })):=by
 simp only[Instr.enterLoop,Sem.run_bind,zE1 h,Result.andThen_ok,Sem.run_pure,zD5]
theorem zM1 {f:FuncId}{tm:Array Value}{ps:Array Tmp}{as body:Code} :
  (Instr.enterLoop f tm ps as body none).run P w=.ok ((push w (.deferred (some []))).heap.size,[{ target:=.collected w.heap.size,args:=#[] }])
   (push (push w (.deferred (some []))) (.loop { state:=.ready,pending:=none,fn:=f,tmps:=tm,params:=ps,assign:=as,body:=body,defers:=w.heap.size })):=by
 simp only[Instr.enterLoop,Sem.run_bind,Result.andThen_ok,Sem.run_pure,zD5]
theorem zLD (hc:CallSim P OK r){fid:FuncId}{fv:AV}{fo:Operand}{ps:Array Tmp}{assign body:Code}{fr fr':Fr}{s':Sto}{o:Out}
  (h:zGM r fid fv ps.toList assign body fr s=some (o,fr',s')) {tm:Array Value} {df:List Deferred} {kd:CallKind} {rn:Option Nat} {cs:List Frame} {k:List Item} {mark df0:List Deferred} {d:Nat} {u:World}
  (hdf:df=mark++df0) (hfv:VR g fv (zAE tm fo)) (hft:top fv≤s.n) (hoka:OK fid assign) (hokb:OK fid body)
  (hok:g.ok=OK) (hf:FI base w0 g s w fr tm df kd rn cs false)
  (hen:(Instr.enterLoop fid tm ps assign body rn).run P u=.ok (w.heap.size,mark) (push w (.loop { state:=.ready,pending:=none,fn:=fid,tmps:=tm,params:=ps,assign:=assign,body:=body,defers:=d }))) :
  Lands P base w0 fid kd rn k (lone (mk fid kd rn tm df0 (.code (.rangeFunc fo ps assign body) :: k)) cs u) g s.n fr.rec_ cs o fr' s':=by
 unfold zGM at h
 have htm:=hf.tm rfl
 have hrel:Rel base w0 (g.with s.n w.heap.size 0 0 0) (s.alloc (.loop ⟨0,none,fid,fr.tmps,ps.toList,assign,body⟩)) (push w (.loop { state:=.ready,pending:=none,fn:=fid,tmps:=tm,params:=ps,assign:=assign,body:=body,defers:=d })):=by
  refine hf.rel.push _ 0 0 0 _ ?_ (by show tops fr.tmps≤s.n+1;omega)
  refine⟨_,d,by rw[zBS];exact zFH w _,rfl,rfl,rfl,htm.1.grows (Gh.with_grows g s.n _ _ _ _) htm.2,rfl,rfl,rfl,rfl,?_,fun o=>by rw[zBS];exact zQQ hf.rel o⟩
  show g.ok fid assign∧g.ok fid body
  rw[hok];exact⟨hoka,hokb⟩
 have hg1:=Gh.with_grows g s.n w.heap.size 0 0 0
 have hsn:(s.alloc (.loop ⟨0,none,fid,fr.tmps,ps.toList,assign,body⟩)).n=s.n+1:=rfl
 split at h
 ·rename_i gf args s1 hcv
  unfold zIM at hcv
  split at hcv
  ·rename_i t gf' a b
   cases hcv
   generalize hvv:zAE tm fo=vv at hfv
   cases hfv with
   | func _ _ _ _ a' b' hy la ha lb hb hta htb=>
   have hft:t≤s.n:=hft
   have hyv:VR (g.with s.n w.heap.size 0 0 0) (.func (s.n+1) (.yield s.n) [] []) (.func (.yield w.heap.size) #[] #[]):=by
    have:=VR.func (g:=g.with s.n w.heap.size 0 0 0) (s.n+1) (.yield s.n) [] [] #[] #[] (fun l e=>by cases e;omega) rfl (fun i x v hx _=>by simp at hx) rfl (fun i x v hx _=>by simp at hx) (Nat.zero_le _) (Nat.zero_le _)
    simpa[zON,zBS] using this
   have hargs:VRs (g.with s.n w.heap.size 0 0 0) (lapp a (lapp [.func (s.n+1) (.yield s.n) [] []] b)) (a'++#[.func (.yield w.heap.size) #[] #[]]++b'):=by
    rw[zBP,zBP]
    have h1:VRs (g.with s.n w.heap.size 0 0 0) a a':=VRs.grows ⟨la,ha⟩ hg1 (by omega)
    have h2:VRs (g.with s.n w.heap.size 0 0 0) b b':=VRs.grows ⟨lb,hb⟩ hg1 (by omega)
    have h3:VRs (g.with s.n w.heap.size 0 0 0) [.func (s.n+1) (.yield s.n) [] []] #[.func (.yield w.heap.size) #[] #[]]:=⟨rfl,fun i x v hx hv=>by
     cases i with
     | zero=>simp at hx hv;subst hx;subst hv;exact hyv
     | succ i=>simp at hx⟩
    have:=(h1.append h3).append h2
    rwa [List.append_assoc] at this
   have htops:tops (lapp a (lapp [.func (s.n+1) (.yield s.n) [] []] b))≤(s.alloc (.loop ⟨0,none,fid,fr.tmps,ps.toList,assign,body⟩)).n:=by
    rw[zBP,zBP,hsn]
    refine zDF (by omega) (zDF ?_ (by omega))
    rw[zAU]
    exact Nat.max_le.2 ⟨Nat.le_refl _,Nat.zero_le _⟩
   have hv':zAE tm fo=.func (.func gf) a' b':=by rw[hvv];rfl
   unfold endLoop at h
   split at h
   ·rename_i v recd s2 hcall
    obtain⟨g2,w2,hg2,hrel2,hn2,v',hv,ht,hm⟩:=hc.norm hcall (hg1.ok.trans hok) hrel hargs htops (mk fid kd rn tm (mark++df0) (.inRangeFunc w.heap.size :: k)) cs
    have hreach:Steps P (lone (mk fid kd rn tm df0 (.code (.rangeFunc fo ps assign body) :: k)) cs u) (lone (mk fid kd rn tm (mark++df0) (.endRangeFunc w.heap.size :: k)) cs w2):=by
     rcases hm with hm|⟨hm,hst⟩
     ·exact .one (zN5 hen hv' rfl hm)
     ·exact .head (zIR hen hv' rfl hm) hst
    have hgg:Grows s.n g g2:=hg1.trans (hg2.less (by omega))
    have hfi:FI base w0 g2 s2 w2 fr tm (mark++df0) kd rn cs false:=by
     rw[← hdf]
     exact hf.moves hrel2 hgg (by omega)
    split at h
    ·rename_i lb hbox
     rw[cond_eq_ite] at h
     split at h
     ·cases h
     ·rename_i hst1
      obtain⟨hl2,lp,p1,p2,p3,p4,p5,p6,p7,p8,p11,p10,pt⟩:=hrel2.loopBox hbox
      have hmu:g2.mu s.n=w.heap.size:=(hg2.mu s.n (by omega)).trans (zBS ..)
      have hbusy:lp.state≠.busy:=by
       rw[p2]
       split
       ·simp
       ·rename_i e;exact absurd (by rw[e];rfl) hst1
       ·simp
      have hend:(Instr.endLoop w.heap.size).run P w2=.ok lp.pending (putB w2 w.heap.size (.loop { lp with state:=.exhausted })):=by
       rw[hmu] at p1
       simp only[Instr.endLoop,Sem.run_bind,zE1 p1,Result.andThen_ok]
       have:(lp.state == LoopState.busy)=false:=by simpa using hbusy
       rw[this]
       simp only[Bool.false_eq_true,if_false,Sem.run_bind,Sem.run_pure,Result.andThen_ok]
       rw[zID _ p1]
       rfl
      have hrel3:=hrel2.killW hl2 (by rw[hbox];rfl) (.loop { lp with state:=.exhausted }) p10
      rw[hmu] at hrel3
      obtain⟨wX,hwX⟩:∃x,x=putB w2 w.heap.size (.loop { lp with state:=.exhausted }):=⟨_,rfl⟩
      rw[← hwX] at hend hrel3
      rw[p3] at hend
      have hfi3:FI base w0 g2 (s2.put s.n .dead) wX fr tm (mark++df0) kd rn cs false:=hfi.moves hrel3 (.refl _ _) (Nat.le_refl _)
      split at h
      ·rename_i hpd
       cases h
       rw[hpd] at hend
       exact⟨g2,_,tm,_,cs,hgg,by show s.n≤s2.n;omega,.refl _ _,hfi3,hreach.trans (.one (zIA hend))⟩
      ·rename_i hpd
       cases h
       rw[hpd] at hend
       exact⟨g2,_,tm,_,cs,hgg,by show s.n≤s2.n;omega,.refl _ _,hfi3,k,hreach.trans (.one (zIA hend))⟩
      ·rename_i id hpd
       cases h
       rw[hpd] at hend
       exact⟨g2,_,tm,_,cs,hgg,by show s.n≤s2.n;omega,.refl _ _,hfi3,k,rfl,hreach.trans (.one (zIA hend))⟩
      ·cases h
    ·cases h
   ·rename_i v recd s2 hcall
    cases h
    obtain⟨g2,w2,hg2,hrel2,hn2,v',hv,hi,ht,hm,hst⟩:=hc.norm hcall (hg1.ok.trans hok) hrel hargs htops (mk fid kd rn tm (mark++df0) (.inRangeFunc w.heap.size :: k)) cs
    have hgg:Grows s.n g g2:=hg1.trans (hg2.less (by omega))
    have hfi:FI base w0 g2 s' w2 fr tm (mark++df0) kd rn cs false:=by
     rw[← hdf]
     exact hf.moves hrel2 hgg (by omega)
    exact⟨g2,w2,tm,mark++df0,cs,hgg,by omega,.refl _ _,hfi.loosen,v',_,hv,hi,ht,.head (zIR hen hv' rfl hm) hst⟩
   ·cases h
  ·cases hcv
  ·cases hcv
 ·cases h
theorem zW4 (hc:CallSim P OK r){fid:FuncId}{rnd:Option Nat}{fo:Operand}{ps:Array Tmp}{assign body:Code}{fr fr':Fr}{s':Sto}{o:Out}
  (h:zJ9 r fid rnd (zAD fr fo) ps.toList assign body fr s=some (o,fr',s')) {tm:Array Value} {df:List Deferred} {kd:CallKind} {rn:Option Nat} {cs:List Frame} {k:List Item}
  (hoka:OK fid assign) (hokb:OK fid body) (hok:g.ok=OK) (hf:FI base w0 g s w fr tm df kd rn cs false) (hrn:RnR g s.n rnd rn) :
  Lands P base w0 fid kd rn k (lone (mk fid kd rn tm df (.code (.rangeFunc fo ps assign body) :: k)) cs w) g s.n fr.rec_ cs o fr' s':=by
 unfold zJ9 at h
 split at h
 ·rename_i fv hfv
  have htm:=hf.tm rfl
  have hv:=zA9 htm.1 hfv
  have ht:=zCX htm.2 hfv
  split at h
  ·obtain⟨rfl,_⟩:=hrn
   have hg1:=Gh.with_grows g s.n w.heap.size 0 0 0
   have hrel:Rel base w0 (g.with s.n w.heap.size 0 0 0) (s.alloc .mark) (push w (.deferred (some []))):=
    hf.rel.push _ 0 0 0 _ ⟨by rw[zBS];exact zFH w _,fun o=>by rw[zBS];exact zQQ hf.rel o⟩ (Nat.zero_le _)
   have hsn:(s.alloc .mark).n=s.n+1:=rfl
   have hf1:FI base w0 (g.with s.n w.heap.size 0 0 0) (s.alloc .mark) (push w (.deferred (some []))) ⟨fr.tmps,(.ptr s.n 0,[]) :: fr.defers,fr.rec_⟩ tm (⟨.collected w.heap.size,#[]⟩ :: df) kd none cs false:=by
    have h0:=hf.moves hrel hg1 (by omega)
    refine⟨h0.rel,h0.tm,⟨?_,h0.df⟩,h0.rec_,h0.rnd,h0.kd⟩
    have:=DfR.mark (g:=g.with s.n w.heap.size 0 0 0) (n:=(s.alloc .mark).n) s.n [] (by omega)
    rwa [zBS] at this
   have:=zLD hc h (mark:=[⟨.collected w.heap.size,#[]⟩]) (df0:=df) (u:=w) (k:=k) rfl (hv.grows hg1 ht) (by omega) hoka hokb (hg1.ok.trans hok) hf1 zM1
   exact this.from hg1 (by omega) (.refl _ _)
  ·rename_i l
   split at h
   ·rename_i lb hbox
    obtain⟨rfl,hl⟩:=hrn
    obtain⟨_,lp,h1,_⟩:=hf.rel.loopBox hbox
    exact zLD hc h (mark:=[]) (df0:=df) (u:=w) (k:=k) rfl hv ht hoka hokb hok hf (zM0 h1)
   ·cases h
 ·cases h
end
def zPH (E:Env):List TypeId→Bool
 | []=>true
 | t :: r=>bif (E.types t).ok then zPH E r else false
theorem zM9 {E:Env}:∀{l:List TypeId},zPH E l=true→∀t∈l,(E.types t).ok=true:=by
 intro l
 induction l with
 | nil=>intro _ t h;cases h
 | cons a r ih=>
  intro h t ht
  simp only[zPH,cond_eq_ite] at h
  split at h
  ·rename_i ha
   cases ht with
   | head=>exact ha
   | tail _ ht=>exact ih h t ht
  ·cases h
def isSl:TD→Bool
 | .slice _=>true
 | _=>false
def zF2 (E:Env)(b:Builtin)(tys:List TypeId):Bool:=
 match b with
 | .append=>zPH E tys
 | .len=>(match tys with | [t]=>(E.types t).ok|_=>false)
 | .cap=>(match tys with | [t]=>(E.types t).ok|_=>false)
 | .copy=>(match tys with|t :: _=>(E.types t).ok|_=>false)
 | .clear=>(match tys with | [t]=>(E.types t).ok&&isSl (E.types t).d|_=>false)
 | .unsafeString=>zPH E tys
 | _=>true
def okOp (E:Env)(op:Op):Bool:=
 match op with
 | .alloc e=>(E.types e).ok
 | .build t _=>(E.types t).ok
 | .buildSlice t _ _=>(E.types t).ok
 | .load t _=>(E.types t).ok
 | .store t _ _=>(E.types t).ok
 | .binOp _ t _ _ _=>(E.types t).ok
 | .convert src dst _=>(E.types src).ok&&(E.types dst).ok
 | .makeInterface t _=>(E.types t).ok
 | .makeMap _ r=>r.isNone
 | .makeSlice t _ _=>(E.types t).ok
 | .slice t _ _ hi mx=>(E.types t).ok&&(mx.isNone||hi.isSome)
 | .fieldAddr t _ _=>(E.types t).ok
 | .field t _ _=>(E.types t).ok
 | .indexAddr t _ _=>(E.types t).ok
 | .index t _ _=>(E.types t).ok
 | .lookup t _ _ _=>(E.types t).ok
 | .mapUpdate t _ _ _=>(E.types t).ok
 | .insert t _ _ _=>(E.types t).ok
 | .typeAssert _ _ t _=>(E.types t).ok
 | .call c=>(match c.callee with
  | .builtin b=>zF2 E b c.argTypes.toList
  | .invoke _ _=>true
  | .value _=>true)
 | _=>true
def isV:Nx→Bool
 | .val _ _=>true
 | .no=>true
 | _=>false
section
variable {E:Env}{P:Program}{g:Gh}{base:Nat}{w0:World}{s:Sto}{w:World}{fr:Fr}{tm:Array Value}{o:Oper}
theorem OpR.ofVal {nx:Nx}{sem:Sem Value}(hv:isV nx=true)(hex:execOp (zAE tm) o=(do pure (.value (← sem))))(h:∀{v s'},nx=.val v s'→StR P base w0 g s w sem v s'):OpR P base w0 g s w tm o nx:=by
 cases nx with
 | val v s'=>
  obtain⟨v',w',g',h1,h2,h3,h4,h5,h6⟩:=h rfl
  exact⟨v',w',g',.inl (by rw[hex];simp only[Sem.run_bind,h1,Result.andThen_ok,Sem.run_pure]),h2,h3,h4,h5,h6⟩
 | no=>trivial
 | _=>cases hv
theorem OpR.ofUnit {nx:Nx}{sem:Sem Unit}(hv:isV nx=true)(hex:execOp (zAE tm) o=(do sem;pure .skip))
  (h:∀{v s'},nx=.val v s'→∃w' g',sem.run P w=.ok () w'∧Rel base w0 g' s' w'∧Grows s.n g g'∧s'.n=s.n∧v=Ab.undef):OpR P base w0 g s w tm o nx:=by
 cases nx with
 | val v s'=>
  obtain⟨w',g',h1,h2,h3,h4,rfl⟩:=h rfl
  exact⟨Go.undef,w',g',.inr ⟨by rw[hex];simp only[Sem.run_bind,h1,Result.andThen_ok,Sem.run_pure],rfl⟩,h2,h3,.undef _,Nat.zero_le _,by omega⟩
 | no=>trivial
 | _=>cases hv
theorem zHG (s:Sto)(x:Option AV):isV (nv s x)=true:=by cases x<;>rfl
theorem zJX (x:Option (AV×Sto)):isV (nvs x)=true:=by unfold nvs;split<;>rfl
theorem isV_ns (x:Option Sto):isV (ns x)=true:=by cases x<;>rfl
theorem zTI (c a b:Option AV)(s:Sto):isV (zHC c a b s)=true:=by unfold zHC;split<;>first|rfl|exact zHG _ _
theorem zPZ (t:TypeId)(ps:List (Nat×Operand)):isV (zDL E fr t ps s)=true:=by
 unfold zDL;split
 ·dsimp only;split
  ·split<;>rfl
  ·split<;>rfl
  ·rfl
 ·rfl
theorem zH8 (fid:FuncId)(t:TypeId)(n:Nat)(ps:List (Nat×Operand)):isV (zCI E fid fr t n ps s)=true:=by
 unfold zCI;split
 ·split
  ·split
   ·dsimp only;rw[cond_eq_ite];split
    ·rw[cond_eq_ite];split<;>rfl
    ·rfl
   ·rfl
  ·rfl
 ·rfl
theorem zYE (e:TypeId)(x:Option AV):isV (oBox E e x s)=true:=by
 unfold oBox;split
 ·rw[cond_eq_ite];split<;>rfl
 ·rfl
theorem zTJ (t:TypeId)(a:Option AV):isV (zRB E t a s)=true:=by unfold zRB;split<;>first|rfl|exact zHG _ _
theorem zPT (t:TypeId)(a x:Option AV):isV (zNB E t a x s)=true:=by
 unfold zNB;split
 ·split
  ·exact isV_ns _
  ·rfl
 ·rfl
theorem zYD (x:Option AV):isV (oNil x s)=true:=by unfold oNil;split<;>rfl
theorem zYF (op:BinOp)(t:TypeId)(c:Bool)(x y:Option AV):isV (oBin E op t c x y s)=true:=by
 unfold oBin;split
 ·split
  ·exact zHG _ _
  ·rfl
 ·rfl
theorem isV_un (op:UnOp)(x:Option AV):isV (oUn op x s)=true:=by
 unfold oUn;split
 ·split<;>rfl
 ·split
  ·rfl
  ·exact zHG _ _
  ·rfl
 ·rfl
theorem zRN (sd d:TD)(k o:Nat):isV (zME E sd d k o s)=true:=by
 unfold zME;split
 ·split
  ·split
   ·rw[cond_eq_ite];split<;>rfl
   ·rfl
  ·split
   ·rw[cond_eq_ite];split<;>rfl
   ·rfl
  ·rfl
 ·rfl
theorem zLW (src dst:TypeId)(x:Option AV):isV (zHY E src dst x s)=true:=by
 unfold zHY;split
 ·unfold zOT;split
  ·split<;>rfl
  ·exact zRN ..
  ·split
   ·rfl
   ·rw[cond_eq_ite];split<;>rfl
   ·rfl
  ·split
   ·rw[cond_eq_ite];split
    ·split
     ·split<;>rfl
     ·rfl
    ·rfl
   ·rfl
 ·rfl
theorem zPW (d:TD)(t:TypeId)(x:Option AV):isV (zI2 d t x s)=true:=by
 unfold zI2;split
 ·split<;>rfl
 ·rfl
theorem zKD (fn:Fn)(a b:List Operand):isV (zCN fr fn a b s)=true:=by
 unfold zCN;split
 ·split
  ·split<;>rfl
  ·rfl
 ·rfl
theorem zI8 (t:TypeId)(l c:Option AV):isV (zB3 E t l c s)=true:=by
 unfold zB3;split
 ·split
  ·split
   ·split
    ·split
     ·rw[cond_eq_ite];split<;>rfl
     ·rfl
    ·rfl
   ·rfl
  ·rfl
 ·rfl
theorem zPU (t:TypeId)(x:Option AV)(lo hi mx:Option Operand):isV (zG2 E t fr x lo hi mx s)=true:=by
 unfold zG2;split
 ·split
  ·split
   ·split
    ·split
     ·exact zJX _
     ·split
      ·exact zJX _
      ·rfl
     ·rfl
    ·rfl
   ·rfl
  ·rfl
 ·rfl
theorem zJA (d:TD)(x:Option AV)(i:Nat):isV (zB4 d x i s)=true:=by
 unfold zB4;split
 ·split
  ·split
   ·rfl
   ·rfl
   ·rw[cond_eq_ite];split<;>rfl
   ·rfl
  ·rfl
 ·rfl
theorem zPY (t:TypeId)(x:Option AV)(i:Nat):isV (zH7 E t x i s)=true:=by
 unfold zH7;split
 ·split
  ·split
   ·exact zHG _ _
   ·rfl
  ·rfl
 ·rfl
theorem zI9 (t:TypeId)(x i:Option AV):isV (zCP E t x i s)=true:=by
 unfold zCP;split
 ·split
  ·split
   ·split
    ·split
     ·unfold ixSl;split
      ·rw[cond_eq_ite];split<;>rfl
      ·rfl
     ·unfold zRM;split
      ·rw[cond_eq_ite];split<;>rfl
      ·rfl
     ·rfl
    ·unfold ixArr;rw[cond_eq_ite];split
     ·split
      ·rfl
      ·rw[cond_eq_ite];split<;>rfl
      ·rfl
     ·rfl
    ·rfl
   ·rfl
  ·rfl
 ·rfl
theorem zPV (t:TypeId)(x i:Option AV):isV (zHD E t x i s)=true:=by
 unfold zHD;split
 ·split
  ·split
   ·split
    ·split
     ·split<;>rfl
     ·rfl
    ·split
     ·rw[cond_eq_ite];split
      ·exact zHG _ _
      ·rfl
     ·rfl
    ·rfl
   ·rfl
  ·rfl
 ·rfl
theorem zPX (ti:TI)(ok:Bool)(x:Option (Option AV)):isV (found ti ok s x)=true:=by unfold found;split<;>rfl
theorem zNH (t:TypeId)(x i:Option AV)(ok:Bool):isV (zDT E t x i ok s)=true:=by
 unfold zDT;split
 ·split
  ·rw[cond_eq_ite];split
   ·split
    ·exact zPX ..
    ·split
     ·exact zPX ..
     ·rfl
    ·rfl
   ·rfl
  ·rfl
 ·rfl
theorem zHZ (t:TypeId)(m k x:Option AV):isV (zC9 E t m k x s)=true:=by
 unfold zC9;split
 ·split
  ·split
   ·rw[cond_eq_ite];split
    ·split
     ·split
      ·split
       ·split<;>rfl
       ·rfl
      ·rfl
     ·rfl
    ·rfl
   ·rfl
  ·rfl
 ·rfl
theorem zNI (x:Option AV)(t:TypeId)(ok:Bool):isV (zE3 E x t ok s)=true:=by
 unfold zE3;split
 ·rfl
 ·rfl
 ·split
  ·rw[cond_eq_ite];split
   ·rfl
   ·rw[cond_eq_ite];split<;>rfl
  ·rw[cond_eq_ite];split<;>rfl
  ·rfl
theorem zLV (x:Option AV)(i:Nat):isV (zEA x i s)=true:=by
 unfold zEA;split
 ·exact zHG _ _
 ·rfl
end
end Go.Ab
end
