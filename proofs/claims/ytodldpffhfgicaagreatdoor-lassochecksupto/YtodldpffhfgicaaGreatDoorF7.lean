/- A part. -/
import Derived.Test.YtodldpffhfgicaaGreatDoorF6
import Derived.Laws.Panics
import Derived.Orders
set_option linter.all false
noncomputable section
namespace Go.Ab
open Go
theorem zM5 {s s':Sto}{x v:AV}(h:seal1 s x=some (v,s'))(hl:s.boxes.length=s.n)(j:Nat):liveBox (s'.get j)=liveBox (s.get j)∧s'.boxes.length=s'.n:=by
 unfold seal1 at h
 split at h
 ·rename_i k off len
  split at h
  ·rename_i ty es xs sl hk
   rw[cond_eq_ite] at h
   split at h
   ·dsimp only at h
    cases h
    have hlt:=zEQ hk (by simp)
    refine⟨?_,?_⟩
    ·rw[zLE hl hlt]
     by_cases e:j=k
     ·subst e;rw[if_pos rfl,hk];rfl
     ·rw[if_neg e]
    ·unfold Sto.put;simp only[zKW,List.length_set];exact hl
   ·cases h
  ·cases h
 ·cases h;exact⟨rfl,hl⟩
 ·cases h;exact⟨rfl,hl⟩
theorem sealCs_live:∀{xs vs:List AV} {s s':Sto},zC6 s xs=some (vs,s')→s.boxes.length=s.n→∀j,liveBox (s'.get j)=liveBox (s.get j)∧s'.boxes.length=s'.n:=by
 intro xs
 induction xs with
 | nil=>intro vs s s' h hl j;simp only[zC6] at h;cases h;exact⟨rfl,hl⟩
 | cons x r ih=>
  intro vs s s' h hl j
  simp only[zC6] at h
  split at h
  ·rename_i v s1 h1
   split at h
   ·rename_i r' s2 h2
    cases h
    have a:=zM5 h1 hl j
    have b:=ih h2 a.2 j
    exact⟨b.1.trans a.1,b.2⟩
   ·cases h
  ·cases h
theorem zUE {s s':Sto}{x v:AV}(h:zBC s x=some (v,s'))(hl:s.boxes.length=s.n)(j:Nat):liveBox (s'.get j)=liveBox (s.get j):=by
 unfold zBC at h
 split at h
 ·split at h
  ·rename_i h1;cases h;exact(sealCs_live h1 hl j).1
  ·cases h
 ·split at h
  ·rename_i h1;cases h;exact(sealCs_live h1 hl j).1
  ·cases h
 ·exact(zM5 h hl j).1
section
variable {E:Env}{P:Program}{g:Gh}{base:Nat}{w0:World}{s s':Sto}{w:World}{t:TypeId}
def boxOf:AV→Option Nat
 | .ptr k _=>some k
 | .eptr k _ _=>some k
 | _=>none
theorem boxAt (h:Rel base w0 g s w){k:Nat}(hk:k<s.n):(∀{ty cs},s.get k=.cells ty cs→∃arr,w.heap[g.mu k]?=some (.cells arr ty (0,0))∧cs.length=arr.size):=by
 intro ty cs hb
 have:=h.box k hk
 rw[hb] at this
 obtain⟨arr,h1,h2,_⟩:=this
 exact⟨arr,h1,h2.1⟩
theorem zK3 (hti:TIR E P t (E.types t))(hr:Rel base w0 g s w){a x:AV}{a' x':Value}(h:zGZ s (E.types t) a x=some s')(ha:VR g a a')(hx:VR g x x')(hn:top x≤s.n) :
  ∃k o arr ty,boxOf a=some k∧k<s.n∧a'=.pointer (some ⟨g.mu k,o,none⟩)∧w.heap[g.mu k]?=some (.cells arr ty (0,0))∧o+x'.cells.toList.length≤arr.size∧(∀u∈x'.cells.toList,u.oneCell'=true)∧
   (∀W,(Instr.storeAt t a' x').run P W=(storeCells ⟨g.mu k,o,none⟩ x'.cells.toList).run P W)∧liveBox (s'.get k)=true∧liveBox (s.get k)=true:=by
 unfold zGZ at h
 split at h
 ·rename_i k off
  split at h
  ·rename_i ty cs hb
   rw[cond_eq_ite] at h
   split at h
   ·rename_i hc
    simp only[Bool.and_eq_true,zAH] at hc
    obtain⟨c1,c2,c3⟩:=hc
    have c1:=Nat.eq_of_beq_eq_true c1
    have c2:=Nat.le_of_ble_eq_true c2
    cases h
    have hk:=zEQ hb (by simp)
    obtain⟨arr,h1,h2⟩:=boxAt hr hk hb
    have hxc:=hx.cells
    have hlen:x'.cells.toList.length=(cellsOf x).length:=by rw[Array.length_toList];exact hxc.1.symm
    cases ha
    refine⟨k,off,arr,ty,rfl,hk,rfl,h1,by rw[hlen,c1,← h2];exact c2,zF5 hxc c3,fun W=>?_,?_,?_⟩
    ·have hsz:x'.cells.size=(E.types t).size:=by rw[← hxc.1];exact c1
     simp[Instr.storeAt,Instr.sureAddr,storeVar,hti.sizeOf W,hsz]
    ·rw[zOF,zLE hr.len hk,if_pos rfl];rfl
    ·rw[hb];rfl
   ·cases h
  ·cases h
 ·rename_i k i off
  split at h
  ·rename_i v s1 hse
   obtain⟨g1,hS,hv,hvt,hvl,hvf⟩:=zF0 hr hse hx hn
   split at h
   ·rename_i ty es xs hb
    split at h
    ·rename_i e he
     rw[cond_eq_ite] at h
     split at h
     ·rename_i hc
      simp only[Bool.and_eq_true,zAH] at hc
      obtain⟨c1,c2,c3,c4⟩:=hc
      have c1:=Nat.eq_of_beq_eq_true c1
      have c2:=Nat.le_of_ble_eq_true c2
      cases h
      obtain⟨hk,arr,hh,hes,hges,hrl,hbs,hR,htop,hC⟩:=hS.rel.rowBlock hb
      have hk0:k<s.n:=by rw[← hS.n];exact hk
      have hmu:g1.mu k=g.mu k:=hS.grows.mu k hk0
      have hge:g1.es k=g.es k:=hS.grows.es k hk0
      rw[zE6] at he
      have hxc:=hv.cells
      have hlen:x'.cells.toList.length=(cellsOf v).length:=by rw[Array.length_toList];exact hxc.1.symm
      have hil:i<xs.length:=(List.getElem?_eq_some_iff.1 he).1
      have hwe:=hR.2.1 i e he
      have hbound:i*es+es≤arr.size:=by
       have h1:(i+1)*es≤xs.length*es:=Nat.mul_le_mul_right _ hil
       have h2:=hR.1
       rw[Nat.add_mul,Nat.one_mul] at h1;omega
      cases ha
      rw[hmu] at hh
      refine⟨k,i*g.es k+off,arr,ty,rfl,hk0,rfl,hh,?_,zF5 hxc c3,fun W=>?_,?_,?_⟩
      ·rw[hlen,c1,← hge,hges];omega
      ·have hsz:x'.cells.size=(E.types t).size:=by rw[← hxc.1];exact c1
       simp[Instr.storeAt,Instr.sureAddr,storeVar,hti.sizeOf W,hsz]
      ·rw[zOF,zLE hS.rel.len hk,if_pos rfl];rfl
      ·rw[← zUE hse hr.len k,hb];rfl
     ·cases h
    ·cases h
   ·cases h
  ·cases h
 ·cases h
theorem zQV {t1 t2:TypeId}(h1i:TIR E P t1 (E.types t1))(h2i:TIR E P t2 (E.types t2))(hr:Rel base w0 g s w){a1 x1 a2 x2:AV}{a1' x1' a2' x2':Value}{s1 s2:Sto}
  (h1:zGZ s (E.types t1) a1 x1=some s1) (h2:zGZ s1 (E.types t2) a2 x2=some s2) (ha1:VR g a1 a1') (hx1:VR g x1 x1') (ha2:VR g a2 a2') (hx2:VR g x2 x2')
  (ht1:top x1≤s.n) (hta2:top a2≤s.n) (ht2:top x2≤s.n) (hne:∀k,boxOf a1=some k→boxOf a2≠some k) :
  ∃wX w2 g',(Instr.storeAt t2 a2' x2').run P w=.ok () wX∧(Instr.storeAt t1 a1' x1').run P wX=.ok () w2∧Rel base w0 g' s2 w2∧Grows s.n g g'∧s2.n=s.n:=by
 obtain⟨w1,g1,e1,r1,gr1,n1⟩:=zFY h1i hr h1 ha1 hx1 ht1
 have ha2':=ha2.grows gr1 hta2
 have hx2':=hx2.grows gr1 ht2
 obtain⟨w2,g2,e2,r2,gr2,n2⟩:=zFY h2i r1 h2 ha2' hx2' (by omega)
 obtain⟨k1,o1,arr1,ty1,b1,l1,p1,m1,f1,u1,q1,v1,_⟩:=zK3 h1i hr h1 ha1 hx1 ht1
 obtain⟨k2,o2,arr2,ty2,b2,l2,p2,m2,f2,u2,q2,_,z2⟩:=zK3 h2i r1 h2 ha2' hx2' (by omega)
 have hkn:k1≠k2:=fun e=>hne k1 b1 (by rw[b2,e])
 have hmu1:g1.mu k1=g.mu k1:=gr1.mu k1 l1
 obtain⟨w1',c1,c2,c3,c4,c5,c6,c7⟩:=zBH P (g.mu k1) o1 ty1 x1'.cells.toList 0 w arr1 m1 (by omega) u1
 have hw1:w1'=w1:=by
  have:=e1;rw[q1 w,c1] at this;cases this;rfl
 subst hw1
 obtain⟨w2',d1,d2,d3,d4,d5,d6,d7⟩:=zBH P (g1.mu k2) o2 ty2 x2'.cells.toList 0 w1' arr2 m2 (by omega) u2
 have hw2:w2'=w2:=by
  have:=e2;rw[q2 w1',d1] at this;cases this;rfl
 subst hw2
 have hlive2:liveBox (s1.get k2)=true:=z2
 have hblk:g1.mu k2≠g.mu k1:=by
  rw[← hmu1]
  intro e
  exact hkn (r1.inj k1 k2 (by omega) l2 v1 hlive2 e.symm)
 have m2':w.heap[g1.mu k2]?=some (.cells arr2 ty2 (0,0)):=by rw[← c4 _ hblk];exact m2
 obtain⟨wX,x1e,x2e,x3,x4,x5,x6,x7⟩:=zBH P (g1.mu k2) o2 ty2 x2'.cells.toList 0 w arr2 m2' (by omega) u2
 have m1':wX.heap[g.mu k1]?=some (.cells arr1 ty1 (0,0)):=by rw[x4 _ (fun e=>hblk e.symm)];exact m1
 obtain⟨wY,y1,y2,y3,y4,y5,y6,y7⟩:=zBH P (g.mu k1) o1 ty1 x1'.cells.toList 0 wX arr1 m1' (by omega) u1
 have hheap:wY.heap=w2'.heap:=by
  apply Array.ext_getElem?
  intro j
  by_cases e:j=g.mu k1
  ·subst e
   rw[y3,d4 _ (fun e=>hblk e.symm),c3]
  ·by_cases e2:j=g1.mu k2
   ·subst e2
    rw[y4 _ e,x3,d3]
   ·rw[y4 _ e,x4 _ e2,d4 _ e2,c4 _ e]
 exact⟨wX,wY,g2,by rw[q2 w];exact x1e,by rw[q1 wX];exact y1,r2.same hheap ⟨y6.trans (x6.trans (c6.symm.trans d6.symm)),y7.trans (x7.trans (c7.symm.trans d7.symm))⟩,gr1.trans (gr2.less (by omega)),by omega⟩
end
theorem zRS {E:Env}{P:Program}{t:TypeId}(hti:TIR E P t (E.types t)){x i v:Value}{w w1:World}(h:(Instr.indexAt t x i).run P w=.ok v w1):w1=w∧∀W,(Instr.indexAt t x i).run P W=.ok v W:=by
 obtain⟨d,hu,_⟩:=hti.und
 have hU:∀W,(underlying t).run P W=.ok d W:=fun W=>by simp[underlying,hu]
 have hS:∀(e:TypeId),(∃n,∀W,(sizeOf e).run P W=.ok n W)∨∀W,∃h,(sizeOf e).run P W=.halt h W:=by
  intro e
  cases hi:P.info? e with
  | none => right; intro W; exact ⟨.stuck "no such type", by simp [sizeOf, typeInfo, hi]⟩
  | some ti=>left;exact⟨ti.size,fun W=>by simp[sizeOf,typeInfo,hi]⟩
 have hb:∀{α:Type} (k:IntKind) (x y:Int) (code:BoundsCode) W,∃h W',(boundsPanic k x y code:Sem α).run P W=.halt h W':=by
  intro α k x y code W
  obtain⟨s,w',h⟩:=run_boundsPanic (P:=P) (w:=W) (α:=α) k x y code
  exact⟨_,w',h⟩
 unfold Instr.indexAt at h ⊢
 cases i with
 | int k n=>
  simp only[asIntOf,Sem.run_bind,Sem.run_pure,Result.andThen_ok,hU] at h ⊢
  cases d with
  | slice elem=>
   cases x with
   | slice base len cap=>
    simp only[Sem.run_bind,Sem.run_pure,Result.andThen_ok,hU,Bool.and_false,Bool.false_eq_true,if_false] at h ⊢
    cases base with
    | some a=>
     simp only at h ⊢
     split at h
     ·rename_i hc
      rw[if_pos hc]
      simp only[Sem.run_bind] at h ⊢
      rcases hS elem with⟨m,hm⟩|hm
      ·simp only[hm,Result.andThen_ok,Sem.run_pure] at h ⊢
       cases h
       exact⟨rfl,fun _=>rfl⟩
      ·obtain⟨e,he⟩:=hm w
       rw[he] at h;cases h
     ·obtain⟨e,W',he⟩:=hb (α:=Value) k n len .index w
      rw[he] at h;cases h
    | none=>
     obtain⟨e,W',he⟩:=hb (α:=Value) k n 0 .index w
     simp only[he] at h;cases h
   | _=>simp at h
  | array len elem=>
   cases x with
   | pointer p=>
    cases p with
    | some a=>
     simp only[Instr.sureAddr,Sem.run_bind,Sem.run_pure,Result.andThen_ok,hU,Bool.and_true] at h ⊢
     split at h
     ·rename_i hc
      rw[if_pos hc]
      simp only[Sem.run_bind] at h ⊢
      rcases hS elem with⟨m,hm⟩|hm
      ·simp only[hm,Result.andThen_ok,Sem.run_pure] at h ⊢
       cases h
       exact⟨rfl,fun _=>rfl⟩
      ·obtain⟨e,he⟩:=hm w
       rw[he] at h;cases h
     ·split at h
      ·simp at h
      ·obtain⟨e,W',he⟩:=hb (α:=Value) k n len .index w
       rw[he] at h;cases h
    | none=>simp[Instr.sureAddr] at h
   | _=>simp[Instr.sureAddr] at h
  | _=>simp at h
 | pointer p=>cases p<;>simp[asIntOf] at h
 | _=>simp[asIntOf] at h
def UFact (E:Env)(fid:FuncId)(ops:Array Oper)(fr:Fr)(s:Sto)(done:Nat)(due:List Nat)(j:Nat):Prop:=
 ∃o d,ops[j]?=some o∧o.dst=some d∧hasM done j=true∧isAlloc o.op=false∧
  (zAM ops.toList fr o.guard=false→lget fr.tmps d=Ab.undef)∧
  (j ∉ due→zAM ops.toList fr o.guard=true→∃v,opQ E fid fr o.op s=some v∧(d<fr.tmps.length→lget fr.tmps d=v))∧
  ∀t∈zBJ ops.toList o,∀i q,ops[i]?=some q→q.dst=some t→hasM (nthN (closes ops.toList []) j) i=true∨hasM done i=false
structure DI (E:Env) (P:Program) (r:Rec) (base:Nat) (w0:World) (fid:FuncId) (ops:Array Oper) (g0:Gh) (n0:Nat) (fr0:Fr) (fin:Out×Fr×Sto)
  (S:Nat→Prop) (pend:Nat→Option Nat) (g:Gh) (s:Sto) (w:World) (fr:Fr) (tm:Array Value) (pl:List PStep) (done louds:Nat) (U due:List Nat):Prop where
 rel:Rel base w0 g s w
 ok:g.ok=g0.ok
 Cb:g.Cb=g0.Cb
 grw:Grw n0 g0 g
 n:n0≤s.n
 z0:∀b o,g0.Z b=some o→g.Z b=some o
 fdf:fr.defers=fr0.defers
 frec:fr.rec_=fr0.rec_
 fS:∃frS:Fr,frS.tmps.length=fr.tmps.length∧VRs g frS.tmps tm∧tops frS.tmps≤s.n∧
  ∀t,(∀i o,ops[i]?=some o→o.dst=some t→(S i↔hasM done i=true))→lget frS.tmps t=lget fr.tmps t
 SD:∀i,S i→hasM done i=true∨∃b,pend i=some b
 pnd:∀i b,pend i=some b→S i∧hasM done i=false∧∃o e,ops[i]?=some o∧o.op=.alloc e∧o.guard=none∧(E.types e).ok=true∧
  g.Z b=some (.cells (zc P e) e)∧g0.Z b=none∧base≤b∧∀d u,o.dst=some d→tm[d]?=some u→u=.pointer (some ⟨b,0,none⟩)
 pinj:∀i j b,pend i=some b→pend j=some b→i=j
 dU:∀i,hasM done i=true→S i∨i∈U
 Ud:∀j∈U,hasM done j=true
 uf:∀j∈U,¬ S j→UFact E fid ops fr s done due j
 pre:∀i,hasM done i=true→∀x,hasM (nthN (closes ops.toList []) i) x=true→hasM done x=true
 ld:∀i,hasM louds i=true→S i
 clo:Closed ops.toList S
 st:zB2 ops.toList (closes ops.toList []) pl done louds U due=true
 run:runP r E fid ops.toList pl fr s=some fin
section
variable {E:Env}{P:Program}{OK:FuncId→Code→Prop}{r:Rec}{base:Nat}{w0:World}{fid:FuncId}{ops:Array Oper}{g0:Gh}{n0:Nat}{fr0:Fr}{fin:Out×Fr×Sto}
 {S:Nat→Prop} {pend:Nat→Option Nat} {g:Gh} {s:Sto} {w:World} {fr:Fr} {tm:Array Value} {pl:List PStep} {done louds:Nat} {U due:List Nat}
theorem nthT {i:Nat}{o:Oper}(h:zB7 ops.toList i=some o):ops[i]?=some o:=by rw[zDC,Array.getElem?_toList] at h;exact h
theorem zUX {i:Nat}{o:Oper}(h:ops[i]?=some o):zB7 ops.toList i=some o:=by rw[zDC,Array.getElem?_toList];exact h
theorem zOQ (hO:OpsOk ops){i j:Nat}{o p:Oper}{t:Tmp}(hi:ops[i]?=some o)(hj:ops[j]?=some p)(h1:o.dst=some t)(h2:p.dst=some t):i=j:=
 dst_inj hO.nodup (by rw[Array.getElem?_toList];exact hi) (by rw[Array.getElem?_toList];exact hj) h1 h2
theorem UFact.put (hO:OpsOk ops){j i:Nat}{q:Oper}{x:AV}{s1:Sto}{due1:List Nat}(h:UFact E fid ops fr s done due j)(hq:ops[i]?=some q)(hne:i≠j)
  (hnr:∀o,ops[j]?=some o→∀t,q.dst=some t→t ∉ zBJ ops.toList o)
  (hs:∀o,ops[j]?=some o→j ∉ due1→(s1=s∧j ∉ due)∨(indep o.op=true∧j ∉ due)):UFact E fid ops (fr.put q.dst x) s1 (orM done (zC2 i)) due1 j:=by
 obtain⟨o,d,h1,h2,h3,h3',h4,h5,h6⟩:=h
 have hdd:q.dst≠some d:=fun e=>hne (zOQ hO hq h1 e h2)
 have hlg:lget (fr.put q.dst x).tmps d=lget fr.tmps d:=zEB hdd
 have hrd:∀t∈zBJ ops.toList o,lget (fr.put q.dst x).tmps t=lget fr.tmps t:=fun t ht=>zEB fun e=>hnr o h1 t e ht
 have hw:zAM ops.toList (fr.put q.dst x) o.guard=zAM ops.toList fr o.guard:=zET fun t ht=>hrd t (by unfold zBJ;exact List.mem_append_left _ ht)
 have hop:opQ E fid (fr.put q.dst x) o.op s=opQ E fid fr o.op s:=zI0 (zF8 fun t ht=>hrd t (by unfold zBJ;exact List.mem_append_right _ ht))
 refine⟨o,d,h1,h2,by rw[zAO,h3];rfl,h3',fun hh=>by rw[hlg];exact h4 (by rw[← hw];exact hh),fun hd hh=>?_,fun t ht i' q' hi' hq'=>?_⟩
 ·rw[hw] at hh
  rw[hlg,zDR]
  rcases hs o h1 hd with⟨e,e2⟩|⟨e,e2⟩
  ·subst e;rw[hop];exact h5 e2 hh
  ·rw[zXL (s':=s) e,hop];exact h5 e2 hh
 ·rcases h6 t ht i' q' hi' hq' with hh|hh
  ·exact .inl hh
  ·right
   rw[zAO,hh,zAT,Bool.false_or]
   refine decide_eq_false fun e=>?_
   subst e
   rw[hq] at hi';cases hi'
   exact hnr o h1 t hq' ht
theorem DI.q (hO:OpsOk ops){i:Nat}{rest:List PStep}(h:DI E P r base w0 fid ops g0 n0 fr0 fin S pend g s w fr tm (.q i :: rest) done louds U due)(hdue:i ∉ due) :
  ∃fr',DI E P r base w0 fid ops g0 n0 fr0 fin S pend g s w fr' tm rest (orM done (zC2 i)) louds (i :: U) due:=by
 have hst:=h.st
 have hrun:=h.run
 simp only[zB2] at hst
 simp only[runP] at hrun
 split at hst
 ·rename_i o ho
  have ho':=nthT ho
  simp only[cond_eq_ite] at hst
  split at hst
  ·cases hst
  ·rename_i hnd
   have hnd:hasM done i=false:=by simpa using hnd
   split at hst
   ·cases hst
   rename_i halloc
   have halloc:isAlloc o.op=false:=by simpa using halloc
   split at hst
   ·rename_i hpd
    split at hst
    ·rename_i hlp
     split at hst
     ·rename_i d hd
      split at hst
      ·rename_i hnr
       rw[ho] at hrun
       simp only[cond_eq_ite] at hrun
       have hval:∃x,runP r E fid ops.toList rest (fr.put o.dst x) s=some fin∧(zAM ops.toList fr o.guard=false→x=Ab.undef)∧(zAM ops.toList fr o.guard=true→opQ E fid fr o.op s=some x):=by
        split at hrun
        ·rename_i hw
         split at hrun
         ·rename_i v hv;exact⟨v,hrun,fun e=>(by rw[hw] at e;cases e),fun _=>hv⟩
         ·cases hrun
        ·rename_i hw;exact⟨Ab.undef,hrun,fun _=>rfl,fun e=>absurd e hw⟩
       obtain⟨x,hrun1,hx0,hx1⟩:=hval
       have hnS:¬ S i:=by
        intro hS
        rcases h.SD i hS with e|⟨b,e⟩
        ·rw[hnd] at e;cases e
        ·obtain⟨_,_,o',e',h1,h2,_⟩:=h.pnd i b e
         rw[ho'] at h1;cases h1
         rw[h2] at halloc;cases halloc
       have hown:d ∉ zBJ ops.toList o:=by
        intro hm
        rcases hO.uses i o ho' d hm i o ho' hd with e|e<;>exact absurd (zEZ hpd e) (by rw[hnd];simp)
       refine⟨fr.put o.dst x,h.rel,h.ok,h.Cb,h.grw,h.n,h.z0,by rw[zJR];exact h.fdf,by rw[zFO];exact h.frec,?_,?_,?_,h.pinj,?_,?_,?_,?_,h.ld,h.clo,hst,hrun1⟩
       ·obtain⟨frS,f1,f2,f3,f4⟩:=h.fS
        refine⟨frS,by rw[zDR];exact f1,f2,f3,fun t ht=>?_⟩
        by_cases e:o.dst=some t
        ·exfalso
         have:=(ht i o ho' e).2 (by rw[zAO,zAT];simp)
         exact hnS this
        ·rw[zEB e]
         refine f4 t fun i' q hi' hq=>?_
         have hne:i≠i':=fun e2=>by subst e2;rw[ho'] at hi';cases hi';exact e hq
         have:=ht i' q hi' hq
         rw[zAO,zAT,decide_eq_false hne,Bool.or_false] at this
         exact this
       ·intro i' hS
        rcases h.SD i' hS with e|e
        ·exact .inl (by rw[zAO,e];rfl)
        ·exact .inr e
       ·intro i' b hb
        obtain⟨p1,p2,p3⟩:=h.pnd i' b hb
        refine⟨p1,?_,p3⟩
        rw[zAO,p2,zAT,Bool.false_or]
        exact decide_eq_false fun e=>hnS (by rw[e];exact p1)
       ·intro i' hi'
        rw[zAO,zAT,Bool.or_eq_true] at hi'
        rcases hi' with e|e
        ·rcases h.dU i' e with e2|e2
         ·exact .inl e2
         ·exact .inr (.tail _ e2)
        ·have:=of_decide_eq_true e;subst this;exact .inr (.head _)
       ·intro j hj
        rw[zAO,zAT,Bool.or_eq_true]
        cases hj with
        | head=>exact .inr (by simp)
        | tail _ hj=>exact .inl (h.Ud j hj)
       ·intro j hj hjS
        by_cases e:j=i
        ·subst e
         have hrd:∀t∈zBJ ops.toList o,lget (fr.put o.dst x).tmps t=lget fr.tmps t:=fun t ht=>zEB fun e2=>by rw[hd] at e2;cases e2;exact hown ht
         have hw:zAM ops.toList (fr.put o.dst x) o.guard=zAM ops.toList fr o.guard:=zET fun t ht=>hrd t (by unfold zBJ;exact List.mem_append_left _ ht)
         have hop:opQ E fid (fr.put o.dst x) o.op s=opQ E fid fr o.op s:=zI0 (zF8 fun t ht=>hrd t (by unfold zBJ;exact List.mem_append_right _ ht))
         have hself:d<fr.tmps.length→lget (fr.put o.dst x).tmps d=x:=fun hlt=>by
          rw[hd];show lget (lset x fr.tmps d) d=x;rw[zE7,if_pos ⟨rfl,hlt⟩]
         refine⟨o,d,ho',hd,by rw[zAO,zAT];simp,halloc,fun hh=>?_,fun _ hh=>⟨x,?_,by rw[zDR];exact hself⟩,fun t ht i' q hi' hq=>?_⟩
         ·rw[hw] at hh
          by_cases hlt:d<fr.tmps.length
          ·rw[hself hlt];exact hx0 hh
          ·rw[zCJ,List.getD_eq_getElem?_getD,List.getElem?_eq_none (by rw[zDR];exact Nat.le_of_not_lt hlt)];rfl
         ·rw[hop];exact hx1 (by rw[← hw];exact hh)
         ·rcases hO.uses j o ho' t ht i' q hi' hq with e1|e1
          ·exact .inl e1
          ·right
           rw[zAO,zAT]
           have hne:j≠i':=fun e2=>by subst e2;rw[ho'] at hi';cases hi';rw[hd] at hq;cases hq;exact hown ht
           rw[decide_eq_false hne,Bool.or_false]
           cases hdi:hasM done i' with
           | false=>rfl
           | true=>
            have:=h.pre i' hdi j e1
            rw[hnd] at this;cases this
        ·have hjU:j∈U:=by
          cases hj with
          | head=>exact absurd rfl e
          | tail _ hj=>exact hj
         refine(h.uf j hjU hjS).put hO ho' (fun e2=>e e2.symm) (fun oj hoj t ht=>?_) (fun oj hoj hjd=>.inl ⟨rfl,hjd⟩)
         rw[hd] at ht;cases ht
         exact zIG hnr j hjU oj (by rw[Array.getElem?_toList];exact hoj)
       ·intro i' hi' y hy
        rw[zAO,Bool.or_eq_true]
        rw[zAO,zAT,Bool.or_eq_true] at hi'
        rcases hi' with e|e
        ·exact .inl (h.pre i' e y hy)
        ·have:=of_decide_eq_true e;subst this;exact .inl (zEZ hpd hy)
      ·cases hst
     ·cases hst
    ·cases hst
   ·cases hst
 ·cases hst
theorem DI.chk {i:Nat}{rest:List PStep}(h:DI E P r base w0 fid ops g0 n0 fr0 fin S pend g s w fr tm (.chk i :: rest) done louds U due) :
  DI E P r base w0 fid ops g0 n0 fr0 fin S pend g s w fr tm rest done louds U (zKF i due):=by
 have hst:=h.st
 have hrun:=h.run
 simp only[zB2] at hst
 simp only[runP] at hrun
 split at hrun
 ·rename_i o ho
  have ho':=nthT ho
  have hval:runP r E fid ops.toList rest fr s=some fin∧(zAM ops.toList fr o.guard=true→∃d,o.dst=some d∧opQ E fid fr o.op s=some (lget fr.tmps d)):=by
   rw[cond_eq_ite] at hrun
   split at hrun
   ·split at hrun
    ·rename_i d hd
     split at hrun
     ·rename_i v hv
      rw[cond_eq_ite] at hrun
      split at hrun
      ·rename_i hb
       have:=zJJ hb
       exact⟨hrun,fun _=>⟨d,hd,by rw[hv,this]⟩⟩
      ·cases hrun
     ·cases hrun
    ·cases hrun
   ·rename_i hw;exact⟨hrun,fun e=>absurd e hw⟩
  obtain⟨hrun1,hx⟩:=hval
  refine⟨h.rel,h.ok,h.Cb,h.grw,h.n,h.z0,h.fdf,h.frec,h.fS,h.SD,h.pnd,h.pinj,h.dU,h.Ud,fun j hj hjS=>?_,h.pre,h.ld,h.clo,hst,hrun1⟩
  obtain⟨oj,d,h1,h2,h3,h3',h4,h5,h6⟩:=h.uf j hj hjS
  refine⟨oj,d,h1,h2,h3,h3',h4,fun hd hw=>?_,h6⟩
  by_cases e:j=i
  ·subst e
   rw[ho'] at h1;cases h1
   obtain⟨d',e1,e2⟩:=hx hw
   rw[h2] at e1;cases e1
   exact⟨_,e2,fun _=>rfl⟩
  ·exact h5 (fun hm=>hd ((zNF e).2 hm)) hw
 ·cases hrun
theorem zIH {i:Nat}{rest:List PStep}(h:zB2 ops.toList (closes ops.toList []) (.l i :: rest) done louds U due=true):∃o,ops[i]?=some o∧hasM done i=false∧due=[]∧
  subM (nthN (closes ops.toList []) i) done=true∧loudOk o.op=true∧(isAlloc o.op=true→o.guard=none∧nthN (closes ops.toList []) i=0)∧
  (isAlloc o.op=false→subM louds (nthN (closes ops.toList []) i)=true)∧zLL ops.toList o.dst (zFU (nthN (closes ops.toList []) i) U)=true∧
  zB2 ops.toList (closes ops.toList []) rest (orM done (zC2 i)) (orM louds (zC2 i)) (zFU (nthN (closes ops.toList []) i) U) (dueU ops.toList (zFU (nthN (closes ops.toList []) i) U))=true:=by
 simp only[zB2] at h
 split at h
 ·rename_i o ho
  have ho':=nthT ho
  simp only[cond_eq_ite] at h
  split at h
  ·cases h
  ·rename_i hnd
   split at h
   ·rename_i hdue
    split at h
    ·rename_i hpd
     split at h
     ·rename_i hlo
      split at h
      ·rename_i hal
       split at h
       ·rename_i hg
        split at h
        ·rename_i hp0
         have hp0:=Nat.eq_of_beq_eq_true hp0
         split at h
         ·rename_i hnr
          refine⟨o,ho',by simpa using hnd,zJB hdue,hpd,hlo,fun _=>⟨hg,hp0⟩,fun e=>(by rw[hal] at e;cases e),?_,?_⟩
          ·rw[hp0,keepU_zero];exact hnr
          ·rw[hp0,keepU_zero];exact h
         ·cases h
        ·cases h
       ·cases h
      ·rename_i hal
       split at h
       ·rename_i hlp
        split at h
        ·rename_i hnr
         exact⟨o,ho',by simpa using hnd,zJB hdue,hpd,hlo,fun e=>absurd e hal,fun _=>hlp,hnr,h⟩
        ·cases h
       ·cases h
     ·cases h
    ·cases h
   ·cases h
 ·cases h
theorem zV2 (hO:OpsOk ops){i:Nat}{q:Oper}{x:AV}{s1:Sto}{S1:Nat→Prop}(hq:ops[i]?=some q)(hnd:hasM done i=false)(hdue:due=[])
  (huf:∀j∈U,¬ S j→UFact E fid ops fr s done due j) (hS:∀j,S j→S1 j) (hnr:zLL ops.toList q.dst (zFU (nthN (closes ops.toList []) i) U)=true) :
  ∀j∈zFU (nthN (closes ops.toList []) i) U,¬ S1 j→UFact E fid ops (fr.put q.dst x) s1 (orM done (zC2 i)) (dueU ops.toList (zFU (nthN (closes ops.toList []) i) U)) j:=by
 intro j hj hjS
 have hjU:=(zDA.1 hj).1
 have hu:=huf j hjU (fun e=>hjS (hS j e))
 have hne:i≠j:=by
  rintro rfl
  obtain⟨_,_,_,_,h3,_⟩:=hu
  rw[hnd] at h3;cases h3
 refine hu.put hO hq hne (fun o ho t ht=>zPL hnr j hj o (by rw[Array.getElem?_toList];exact ho) t ht) (fun o ho hd=>.inr ⟨?_,by rw[hdue];simp⟩)
 exact not_dueU (by rw[Array.getElem?_toList];exact ho) hj hd
theorem DI.attach (hE:TysOk E P)(hO:OpsOk ops){i:Nat}{rest:List PStep}(h:DI E P r base w0 fid ops g0 n0 fr0 fin S pend g s w fr tm (.l i :: rest) done louds U due)(hSi:S i) :
  ∃g' s' fr' pend',DI E P r base w0 fid ops g0 n0 fr0 fin S pend' g' s' w fr' tm rest (orM done (zC2 i)) (orM louds (zC2 i)) (zFU (nthN (closes ops.toList []) i) U) (dueU ops.toList (zFU (nthN (closes ops.toList []) i) U)):=by
 obtain⟨o,ho,hnd,hdue,hpd,hlo,hal,_,hnr,hst⟩:=zIH h.st
 have hrun:=h.run
 rcases h.SD i hSi with e|⟨b,hb⟩
 ·rw[hnd] at e;cases e
 obtain⟨_,_,o',e,p1,p2,p3,p4,p5,p6,p7,p8⟩:=h.pnd i b hb
 rw[ho] at p1;cases p1
 have hp0:=(hal (by rw[p2];rfl)).2
 obtain⟨hcv,hct⟩:=zSK (hE.ti e p4) g
 have hrel:=h.rel.attach p5 p7 hcv (by rw[hct];exact Nat.zero_le _)
 simp only[runP,zUX ho,p3,zAM,cond_true,p2,opA,zBN] at hrun
 have hkeep:∀j∈zFU (nthN (closes ops.toList []) i) U,j∈U:=fun j hj=>(zDA.1 hj).1
 have hgr:Grw s.n g { g.with s.n b 0 0 0 with Z:=fun b'=>if b'=b then none else g.Z b' }:=by
  have:=(Gh.with_grows g s.n b 0 0 0).grw
  exact this.trans (Grw.reZ _ _ _)
 have hmu:({ g.with s.n b 0 0 0 with Z:=fun b'=>if b'=b then none else g.Z b' }:Gh).mu s.n=b:=zBS g s.n b 0 0 0
 have hptr:VR { g.with s.n b 0 0 0 with Z:=fun b'=>if b'=b then none else g.Z b' } (.ptr s.n 0) (.pointer (some ⟨b,0,none⟩)):=by
  have:=VR.ptr (g:={ g.with s.n b 0 0 0 with Z:=fun b'=>if b'=b then none else g.Z b' }) s.n 0
  rwa [hmu] at this
 refine⟨_,s.alloc (.cells e (cellsOf (zAK (E.types e)))),fr.put o.dst (.ptr s.n 0),fun j=>if j=i then none else pend j,hrel,h.ok,h.Cb,h.grw.trans (hgr.less h.n),by rw[zB8];have:=h.n;omega,?_,by rw[zJR];exact h.fdf,by rw[zFO];exact h.frec,?_,?_,?_,?_,?_,?_,?_,?_,?_,h.clo,hst,hrun⟩
 ·intro b' o' hz
  have hne:b'≠b:=fun e2=>by subst e2;rw[p6] at hz;cases hz
  show(if b'=b then none else g.Z b')=some o'
  rw[if_neg hne];exact h.z0 b' o' hz
 ·obtain⟨frS,f1,f2,f3,f4⟩:=h.fS
  refine⟨frS.put o.dst (.ptr s.n 0),by rw[zDR,zDR];exact f1,?_,?_,fun t ht=>?_⟩
  ·cases hd:o.dst with
   | none=>exact f2.grw hgr f3
   | some d=>
    have f2':=f2.grw hgr f3
    refine⟨by rw[zDR];exact f2.1,fun t y u hy hu=>?_⟩
    have hy:(lset (.ptr s.n 0) frS.tmps d)[t]?=some y:=hy
    rw[zGN] at hy
    split at hy
    ·rename_i hc
     cases hy
     rw[← hc.1] at hu
     rw[p8 d u hd hu]
     exact hptr
    ·exact f2'.2 t y u hy hu
  ·cases hd:o.dst with
   | none=>rw[zB8];exact Nat.le_succ_of_le f3
   | some d=>
    show tops (lset _ frS.tmps d)≤_
    rw[zFR,zB8]
    exact zKP (Nat.le_succ_of_le f3) (Nat.le_refl _)
  ·by_cases e2:o.dst=some t
   ·rw[e2]
    show lget (lset _ frS.tmps t) t=lget (lset _ fr.tmps t) t
    rw[zE7,zE7,f1]
    by_cases hlt:t<fr.tmps.length
    ·rw[if_pos ⟨rfl,hlt⟩,if_pos ⟨rfl,hlt⟩]
    ·rw[if_neg (fun hh=>hlt hh.2),if_neg (fun hh=>hlt hh.2),zCJ,zCJ,List.getD_eq_getElem?_getD,List.getD_eq_getElem?_getD,List.getElem?_eq_none (by rw[f1];exact Nat.le_of_not_lt hlt),List.getElem?_eq_none (Nat.le_of_not_lt hlt)]
   ·rw[zEB e2,zEB e2]
    refine f4 t fun i' q hi' hq=>?_
    have hne:i≠i':=fun e3=>by subst e3;rw[ho] at hi';cases hi';exact e2 hq
    have:=ht i' q hi' hq
    rw[zAO,zAT,decide_eq_false hne,Bool.or_false] at this
    exact this
 ·intro i' hS
  by_cases e2:i'=i
  ·subst e2;exact .inl (by rw[zAO,zAT];simp)
  ·rcases h.SD i' hS with e3|⟨b',e3⟩
   ·exact .inl (by rw[zAO,e3];rfl)
   ·exact .inr ⟨b',by simp only[if_neg e2];exact e3⟩
 ·intro i' b' hb'
  by_cases e2:i'=i
  ·simp only[if_pos e2] at hb';cases hb'
  ·simp only[if_neg e2] at hb'
   obtain⟨q1,q2,q3,q4,q5,q6,q7,q8,q9,q10,q11⟩:=h.pnd i' b' hb'
   have hne:b'≠b:=fun e3=>e2 (h.pinj i' i b (by rw[← e3];exact hb') hb)
   refine⟨q1,?_,q3,q4,q5,q6,q7,q8,?_,q10,q11⟩
   ·rw[zAO,q2,zAT,Bool.false_or];exact decide_eq_false fun e3=>e2 e3.symm
   ·show(if b'=b then none else g.Z b')=_
    rw[if_neg hne];exact q9
 ·intro i' j' b' h1 h2
  by_cases e1:i'=i
  ·simp only[if_pos e1] at h1;cases h1
  ·by_cases e2:j'=i
   ·simp only[if_pos e2] at h2;cases h2
   ·simp only[if_neg e1] at h1;simp only[if_neg e2] at h2
    exact h.pinj i' j' b' h1 h2
 ·intro i' hi'
  rw[zAO,zAT,Bool.or_eq_true] at hi'
  rcases hi' with e2|e2
  ·rcases h.dU i' e2 with e3|e3
   ·exact .inl e3
   ·exact .inr (zDA.2 ⟨e3,by rw[hp0,zE8]⟩)
  ·have:=of_decide_eq_true e2;subst this;exact .inl hSi
 ·intro j hj;rw[zAO,h.Ud j (zDA.1 hj).1];rfl
 ·exact zV2 hO ho hnd hdue h.uf (fun _ e=>e) hnr
 ·intro i' hi' y hy
  rw[zAO,Bool.or_eq_true]
  rw[zAO,zAT,Bool.or_eq_true] at hi'
  rcases hi' with e2|e2
  ·exact .inl (h.pre i' e2 y hy)
  ·have:=of_decide_eq_true e2;subst this;exact .inl (zEZ hpd hy)
 ·intro i' hi'
  rw[zAO,zAT,Bool.or_eq_true] at hi'
  rcases hi' with e2|e2
  ·exact h.ld i' e2
  ·have:=of_decide_eq_true e2;subst this;exact hSi
theorem zTC {ops:List Oper}{j:Nat}:∀{l:List Nat},j∈dueU ops l→j∈l:=by
 intro l
 induction l with
 | nil=>intro h;cases h
 | cons a r ih=>
  intro h
  simp only[dueU] at h
  split at h
  ·rw[cond_eq_ite] at h
   split at h
   ·exact .tail _ (ih h)
   ·cases h with
    | head=>exact .head _
    | tail _ h=>exact .tail _ (ih h)
  ·cases h with
   | head=>exact .head _
   | tail _ h=>exact .tail _ (ih h)
theorem zB0 {i:Nat}(h:zDK ops.toList i=true):∃o t a x,ops[i]?=some o∧o.op=.store t a x∧o.dst=none∧o.guard=none:=by
 unfold zDK at h
 split at h
 ·rename_i o ho
  split at h
  ·rename_i t a x hop
   split at h
   ·rename_i hd
    split at h
    ·rename_i hg
     exact⟨o,t,a,x,nthT ho,hop,hd,hg⟩
    ·cases h
   ·cases h
  ·cases h
 ·cases h
theorem zOP {i j:Nat}:∀{l:List Edge},zJE i j l=true→∀e∈l,zCF e=true→e.on≠i∧e.on≠j:=by
 intro l
 induction l with
 | nil=>intro _ e he;cases he
 | cons a r ih=>
  intro h e he hb
  simp only[zJE,cond_eq_ite] at h
  cases he with
  | head=>
   rw[if_pos hb] at h
   split at h
   ·cases h
   ·rename_i hn
    rw[Bool.or_eq_true,not_or] at hn
    exact⟨fun e2=>hn.1 (by rw[e2];exact Nat.beq_refl _),fun e2=>hn.2 (by rw[e2];exact Nat.beq_refl _)⟩
  | tail _ he=>
   split at h
   ·split at h
    ·cases h
    ·exact ih h e he hb
   ·exact ih h e he hb
theorem zKA {i j q:Nat}(h:zLG ops.toList i j q=true):∃o t a x d,ops[q]?=some o∧o.op=.indexAddr t a x∧o.dst=some d∧o.guard=none∧zLM ops.toList d [j]=true∧∀e∈o.after.toList,zCF e=true→e.on≠i∧e.on≠j:=by
 unfold zLG at h
 split at h
 ·rename_i o ho
  split at h
  ·rename_i t a x hop
   split at h
   ·rename_i d hd
    split at h
    ·rename_i hg
     rw[cond_eq_ite] at h
     split at h
     ·rename_i hn
      exact⟨o,t,a,x,d,nthT ho,hop,hd,hg,hn,zOP h⟩
     ·cases h
    ·cases h
   ·cases h
  ·cases h
 ·cases h
theorem zGX {a b:Nat}{rest:List PStep}(h:zB2 ops.toList (closes ops.toList []) (.apart a b :: rest) done louds U due=true) :
  rest=[.l a,.l b]∧due=[]∧hasM done a=false∧hasM done b=false∧a≠b∧zDK ops.toList a=true∧zDK ops.toList b=true∧
  (∀x,x<ops.size→x≠a→x≠b→hasM done x=true∧hasM (nthN (closes ops.toList []) a) x=true)∧(∀x,hasM done x=true→x<ops.size)∧
  ((∀x,x<ops.size→x≠a→x≠b→hasM (nthN (closes ops.toList []) b) x=true)∨
   ∃q,q∈U∧zLG ops.toList a b q=true∧hasM (nthN (closes ops.toList []) a) q=true∧∀x,x<ops.size→x≠a→x≠b→x≠q→hasM (nthN (closes ops.toList []) b) x=true):=by
 have hlen:llen ops.toList=ops.size:=by rw[zAH,Array.length_toList]
 have key:∀{m:Nat},Nat.beq (orM m (orM (zC2 a) (zC2 b))) (Nat.pow 2 (llen ops.toList)-1)=true→∀x,(hasM m x=true∨x=a∨x=b↔x<ops.size):=by
  intro m hm x
  have hd:=Nat.eq_of_beq_eq_true hm
  rw[hlen] at hd
  have h2:(Nat.pow 2 ops.size-1).testBit x=decide (x<ops.size):=Nat.testBit_two_pow_sub_one _ _
  have h3:hasM (orM m (orM (zC2 a) (zC2 b))) x=decide (x<ops.size):=by rw[hd,zE9,h2]
  rw[zAO,zAO,zAT,zAT] at h3
  constructor
  ·intro hh
   apply of_decide_eq_true
   rw[← h3]
   rcases hh with hh|hh|hh
   ·rw[hh];rfl
   ·subst hh;simp
   ·subst hh;simp
  ·intro hlt
   rw[decide_eq_true hlt] at h3
   simp only[Bool.or_eq_true,decide_eq_true_eq] at h3
   rcases h3 with hh|hh|hh
   ·exact .inl hh
   ·exact .inr (.inl hh.symm)
   ·exact .inr (.inr hh.symm)
 simp only[zB2] at h
 split at h
 ·rename_i i' j'
  rw[cond_eq_ite] at h
  split at h
  ·rename_i hc
   simp only[Bool.and_eq_true,Bool.not_eq_true',Bool.or_eq_true] at hc
   obtain⟨c1,c2,c3,c4,c5,c6,c7,c8,c9,c10,c11⟩:=hc
   have c1:=Nat.eq_of_beq_eq_true c1
   have c2:=Nat.eq_of_beq_eq_true c2
   subst c1;subst c2
   refine⟨rfl,zJB c3,c4,c5,fun e=>?_,c7,c8,fun x hx h1 h2=>⟨?_,?_⟩,fun x hx=>(key c9 x).1 (.inl hx),?_⟩
   ·subst e;rw[Nat.beq_refl] at c6;cases c6
   ·exact((key c9 x).2 hx).resolve_right (fun e=>e.elim h1 h2)
   ·exact((key c10 x).2 hx).resolve_right (fun e=>e.elim h1 h2)
   ·rcases c11 with c11|c11
    ·exact .inl fun x hx h1 h2=>((key c11 x).2 hx).resolve_right (fun e=>e.elim h1 h2)
    ·right
     unfold apartQ at c11
     split at c11
     ·cases c11
     ·rename_i q U'
      simp only[Bool.and_eq_true] at c11
      obtain⟨d1,d2,d3⟩:=c11
      refine⟨q,by simp,d1,d2,fun x hx h1 h2 h4=>?_⟩
      have hd:=Nat.eq_of_beq_eq_true d3
      rw[hlen] at hd
      have h2':(Nat.pow 2 ops.size-1).testBit x=decide (x<ops.size):=Nat.testBit_two_pow_sub_one _ _
      have h3:hasM (orM (nthN (closes ops.toList []) b) (orM (zC2 q) (orM (zC2 a) (zC2 b)))) x=decide (x<ops.size):=by rw[hd,zE9,h2']
      rw[zAO,zAO,zAO,zAT,zAT,zAT,decide_eq_true hx] at h3
      simp only[Bool.or_eq_true,decide_eq_true_eq] at h3
      rcases h3 with hh|hh|hh|hh
      ·exact hh
      ·exact absurd hh.symm h4
      ·exact absurd hh.symm h1
      ·exact absurd hh.symm h2
  ·cases h
 ·cases h
theorem DI.advance (hE:TysOk E P)(hO:OpsOk ops):∀{pl:List PStep} {pend:Nat→Option Nat} {g:Gh} {s:Sto} {fr:Fr} {done louds:Nat} {U due:List Nat},
  DI E P r base w0 fid ops g0 n0 fr0 fin S pend g s w fr tm pl done louds U due→(∀i,hasM done i=false→i ∉ due)→
  ∃pend' g' s' fr' pl' done' louds' U',DI E P r base w0 fid ops g0 n0 fr0 fin S pend' g' s' w fr' tm pl' done' louds' U' []∧(pl'=[]∨(∃i rest,pl'=.l i :: rest∧¬ S i)∨∃a b rest,pl'=.apart a b :: rest):=by
 intro pl
 induction pl with
 | nil=>
  intro pend g s fr done louds U due h _
  have hst:=h.st
  simp only[zB2,cond_eq_ite] at hst
  split at hst
  ·rename_i hd
   have:=zJB hd
   subst this
   exact⟨pend,g,s,fr,[],done,louds,U,h,.inl rfl⟩
  ·cases hst
 | cons st rest ih=>
  intro pend g s fr done louds U due h hdd
  cases st with
  | q i=>
   have hst:=h.st
   have hnd:hasM done i=false:=by
    simp only[zB2] at hst
    split at hst
    ·simp only[cond_eq_ite] at hst
     split at hst
     ·cases hst
     ·rename_i hh;simpa using hh
    ·cases hst
   obtain⟨fr',h'⟩:=h.q hO (hdd i hnd)
   refine ih h' fun j hj=>hdd j ?_
   rw[zAO,Bool.or_eq_false_iff] at hj
   exact hj.1
  | chk i=>
   refine ih h.chk fun j hj hm=>?_
   by_cases e:j=i
   ·subst e
    have:∀{l:List Nat} {t:Nat},t∈zKF t l→t∈l:=by
     intro l t
     induction l with
     | nil=>intro h;cases h
     | cons a r ih2=>
      intro h
      simp only[zKF,cond_eq_ite] at h
      split at h
      ·exact .tail _ h
      ·cases h with
       | head=>exact .head _
       | tail _ h=>exact .tail _ (ih2 h)
    exact hdd j hj (this hm)
   ·exact hdd j hj ((zNF e).1 hm)
  | l i=>
   by_cases hS:S i
   ·obtain⟨g',s',fr',pend',h'⟩:=h.attach hE hO hS
    refine ih h' fun j hj hm=>?_
    rw[zAO,Bool.or_eq_false_iff] at hj
    have:=h.Ud j (zDA.1 (zTC hm)).1
    rw[hj.1] at this;cases this
   ·have hd:=(zIH h.st).choose_spec.2.2.1
    subst hd
    exact⟨pend,g,s,fr,_,done,louds,U,h,.inr (.inl ⟨i,rest,rfl,hS⟩)⟩
  | apart i j=>
   have hd:=(zGX h.st).2.1
   subst hd
   exact⟨pend,g,s,fr,_,done,louds,U,h,.inr (.inr ⟨i,j,rest,rfl⟩)⟩
end
section
variable {E:Env}{P:Program}{OK:FuncId→Code→Prop}{r:Rec}{base:Nat}{w0:World}{fid:FuncId}{ops:Array Oper}{g0:Gh}{n0:Nat}{fr0:Fr}{fin:Out×Fr×Sto}
 {S:Nat→Prop} {pend:Nat→Option Nat} {g:Gh} {s:Sto} {w:World} {fr:Fr} {tm:Array Value} {pl:List PStep} {done louds:Nat} {U:List Nat}
theorem Closed.add {i:Nat}{o:Oper}(h:Closed ops.toList S)(ho:ops[i]?=some o)(he:∀e∈o.after.toList,zCF e=true→S e.on):Closed ops.toList (fun x=>S x∨x=i):=by
 intro j p hj hS e hem hb
 rcases hS with hS|rfl
 ·exact .inl (h j p hj hS e hem hb)
 ·rw[Array.getElem?_toList,ho] at hj;cases hj
  exact .inl (he e hem hb)
theorem DI.reads (hO:OpsOk ops)(h:DI E P r base w0 fid ops g0 n0 fr0 fin S pend g s w fr tm pl done louds U []){j:Nat}{o:Oper}(ho:ops[j]?=some o)(hnS:¬ S j)
  (he:∀e∈o.after.toList,zCF e=true→S e.on) (hpd:∀x,hasM (nthN (closes ops.toList []) j) x=true→hasM done x=true)
  (hc:hasM done j=false∨∀t∈zBJ ops.toList o,∀i q,ops[i]?=some q→q.dst=some t→hasM (nthN (closes ops.toList []) j) i=true∨hasM done i=false) :
  ∀t∈zBJ ops.toList o,∀i q,ops[i]?=some q→q.dst=some t→(S i↔hasM done i=true):=by
 intro t ht i q hi hq
 have hin:hasM (nthN (closes ops.toList []) j) i=true→(S i↔hasM done i=true):=fun hm=>
  ⟨fun _=>hpd i hm,fun _=>zHX h.clo (by rw[Array.getElem?_toList];exact ho) he hm⟩
 rcases hO.uses j o ho t ht i q hi hq with hm|hm
 ·exact hin hm
 ·have hnSi:¬ S i:=fun hS=>hnS (zHX h.clo (by rw[Array.getElem?_toList];exact hi) (h.clo i q (by rw[Array.getElem?_toList];exact hi) hS) hm)
  rcases hc with hc|hc
  ·refine⟨fun e=>absurd e hnSi,fun e=>?_⟩
   have:=h.pre i e j hm
   rw[hc] at this;cases this
  ·rcases hc t ht i q hi hq with e|e
   ·exact hin e
   ·exact⟨fun e2=>absurd e2 hnSi,fun e2=>by rw[e] at e2;cases e2⟩
theorem zOA {d:Option Tmp}{v u:Value}{t:Nat}(h:d≠some t):(putT d v tm)[t]?=some u→tm[t]?=some u:=by
 intro hu
 cases d with
 | none=>exact hu
 | some d=>
  have hne:d≠t:=fun e=>h (by rw[e])
  have hu:(tm.setIfInBounds d v)[t]?=some u:=hu
  rwa [Array.getElem?_setIfInBounds,if_neg hne] at hu
theorem VRs.putT {d:Option Tmp}{frS:Fr}{x:AV}{x':Value}(h:VRs g frS.tmps tm)(hx:VR g x x'):VRs g (frS.put d x).tmps (Ab.putT d x' tm):=by
 cases d with
 | none=>exact h
 | some d=>show VRs g (lset x frS.tmps d) _;rw[zFR];exact h.put d hx
theorem zNZ {d:Option Tmp}{frS:Fr}{x:AV}{n:Nat}(h:tops frS.tmps≤n)(hx:top x≤n):tops (frS.put d x).tmps≤n:=by
 cases d with
 | none=>exact h
 | some d=>show tops (lset x frS.tmps d)≤n;rw[zFR];exact zKP h hx
theorem zX4 {frS fr:Fr}{d:Tmp}{x:AV}(hl:frS.tmps.length=fr.tmps.length)(hx:d<fr.tmps.length→lget fr.tmps d=x):lget (frS.put (some d) x).tmps d=lget fr.tmps d:=by
 show lget (lset x frS.tmps d) d=_
 rw[zE7,hl]
 by_cases hlt:d<fr.tmps.length
 ·rw[if_pos ⟨rfl,hlt⟩,hx hlt]
 ·rw[if_neg (fun e=>hlt e.2),zCJ,zCJ,List.getD_eq_getElem?_getD,List.getD_eq_getElem?_getD,List.getElem?_eq_none (by rw[hl];exact Nat.le_of_not_lt hlt),List.getElem?_eq_none (Nat.le_of_not_lt hlt)]
theorem zU5 {frS fr:Fr}{d:Tmp}{x:AV}(hl:frS.tmps.length=fr.tmps.length):lget (frS.put (some d) x).tmps d=lget (fr.put (some d) x).tmps d:=by
 show lget (lset x frS.tmps d) d=lget (lset x fr.tmps d) d
 rw[zE7,zE7,hl]
 by_cases hlt:d<fr.tmps.length
 ·rw[if_pos ⟨rfl,hlt⟩,if_pos ⟨rfl,hlt⟩]
 ·rw[if_neg (fun e=>hlt e.2),if_neg (fun e=>hlt e.2),zCJ,zCJ,List.getD_eq_getElem?_getD,List.getD_eq_getElem?_getD,List.getElem?_eq_none (by rw[hl];exact Nat.le_of_not_lt hlt),List.getElem?_eq_none (Nat.le_of_not_lt hlt)]
theorem DI.quietPut (hO:OpsOk ops)(h:DI E P r base w0 fid ops g0 n0 fr0 fin S pend g s w fr tm pl done louds U []){i:Nat}{o:Oper}{d:Tmp}{x:AV}{x':Value}{g1:Gh}{w1:World}
  (ho:ops[i]?=some o) (hd:o.dst=some d) (hnS:¬ S i) (hdone:hasM done i=true) (he:∀e∈o.after.toList,zCF e=true→S e.on)
  (hrel:Rel base w0 g1 s w1) (hg:Grows s.n g g1) (hx:VR g1 x x') (ht:top x≤s.n) (hlg:d<fr.tmps.length→lget fr.tmps d=x) :
  DI E P r base w0 fid ops g0 n0 fr0 fin (fun y=>S y∨y=i) pend g1 s w1 fr (putT (some d) x' tm) pl done louds U []:=by
 refine⟨hrel,hg.ok.trans h.ok,hg.Cb.trans h.Cb,h.grw.trans (hg.grw.less h.n),h.n,fun b o hz=>by rw[hg.Z];exact h.z0 b o hz,h.fdf,h.frec,?_,?_,?_,h.pinj,?_,h.Ud,?_,h.pre,fun j hj=>.inl (h.ld j hj),h.clo.add ho he,h.st,h.run⟩
 ·obtain⟨frS,f1,f2,f3,f4⟩:=h.fS
  refine⟨frS.put (some d) x,by rw[zDR];exact f1,(f2.grows hg f3).putT hx,zNZ f3 ht,fun t hag=>?_⟩
  by_cases e:o.dst=some t
  ·rw[hd] at e;cases e
   exact zX4 f1 hlg
  ·rw[zEB (by rw[← hd];exact e)]
   refine f4 t fun i' q hi' hq=>?_
   have hne:i'≠i:=fun e2=>by subst e2;rw[ho] at hi';cases hi';exact e hq
   have:=hag i' q hi' hq
   exact⟨fun hS=>this.1 (.inl hS),fun hh=>(this.2 hh).resolve_right hne⟩
 ·intro j hj
  rcases hj with hj|rfl
  ·exact h.SD j hj
  ·exact .inl hdone
 ·intro j b hb
  obtain⟨p1,p2,oj,e,p3,p4,p5,p6,p7,p8,p9,p10⟩:=h.pnd j b hb
  refine⟨.inl p1,p2,oj,e,p3,p4,p5,p6,by rw[hg.Z];exact p7,p8,p9,fun dj u hdj hu=>p10 dj u hdj (zOA (fun e2=>?_) hu)⟩
  injection e2 with e2;subst e2
  exact hnS (by rw[zOQ hO ho p3 hd hdj];exact p1)
 ·intro j hj
  rcases h.dU j hj with e|e
  ·exact .inl (.inl e)
  ·exact .inr e
 ·intro j hj hjS
  exact h.uf j hj fun e=>hjS (.inl e)
theorem DI.quietStep (hE:TysOk E P)(hO:OpsOk ops)(hok:∀o∈ops,okOp E o.op=true)(h:DI E P r base w0 fid ops g0 n0 fr0 fin S pend g s w fr tm pl done louds U []){i:Nat}{o:Oper}
  (hi:i∈U) (hnS:¬ S i) (ho:ops[i]?=some o) (he:∀e∈o.after.toList,zCF e=true→S e.on) {kd:CallKind} {rn:Option Nat} {df:List Deferred} {k:List Item} {cs:List Frame} (rest:List Nat) :
  ∃g1 w1 tm1,DI E P r base w0 fid ops g0 n0 fr0 fin (fun y=>S y∨y=i) pend g1 s w1 fr tm1 pl done louds U []∧
   Steps P (lone (Ab.mk fid kd rn tm df (.inRegion ops (i :: rest) :: k)) cs w) (lone (Ab.mk fid kd rn tm1 df (.inRegion ops rest :: k)) cs w1):=by
 obtain⟨o',d,h1,h2,h3,h3',h4,h5,h6⟩:=h.uf i hi hnS
 rw[ho] at h1;cases h1
 obtain⟨frS,f1,f2,f3,f4⟩:=h.fS
 have hrd:=h.reads hO ho hnS he (h.pre i h3) (.inr h6)
 have hag:∀t∈zBJ ops.toList o,lget frS.tmps t=lget fr.tmps t:=fun t ht=>f4 t (fun i' q hi' hq=>hrd t ht i' q hi' hq)
 have hw:zAM ops.toList frS o.guard=zAM ops.toList fr o.guard:=zET fun t ht=>hag t (by unfold zBJ;exact List.mem_append_left _ ht)
 have hwm:=zJN (ops:=ops) f2 o
 rw[hw] at hwm
 cases hwv:zAM ops.toList fr o.guard with
 | false=>
  rw[hwv] at hwm
  refine⟨g,w,_,h.quietPut hO ho h2 hnS h3 he h.rel (.refl _ _) (VR.undef _) (Nat.zero_le _) (fun _=>h4 hwv),.one ?_⟩
  have:=zK5 (P:=P) (f:=fid) (kd:=kd) (rn:=rn) (tm:=tm) (df:=df) (k:=k) (cs:=cs) (w:=w) (ops:=ops) (i:=i) (rest:=rest) (by rw[ho];simpa using hwm.symm)
  rw[ho] at this
  simp only[Option.bind_some,h2] at this
  exact this
 | true=>
  rw[hwv] at hwm
  obtain⟨v,hv,hlg⟩:=h5 (by simp) hwv
  have hvS:opQ E fid frS o.op s=some v:=by
   rw[← hv];exact zI0 (zF8 fun t ht=>hag t (by unfold zBJ;exact List.mem_append_right _ ht))
  have hop:=zXK hE (hok o (Array.mem_of_getElem? ho)) h.rel f2 f3 hvS
  obtain⟨v',w1,g1,hrun,hrel,hg,hvr,ht,hn⟩:=hop
  have hdef:rn=none∨isDefer o.op=false:=by
   right
   cases hop:o.op<;>first|rfl|(rw[hop] at hv;simp[opQ] at hv)
  refine⟨g1,w1,putT (some d) v' tm,h.quietPut hO ho h2 hnS h3 he hrel hg hvr ht hlg,.one ?_⟩
  rw[← h2]
  rcases hrun with hrun|⟨hrun,rfl⟩
  ·exact zFD ho hwm.symm hdef hrun
  ·exact zHV ho hwm.symm hdef hrun
theorem DI.loudPut (hO:OpsOk ops){i:Nat}{rest:List PStep}(h:DI E P r base w0 fid ops g0 n0 fr0 fin S pend g s w fr tm (.l i :: rest) done louds U []){o:Oper}{x:AV}{x':Value}{g1:Gh}{s1:Sto}{w1:World}
  (ho:ops[i]?=some o) (hnS:¬ S i) (he:∀e∈o.after.toList,zCF e=true→S e.on)
  (hrel:Rel base w0 g1 s1 w1) (hg:Grows s.n g g1) (hn:s.n≤s1.n) (hx:VR g1 x x') (ht:top x≤s1.n) (hrun:runP r E fid ops.toList rest (fr.put o.dst x) s1=some fin) :
  ∃done' louds' U' due',DI E P r base w0 fid ops g0 n0 fr0 fin (fun y=>S y∨y=i) pend g1 s1 w1 (fr.put o.dst x) (putT o.dst x' tm) rest done' louds' U' due'∧(∀j,hasM done' j=false→j ∉ due'):=by
 obtain⟨o',ho',hnd,hdue,hpd,hlo,hal,_,hnr,hst⟩:=zIH h.st
 rw[ho] at ho';cases ho'
 refine⟨orM done (zC2 i),orM louds (zC2 i),zFU (nthN (closes ops.toList []) i) U,dueU ops.toList (zFU (nthN (closes ops.toList []) i) U),⟨hrel,hg.ok.trans h.ok,hg.Cb.trans h.Cb,h.grw.trans (hg.grw.less h.n),Nat.le_trans h.n hn,fun b o hz=>by rw[hg.Z];exact h.z0 b o hz,
  by rw[zJR];exact h.fdf,by rw[zFO];exact h.frec,?_,?_,?_,h.pinj,?_,?_,?_,?_,?_,h.clo.add ho he,hst,hrun⟩,?_⟩
 ·obtain⟨frS,f1,f2,f3,f4⟩:=h.fS
  refine⟨frS.put o.dst x,by rw[zDR,zDR];exact f1,(f2.grows hg f3).putT hx,zNZ (Nat.le_trans f3 hn) ht,fun t hag=>?_⟩
  by_cases e:o.dst=some t
  ·rw[e];exact zU5 f1
  ·rw[zEB e,zEB e]
   refine f4 t fun i' q hi' hq=>?_
   have hne:i'≠i:=fun e2=>by subst e2;rw[ho] at hi';cases hi';exact e hq
   have:=hag i' q hi' hq
   rw[zAO,zAT,decide_eq_false (fun e2=>hne e2.symm),Bool.or_false] at this
   exact⟨fun hS=>this.1 (.inl hS),fun hh=>(this.2 hh).resolve_right hne⟩
 ·intro j hj
  rcases hj with hj|rfl
  ·rcases h.SD j hj with e|e
   ·exact .inl (by rw[zAO,e];rfl)
   ·exact .inr e
  ·exact .inl (by rw[zAO,zAT];simp)
 ·intro j b hb
  obtain⟨p1,p2,oj,e,p3,p4,p5,p6,p7,p8,p9,p10⟩:=h.pnd j b hb
  have hne:i≠j:=fun e2=>hnS (by rw[e2];exact p1)
  refine⟨.inl p1,by rw[zAO,p2,zAT,Bool.false_or];exact decide_eq_false hne,oj,e,p3,p4,p5,p6,by rw[hg.Z];exact p7,p8,p9,fun dj u hdj hu=>p10 dj u hdj (zOA (fun e2=>?_) hu)⟩
  exact hne (zOQ hO ho p3 e2 hdj)
 ·intro j hj
  rw[zAO,zAT,Bool.or_eq_true] at hj
  rcases hj with e|e
  ·rcases h.dU j e with e2|e2
   ·exact .inl (.inl e2)
   ·cases hp:hasM (nthN (closes ops.toList []) i) j with
    | true=>exact .inl (.inl (zHX h.clo (by rw[Array.getElem?_toList];exact ho) he hp))
    | false=>exact .inr (zDA.2 ⟨e2,hp⟩)
  ·have:=of_decide_eq_true e;subst this;exact .inl (.inr rfl)
 ·intro j hj;rw[zAO,h.Ud j (zDA.1 hj).1];rfl
 ·exact zV2 hO ho hnd rfl h.uf (fun j e=>.inl e) hnr
 ·intro j hj y hy
  rw[zAO,Bool.or_eq_true]
  rw[zAO,zAT,Bool.or_eq_true] at hj
  rcases hj with e2|e2
  ·exact .inl (h.pre j e2 y hy)
  ·have:=of_decide_eq_true e2;subst this;exact .inl (zEZ hpd hy)
 ·intro j hj
  rw[zAO,zAT,Bool.or_eq_true] at hj
  rcases hj with e2|e2
  ·exact .inl (h.ld j e2)
  ·have:=of_decide_eq_true e2;subst this;exact .inr rfl
 ·intro j hj hm
  rw[zAO,Bool.or_eq_false_iff] at hj
  have:=h.Ud j (zDA.1 (zTC hm)).1
  rw[hj.1] at this;cases this
theorem DI.loudStep (hE:TysOk E P)(hO:OpsOk ops)(hc:CallSim P OK r)(hro:zFK P OK r)(hok:∀o∈ops,okOp E o.op=true)(hg0:g0.ok=OK){i:Nat}{rest:List PStep}
  (h:DI E P r base w0 fid ops g0 n0 fr0 fin S pend g s w fr tm (.l i :: rest) done louds U []) {o:Oper}
  (hnS:¬ S i) (ho:ops[i]?=some o) (he:∀e∈o.after.toList,zCF e=true→S e.on) {kd:CallKind} {rn:Option Nat} {df:List Deferred} {k:List Item} {cs:List Frame} (restN:List Nat) :
  (∃g1 s1 w1 fr1 tm1 done' louds' U' due',DI E P r base w0 fid ops g0 n0 fr0 fin (fun y=>S y∨y=i) pend g1 s1 w1 fr1 tm1 rest done' louds' U' due'∧(∀j,hasM done' j=false→j ∉ due')∧
   Steps P (lone (Ab.mk fid kd rn tm df (.inRegion ops (i :: restN) :: k)) cs w) (lone (Ab.mk fid kd rn tm1 df (.inRegion ops restN :: k)) cs w1))∨
  (∃v s1 g1 w1 v' k2,fin=(.panic v,fr,s1)∧Grows s.n g g1∧Rel base w0 g1 s1 w1∧s.n≤s1.n∧VR g1 v v'∧isI v=true∧top v≤s1.n∧
   Steps P (lone (Ab.mk fid kd rn tm df (.inRegion ops (i :: restN) :: k)) cs w) (lone { Ab.mk fid kd rn tm df k2 with mode:=.panicking [{ v:=v',recovered:=false }] } cs w1)):=by
 obtain⟨o',ho',hnd,hdue,hpd,hlo,hal,_,hnr,hst⟩:=zIH h.st
 rw[ho] at ho';cases ho'
 obtain⟨frS,f1,f2,f3,f4⟩:=h.fS
 have hrd:=h.reads hO ho hnS he (fun x hx=>zEZ hpd hx) (.inl hnd)
 have hag:∀t∈zBJ ops.toList o,lget frS.tmps t=lget fr.tmps t:=fun t ht=>f4 t (fun i' q hi' hq=>hrd t ht i' q hi' hq)
 have hw:zAM ops.toList frS o.guard=zAM ops.toList fr o.guard:=zET fun t ht=>hag t (by unfold zBJ;exact List.mem_append_left _ ht)
 have hwm:=zJN (ops:=ops) f2 o
 rw[hw] at hwm
 have hrun:=h.run
 simp only[runP,zUX ho] at hrun
 cases hwv:zAM ops.toList fr o.guard with
 | false=>
  rw[hwv] at hwm hrun
  simp only[cond_false] at hrun
  obtain⟨d',l',U',due',h',hdd⟩:=h.loudPut hO ho hnS he h.rel (.refl _ _) (Nat.le_refl _) (VR.undef g) (Nat.zero_le _) hrun
  refine .inl ⟨_,_,_,_,_,_,_,_,_,h',hdd,.one ?_⟩
  have:=zK5 (P:=P) (f:=fid) (kd:=kd) (rn:=rn) (tm:=tm) (df:=df) (k:=k) (cs:=cs) (w:=w) (ops:=ops) (i:=i) (rest:=restN) (by rw[ho];simpa using hwm.symm)
  rw[ho] at this
  simp only[Option.bind_some] at this
  exact this
 | true=>
  rw[hwv] at hwm hrun
  simp only[cond_true] at hrun
  have heq:opA E fid frS o.op s=opA E fid fr o.op s:=zXO (zF8 fun t ht=>hag t (by unfold zBJ;exact List.mem_append_right _ ht))
  have hop:=zQ8 (fid:=fid) hE (hok o (Array.mem_of_getElem? ho)) h.rel f2 f3
  rw[heq] at hop
  have hdef:isDefer o.op=false:=by
   cases hop:o.op<;>first|rfl|(rw[hop] at hlo;cases hlo)
  rcases zT4 (zXM hlo) hrun with⟨v,s1,h1,h2⟩|⟨v,s1,h1,h2⟩
  ·obtain⟨g1,w1,hg,hrel,hn,v',hv,ht,hstp⟩:=zXJ (kd:=kd) (rn:=rn) (df:=df) (k:=k) (cs:=cs) (rest:=restN) hc hro h1 ho hwm.symm hop hdef (h.ok.trans hg0) h.rel
   obtain⟨d',l',U',due',h',hdd⟩:=h.loudPut hO ho hnS he hrel hg hn hv ht h2
   exact .inl ⟨_,_,_,_,_,_,_,_,_,h',hdd,hstp⟩
  ·obtain⟨g1,w1,hg,hrel,hn,v',k2,hv,hi,ht,hstp⟩:=zXJ (kd:=kd) (rn:=rn) (df:=df) (k:=k) (cs:=cs) (rest:=restN) hc hro h1 ho hwm.symm hop hdef (h.ok.trans hg0) h.rel
   exact .inr ⟨v,s1,g1,w1,v',k2,h2,hg,hrel,hn,hv,hi,ht,hstp⟩
theorem DI.early (hE:TysOk E P)(hO:OpsOk ops)(hok:∀o∈ops,okOp E o.op=true)(h:DI E P r base w0 fid ops g0 n0 fr0 fin S pend g s w fr tm pl done louds U []){i:Nat}{o:Oper}
  (hnS:¬ S i) (hnd:hasM done i=false) (ho:ops[i]?=some o) (hal:isAlloc o.op=true) (hgd:o.guard=none) (he:∀e∈o.after.toList,zCF e=true→S e.on)
  {kd:CallKind} {rn:Option Nat} {df:List Deferred} {k:List Item} {cs:List Frame} (rest:List Nat) :
  ∃pend1 g1 w1 tm1,DI E P r base w0 fid ops g0 n0 fr0 fin (fun y=>S y∨y=i) pend1 g1 s w1 fr tm1 pl done louds U []∧
   Steps P (lone (Ab.mk fid kd rn tm df (.inRegion ops (i :: rest) :: k)) cs w) (lone (Ab.mk fid kd rn tm1 df (.inRegion ops rest :: k)) cs w1):=by
 have hee:∃e,o.op=.alloc e:=by
  cases hop:o.op with
  | alloc e=>exact⟨e,rfl⟩
  | _=>rw[hop] at hal;cases hal
 obtain⟨e,hop⟩:=hee
 have hoke:=hok o (Array.mem_of_getElem? ho)
 rw[hop] at hoke
 have hoke:(E.types e).ok=true:=hoke
 have hrun:=zZ6 (hE.ti e hoke) w
 have hzlt:∀b o,g.Z b=some o→b<w.heap.size:=fun b o hz=>(Array.getElem?_eq_some_iff.1 (h.rel.Z b o hz).1).1
 have hex:(execOp (zAE tm) o).run P w=.ok (.value (.pointer (some ⟨w.heap.size,0,none⟩))) (push w (.cells (zc P e) e)):=by
  unfold execOp
  rw[hop]
  simp only[Sem.run_bind,hrun,Result.andThen_ok,Sem.run_pure]
 have hwm:Region.wanted o (yielded ops tm)=true:=by unfold Region.wanted;rw[hgd]
 refine⟨fun j=>if j=i then some w.heap.size else pend j,_,_,putT o.dst (.pointer (some ⟨w.heap.size,0,none⟩)) tm,⟨h.rel.hold (.cells (zc P e) e),h.ok,h.Cb,h.grw.trans (Grw.reZ _ _ _),h.n,?_,h.fdf,h.frec,?_,?_,?_,?_,?_,h.Ud,?_,h.pre,fun j hj=>.inl (h.ld j hj),h.clo.add ho he,h.st,h.run⟩,.one (zFD ho hwm (.inr (by rw[hop];rfl)) hex)⟩
 ·intro b o' hz
  have hz1:=h.z0 b o' hz
  show(if b=w.heap.size then _ else g.Z b)=_
  rw[if_neg (Nat.ne_of_lt (hzlt b o' hz1))];exact hz1
 ·obtain⟨frS,f1,f2,f3,f4⟩:=h.fS
  refine⟨frS.put o.dst (.rptr 0 []),by rw[zDR];exact f1,VRs.putT (f2.grw (Grw.reZ _ s.n _) f3) ?_,zNZ f3 (Nat.zero_le _),fun t hag=>?_⟩
  ·exact VR.rptr 0 [] _ 0 (fun _=>.nilFunc) (fun i c hi=>by simp at hi) (fun i c hi=>by simp at hi) (Nat.zero_le _)
  ·by_cases e2:o.dst=some t
   ·have:=(hag i o ho e2).1 (.inr rfl)
    rw[hnd] at this;cases this
   ·rw[zEB e2]
    refine f4 t fun i' q hi' hq=>?_
    have hne:i'≠i:=fun e3=>by subst e3;rw[ho] at hi';cases hi';exact e2 hq
    have:=hag i' q hi' hq
    exact⟨fun hS=>this.1 (.inl hS),fun hh=>(this.2 hh).resolve_right hne⟩
 ·intro j hj
  by_cases e2:j=i
  ·subst e2;exact .inr ⟨w.heap.size,by simp⟩
  ·rcases h.SD j (hj.resolve_right e2) with e3|⟨b,e3⟩
   ·exact .inl e3
   ·exact .inr ⟨b,by simp only[if_neg e2];exact e3⟩
 ·intro j b hb
  by_cases e2:j=i
  ·subst e2
   simp only[if_true] at hb
   cases hb
   refine⟨.inr rfl,hnd,o,e,ho,hop,hgd,hoke,?_,?_,h.rel.size.2,fun d u hd hu=>?_⟩
   ·show(if w.heap.size=w.heap.size then _ else _)=_
    rw[if_pos rfl]
   ·cases hz:g0.Z w.heap.size with
    | none=>rfl
    | some o'=>exact absurd (hzlt _ _ (h.z0 _ _ hz)) (Nat.lt_irrefl _)
   ·rw[hd] at hu
    have hu:(tm.setIfInBounds d (.pointer (some ⟨w.heap.size,0,none⟩)))[d]?=some u:=hu
    rw[Array.getElem?_setIfInBounds,if_pos rfl] at hu
    split at hu
    ·cases hu;rfl
    ·cases hu
  ·simp only[if_neg e2] at hb
   obtain⟨p1,p2,oj,e',p3,p4,p5,p6,p7,p8,p9,p10⟩:=h.pnd j b hb
   refine⟨.inl p1,p2,oj,e',p3,p4,p5,p6,?_,p8,p9,fun dj u hdj hu=>p10 dj u hdj (zOA (fun e3=>e2 (zOQ hO p3 ho hdj e3)) hu)⟩
   show(if b=w.heap.size then _ else g.Z b)=_
   rw[if_neg (Nat.ne_of_lt (hzlt b _ p7))];exact p7
 ·intro j j' b h1 h2
  have key:∀{j b},pend j=some b→b≠w.heap.size:=fun hb=>by
   obtain⟨_,_,_,_,_,_,_,_,p7,_⟩:=h.pnd _ _ hb
   exact Nat.ne_of_lt (hzlt _ _ p7)
  by_cases e1:j=i
  ·by_cases e2:j'=i
   ·rw[e1,e2]
   ·simp only[if_pos e1] at h1;simp only[if_neg e2] at h2
    cases h1;exact absurd rfl (key h2)
  ·by_cases e2:j'=i
   ·simp only[if_neg e1] at h1;simp only[if_pos e2] at h2
    cases h2;exact absurd rfl (key h1)
   ·simp only[if_neg e1] at h1;simp only[if_neg e2] at h2
    exact h.pinj j j' b h1 h2
 ·intro j hj
  rcases h.dU j hj with e2|e2
  ·exact .inl (.inl e2)
  ·exact .inr e2
 ·intro j hj hjS
  exact h.uf j hj fun e2=>hjS (.inl e2)
theorem later {i L:Nat}{o:Oper}(ho:ops[i]?=some o):∀{pl:List PStep} {done louds:Nat} {U due:List Nat},zB2 ops.toList (closes ops.toList []) pl done louds U due=true→hasM done i=false→hasM done L=true→L ∉ U→
  (hasM louds L=true→hasM (nthN (closes ops.toList []) i) L=true)∨(isAlloc o.op=true∧o.guard=none):=by
 intro pl
 induction pl with
 | nil=>
  intro done louds U due h hnd hL hLU
  exfalso
  simp only[zB2,cond_eq_ite] at h
  split at h
  ·have hd:=Nat.eq_of_beq_eq_true h
   rw[hd,zE9] at hnd
   have:llen ops.toList=ops.size:=by rw[zAH,Array.length_toList]
   rw[this] at hnd
   have h2:(Nat.pow 2 ops.size-1).testBit i=decide (i<ops.size):=Nat.testBit_two_pow_sub_one _ _
   rw[h2] at hnd
   have:=(Array.getElem?_eq_some_iff.1 ho).1
   simp[this] at hnd
  ·cases h
 | cons st rest ih=>
  intro done louds U due h hnd hL hLU
  have hL':∀j,hasM (orM done (zC2 j)) L=true:=fun j=>by rw[zAO,hL];rfl
  cases st with
  | q j=>
   simp only[zB2] at h
   split at h
   ·rename_i q hq
    simp only[cond_eq_ite] at h
    split at h
    ·cases h
    ·rename_i hjd
     split at h
     ·cases h
     ·split at h
      ·split at h
       ·rename_i hlp
        split at h
        ·split at h
         ·by_cases e:j=i
          ·subst e;exact .inl fun hx=>zEZ hlp hx
          ·refine ih h (by rw[zAO,hnd,zAT,Bool.false_or];exact decide_eq_false e) (hL' j) fun hm=>?_
           cases hm with
           | head=>exact hjd hL
           | tail _ hm=>exact hLU hm
         ·cases h
        ·cases h
       ·cases h
      ·cases h
   ·cases h
  | chk j=>simp only[zB2] at h;exact ih h hnd hL hLU
  | l j=>
   obtain⟨q,hq,_,_,_,_,hal,hlp,_,hst⟩:=zIH h
   by_cases e:j=i
   ·subst e
    rw[ho] at hq;cases hq
    cases hia:isAlloc o.op with
    | true=>exact .inr ⟨rfl,(hal hia).1⟩
    | false=>exact .inl fun hx=>zEZ (hlp hia) hx
   ·rcases ih hst (by rw[zAO,hnd,zAT,Bool.false_or];exact decide_eq_false e) (hL' j) (fun hm=>hLU (zDA.1 hm).1) with h1|h1
    ·exact .inl fun hx=>h1 (by rw[zAO,hx];rfl)
    ·exact .inr h1
  | apart a b=>
   obtain⟨_,_,ha,hb,_,_,_,hx,hlt,hq⟩:=zGX h
   left
   intro _
   have h1:L≠a:=fun e=>by subst e;rw[hL] at ha;cases ha
   have h2:L≠b:=fun e=>by subst e;rw[hL] at hb;cases hb
   have h3:=hx L (hlt L hL) h1 h2
   by_cases ea:i=a
   ·subst ea;exact h3.2
   ·by_cases eb:i=b
    ·subst eb
     rcases hq with hq|⟨q,hqU,_,_,hq⟩
     ·exact hq L (hlt L hL) h1 h2
     ·exact hq L (hlt L hL) h1 h2 (fun e=>hLU (by rw[e];exact hqU))
    ·have:=(hx i (Array.getElem?_eq_some_iff.1 ho).1 ea eb).1
     rw[hnd] at this;cases this
end
end Go.Ab
end
