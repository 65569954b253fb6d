/- A part. -/
import Derived.Test.YtodldpffhfgicaaGreatDoorF7
import Derived.Lib.Bytealg
set_option linter.all false
noncomputable section
namespace Go.Ab
open Go
def cf:List Bool→Nat
 | []=>0
 | b :: l=>(if b then 0 else 1)+cf l
theorem cf_set:∀{l:List Bool} {i:Nat},l[i]?=some false→cf (l.set i true)+1=cf l:=by
 intro l
 induction l with
 | nil=>intro i h;simp at h
 | cons b l ih=>
  intro i h
  cases i with
  | zero=>simp at h;subst h;simp[cf];omega
  | succ i=>
   have:=ih (i:=i) (by simpa using h)
   simp only[List.set_cons_succ,cf]
   omega
theorem cf_zero:∀{l:List Bool},cf l=0→∀(i:Nat) (b:Bool),l[i]?=some b→b=true:=by
 intro l
 induction l with
 | nil=>intro _ i b h;simp at h
 | cons a l ih=>
  intro h i b hb
  simp only[cf] at h
  cases i with
  | zero=>simp at hb;subst hb;cases a with
   | true=>rfl
   | false=>simp at h
  | succ i=>exact ih (by omega) i b (by simpa using hb)
theorem zQA (n:Nat):cf (List.replicate n false)=n:=by
 induction n with
 | zero=>rfl
 | succ n ih=>rw[List.replicate_succ,cf,ih];simp;omega
theorem cf_all:∀{l:List Bool},(∀(i:Nat) (b:Bool),l[i]?=some b→b=true)→cf l=0:=by
 intro l
 induction l with
 | nil=>intro _;rfl
 | cons a l ih=>
  intro h
  have h0:=h 0 a (by simp)
  subst h0
  simp only[cf]
  rw[ih fun i b hb=>h (i+1) b (by simpa using hb)]
  rfl
theorem zRT {ops:Array Oper}{fuel t:Nat}{listed:Array Bool}:Region.linearise.go .any ops (fuel+1) t listed []=match(Region.ready .any ops listed)[t % (Region.ready .any ops listed).length]? with
  | some i=>i :: Region.linearise.go .any ops fuel (t / (Region.ready .any ops listed).length) (listed.setIfInBounds i true) []
  | none=>[]:=by
 simp only[Region.linearise.go]
 change (match(Region.ready .any ops listed)[t % (Region.ready .any ops listed).length]? with
  | some i=>Region.linearise.go .any ops fuel (t / (Region.ready .any ops listed).length) (listed.setIfInBounds i true) [i]
  | none=>[].reverse)=_
 cases (Region.ready .any ops listed)[t % (Region.ready .any ops listed).length]? with
 | none=>rfl
 | some i=>simp only[];rw[linearise_go_acc];rfl
theorem zPC {ops:Array Oper}{listed:Array Bool}(hsz:listed.size=ops.size){i:Nat}(h:i∈Region.ready .any ops listed):i<ops.size∧¬ listed.getD i false=true:=by
 unfold Region.ready at h
 rw[List.mem_filter,List.mem_range] at h
 obtain⟨hlt,hrd⟩:=h
 rw[Bool.and_eq_true] at hrd
 refine⟨hlt,?_⟩
 have h1:listed.getD i true=false:=by simpa using hrd.1
 rw[Array.getD_eq_getD_getElem?] at h1 ⊢
 rw[Array.getElem?_eq_getElem (by omega)] at h1 ⊢
 simp only[Option.getD_some] at h1 ⊢
 rw[h1];simp
theorem zS6 {ops:Array Oper}{listed:Array Bool}(hsz:listed.size=ops.size){i:Nat}(hi':i<ops.size)(hl:¬ listed.getD i false=true)(hall:∀e∈ops[i].after.toList,zCF e=true→listed.getD e.on false=true):i∈Region.ready .any ops listed:=by
 have hl:listed.getD i false=false:=by simpa using hl
 unfold Region.ready
 rw[List.mem_filter]
 refine⟨List.mem_range.2 hi',?_⟩
 have hl2:listed.getD i true=false:=by
  rw[Array.getD_eq_getD_getElem?] at hl ⊢
  rw[Array.getElem?_eq_getElem (by omega)] at hl ⊢
  exact hl
 rw[hl2,Array.getElem?_eq_getElem hi']
 simp only[Bool.not_false,Option.map_some,Option.getD_some,Bool.true_and]
 rw[Array.all_eq_true]
 intro x hx
 rw[Bool.or_eq_true]
 cases hb:Region.binds .any (ops[i].after[x]) with
 | false=>exact .inl rfl
 | true=>
  right
  rw[zJI] at hb
  exact hall _ (by simp) hb
theorem go_one {ops:Array Oper}(hO:OpsOk ops){b:Nat}(hb:b<ops.size){fuel t:Nat}{listed:Array Bool}(hsz:listed.size=ops.size)(hcf:cf listed.toList=fuel)
  (hall:∀x,x<ops.size→x≠b→listed.getD x false=true) (hnb:¬ listed.getD b false=true):Region.linearise.go .any ops fuel t listed []=[b]:=by
 have h1:listed.toList[b]?=some false:=by
  rw[Array.getElem?_toList,Array.getElem?_eq_getElem (by omega)]
  rw[Array.getD_eq_getD_getElem?,Array.getElem?_eq_getElem (by omega)] at hnb
  simpa using hnb
 have h2:=cf_set h1
 have h3:cf (listed.toList.set b true)=0:=by
  apply cf_all
  intro i v hv
  rw[List.getElem?_set] at hv
  by_cases e:b=i
  ·rw[if_pos e] at hv
   split at hv
   ·cases hv;rfl
   ·cases hv
  ·rw[if_neg e,Array.getElem?_toList] at hv
   have hlt:i<listed.size:=(Array.getElem?_eq_some_iff.1 hv).1
   have:=hall i (by omega) (fun e2=>e e2.symm)
   rw[Array.getD_eq_getD_getElem?,hv] at this
   exact this
 have hf:fuel=0+1:=by omega
 rw[hf,zRT]
 have hmem:=zS6 hsz hb hnb fun e hem hbe=>by
  have hlt:=hO.edges b ops[b] (Array.getElem?_eq_getElem hb) e hem hbe
  exact hall e.on (by omega) (by omega)
 cases hi:(Region.ready .any ops listed)[t % (Region.ready .any ops listed).length]? with
 | none=>
  exfalso
  cases hr:Region.ready .any ops listed with
  | nil=>rw[hr] at hmem;cases hmem
  | cons x xs=>
   rw[hr] at hi
   have hlt:t % (x :: xs).length<(x :: xs).length:=Nat.mod_lt _ (by simp)
   rw[List.getElem?_eq_none_iff] at hi
   omega
 | some i=>
  have hm:=zPC hsz (List.mem_of_getElem? hi)
  have:i=b:=by
   by_cases e:i=b
   ·exact e
   ·exact absurd (hall i hm.1 e) hm.2
  subst this
  simp[Region.linearise.go]
theorem go_two {ops:Array Oper}(hO:OpsOk ops){q a:Nat}(hq:q<ops.size)(ha:a<ops.size)(hqa:q≠a){fuel t:Nat}{listed:Array Bool}(hsz:listed.size=ops.size)(hcf:cf listed.toList=fuel)
  (hall:∀x,x<ops.size→x≠q→x≠a→listed.getD x false=true) (hnq:¬ listed.getD q false=true) (hna:¬ listed.getD a false=true)
  (hqe:∀e∈ops[q].after.toList,zCF e=true→listed.getD e.on false=true) (hae:¬ ∀e∈ops[a].after.toList,zCF e=true→listed.getD e.on false=true) :
  Region.linearise.go .any ops fuel t listed []=[q,a]:=by
 have h1:listed.toList[q]?=some false:=by
  rw[Array.getElem?_toList,Array.getElem?_eq_getElem (by omega)]
  rw[Array.getD_eq_getD_getElem?,Array.getElem?_eq_getElem (by omega)] at hnq
  simpa using hnq
 have h2:=cf_set h1
 obtain⟨f,rfl⟩:∃f,fuel=f+1:=⟨fuel-1,by omega⟩
 have hset:∀y,(listed.setIfInBounds q true).getD y false=true↔(listed.getD y false=true∨y=q):=by
  intro y
  rw[Array.getD_eq_getD_getElem?,Array.getD_eq_getD_getElem?,Array.getElem?_setIfInBounds]
  by_cases e:q=y
  ·subst e
   rw[if_pos rfl,if_pos (by omega)]
   simp
  ·rw[if_neg e]
   exact⟨.inl,fun hh=>hh.resolve_right (fun e2=>e e2.symm)⟩
 rw[zRT]
 have hmem:=zS6 hsz hq hnq hqe
 cases hi:(Region.ready .any ops listed)[t % (Region.ready .any ops listed).length]? with
 | none=>
  exfalso
  cases hr:Region.ready .any ops listed with
  | nil=>rw[hr] at hmem;cases hmem
  | cons x xs=>
   rw[hr] at hi
   have hlt:t % (x :: xs).length<(x :: xs).length:=Nat.mod_lt _ (by simp)
   rw[List.getElem?_eq_none_iff] at hi
   omega
 | some i=>
  have hmi:=List.mem_of_getElem? hi
  have hm:=zPC hsz hmi
  have:i=q:=by
   by_cases e:i=q
   ·exact e
   ·by_cases e2:i=a
    ·exfalso
     subst e2
     apply hae
     unfold Region.ready at hmi
     rw[List.mem_filter,List.mem_range] at hmi
     obtain⟨_,hrd⟩:=hmi
     rw[Bool.and_eq_true] at hrd
     intro e hem hb
     have h2:=hrd.2
     rw[Array.getElem?_eq_getElem ha] at h2
     simp only[Option.map_some,Option.getD_some] at h2
     rw[Array.all_eq_true] at h2
     obtain⟨x,hx,hxe⟩:=Array.mem_iff_getElem.1 (Array.mem_toList_iff.1 hem)
     have h3:=h2 x hx
     rw[hxe,zJI,hb] at h3
     simpa using h3
    ·exact absurd (hall i hm.1 e e2) hm.2
  subst this
  simp only
  refine congrArg (i :: ·) (go_one hO ha (by simp[hsz]) (by rw[Array.toList_setIfInBounds];omega) (fun x hx hxa=>?_) ?_)
  ·rw[hset]
   by_cases e:x=i
   ·exact .inr e
   ·exact .inl (hall x hx e hxa)
  ·rw[hset]
   rintro(e|e)
   ·exact hna e
   ·exact hqa e.symm
theorem zVF {P:Program}{o:Oper}{t:TypeId}{a x:Operand}{tm:Array Value}{w w':World}(hop:o.op=.store t a x)(h:(Instr.storeAt t (zAE tm a) (zAE tm x)).run P w=.ok () w') :
  (execOp (zAE tm) o).run P w=.ok .skip w':=by
 have hex:execOp (zAE tm) o=(do Instr.storeAt t (zAE tm a) (zAE tm x);pure .skip):=by unfold execOp;rw[hop]
 rw[hex];simp only[Sem.run_bind,h,Result.andThen_ok,Sem.run_pure]
section
variable {E:Env}{P:Program}{r:Rec}{base:Nat}{w0:World}{fid:FuncId}{ops:Array Oper}{g0:Gh}{s0:Sto}{fr0:Fr}{fin:Out×Fr×Sto}
 {S:Nat→Prop} {pend:Nat→Option Nat} {g:Gh} {s:Sto} {w:World} {fr:Fr} {tm:Array Value} {pl:List PStep} {done louds:Nat} {U due:List Nat}
theorem DI.ends (h:DI E P r base w0 fid ops g0 s0.n fr0 fin S pend g s w fr tm pl done louds U due){kd:CallKind}{rn:Option Nat}{df:List Deferred}{cs:List Frame}{k:List Item}{wS:World}{tmS:Array Value}
  (hf0:FI base w0 g0 s0 wS fr0 tmS df kd rn cs false) {s2:Sto} {w2:World} {g2:Gh} {tm2:Array Value} {m:Machine} (hfin:fin=(.normal,fr,s2)) (r2:Rel base w0 g2 s2 w2) (gr2:Grows s.n g g2) (n2:s2.n=s.n)
  (f2:VRs g2 fr.tmps tm2) (f3:tops fr.tmps≤s.n) (hst:Steps P m (lone (Ab.mk fid kd rn tm2 df (.inRegion ops [] :: k)) cs w2)) :
  Lands P base w0 fid kd rn k m g0 s0.n fr0.rec_ cs fin.1 fin.2.1 fin.2.2:=by
 subst hfin
 have hn:=h.n
 have hgr:Grows s0.n g0 { g2 with Z:=g0.Z }:=by
  have hgw:=h.grw.trans (gr2.grw.less h.n)
  exact⟨hgw.mu,hgw.es,hgw.rl,hgw.bs,hgw.C,gr2.ok.trans h.ok,gr2.Cb.trans h.Cb,rfl⟩
 refine⟨{ g2 with Z:=g0.Z },w2,tm2,df,cs,hgr,by simp only;omega,?_,?_,hst.trans (.one zEH)⟩
 ·simp only;rw[h.frec];exact .refl _ _
 ·refine⟨r2.reZ (fun x o hz=>by rw[gr2.Z];exact h.z0 x o hz),fun _=>⟨?_,by simp only;omega⟩,?_,?_,?_,hf0.kd⟩
  ·exact f2.grw (Grw.reZ _ s.n _) f3
  ·simp only;rw[h.fdf];exact hf0.df.grows hgr (by omega)
  ·simp only;rw[h.frec];exact hf0.rec_.grows hgr (by omega)
  ·have:=hf0.rnd;unfold zGO at this ⊢;simp only;rw[h.frec];exact this
theorem zHU {i:Nat}{rest:List Nat}{o:Oper}{t:TypeId}{a x:Operand}{kd:CallKind}{rn:Option Nat}{df:List Deferred}{cs:List Frame}{k:List Item}{w w':World}{tm:Array Value}
  (ho:ops[i]?=some o) (hop:o.op=.store t a x) (hd:o.dst=none) (hg:o.guard=none) (h:(Instr.storeAt t (zAE tm a) (zAE tm x)).run P w=.ok () w') :
  Steps P (lone (Ab.mk fid kd rn tm df (.inRegion ops (i :: rest) :: k)) cs w) (lone (Ab.mk fid kd rn tm df (.inRegion ops rest :: k)) cs w'):=by
 have hw:Region.wanted o (yielded ops tm)=true:=by unfold Region.wanted;rw[hg]
 have hd':isDefer o.op=false:=by rw[hop];rfl
 have st:=zHV (f:=fid) (kd:=kd) (rn:=rn) (df:=df) (k:=k) (cs:=cs) (rest:=rest) ho hw (.inr hd') (zVF hop h)
 rw[hd] at st
 exact .one st
theorem zNX (hE:TysOk E P)(hok:∀o∈ops,okOp E o.op=true){a b:Nat}{rest:List PStep}
  (h:DI E P r base w0 fid ops g0 s0.n fr0 fin S pend g s w fr tm (.apart a b :: rest) done louds U []) (hSa:¬ S a) (hSb:¬ S b) (hall:∀x,x<ops.size→x≠a→x≠b→S x)
  {oa ob:Oper} {ta tb:TypeId} {aa xa ab xb:Operand} (hoa:ops[a]?=some oa) (hopa:oa.op=.store ta aa xa) (hdsta:oa.dst=none) (hga:oa.guard=none)
  (hob:ops[b]?=some ob) (hopb:ob.op=.store tb ab xb) (hdstb:ob.dst=none) (hgb:ob.guard=none) :
  VRs g fr.tmps tm∧tops fr.tmps≤s.n∧∃s2,fin=(.normal,fr,s2)∧s2.n=s.n∧
   (∃w1 w2 g2,(Instr.storeAt ta (zAE tm aa) (zAE tm xa)).run P w=.ok () w1∧(Instr.storeAt tb (zAE tm ab) (zAE tm xb)).run P w1=.ok () w2∧Rel base w0 g2 s2 w2∧Grows s.n g g2)∧
   (∃wX w2 g2,(Instr.storeAt tb (zAE tm ab) (zAE tm xb)).run P w=.ok () wX∧(Instr.storeAt ta (zAE tm aa) (zAE tm xa)).run P wX=.ok () w2∧Rel base w0 g2 s2 w2∧Grows s.n g g2):=by
 obtain⟨hrest,_,hda,hdb,hab,hpa,hpb,hx,hlt,_⟩:=zGX h.st
 subst hrest
 obtain⟨frS,f1,f2,f3,f4⟩:=h.fS
 have htm:frS.tmps=fr.tmps:=by
  refine List.ext_getElem? fun t=>?_
  have:=f4 t (fun i o hi hd=>by
   have hlt':=(Array.getElem?_eq_some_iff.1 hi).1
   by_cases ea:i=a
   ·subst ea;exact⟨fun e=>absurd e hSa,fun e=>by rw[hda] at e;cases e⟩
   ·by_cases eb:i=b
    ·subst eb;exact⟨fun e=>absurd e hSb,fun e=>by rw[hdb] at e;cases e⟩
    ·exact⟨fun _=>(hx i hlt' ea eb).1,fun _=>hall i hlt' ea eb⟩)
  rw[zCJ,zCJ,List.getD_eq_getElem?_getD,List.getD_eq_getElem?_getD] at this
  by_cases hlt:t<fr.tmps.length
  ·rw[List.getElem?_eq_getElem hlt,List.getElem?_eq_getElem (by rw[f1];exact hlt)] at this ⊢
   simpa using this
  ·rw[List.getElem?_eq_none (by rw[f1];omega),List.getElem?_eq_none (by omega)]
 rw[htm] at f2 f3
 have hrun:=h.run
 simp only[runP] at hrun
 rw[cond_eq_ite] at hrun
 split at hrun
 ·rename_i hap
  rw[zUX hoa,zUX hob] at hrun
  simp only[hga,hgb,hdsta,hdstb,hopa,hopb,zAM,cond_true,opA,zNB] at hrun
  unfold zQL zN2 at hap
  rw[zUX hoa,zUX hob] at hap
  simp only[hopa,hopb] at hap
  cases hA:zAD fr aa with
  | none=>rw[hA] at hap;cases hap
  | some A=>
  cases hB:zAD fr ab with
  | none=>
   rw[hA,hB] at hap
   simp only at hap
   split at hap<;>cases hap
  | some B=>
  cases hX:zAD fr xa with
  | none=>rw[hA,hX] at hrun;simp only[zBN] at hrun;cases hrun
  | some X=>
  rw[hA,hX] at hrun
  cases hs1:zGZ s (E.types ta) A X with
  | none=>simp only[hs1,ns,zBN] at hrun;cases hrun
  | some s1=>
  simp only[hs1,ns,zBN,Fr.put] at hrun
  rw[hB] at hrun
  cases hY:zAD fr xb with
  | none=>rw[hY] at hrun;cases hrun
  | some Y=>
  rw[hY] at hrun
  cases hs2:zGZ s1 (E.types tb) B Y with
  | none=>simp only[hs2,ns] at hrun;cases hrun
  | some s2=>
  simp only[hs2,ns] at hrun
  cases hrun
  rw[hA,hB] at hap
  have hne:∀k,boxOf A=some k→boxOf B≠some k:=by
   intro k hk hk2
   cases A<;>cases hk<;>cases B<;>cases hk2<;>simp at hap
  have hva:=zA9 f2 hA
  have hvb:=zA9 f2 hB
  have hvx:=zA9 f2 hX
  have hvy:=zA9 f2 hY
  have hta:=zCX f3 hA
  have htb:=zCX f3 hB
  have htx:=zCX f3 hX
  have hty:=zCX f3 hY
  have hoka:=hok oa (Array.mem_of_getElem? hoa)
  have hokb:=hok ob (Array.mem_of_getElem? hob)
  rw[hopa] at hoka
  rw[hopb] at hokb
  obtain⟨w1,g1,e1,r1,gr1,n1⟩:=zFY (hE.ti ta hoka) h.rel hs1 hva hvx htx
  obtain⟨w2,g2,e2,r2,gr2,n2⟩:=zFY (hE.ti tb hokb) r1 hs2 (hvb.grows gr1 htb) (hvy.grows gr1 hty) (by omega)
  obtain⟨wX,w3,g3,e3,e4,r3,gr3,n3⟩:=zQV (hE.ti ta hoka) (hE.ti tb hokb) h.rel hs1 hs2 hva hvx hvb hvy htx htb hty hne
  exact⟨f2,f3,s2,rfl,by omega,⟨w1,w2,g2,e1,e2,r2,gr1.trans (gr2.less (by omega))⟩,⟨wX,w3,g3,e3,e4,r3,gr3⟩⟩
 ·cases hrun
theorem zQK (hE:TysOk E P)(hok:∀o∈ops,okOp E o.op=true){kd:CallKind}{rn:Option Nat}{df:List Deferred}{cs:List Frame}{k:List Item}{wS:World}{tmS:Array Value}
  (hf0:FI base w0 g0 s0 wS fr0 tmS df kd rn cs false) {a b:Nat} {rest:List PStep}
  (h:DI E P r base w0 fid ops g0 s0.n fr0 fin S pend g s w fr tm (.apart a b :: rest) done louds U []) (hSa:¬ S a) (hSb:¬ S b) (hall:∀x,x<ops.size→x≠a→x≠b→S x) {i j:Nat} (hij:(i=a∧j=b)∨(i=b∧j=a)) :
  Lands P base w0 fid kd rn k (lone (mk fid kd rn tm df (.inRegion ops [i,j] :: k)) cs w) g0 s0.n fr0.rec_ cs fin.1 fin.2.1 fin.2.2:=by
 obtain⟨_,_,_,_,_,hpa,hpb,_⟩:=zGX h.st
 obtain⟨oa,ta,aa,xa,hoa,hopa,hdsta,hga⟩:=zB0 hpa
 obtain⟨ob,tb,ab,xb,hob,hopb,hdstb,hgb⟩:=zB0 hpb
 obtain⟨f2,f3,s2,hfin,n2,⟨w1,w2,g2,e1,e2,r2,gr2⟩,⟨wX,w3,g3,e3,e4,r3,gr3⟩⟩:=zNX hE hok h hSa hSb hall hoa hopa hdsta hga hob hopb hdstb hgb
 rcases hij with⟨rfl,rfl⟩|⟨rfl,rfl⟩
 ·exact h.ends hf0 hfin r2 gr2 n2 (f2.grows gr2 f3) f3 ((zHU hoa hopa hdsta hga e1).trans (zHU hob hopb hdstb hgb e2))
 ·exact h.ends hf0 hfin r3 gr3 n2 (f2.grows gr3 f3) f3 ((zHU hob hopb hdstb hgb e3).trans (zHU hoa hopa hdsta hga e4))
theorem zNO {d:Tmp}{v:Value}{tm:Array Value}{l:List Operand}(hd:d ∉ tmpsOf l):∀x∈l,zAE (putT (some d) v tm) x=zAE tm x:=by
 intro x hx
 cases x with
 | tmp t=>
  have hne:d≠t:=fun e=>hd (by subst e;exact zNE.2 hx)
  show(tm.setIfInBounds d v).getD t _=tm.getD t _
  rw[Array.getD_eq_getD_getElem?,Array.getD_eq_getD_getElem?,Array.getElem?_setIfInBounds,if_neg hne]
 | _=>rfl
theorem zVX (hE:TysOk E P)(hO:OpsOk ops)(hok:∀o∈ops,okOp E o.op=true){kd:CallKind}{rn:Option Nat}{df:List Deferred}{cs:List Frame}{k:List Item}{wS:World}{tmS:Array Value}
  (hf0:FI base w0 g0 s0 wS fr0 tmS df kd rn cs false) {a b q:Nat} {rest:List PStep}
  (h:DI E P r base w0 fid ops g0 s0.n fr0 fin S pend g s w fr tm (.apart a b :: rest) done louds U []) (hSa:¬ S a) (hSb:¬ S b) (hSq:¬ S q) (hall:∀x,x<ops.size→x≠a→x≠b→x≠q→S x)
  (hqU:q∈U) (hqp:zLG ops.toList a b q=true) :
  Lands P base w0 fid kd rn k (lone (mk fid kd rn tm df (.inRegion ops [b,q,a] :: k)) cs w) g0 s0.n fr0.rec_ cs fin.1 fin.2.1 fin.2.2:=by
 obtain⟨_,_,hda,hdb,_,hpa,hpb,hxd,_⟩:=zGX h.st
 obtain⟨oa,ta,aa,xa,hoa,hopa,hdsta,hga⟩:=zB0 hpa
 obtain⟨ob,tb,ab,xb,hob,hopb,hdstb,hgb⟩:=zB0 hpb
 obtain⟨oq,tq,aq,xq,d,hoq,hopq,hdq,hgq,hnr,hedge⟩:=zKA hqp
 have hqlt:=(Array.getElem?_eq_some_iff.1 hoq).1
 have he:∀e∈oq.after.toList,zCF e=true→S e.on:=by
  intro e hem hb
  have h1:=hedge e hem hb
  have h2:=hO.edges q oq hoq e hem hb
  exact hall e.on (by omega) h1.1 h1.2 (by omega)
 obtain⟨o',d',h1,h2,h3,h3',h4,h5,h6⟩:=h.uf q hqU hSq
 rw[hoq] at h1;cases h1
 rw[hdq] at h2;cases h2
 obtain⟨frS,f1,f2,f3,f4⟩:=h.fS
 have hrd:=h.reads hO hoq hSq he (h.pre q h3) (.inr h6)
 have hag:∀t∈zBJ ops.toList oq,lget frS.tmps t=lget fr.tmps t:=fun t ht=>f4 t (fun i' q' hi' hq=>hrd t ht i' q' hi' hq)
 obtain⟨v,hv,hlg⟩:=h5 (by simp) (by rw[hgq];rfl)
 have hvS:opQ E fid frS oq.op s=some v:=by
  rw[← hv];exact zI0 (zF8 fun t ht=>hag t (by unfold zBJ;exact List.mem_append_right _ ht))
 have hokq:=hok oq (Array.mem_of_getElem? hoq)
 obtain⟨v',w1,g1,hrun,hrel,hg,hvr,ht,hn⟩:=zXK hE hokq h.rel f2 f3 hvS
 have hex:execOp (zAE tm) oq=(do pure (.value (← Instr.indexAt tq (zAE tm aq) (zAE tm xq)))):=by unfold execOp;rw[hopq]
 rw[hopq] at hokq
 have hrun':(Instr.indexAt tq (zAE tm aq) (zAE tm xq)).run P w=.ok v' w1:=by
  rw[hex] at hrun
  simp only[Sem.run_bind] at hrun
  cases hh:(Instr.indexAt tq (zAE tm aq) (zAE tm xq)).run P w with
  | ok u w'=>rw[hh] at hrun;simp at hrun;obtain⟨rfl,rfl⟩:=hrun;rfl
  | halt e w'=>rw[hh] at hrun;simp at hrun
 obtain⟨rfl,hany⟩:=zRS (hE.ti tq hokq) hrun'
 have hx:∀W,(execOp (zAE tm) oq).run P W=.ok (.value v') W:=fun W=>by rw[hex];simp[Sem.run_bind,hany W]
 have h':=h.quietPut hO hoq hdq hSq h3 he hrel hg hvr ht hlg
 have hall':∀x,x<ops.size→x≠a→x≠b→(S x∨x=q):=by
  intro x hx ha hb
  by_cases e:x=q
  ·exact .inr e
  ·exact .inl (hall x hx ha hb e)
 have hqa:q≠a:=fun e=>by rw[e,hda] at h3;cases h3
 have hqb:q≠b:=fun e=>by rw[e,hdb] at h3;cases h3
 obtain⟨k2,k3,s2,hfin,n2,_,⟨wX,w3,g3,e3,e4,r3,gr3⟩⟩:=zNX hE hok h' (fun e=>e.elim hSa (fun e=>hqa e.symm)) (fun e=>e.elim hSb (fun e=>hqb e.symm)) hall' hoa hopa hdsta hga hob hopb hdstb hgb
 have hdn:d ∉ tmpsOf [ab,xb]:=by
  have:=zIG hnr b (by simp) ob (by rw[Array.getElem?_toList];exact hob)
  intro hm
  apply this
  unfold zBJ
  refine List.mem_append_right _ ?_
  rw[hopb]
  exact hm
 rw[zNO hdn ab (by simp),zNO hdn xb (by simp)] at e3
 have hwq:Region.wanted oq (yielded ops tm)=true:=by unfold Region.wanted;rw[hgq]
 have stq:=zFD (f:=fid) (kd:=kd) (rn:=rn) (df:=df) (k:=k) (cs:=cs) (rest:=[a]) hoq hwq (.inr (by rw[hopq];rfl)) (hx wX)
 rw[hdq] at stq
 exact h'.ends hf0 hfin r3 gr3 n2 (k2.grows gr3 k3) k3 ((zHU hob hopb hdstb hgb e3).trans ((Steps.one stq).trans (zHU hoa hopa hdsta hga e4)))
end
section
variable {E:Env}{P:Program}{OK:FuncId→Code→Prop}{r:Rec}{base:Nat}{w0:World}{fid:FuncId}{ops:Array Oper}{g0:Gh}{s0:Sto}{fr0:Fr}{fin:Out×Fr×Sto}
theorem draw_go (hE:TysOk E P)(hO:OpsOk ops)(hc:CallSim P OK r)(hro:zFK P OK r)(hok:∀o∈ops,okOp E o.op=true)(hg0:g0.ok=OK){kd:CallKind}{rn:Option Nat}{df:List Deferred}{cs:List Frame}{k:List Item}{wS:World}{tmS:Array Value}
  (hf0:FI base w0 g0 s0 wS fr0 tmS df kd rn cs false) (hpan:∀v,fin.1=.panic v→allMarks fin.2.1.defers=true) :
  ∀(fuel t:Nat) (listed:Array Bool),listed.size=ops.size→cf listed.toList=fuel→∀{pend:Nat→Option Nat} {g:Gh} {s:Sto} {w:World} {fr:Fr} {tm:Array Value} {pl:List PStep} {done louds:Nat} {U:List Nat},
   DI E P r base w0 fid ops g0 s0.n fr0 fin (fun i=>listed.getD i false=true) pend g s w fr tm pl done louds U []→(pl=[]∨(∃i rest,pl=.l i :: rest∧¬ listed.getD i false=true)∨∃a b rest,pl=.apart a b :: rest)→
   Lands P base w0 fid kd rn k (lone (mk fid kd rn tm df (.inRegion ops (Region.linearise.go .any ops fuel t listed []) :: k)) cs w) g0 s0.n fr0.rec_ cs fin.1 fin.2.1 fin.2.2:=by
 intro fuel
 have fini:∀(t:Nat) (listed:Array Bool) (idx:List Nat),listed.size=ops.size→idx=[]→(∀i,i<ops.size→listed.getD i false=true)→∀{pend:Nat→Option Nat} {g:Gh} {s:Sto} {w:World} {fr:Fr} {tm:Array Value} {pl:List PStep} {done louds:Nat} {U:List Nat},
   DI E P r base w0 fid ops g0 s0.n fr0 fin (fun i=>listed.getD i false=true) pend g s w fr tm pl done louds U []→(pl=[]∨(∃i rest,pl=.l i :: rest∧¬ listed.getD i false=true)∨∃a b rest,pl=.apart a b :: rest)→
   Lands P base w0 fid kd rn k (lone (mk fid kd rn tm df (.inRegion ops idx :: k)) cs w) g0 s0.n fr0.rec_ cs fin.1 fin.2.1 fin.2.2:=by
  intro t listed idx hsz hidx hall pend g s w fr tm pl done louds U h hpl
  subst hidx
  have hpl:pl=[]:=by
   rcases hpl with e|⟨i,rest,e,hn⟩|⟨a,b,rest,e⟩
   ·exact e
   ·exfalso
    subst e
    obtain⟨o,ho,_⟩:=zIH h.st
    exact hn (hall i (Array.getElem?_eq_some_iff.1 ho).1)
   ·exfalso
    subst e
    obtain⟨_,_,hda,_,_,hpa,_⟩:=zGX h.st
    obtain⟨oa,ta,aa,xa,hoa,hopa,_,_⟩:=zB0 hpa
    rcases h.SD a (hall a (Array.getElem?_eq_some_iff.1 hoa).1) with e|⟨x,e⟩
    ·rw[hda] at e;cases e
    ·obtain⟨_,_,o,_,h1,h2,_⟩:=h.pnd a x e
     rw[hoa] at h1;cases h1
     rw[hopa] at h2;cases h2
  subst hpl
  have hrun:=h.run
  simp only[runP] at hrun
  cases hrun
  have hdone:∀i,i<ops.size→hasM done i=true:=by
   intro i hi
   have hst:=h.st
   simp only[zB2,cond_eq_ite] at hst
   split at hst
   ·have hd:=Nat.eq_of_beq_eq_true hst
    have:llen ops.toList=ops.size:=by rw[zAH,Array.length_toList]
    rw[this] at hd
    rw[hd,zE9]
    have h2:(Nat.pow 2 ops.size-1).testBit i=decide (i<ops.size):=Nat.testBit_two_pow_sub_one _ _
    rw[h2];exact decide_eq_true hi
   ·cases hst
  obtain⟨frS,f1,f2,f3,f4⟩:=h.fS
  have htm:frS.tmps=fr.tmps:=by
   refine List.ext_getElem? fun t=>?_
   have:=f4 t (fun i o hi hd=>⟨fun _=>hdone i (Array.getElem?_eq_some_iff.1 hi).1,fun _=>hall i (Array.getElem?_eq_some_iff.1 hi).1⟩)
   rw[zCJ,zCJ,List.getD_eq_getElem?_getD,List.getD_eq_getElem?_getD] at this
   by_cases hlt:t<fr.tmps.length
   ·rw[List.getElem?_eq_getElem hlt,List.getElem?_eq_getElem (by rw[f1];exact hlt)] at this ⊢
    simpa using this
   ·rw[List.getElem?_eq_none (by rw[f1];omega),List.getElem?_eq_none (by omega)]
  rw[htm] at f2 f3
  have hgr:Grows s0.n g0 { g with Z:=g0.Z }:=⟨h.grw.mu,h.grw.es,h.grw.rl,h.grw.bs,h.grw.C,h.ok,h.Cb,rfl⟩
  refine⟨{ g with Z:=g0.Z },w,tm,df,cs,hgr,h.n,?_,?_,.one zEH⟩
  ·rw[h.frec];exact .refl _ _
  ·refine⟨h.rel.reZ h.z0,fun _=>⟨f2.grw (Grw.reZ g s.n _) f3,f3⟩,?_,?_,?_,hf0.kd⟩
   ·rw[h.fdf];exact hf0.df.grows hgr h.n
   ·rw[h.frec];exact hf0.rec_.grows hgr h.n
   ·have:=hf0.rnd;unfold zGO at this ⊢;rw[h.frec];exact this
 induction fuel with
 | zero=>
  intro t listed hsz hcf pend g s w fr tm pl done louds U h hpl
  refine fini t listed _ hsz rfl (fun i hi=>?_) h hpl
  have hb:=cf_zero hcf i listed[i] (by rw[Array.getElem?_toList];exact Array.getElem?_eq_getElem (by omega))
  rw[Array.getD_eq_getD_getElem?,Array.getElem?_eq_getElem (by omega)]
  exact hb
 | succ fuel ih=>
  intro t listed hsz hcf pend g s w fr tm pl done louds U h hpl
  rw[zRT]
  cases hi:(Region.ready .any ops listed)[t % (Region.ready .any ops listed).length]? with
  | none=>
   simp only
   refine fini t listed _ hsz rfl ?_ h hpl
   have hnil:Region.ready .any ops listed=[]:=by
    cases hr:Region.ready .any ops listed with
    | nil=>rfl
    | cons x xs=>
     rw[hr] at hi
     have hlt:t % (x :: xs).length<(x :: xs).length:=Nat.mod_lt _ (by simp)
     rw[List.getElem?_eq_none_iff] at hi
     omega
   intro i
   induction i using Nat.strongRecOn with
   | _ i ihi=>
    intro hi'
    cases hl:listed.getD i false with
    | true=>rfl
    | false=>
     exfalso
     have hmem:i∈Region.ready .any ops listed:=by
      unfold Region.ready
      rw[List.mem_filter]
      refine⟨List.mem_range.2 hi',?_⟩
      have hl2:listed.getD i true=false:=by
       rw[Array.getD_eq_getD_getElem?] at hl ⊢
       rw[Array.getElem?_eq_getElem (by omega)] at hl ⊢
       exact hl
      rw[hl2,Array.getElem?_eq_getElem hi']
      simp only[Bool.not_false,Option.map_some,Option.getD_some,Bool.true_and]
      rw[Array.all_eq_true]
      intro x hx
      rw[Bool.or_eq_true]
      cases hb:Region.binds .any (ops[i].after[x]) with
      | false=>exact .inl rfl
      | true=>
       right
       rw[zJI] at hb
       have hlt:=hO.edges i ops[i] (Array.getElem?_eq_getElem hi') _ (by simp) hb
       exact ihi _ hlt (by omega)
     rw[hnil] at hmem
     cases hmem
  | some i=>
   simp only
   have hmem:=List.mem_of_getElem? hi
   unfold Region.ready at hmem
   rw[List.mem_filter,List.mem_range] at hmem
   obtain⟨hlt,hrd⟩:=hmem
   have ho:ops[i]?=some ops[i]:=Array.getElem?_eq_getElem hlt
   rw[Bool.and_eq_true] at hrd
   have hnl:¬ listed.getD i false=true:=by
    have h1:listed.getD i true=false:=by simpa using hrd.1
    rw[Array.getD_eq_getD_getElem?] at h1 ⊢
    rw[Array.getElem?_eq_getElem (by omega)] at h1 ⊢
    simp only[Option.getD_some] at h1 ⊢
    rw[h1];simp
   have he:∀e∈ops[i].after.toList,zCF e=true→listed.getD e.on false=true:=by
    intro e hem hb
    have h2:=hrd.2
    rw[ho] at h2
    simp only[Option.map_some,Option.getD_some] at h2
    rw[Array.all_eq_true] at h2
    obtain⟨x,hx,hxe⟩:=Array.mem_iff_getElem.1 (Array.mem_toList_iff.1 hem)
    have h3:=h2 x hx
    rw[hxe,zJI,hb] at h3
    simpa using h3
   have hset:∀y,(listed.setIfInBounds i true).getD y false=true↔(listed.getD y false=true∨y=i):=by
    intro y
    rw[Array.getD_eq_getD_getElem?,Array.getD_eq_getD_getElem?,Array.getElem?_setIfInBounds]
    by_cases e:i=y
    ·subst e
     rw[if_pos rfl,if_pos (by omega)]
     simp
    ·rw[if_neg e]
     exact⟨.inl,fun hh=>hh.resolve_right (fun e2=>e e2.symm)⟩
   have hsetf:(fun y=>(listed.setIfInBounds i true).getD y false=true)=(fun y=>listed.getD y false=true∨y=i):=funext fun y=>propext (hset y)
   have hcf':cf (listed.setIfInBounds i true).toList=fuel:=by
    have h1:listed.toList[i]?=some false:=by
     rw[Array.getElem?_toList,Array.getElem?_eq_getElem (by omega)]
     rw[Array.getD_eq_getD_getElem?,Array.getElem?_eq_getElem (by omega)] at hnl
     simpa using hnl
    have h2:=cf_set h1
    rw[Array.toList_setIfInBounds]
    omega
   have hsz':(listed.setIfInBounds i true).size=ops.size:=by simp[hsz]
   have next:∀{pend:Nat→Option Nat} {g:Gh} {s:Sto} {w1:World} {fr:Fr} {tm1:Array Value} {pl:List PStep} {done louds:Nat} {U due:List Nat},
     DI E P r base w0 fid ops g0 s0.n fr0 fin (fun y=>listed.getD y false=true∨y=i) pend g s w1 fr tm1 pl done louds U due→(∀j,hasM done j=false→j ∉ due)→
     Steps P (lone (mk fid kd rn tm df (.inRegion ops (i :: Region.linearise.go .any ops fuel (t / (Region.ready .any ops listed).length) (listed.setIfInBounds i true) []) :: k)) cs w)
      (lone (mk fid kd rn tm1 df (.inRegion ops (Region.linearise.go .any ops fuel (t / (Region.ready .any ops listed).length) (listed.setIfInBounds i true) []) :: k)) cs w1)→
     Lands P base w0 fid kd rn k (lone (mk fid kd rn tm df (.inRegion ops (i :: Region.linearise.go .any ops fuel (t / (Region.ready .any ops listed).length) (listed.setIfInBounds i true) []) :: k)) cs w) g0 s0.n fr0.rec_ cs fin.1 fin.2.1 fin.2.2:=by
    intro pend g s w1 fr tm1 pl done louds U due h' hdd hst
    rw[← hsetf] at h'
    obtain⟨pend2,g2,s2,fr2,pl2,done2,louds2,U2,h2,hpl2⟩:=h'.advance hE hO hdd
    exact(ih _ _ hsz' hcf' h2 hpl2).steps hst
   by_cases hdone:hasM done i=true
   ·
    have hU:i∈U:=(h.dU i hdone).resolve_left hnl
    obtain⟨g1,w1,tm1,h',hst⟩:=h.quietStep hE hO hok hU hnl ho he (kd:=kd) (rn:=rn) (df:=df) (k:=k) (cs:=cs) (Region.linearise.go .any ops fuel (t / (Region.ready .any ops listed).length) (listed.setIfInBounds i true) [])
    exact next h' (fun j _=>by simp) hst
   ·have hnd:hasM done i=false:=by simpa using hdone
    rcases hpl with e|⟨L,rest,e,hnL⟩|⟨a,b,rest,e⟩
    ·subst e
     exfalso
     have hst:=h.st
     simp only[zB2,cond_eq_ite] at hst
     split at hst
     ·have hd:=Nat.eq_of_beq_eq_true hst
      have:llen ops.toList=ops.size:=by rw[zAH,Array.length_toList]
      rw[this] at hd
      rw[hd,zE9] at hnd
      have h2:(Nat.pow 2 ops.size-1).testBit i=decide (i<ops.size):=Nat.testBit_two_pow_sub_one _ _
      rw[h2] at hnd
      simp[hlt] at hnd
     ·cases hst
    ·subst e
     by_cases hLi:L=i
     ·subst hLi
      rcases h.loudStep hE hO hc hro hok hg0 hnl ho he (kd:=kd) (rn:=rn) (df:=df) (k:=k) (cs:=cs) (Region.linearise.go .any ops fuel (t / (Region.ready .any ops listed).length) (listed.setIfInBounds L true) []) with⟨g1,s1,w1,fr1,tm1,d',l',U',due',h',hdd,hst⟩|⟨v,s1,g1,w1,v',k2,hfin,hg,hrel,hn,hv,hi',ht,hst⟩
      ·exact next h' hdd hst
      ·subst hfin
       have hgr:Grows s0.n g0 { g1 with Z:=g0.Z }:=by
        have hgw:=h.grw.trans (hg.grw.less h.n)
        exact⟨hgw.mu,hgw.es,hgw.rl,hgw.bs,hgw.C,hg.ok.trans h.ok,hg.Cb.trans h.Cb,rfl⟩
       have hn1:=h.n
       refine⟨{ g1 with Z:=g0.Z },w1,tm,df,cs,hgr,Nat.le_trans hn1 hn,?_,?_,v',k2,hv.grw (Grw.reZ g1 s1.n _) ht,hi',ht,hst⟩
       ·rw[show((Out.panic v,fr,s1):Out×Fr×Sto).2.1.rec_=fr0.rec_ from h.frec];exact .refl _ _
       ·have hall:=hpan v rfl
        refine⟨hrel.reZ fun b o hz=>by rw[hg.Z];exact h.z0 b o hz,fun e=>?_,?_,?_,?_,hf0.kd⟩
        ·rw[hall] at e;cases e
        ·rw[show((Out.panic v,fr,s1):Out×Fr×Sto).2.1.defers=fr0.defers from h.fdf];exact hf0.df.grows hgr (Nat.le_trans hn1 hn)
        ·rw[show((Out.panic v,fr,s1):Out×Fr×Sto).2.1.rec_=fr0.rec_ from h.frec];exact hf0.rec_.grows hgr (Nat.le_trans hn1 hn)
        ·have:=hf0.rnd;unfold zGO at this ⊢;rw[show((Out.panic v,fr,s1):Out×Fr×Sto).2.1.rec_=fr0.rec_ from h.frec];exact this
     ·
      obtain⟨q,hq,hLnd,_,_,_,_,_,_,hst⟩:=zIH h.st
      have hnd':hasM (orM done (zC2 L)) i=false:=by rw[zAO,hnd,zAT,Bool.false_or];exact decide_eq_false hLi
      rcases later (L:=L) ho hst hnd' (by rw[zAO,zAT];simp) (fun hm=>by have:=h.Ud L (zDA.1 hm).1;rw[hLnd] at this;cases this) with h1|h1
      ·exfalso
       have hm:=h1 (by rw[zAO,zAT];simp)
       exact hnL (zHX h.clo (by rw[Array.getElem?_toList];exact ho) he hm)
      ·obtain⟨pend1,g1,w1,tm1,h',hst⟩:=h.early hE hO hok hnl hnd ho h1.1 h1.2 he (kd:=kd) (rn:=rn) (df:=df) (k:=k) (cs:=cs) (Region.linearise.go .any ops fuel (t / (Region.ready .any ops listed).length) (listed.setIfInBounds i true) [])
       exact next h' (fun j _=>by simp) hst
    ·
     subst e
     obtain⟨hrest,_,hda,hdb,hab,hpa,hpb,hx,hltd,hq⟩:=zGX h.st
     have notS:∀{c:Nat},zDK ops.toList c=true→hasM done c=false→¬ listed.getD c false=true:=by
      intro c hp hd hS
      obtain⟨oa,ta,aa,xa,hoa,hopa,_,_⟩:=zB0 hp
      rcases h.SD c hS with e|⟨x,e⟩
      ·rw[hd] at e;cases e
      ·obtain⟨_,_,o,_,h1,h2,_⟩:=h.pnd c x e
       rw[hoa] at h1;cases h1
       rw[hopa] at h2;cases h2
     have hSa:=notS hpa hda
     have hSb:=notS hpb hdb
     have hblt:∀{c:Nat},zDK ops.toList c=true→c<ops.size:=by
      intro c hp
      obtain⟨oa,ta,aa,xa,hoa,_⟩:=zB0 hp
      exact(Array.getElem?_eq_some_iff.1 hoa).1
     have hiab:i=a∨i=b:=by
      by_cases ea:i=a
      ·exact .inl ea
      ·by_cases eb:i=b
       ·exact .inr eb
       ·have:=(hx i hlt ea eb).1
        rw[hnd] at this;cases this
     have fin2:(∀x,x<ops.size→x≠a→x≠b→listed.getD x false=true)→Lands P base w0 fid kd rn k (lone (mk fid kd rn tm df (.inRegion ops (i :: Region.linearise.go .any ops fuel (t / (Region.ready .any ops listed).length) (listed.setIfInBounds i true) []) :: k)) cs w) g0 s0.n fr0.rec_ cs fin.1 fin.2.1 fin.2.2:=by
      intro hall
      have hlast:∀c,((i=a∧c=b)∨(i=b∧c=a))→Region.linearise.go .any ops fuel (t / (Region.ready .any ops listed).length) (listed.setIfInBounds i true) []=[c]:=by
       intro c hc
       have hci:c≠i:=by rcases hc with⟨rfl,rfl⟩|⟨rfl,rfl⟩;exact fun e=>hab e.symm;exact hab
       refine go_one hO ?_ hsz' hcf' (fun x hx' hxc=>?_) ?_
       ·rcases hc with⟨_,rfl⟩|⟨_,rfl⟩;exact hblt hpb;exact hblt hpa
       ·rw[hset]
        by_cases e:x=i
        ·exact .inr e
        ·left
         refine hall x hx' ?_ ?_
         ·rcases hc with⟨h1,h2⟩|⟨h1,h2⟩;rw[← h1];exact e;rw[← h2];exact hxc
         ·rcases hc with⟨h1,h2⟩|⟨h1,h2⟩;rw[← h2];exact hxc;rw[← h1];exact e
       ·rw[hset]
        rintro(e|e)
        ·rcases hc with⟨_,rfl⟩|⟨_,rfl⟩;exact hSb e;exact hSa e
        ·exact hci e
      rcases hiab with e|e
      ·rw[hlast b (.inl ⟨e,rfl⟩)]
       exact zQK hE hok hf0 h hSa hSb hall (.inl ⟨e,rfl⟩)
      ·rw[hlast a (.inr ⟨e,rfl⟩)]
       exact zQK hE hok hf0 h hSa hSb hall (.inr ⟨e,rfl⟩)
     have hpre:∀x,hasM (nthN (closes ops.toList []) i) x=true→listed.getD x false=true:=fun x hx=>zHX h.clo (by rw[Array.getElem?_toList];exact ho) he hx
     rcases hiab with e|e
     ·subst e
      exact fin2 fun x h1 h2 h3=>hpre x (hx x h1 h2 h3).2
     ·rcases hq with hq|⟨q,hqU,hqp,hqa,hq⟩
      ·subst e
       exact fin2 fun x h1 h2 h3=>hpre x (hq x h1 h2 h3)
      ·by_cases hlq:listed.getD q false=true
       ·subst e
        refine fin2 fun x h1 h2 h3=>?_
        by_cases exq:x=q
        ·rw[exq];exact hlq
        ·exact hpre x (hq x h1 h2 h3 exq)
       ·
        subst e
        obtain⟨oq,tq,aq,xq,d,hoq,hopq,hdq,hgq,hnr,hedge⟩:=zKA hqp
        have hqlt:=(Array.getElem?_eq_some_iff.1 hoq).1
        have hqd:=h.Ud q hqU
        have hnqa:q≠a:=fun e=>by rw[e,hda] at hqd;cases hqd
        have hnqb:q≠i:=fun e=>by rw[e,hdb] at hqd;cases hqd
        have hall:∀x,x<ops.size→x≠a→x≠i→x≠q→listed.getD x false=true:=fun x h1 h2 h3 h4=>hpre x (hq x h1 h2 h3 h4)
        have halt:=hblt hpa
        have hgo:Region.linearise.go .any ops fuel (t / (Region.ready .any ops listed).length) (listed.setIfInBounds i true) []=[q,a]:=by
         refine go_two hO hqlt halt hnqa hsz' hcf' (fun x h1 h2 h3=>?_) ?_ ?_ ?_ ?_
         ·rw[hset]
          by_cases e:x=i
          ·exact .inr e
          ·exact .inl (hall x h1 h3 e h2)
         ·rw[hset];rintro(e|e);exact hlq e;exact hnqb e
         ·rw[hset];rintro(e|e);exact hSa e;exact hab e
         ·intro e hem hb
          have hoq':ops[q]=oq:=by rw[Array.getElem?_eq_getElem hqlt] at hoq;injection hoq
          rw[hoq'] at hem
          have h1:=hedge e hem hb
          have h2:=hO.edges q oq hoq e hem hb
          rw[hset]
          exact .inl (hall e.on (by omega) h1.1 h1.2 (by omega))
         ·intro hh
          have hcl:Closed ops.toList (fun y=>listed.getD y false=true∨y=i):=h.clo.add ho he
          have:=zHX hcl (j:=a) (o:=ops[a]) (by rw[Array.getElem?_toList];exact Array.getElem?_eq_getElem halt) (fun e hem hb=>(hset e.on).1 (hh e hem hb)) hqa
          rcases this with e|e
          ·exact hlq e
          ·exact hnqb e
        rw[hgo]
        exact zVX hE hO hok hf0 h hSa hSb hlq hall hqU hqp
theorem draw_sim (hE:TysOk E P)(hmix:P.follows .mixedOrders=true)(hc:CallSim P OK r)(hro:zFK P OK r){id:Nat}(hplan:zS7 ops.toList (E.plan fid id)=true)(hok:∀o∈ops,okOp E o.op=true)(hg0:g0.ok=OK)
  {kd:CallKind} {rn:Option Nat} {df:List Deferred} {cs:List Frame} {k:List Item} {w:World} {tm:Array Value} {o:Out} {fr':Fr} {s':Sto}
  (hf0:FI base w0 g0 s0 w fr0 tm df kd rn cs false) (h:zMC (runP r E fid ops.toList (E.plan fid id) fr0 s0)=some (o,fr',s')) :
  Lands P base w0 fid kd rn k (lone (mk fid kd rn tm df (.code (.region id ops true) :: k)) cs w) g0 s0.n fr0.rec_ cs o fr' s':=by
 obtain⟨hO,hst⟩:=zQ7 hplan
 have hrun:runP r E fid ops.toList (E.plan fid id) fr0 s0=some (o,fr',s')∧∀v,o=.panic v→allMarks fr'.defers=true:=by
  unfold zMC at h
  split at h
  ·rename_i v fr1 s1 hr
   rw[cond_eq_ite] at h
   split at h
   ·rename_i ha
    cases h
    exact⟨hr,fun _ _=>ha⟩
   ·cases h
  ·rename_i hne
   refine⟨h,fun v e=>?_⟩
   subst e
   exact absurd h (hne v fr' s')
 refine Lands.steps (.one st_draw) ?_
 have hsch:Region.schedule (P.follows .mixedOrders) ops (w.tape w.drawn (.order fid id))=Region.linearise.go .any ops ops.size (w.tape w.drawn (.order fid id)) (Array.replicate ops.size false) []:=by
  simp only[Region.schedule,hmix,Bool.true_or,if_true];rfl
 rw[hsch]
 have hrel:Rel base w0 g0 s0 { w with drawn:=w.drawn+1 }:=hf0.rel.same rfl
 have hf1:FI base w0 g0 s0 { w with drawn:=w.drawn+1 } fr0 tm df kd rn cs false:=⟨hrel,hf0.tm,hf0.df,hf0.rec_,hf0.rnd,hf0.kd⟩
 have hS0:∀i,¬ (Array.replicate ops.size false).getD i false=true:=by
  intro i
  rw[Array.getD_eq_getD_getElem?,Array.getElem?_replicate]
  split<;>simp
 have h0:DI E P r base w0 fid ops g0 s0.n fr0 (o,fr',s') (fun i=>(Array.replicate ops.size false).getD i false=true) (fun _=>none) g0 s0 { w with drawn:=w.drawn+1 } fr0 tm (E.plan fid id) 0 0 [] []:=by
  refine⟨hrel,rfl,rfl,Grw.refl _ _,Nat.le_refl _,fun _ _ h=>h,rfl,rfl,⟨fr0,rfl,(hf0.tm rfl).1,(hf0.tm rfl).2,fun _ _=>rfl⟩,fun i hi=>absurd hi (hS0 i),fun i b hb=>(by cases hb),fun i j b hb=>(by cases hb),fun i hi=>(by rw[zE8] at hi;cases hi),fun j hj=>(by cases hj),fun j hj=>(by cases hj),
   fun i hi=>(by rw[zE8] at hi;cases hi),fun i hi=>(by rw[zE8] at hi;cases hi),fun j p hj hS=>absurd hS (hS0 j),hst,hrun.1⟩
 obtain⟨pend2,g2,s2,fr2,pl2,done2,louds2,U2,h2,hpl2⟩:=h0.advance hE hO (fun i _=>by simp)
 exact draw_go hE hO hc hro hok hg0 hf1 hrun.2 ops.size _ _ (by simp) (by rw[Array.toList_replicate];exact zQA _) h2 hpl2
end
def zQ9 (E:Env):List Oper→Bool
 | []=>true
 | o :: r=>bif okOp E o.op then zQ9 E r else false
def zB9 (E:Env)(fid:FuncId):Code→Bool
 | .region id ops draw=>bif zQ9 E ops.toList then(bif draw then zS7 ops.toList (E.plan fid id) else true) else false
 | .seq a b=>bif zB9 E fid a then zB9 E fid b else false
 | .cond _ a b=>bif zB9 E fid a then zB9 E fid b else false
 | .block _ b=>zB9 E fid b
 | .scope b=>zB9 E fid b
 | .loop b=>zB9 E fid b
 | .rangeFunc _ _ a b=>bif zB9 E fid a then zB9 E fid b else false
 | _=>true
theorem zUR {E:Env}:∀{l:List Oper},zQ9 E l=true→∀o∈l,okOp E o.op=true:=by
 intro l
 induction l with
 | nil=>intro _ o h;cases h
 | cons a r ih=>
  intro h o ho
  simp only[zQ9,cond_eq_ite] at h
  split at h
  ·rename_i ha
   cases ho with
   | head=>exact ha
   | tail _ ho=>exact ih h o ho
  ·cases h
def OkC (E:Env)(P:Program):FuncId→Code→Prop:=fun f c=>zB9 E f c=true∧∃fn,P.funcs[f]?=some fn
theorem zD1 {a b:Bool}(h:(bif a then b else false)=true):a=true∧b=true:=by cases a<;>cases b<;>first|exact⟨rfl,rfl⟩|cases h
section
variable {E:Env}{P:Program}{r:Rec}
theorem exec_sim (hE:TysOk E P)(hmix:P.follows .mixedOrders=true)(hx:ExecSim P (OkC E P) r)(hc:CallSim P (OkC E P) r):ExecSim P (OkC E P) (zO5 E r):=by
 have hro:zFK P (OkC E P) r:=zW2 hx fun f c h=>h.2
 constructor
 intro fid rnd c fr s o fr' s' h hOK base w0 g w tm df kd rn cs k hok hf hrn
 simp only[zO5] at h
 obtain⟨hco,hfn⟩:=hOK
 cases c with
 | skip=>simp only[zCR] at h;cases h;exact skip_sim hf
 | label l=>simp only[zCR] at h;cases h;exact zX9 hf
 | ret=>simp only[zCR] at h;cases h;exact ret_sim hf
 | exit id=>simp only[zCR] at h;cases h;exact exit_sim hf
 | region id ops draw=>
  simp only[zCR] at h
  simp only[zB9] at hco
  obtain⟨hops,hpl⟩:=zD1 hco
  have hops':∀o∈ops,okOp E o.op=true:=fun o ho=>zUR hops o (Array.mem_toList_iff.2 ho)
  cases draw with
  | true=>
   simp only[zC0,cond_true] at h hpl
   exact draw_sim hE hmix hc hro hpl hops' hok hf h
  | false=>
   simp only[zC0,cond_false] at h
   refine Lands.steps (.one zK4) ?_
   refine runL_sim hc hro hok (fun ho _ hfi=>zQ8 hE (hops' _ ho) hfi.rel (hfi.tm rfl).1 (hfi.tm rfl).2) (fun _ hd=>zXN hd) ops.toList (List.range ops.size) ?_ h hok hf
   refine List.ext_getElem? fun i=>?_
   simp only[List.getElem?_map,List.getElem?_range']
   by_cases hi:i<ops.size
   ·rw[List.getElem?_range hi]
    simp[hi]
   ·rw[List.getElem?_eq_none (by simp;omega),List.getElem?_eq_none (by simp;omega)]
    rfl
 | seq a b=>
  simp only[zB9] at hco
  obtain⟨ha,hb⟩:=zD1 hco
  exact seq_sim hx h ⟨ha,hfn⟩ ⟨hb,hfn⟩ hok hf hrn
 | cond c a b=>
  simp only[zB9] at hco
  obtain⟨ha,hb⟩:=zD1 hco
  exact cond_sim hx h ⟨ha,hfn⟩ ⟨hb,hfn⟩ hok hf hrn
 | block id b=>exact zZX hx h ⟨by simpa only[zB9] using hco,hfn⟩ hok hf hrn
 | loop b=>exact loop_sim hx h ⟨by simpa only[zB9] using hco,hfn⟩ ⟨hco,hfn⟩ hok hf hrn
 | rangeFunc f ps a b=>
  simp only[zB9] at hco
  obtain⟨ha,hb⟩:=zD1 hco
  simp only[zCR] at h
  exact zW4 hc h ⟨ha,hfn⟩ ⟨hb,hfn⟩ hok hf hrn
 | scope b=>
  simp only[zCR] at h
  exact zWT hx h ⟨by simpa only[zB9] using hco,hfn⟩ hok hf hrn
 | goto l=>simp[zCR] at h
 | refuse wy=>simp[zCR] at h
theorem sim (hE:TysOk E P)(hF:FuncsOk E P (OkC E P))(hmix:P.follows .mixedOrders=true):∀n,ExecSim P (OkC E P) (iter E n)∧CallSim P (OkC E P) (iter E n):=by
 intro n
 induction n with
 | zero=>exact⟨⟨fun h=>by simp[iter,Rec.bot] at h⟩,⟨fun h=>by simp[iter,Rec.bot] at h,fun h=>by simp[iter,Rec.bot] at h⟩⟩
 | succ n ih=>exact⟨exec_sim hE hmix ih.1 ih.2,call_sim hE hF ih.1 ih.2⟩
end
def tdB:TD→TypeDesc→Bool
 | .bool,.bool=>true
 | .int k,.int k'=>keq k k'
 | .str,.string=>true
 | .ptr e,.pointer e'=>Nat.beq e e'
 | .slice e,.slice e'=>Nat.beq e e'
 | .array n e,.array n' e'=>Nat.beq n n'&&Nat.beq e e'
 | .struct fs,.struct fs'=>fieldsB fs fs'.toList
 | .map k e,.map k' e'=>Nat.beq k k'&&Nat.beq e e'
 | .func,.func _ _ _=>true
 | .iface,.interface _=>true
 | .upt,.unsafePointer=>true
 | .other,_=>true
 | _,_=>false
where
 fieldsB:List (Nat×TypeId)→List Field→Bool
  | [],[]=>true
  | (o,t) :: r,f :: r'=>bif Nat.beq o f.offset then(bif Nat.beq t f.type then fieldsB r r' else false) else false
  | _,_=>false
theorem fieldsB_spec:∀{l:List (Nat×TypeId)} {m:List Field},tdB.fieldsB l m=true→l=m.map fun f=>(f.offset,f.type):=by
 intro l
 induction l with
 | nil=>intro m h;cases m with
  | nil=>rfl
  | cons=>cases h
 | cons a r ih=>
  intro m h
  cases m with
  | nil=>cases h
  | cons f m=>
   obtain⟨o,t⟩:=a
   simp only[tdB.fieldsB,cond_eq_ite] at h
   split at h
   ·rename_i h1
    split at h
    ·rename_i h2
     rw[List.map_cons,← ih h,Nat.eq_of_beq_eq_true h1,Nat.eq_of_beq_eq_true h2]
    ·cases h
   ·cases h
theorem tdB_spec {d:TD}{d':TypeDesc}(h:tdB d d'=true):TDR d d':=by
 cases d<;>cases d'<;>first|trivial|(cases h;done)|skip
 ·exact zYC h
 ·exact Nat.eq_of_beq_eq_true h
 ·exact Nat.eq_of_beq_eq_true h
 ·simp only[tdB,Bool.and_eq_true] at h
  exact⟨Nat.eq_of_beq_eq_true h.1,Nat.eq_of_beq_eq_true h.2⟩
 ·exact fieldsB_spec h
 ·simp only[tdB,Bool.and_eq_true] at h
  exact⟨Nat.eq_of_beq_eq_true h.1,Nat.eq_of_beq_eq_true h.2⟩
def subFs (E:Env):List (Nat×TypeId)→Bool
 | []=>true
 | f :: r=>bif (E.types f.2).ok then(bif Nat.blt 0 (E.types f.2).size then subFs E r else false) else false
def subB (E:Env):TD→Bool
 | .slice e=>(E.types e).ok&&Nat.blt 0 (E.types e).size
 | .array _ e=>(E.types e).ok&&Nat.blt 0 (E.types e).size
 | .struct fs=>subFs E fs
 | .map k e=>(E.types k).ok&&(E.types e).ok
 | _=>true
theorem zT2 {E:Env}:∀{l:List (Nat×TypeId)},subFs E l=true→∀f∈l,(E.types f.2).ok=true∧0<(E.types f.2).size:=by
 intro l
 induction l with
 | nil=>intro _ f h;cases h
 | cons a r ih=>
  intro h f hf
  simp only[subFs,cond_eq_ite] at h
  split at h
  ·rename_i h1
   split at h
   ·rename_i h2
    cases hf with
    | head=>exact⟨h1,Nat.le_of_ble_eq_true h2⟩
    | tail _ hf=>exact ih h f hf
   ·cases h
  ·cases h
theorem zWB {E:Env}{d:TD}(h:subB E d=true):subOk E d:=by
 cases d with
 | slice e=>simp only[subB,Bool.and_eq_true] at h;exact⟨h.1,Nat.le_of_ble_eq_true h.2⟩
 | array n e=>simp only[subB,Bool.and_eq_true] at h;exact⟨h.1,Nat.le_of_ble_eq_true h.2⟩
 | struct fs=>exact zT2 h
 | map k e=>simp only[subB,Bool.and_eq_true] at h;exact h
 | _=>trivial
def isAggV:Value→Bool
 | .agg _=>true
 | _=>false
def boolEq:Bool→Bool→Bool
 | true,b=>b
 | false,b=>!b
theorem zJ4 {a b:Bool}(h:boolEq a b=true):a=b:=by cases a<;>cases b<;>first|rfl|cases h
def methB (i:TypeInfo)(d:TypeDesc):List (String×FuncId)→Bool
 | []=>true
 | (name,f) :: r=>(match i.methods.find? (·.name == name) with
  | some m=>(match m.func with
   | some (g,p)=>bif m.path.isEmpty then(bif Nat.beq g f then(bif boolEq p (match d with|.pointer _=>true|_=>false) then methB i d r else false) else false) else false
   | none=>false)
  | none=>false)
theorem zU1 {P:Program}{t:TypeId}{i:TypeInfo}{d:TypeDesc}(hi:P.info? t=some i)(hd:P.underlying t=some d):∀{l:List (String×FuncId)},methB i d l=true→
  ∀name f,zF7 name l=some f→∀(v:Value) (w:World),(method (P.types.size+Made.depth) t v name).run P w=.ok (f,v) w:=by
 intro l
 induction l with
 | nil=>intro _ name f h;cases h
 | cons a r ih=>
  intro h name f hf v w
  obtain⟨nm,f0⟩:=a
  simp only[methB] at h
  split at h
  ·rename_i m hm
   split at h
   ·rename_i g p hmf
    obtain⟨h1,h⟩:=zD1 h
    obtain⟨h2,h⟩:=zD1 h
    obtain⟨h3,h⟩:=zD1 h
    simp only[zF7,cond_eq_ite] at hf
    split at hf
    ·rename_i he
     have he:nm=name:=by simpa using he
     subst he
     cases hf
     have h2:=Nat.eq_of_beq_eq_true h2
     have h3:=zJ4 h3
     subst h2
     have hp:m.path.toList=[]:=by
      have:m.path=#[]:=by simpa using h1
      rw[this]
     have hdep:P.types.size+Made.depth=(P.types.size+Made.depth-1)+1:=by have:Made.depth=Made.depth:=rfl;unfold Made.depth;omega
     rw[hdep,method]
     have ht:(typeInfo t).run P w=.ok i w:=by simp[typeInfo,hi]
     rw[Sem.run_bind,ht]
     simp only[Result.andThen_ok,hm,hp,follow,hmf,Sem.run_bind,Sem.run_pure,receiverAt,run_underlying hd]
     cases d<;>simp only[h3]<;>simp[Place.get]
    ·exact ih h name f hf v w
   ·cases h
  ·cases h
def tiB (E:Env)(P:Program)(t:TypeId)(ti:TI):Bool:=
 match P.info? t with
 | some i=>(match i.zero with
  | some z=>(match ofValues z.cells.toList with
   | some xs=>(match P.underlying t with
    | some d=>Nat.beq i.size ti.size&&(Nat.beq i.bytes ti.bytes&&(beqL xs ti.zero&&(boolEq ti.agg (isAggV z)&&(Nat.beq (llen ti.zero) ti.size&&(tdB ti.d d&&(boolEq (aggDesc d) ti.agg&&(subB E ti.d&&methB i d ti.methods)))))))
    | none=>false)
   | none=>false)
  | none=>false)
 | none=>false
theorem beqL_inv:∀{l m:List AV},beqL l m=true→l=m:=by
 intro l m h
 have:AV.agg l=AV.agg m:=zJJ (a:=.agg l) (b:=.agg m) h
 injection this
theorem tiB_spec {E:Env}{P:Program}{t:TypeId}{ti:TI}(h:tiB E P t ti=true):TIR E P t ti:=by
 unfold tiB at h
 split at h
 ·rename_i i hi
  split at h
  ·rename_i z hz
   split at h
   ·rename_i xs hxs
    split at h
    ·rename_i d hd
     simp only[Bool.and_eq_true] at h
     obtain⟨h1,h2,h3,h4,h5,h6,h7,h8,h9⟩:=h
     have h3:=beqL_inv h3
     have h4:=zJ4 h4
     have h7:=zJ4 h7
     refine⟨⟨i,z,hi,Nat.eq_of_beq_eq_true h1,Nat.eq_of_beq_eq_true h2,hz,by rw[hxs,h3],?_,?_,by rw[← zAH];exact Nat.eq_of_beq_eq_true h5⟩,⟨d,hd,tdB_spec h6,h7⟩,zWB h8,zU1 hi hd h9⟩
     ·intro e
      rw[h4] at e
      cases z<;>first|rfl|cases e
     ·intro e
      rw[h4] at e
      cases z<;>first|rfl|cases e
    ·cases h
   ·cases h
  ·cases h
 ·cases h
def tisB (E:Env)(P:Program):Nat→Nat→Bool
 | 0,_=>true
 | n+1,k=>bif (bif (E.types k).ok then tiB E P k (E.types k) else true) then tisB E P n (k+1) else false
theorem zV8 {E:Env}{P:Program}:∀{n k:Nat},tisB E P n k=true→∀t,k≤t→t<k+n→(E.types t).ok=true→TIR E P t (E.types t):=by
 intro n
 induction n with
 | zero=>intro k _ t h1 h2;omega
 | succ n ih=>
  intro k h t h1 h2 hok
  simp only[tisB] at h
  obtain⟨h3,h4⟩:=zD1 h
  by_cases e:t=k
  ·subst e;rw[hok] at h3;exact tiB_spec h3
  ·exact ih h4 t (by omega) (by omega) hok
def fnB (E:Env)(f:FuncId)(fn:Func):Bool:=
 match fn.body with
 | some c=>bif zB9 E f c then zI1 E fn.results.toList else false
 | none=>true
def fnsB (E:Env):Nat→Nat→Bool
 | 0,_=>true
 | n+1,k=>bif (match E.funcs k with|some fn=>fnB E k fn|none=>true) then fnsB E n (k+1) else false
def fnsL (E:Env):List Nat→Bool
 | []=>true
 | k :: r=>bif (match E.funcs k with|some fn=>fnB E k fn|none=>true) then fnsL E r else false
theorem zA7 {E:Env}:∀{l:List Nat},fnsL E l=true→∀f∈l,∀fn,E.funcs f=some fn→fnB E f fn=true:=by
 intro l
 induction l with
 | nil=>intro _ f h;cases h
 | cons k r ih=>
  intro h f hf fn hfn
  simp only[fnsL] at h
  obtain⟨h3,h4⟩:=zD1 h
  cases hf with
  | head=>rw[hfn] at h3;exact h3
  | tail _ hf=>exact ih h4 f hf fn hfn
theorem tysOk {E:Env}{P:Program}{n:Nat}(h:tisB E P n 0=true)(hb:∀t,n≤t→(E.types t).ok=false):TysOk E P:=by
 constructor
 intro t ht
 by_cases hlt:t<n
 ·exact zV8 h t (Nat.zero_le _) (by rw[Nat.zero_add];exact hlt) ht
 ·rw[hb t (Nat.le_of_not_lt hlt)] at ht;cases ht
def allNG:List Func→Bool
 | []=>true
 | f :: r => bif (match f.body with | some _ => !(f.name == "runtime.NumGoroutine") | none => true) then allNG r else false
theorem allNG_spec : ∀ {l : List Func}, allNG l = true → ∀ f ∈ l, ∀ b, f.body = some b → f.name ≠ "runtime.NumGoroutine" := by
 intro l
 induction l with
 | nil=>intro _ f h;cases h
 | cons a r ih=>
  intro h f hf b hb
  simp only[allNG] at h
  obtain⟨h1,h2⟩:=zD1 h
  cases hf with
  | head=>rw[hb] at h1;simpa using h1
  | tail _ hf=>exact ih h2 f hf b hb
def IntrOk (E:Env)(P:Program)(OK:FuncId→Code→Prop):Prop:=
 ∀{f:FuncId} {args:List AV} {v:AV},E.intr f args=some v→∀{base:Nat} {w0:World} {g:Gh} {s:Sto} {w:World} {args':Array Value},g.ok=OK→Rel base w0 g s w→VRs g args args'→tops args≤s.n→
  zC3 P base w0 g s w f args' (.ret v) s
def InsOk (E:Env)(P:Program)(OK:FuncId→Code→Prop):Prop:=
 ∀{f:FuncId} {e:TypeId} {args:List AV} {v:AV} {s s':Sto},E.ins f=some e→insA e args s=some (v,s')→∀{base:Nat} {w0:World} {g:Gh} {w:World} {args':Array Value},g.ok=OK→Rel base w0 g s w→VRs g args args'→tops args≤s.n→
  zC3 P base w0 g s w f args' (.ret v) s'
def maskL:Nat→List Func→List (Option Func)
 | _,[]=>[]
 | m,f :: r=>(bif Nat.beq (m % 2) 1 then some f else none) :: maskL (m / 2) r
theorem maskL_get:∀{l:List Func} {m i:Nat} {fn:Func},(maskL m l)[i]?=some (some fn)→l[i]?=some fn
 | [],_,_,_,h=>by simp[maskL] at h
 | f :: r,m,0,fn,h=>by
  simp only[maskL,List.getElem?_cons_zero,Option.some.injEq,cond_eq_ite] at h
  split at h
  ·simpa using h
  ·cases h
 | f :: r,m,i+1,fn,h=>by
  simp only[maskL,List.getElem?_cons_succ] at h
  rw[List.getElem?_cons_succ]
  exact maskL_get h
theorem funcsOk {E:Env}{P:Program}{n m:Nat}(hl:List.map (fun i=>E.funcs i) (List.range n)=maskL m P.funcs.toList)(hb:∀t,n≤t→E.funcs t=none)(hn:allNG P.funcs.toList=true)
  (hc:∀f,f<n→∀fn,E.funcs f=some fn→fnB E f fn=true) (hi:IntrOk E P (OkC E P)) (hs:InsOk E P (OkC E P)):FuncsOk E P (OkC E P):=by
 refine⟨?_,hi,hs⟩
 intro f fn body hf hbody
 have hlt:f<n:=by
  by_cases h:f<n
  ·exact h
  ·rw[hb f (Nat.le_of_not_lt h)] at hf;cases hf
 have hP:P.funcs[f]?=some fn:=by
  have:=congrArg (fun l=>l[f]?) hl
  simp only[List.getElem?_map,List.getElem?_range hlt,Option.map_some] at this
  rw[hf] at this
  rw[← Array.getElem?_toList]
  exact maskL_get this.symm
 have hfn:=hc f hlt fn hf
 unfold fnB at hfn
 rw[hbody] at hfn
 obtain⟨h1,h2⟩:=zD1 hfn
 exact⟨hP,allNG_spec hn fn (Array.mem_toList_iff.2 (Array.mem_of_getElem? hP)) body hbody,⟨h1,fn,hP⟩,h2⟩
def memoOf:List (Nat×List AV×AV)→FuncId→List AV→Option AV
 | [],_,_=>none
 | (g,xs,v) :: r,f,args=>bif Nat.beq f g then(bif beqL args xs then some v else memoOf r f args) else memoOf r f args
def Env.wi (E:Env)(i:FuncId→List AV→Option AV):Env:={ E with intr:=i }
def Env.memo (E:Env)(tab:List (Nat×List AV×AV)):Env:=E.wi fun f args=>match E.intr f args with|some v=>some v|none=>memoOf tab f args
def zAG (E:Env)(n:Nat)(f:FuncId)(args:List AV)(v:AV):Bool:=
 match E.funcs f with
 | some fn=>match fn.body with
  | some body=>bif (E.mode f).iso then(match enter (iter E n) E f fn body (E.mode f) args none .empty with
   | some (.ret u,_,_)=>beqV u v
   | _=>false) else false
  | none=>false
 | none=>false
theorem zPI {E:Env}{tab:FuncId→List AV→Option AV}{f:FuncId}:∀c,zB9 (E.wi tab) f c=zB9 E f c:=by
 have hops:∀l,zQ9 (E.wi tab) l=zQ9 E l:=by
  intro l
  induction l with
  | nil=>rfl
  | cons o r ih=>
   have htys:∀l,zPH (E.wi tab) l=zPH E l:=by
    intro l
    induction l with
    | nil=>rfl
    | cons a r ih=>simp only[zPH];rw[ih];rfl
   have:okOp (E.wi tab) o.op=okOp E o.op:=by
    cases o.op with
    | call c=>
     simp only[okOp]
     split
     ·rename_i b _
      cases b<;>first|rfl|exact htys _
     ·rfl
     ·rfl
    | _=>rfl
   simp only[zQ9];rw[ih,this]
 intro c
 induction c with
 | region id ops draw=>simp only[zB9];rw[hops];rfl
 | seq a b iha ihb=>simp only[zB9];rw[iha,ihb]
 | cond c a b iha ihb=>simp only[zB9];rw[iha,ihb]
 | block _ b ih=>simp only[zB9];rw[ih]
 | scope b ih=>simp only[zB9];rw[ih]
 | loop b ih=>simp only[zB9];rw[ih]
 | rangeFunc _ _ a b iha ihb=>simp only[zB9];rw[iha,ihb]
 | _=>rfl
theorem OkC_wi {E:Env}{P:Program}{tab:FuncId→List AV→Option AV}:OkC (E.wi tab) P=OkC E P:=by
 funext f c
 unfold OkC
 rw[zPI]
theorem zTA {E:Env}{i:FuncId→List AV→Option AV}:∀l,zI1 (E.wi i) l=zI1 E l:=by
 intro l
 induction l with
 | nil=>rfl
 | cons a r ih=>cases a<;>simp only[zI1]<;>rw[ih]<;>rfl
theorem fnB_wi {E:Env}{i:FuncId→List AV→Option AV}{f:FuncId}{fn:Func}:fnB (E.wi i) f fn=fnB E f fn:=by
 unfold fnB
 split
 ·rw[zPI,zTA]
 ·rfl
theorem tys_wi {E:Env}{P:Program}{i:FuncId→List AV→Option AV}(hE:TysOk E P):TysOk (E.wi i) P:=by
 constructor
 intro t ht
 have h:=hE.ti t ht
 refine⟨h.info,h.und,?_,h.meth⟩
 have hs:=h.sub
 change subOk (E.wi i) (E.types t).d
 cases hd:(E.types t).d<;>rw[hd] at hs<;>first|exact hs|trivial
theorem wi_ok {E:Env}{P:Program}{i:FuncId→List AV→Option AV}(hE:TysOk E P)(hF:FuncsOk E P (OkC E P))
  (hi:∀{f:FuncId} {args:List AV} {v:AV},i f args=some v→∀{base:Nat} {w0:World} {g:Gh} {s:Sto} {w:World} {args':Array Value},g.ok=OkC E P→Rel base w0 g s w→VRs g args args'→tops args≤s.n→
   zC3 P base w0 g s w f args' (.ret v) s):TysOk (E.wi i) P∧FuncsOk (E.wi i) P (OkC (E.wi i) P):=by
 refine⟨tys_wi hE,?_⟩
 rw[OkC_wi]
 exact⟨fun h1 h2=>by rw[zTA];exact hF.fn h1 h2,fun h=>hi h,fun h=>hF.ins h⟩
theorem zBT {a n f:Nat}(h1:a≤f)(h2:f<a+n):f∈List.range' a n:=by
 rw[List.mem_range'];exact⟨f-a,by omega,by omega⟩
theorem zP5 {r:Rec}{E:Env}{f:FuncId}{fn:Func}{body:Code}{md:Mode}{args:List AV}{v:AV}{recd:Bool}{s0:Sto}(hi:md.iso=true)(h:enter r E f fn body md args none .empty=some (.ret v,recd,s0))(s:Sto) :
  enter r E f fn body md args none s=some (.ret v,recd,s):=by
 unfold enter at h ⊢
 rw[hi] at h ⊢
 simp only[cond_true] at h ⊢
 rw[cond_eq_ite] at h ⊢
 split at h
 ·rename_i ht
  rw[if_pos ht]
  unfold behind at h ⊢
  split at h
  ·split at h
   ·unfold leave at h ⊢
    split at h
    ·unfold zNG at h;rw[hi,cond_true,cond_eq_ite] at h;split at h<;>cases h
    ·split at h
     ·unfold zI7 at h ⊢
      rw[hi,cond_true,cond_eq_ite] at h
      rw[hi,cond_true,cond_eq_ite]
      split at h
      ·rename_i hv
       rw[if_pos hv]
       cases h
       rfl
      ·cases h
     ·cases h
    ·cases h
   ·cases h
  ·cases h
 ·cases h
theorem zPM {E:Env}{P:Program}(hE:TysOk E P)(hF:FuncsOk E P (OkC E P))(hmix:P.follows .mixedOrders=true){n:Nat}{f:FuncId}{args:List AV}{v:AV}(h:zAG E n f args v=true)
  {base:Nat} {w0:World} {g:Gh} {s:Sto} {w:World} {args':Array Value} (hok:g.ok=OkC E P) (hr:Rel base w0 g s w) (ha:VRs g args args') (hta:tops args≤s.n):zC3 P base w0 g s w f args' (.ret v) s:=by
 unfold zAG at h
 split at h
 ·rename_i fn hfn
  split at h
  ·rename_i body hb
   obtain⟨hiso,h⟩:=zD1 h
   split at h
   ·rename_i u recd s' he
    have hv:u=v:=zJJ h
    subst hv
    have he:=zP5 hiso he s
    obtain⟨hP,hname,hbody,hres⟩:=hF.fn hfn hb
    have hs:=sim hE hF hmix n
    intro c cs
    have hrec:RecR g s.n .normal none (c :: cs):=by
     intro f0 hk;simp[tryRecover,hk]
    obtain⟨g',w',u',tm',todo,cs',h1,h2,h3,h4,h5,h6⟩:=zHP hE hs.1 hs.2 hbody hres he hok hr ha hta (.inl rfl) hrec rfl
    have hcs:cs'=c :: cs:=by
     rcases h4 with⟨_,e⟩|⟨_,e,_⟩
     ·exact e
     ·cases e
    subst hcs
    refine⟨g',w',h1,h3,h2,?_⟩
    obtain⟨e1,v',e2,e3,e4⟩:=h6
    subst e1
    refine⟨v',e3,e4,.inr ⟨zDJ hP hname hb args' w,?_⟩⟩
    rw[zH1 hP hb args' .normal]
    exact h5.trans (.one (step_leave_returned ⟨rfl,rfl,rfl,fn,hP,e2⟩))
   ·cases h
  ·cases h
 ·cases h
theorem memoOf_spec:∀{tab:List (Nat×List AV×AV)} {f:FuncId} {args:List AV} {v:AV},memoOf tab f args=some v→(f,args,v)∈tab:=by
 intro tab
 induction tab with
 | nil=>intro f args v h;cases h
 | cons e r ih=>
  obtain⟨g,xs,u⟩:=e
  intro f args v h
  simp only[memoOf,cond_eq_ite] at h
  split at h
  ·rename_i hf
   split at h
   ·rename_i hx
    cases h
    have:=Nat.eq_of_beq_eq_true hf
    subst this
    rw[beqL_inv hx];exact .head _
   ·exact .tail _ (ih h)
  ·exact .tail _ (ih h)
theorem zJV {E:Env}{P:Program}(hE:TysOk E P)(hF:FuncsOk E P (OkC E P))(hmix:P.follows .mixedOrders=true){tab:List (Nat×List AV×AV)}(h:∀e∈tab,∃n,zAG E n e.1 e.2.1 e.2.2=true) :
  TysOk (E.memo tab) P∧FuncsOk (E.memo tab) P (OkC (E.memo tab) P):=by
 refine wi_ok hE hF ?_
 intro f args v hv base w0 g s w args' hok hr ha hta
 split at hv
 ·rename_i u hu
  cases hv
  exact hF.intr hu hok hr ha hta
 ·obtain⟨n,hn⟩:=h _ (memoOf_spec hv)
  exact zPM hE hF hmix hn hok hr ha hta
def zEK (args:List AV):Option AV:=match args with | [.sl _ [] _]=>some (.sl 0 [] .clip)|_=>none
def zYG (args:List AV):Option AV:=match args with | [v]=>some v|_=>none
def zRR (args:List AV):Option AV:=match args with | [.str a,.str b]=>some (.int .i64 (bif bytesLt a b then -1 else bif bytesEq a b then 0 else 1))|_=>none
section
variable {E:Env}{P:Program}{f:FuncId}{fn:Func}
theorem zVZ {g:Gh}{x:AV}{args:Array Value}(h:VRs g [x] args):∃v,args=#[v]∧VR g x v:=by
 obtain⟨h1,h2⟩:=h
 obtain⟨l⟩:=args
 cases l with
 | nil=>simp at h1
 | cons a r=>cases r with
  | nil=>exact⟨a,rfl,h2 0 x a rfl rfl⟩
  | cons=>simp at h1
theorem vrs_two {g:Gh}{x y:AV}{args:Array Value}(h:VRs g [x,y] args):∃v u,args=#[v,u]∧VR g x v∧VR g y u:=by
 obtain⟨h1,h2⟩:=h
 obtain⟨l⟩:=args
 cases l with
 | nil=>simp at h1
 | cons a r=>cases r with
  | nil=>simp at h1
  | cons b r=>cases r with
   | nil=>exact⟨a,b,rfl,h2 0 x a rfl rfl,h2 1 y b rfl rfl⟩
   | cons=>simp at h1
theorem id_norm (hP : P.funcs[f]? = some fn) (hn : (fn.name == "runtime.NumGoroutine") = false) (hb : fn.body.isNone = true) (hx : Extern.findNext fn = none) (hf : Extern.find fn = some Extern.AbiNoEscape.same)
  {args:List AV} {v:AV} (h:zYG args=some v) {base:Nat} {w0:World} {g:Gh} {s:Sto} {w:World} {args':Array Value} (hr:Rel base w0 g s w) (ha:VRs g args args') (ht:tops args≤s.n) :
  zC3 P base w0 g s w f args' (.ret v) s:=by
 unfold zYG at h
 split at h
 ·cases h
  obtain⟨u,rfl,hu⟩:=zVZ ha
  intro c cs
  refine⟨g,w,.refl _ _,hr,Nat.le_refl _,u,hu,?_,.inl ?_⟩
  ·rw[zAU] at ht;exact Nat.le_trans (Nat.le_max_left ..) ht
  ·rw[run_callFunc_extern hP hn hb hx hf];rfl
 ·cases h
theorem zZE (a b:List UInt8):Lib.compareBytes a b=(bif bytesLt a b then(-1:Int) else bif bytesEq a b then 0 else 1):=by
 induction a generalizing b with
 | nil=>cases b<;>rfl
 | cons x a ih=>cases b with
  | nil=>rfl
  | cons y b=>
   simp only[Lib.compareBytes,bytesLt,bytesEq,u8eq,ih]
   have h:Nat.blt x.toNat y.toNat=decide (x<y):=by rw[Bool.eq_iff_iff];simp[UInt8.lt_iff_toNat_lt]
   rw[h]
   by_cases h1:x<y
   ·simp[h1]
   ·by_cases h2:x=y
    ·subst h2;simp[h1]
    ·have h3:y<x:=by
      rw[UInt8.lt_iff_toNat_lt] at h1 ⊢
      have:x.toNat≠y.toNat:=fun e=>h2 (UInt8.toNat_inj.1 e)
      omega
     simp[h1,h2,h3]
theorem cmp_norm (hP : P.funcs[f]? = some fn) (hn : (fn.name == "runtime.NumGoroutine") = false) (hb : fn.body.isNone = true) (hx : Extern.findNext fn = none) (hf : Extern.find fn = some Extern.BytealgCompare.compare)
  {args:List AV} {v:AV} (h:zRR args=some v) {base:Nat} {w0:World} {g:Gh} {s:Sto} {w:World} {args':Array Value} (hr:Rel base w0 g s w) (ha:VRs g args args') (ht:tops args≤s.n) :
  zC3 P base w0 g s w f args' (.ret v) s:=by
 unfold zRR at h
 split at h
 ·rename_i a b
  cases h
  obtain⟨u1,u2,rfl,hu1,hu2⟩:=vrs_two ha
  cases hu1 with
  | str a=>
   cases hu2 with
   | str b=>
    intro c cs
    refine⟨g,w,.refl _ _,hr,Nat.le_refl _,_,.int .i64 _,Nat.zero_le _,.inl ?_⟩
    rw[run_callFunc_extern hP hn hb hx hf,Lib.run_compareString,zZE];rfl
 ·cases h
def cloneFr:Fr:=(((⟨lapp [.sl 0 [] .shut] (lrep undef (8-llen [AV.sl 0 [] .shut])),[],none⟩:Fr).put (some 2) (.sl 0 [] .nil)).put (some 3) (.sl 0 [] .shut)).put (some 4) (.bool false)
def cloneMd:Mode:=⟨true,true,true,false⟩
def cloneB (E:Env)(f:FuncId)(fn:Func)(body C:Code):Bool:=
 bif zB9 E f C then
 (match behind (iter E 20) E fn cloneMd none 0 .empty ((iter E 20).exec f none C cloneFr .empty) with
  | some (.ret u,_,_)=>beqV u (.sl 0 [] .clip)
  | _=>false) &&
 (match enter (iter E 20) E f fn body cloneMd [.sl 0 [] .nil] none .empty with
  | some (.ret u,_,_)=>beqV u (.sl 0 [] .nil)
  | _=>false) else false
theorem zWE {ops:Array Oper}{i:Nat}{rest:List Nat}{o:Oper}{kd:CallKind}{df:List Deferred}{cs:List Frame}{k:List Item}{w w':World}{tm:Array Value}{v:Value}
  (ho:ops[i]?=some o) (hg:o.guard=none) (h:(execOp (zAE tm) o).run P w=.ok (.value v) w') :
  Steps P (lone (Ab.mk f kd none tm df (.inRegion ops (i :: rest) :: k)) cs w) (lone (Ab.mk f kd none (putT o.dst v tm) df (.inRegion ops rest :: k)) cs w'):=by
 have hw:Region.wanted o (yielded ops tm)=true:=by unfold Region.wanted;rw[hg]
 exact .one (zFD ho hw (.inl rfl) h)
theorem zJ2 (hE : TysOk E P) (hF : ∀ {fn body}, E.funcs f = some fn → fn.body = some body → P.funcs[f]? = some fn ∧ fn.name ≠ "runtime.NumGoroutine" ∧ OkC E P f body ∧ zI1 E fn.results.toList = true)
  (hs:ExecSim P (OkC E P) (iter E 20)∧CallSim P (OkC E P) (iter E 20)) {r0 r1:Nat} {a m e:Oper} {T T':TypeId} {el:TypeId} {D C:Code} (hfn:E.funcs f=some fn)
  (hbody:fn.body=some (.seq (.region r0 #[a] false) (.seq (.seq (.region r1 #[m,e] false) (.cond (.tmp 4) D .skip)) C))) (hnt:fn.ntmps=8)
  (ha:a.dst=some 2∧a.op=.assign (.const (.slice none 0 0))∧a.guard=none) (hm:m.dst=some 3∧m.op=.move (.tmp 0)∧m.guard=none)
  (he:e.dst=some 4∧e.op=.binOp .eql T (.tmp 3) (.const (.slice none 0 0)) T'∧e.guard=none) (hT:(E.types T).ok=true) (hTd:(E.types T).d=.slice el)
  (hc:cloneB E f fn (.seq (.region r0 #[a] false) (.seq (.seq (.region r1 #[m,e] false) (.cond (.tmp 4) D .skip)) C)) C=true)
  {args:List AV} {v:AV} (h:zEK args=some v) {base:Nat} {w0:World} {g:Gh} {s:Sto} {w:World} {args':Array Value} (hok:g.ok=OkC E P) (hr:Rel base w0 g s w) (hargs:VRs g args args') :
  zC3 P base w0 g s w f args' (.ret v) s:=by
 obtain⟨hP,hname,hOK,hres⟩:=hF hfn hbody
 unfold zEK at h
 split at h
 ·rename_i tp own
  cases h
  obtain⟨v0,rfl,hv0⟩:=zVZ hargs
  unfold cloneB at hc
  obtain⟨hcC,hc⟩:=zD1 hc
  rw[Bool.and_eq_true] at hc
  obtain⟨hc1,hc2⟩:=hc
  intro c cs
  have hrec:∀g:Gh,RecR g 0 .normal none (c :: cs):=by
   intro g f0 hk;simp[tryRecover,hk]
  have nonnil:∀(p:Addr) (cap:Nat),(∀g':Gh,VR g' (.sl 0 [] .shut) (.slice (some p) 0 cap))→
    ∃g' w',Grows s.n g g'∧Rel base w0 g' s w'∧s.n≤s.n∧zSM P g' s.n f #[.slice (some p) 0 cap] w w' c cs (.ret (.sl 0 [] .clip)):=by
   intro p cap hx1
   split at hc1
   ·rename_i u recd s' hbe
    have:=zJJ hc1
    subst this
    have hgr:Grw 0 g { g with Cb:=g.C }:=⟨fun _ _=>rfl,fun _ _=>rfl,fun _ _=>rfl,fun _ _=>rfl,fun _ _ _ h=>h⟩
    have hx0:VR { g with Cb:=g.C } (.sl 0 [] .shut) (.slice (some p) 0 cap):=hx1 _
    have htm0:=zJ1 (g:={ g with Cb:=g.C }) (args:=[.sl 0 [] .shut]) (args':=#[.slice (some p) 0 cap]) ⟨rfl,fun i x v hx hv=>by
     cases i with
     | zero=>cases hx;cases hv;exact hx0
     | succ i=>simp at hx⟩ fn.ntmps
    rw[hnt] at htm0
    have htm1:=VRs.putT (frS:=⟨_,[],none⟩) (d:=some 2) htm0 (VR.slnil (g:={ g with Cb:=g.C }) 0 .nil)
    have htm2:=VRs.putT (d:=some 3) htm1 hx0
    have htm3:=VRs.putT (d:=some 4) htm2 (VR.bool (g:={ g with Cb:=g.C }) false)
    have hf:FI w.heap.size w { g with Cb:=g.C } .empty w cloneFr _ [] .normal none (c :: cs) false:=
     ⟨hr.enterIso,fun _=>⟨htm3,by show tops cloneFr.tmps≤0;exact Nat.le_of_eq rfl⟩,trivial,hrec _,rfl,.inl rfl⟩
    obtain⟨fnP,hfnP⟩:=hOK.2
    obtain⟨g',w',u,tm',todo,cs',s2,h1,h2,h3,h4,h5,h6,h7,_⟩:=zOR hE hs.1 hs.2 (f:=f) (body:=C) ⟨hcC,fnP,hfnP⟩ hres hbe rfl (show({ g with Cb:=g.C }:Gh).ok=OkC E P from hok) hf
    obtain⟨e1,e2⟩:=h7 rfl
    obtain⟨k1,k2,k3⟩:=hr.leaveIso h3 h1
    have hcs:cs'=c :: cs:=by
     rcases h4 with⟨_,e⟩|⟨_,e,_⟩
     ·exact e
     ·cases e
    subst hcs
    obtain⟨e3,v',e4,e5,e6⟩:=h6
    subst e3
    refine⟨_,w',k2,k1,Nat.le_refl _,v',k3 e5 rfl,Nat.zero_le _,.inr ⟨zDJ hP hname hbody _ w,?_⟩⟩
    rw[zH1 hP hbody _ .normal]
    refine Steps.trans ?_ (h5.trans (.one (step_leave_returned ⟨rfl,rfl,rfl,fn,hP,e4⟩)))
    rw[hnt]
    obtain⟨a1,a2,a3⟩:=ha
    obtain⟨m1,m2,m3⟩:=hm
    obtain⟨q1,q2,q3⟩:=he
    obtain⟨d,hu,hdr,_⟩:=(hE.ti T hT).und
    rw[hTd] at hdr
    have:=hdr.slice_inv;subst this
    have ea:∀(tm:Array Value),(execOp (zAE tm) a).run P w=.ok (.value (.slice none 0 0)) w:=fun tm=>by unfold execOp;rw[a2];rfl
    have em:∀(tm:Array Value),(execOp (zAE tm) m).run P w=.ok (.value (zAE tm (.tmp 0))) w:=fun tm=>by unfold execOp;rw[m2];rfl
    have ee:∀(tm:Array Value) (p:Addr) (x y:Nat),zAE tm (.tmp 3)=.slice (some p) x y→(execOp (zAE tm) e).run P w=.ok (.value (.bool false)) w:=fun tm p x y hh=>by
     have h1:(binOp .eql T (.slice (some p) x y) (.slice none 0 0)).run P w=.ok (.bool false) w:=by
      have:binOp .eql T (.slice (some p) x y) (.slice none 0 0)=(do pure (.bool (← Op.equal T (.slice (some p) x y) (.slice none 0 0)))):=rfl
      rw[this,Sem.run_bind,show(Op.equal T (.slice (some p) x y) (.slice none 0 0)).run P w=.ok false w from zMA 9999 hu _ _ _ _ _]
      rfl
     unfold execOp
     rw[q2]
     simp only[hh]
     have h2:(Sem.run P (binOp .eql T (.slice (some p) x y) (zAE tm (.const (.slice none 0 0)))) w)=.ok (.bool false) w:=h1
     simp[eqGuard,Sem.run_bind,h2]
    refine(Steps.one zSZ).trans ?_
    refine(Steps.one zK4).trans ?_
    refine(zWE (o:=a) (ops:=#[a]) (i:=0) (rest:=[]) rfl a3 (ea _)).trans ?_
    refine(Steps.one zEH).trans ?_
    refine(Steps.one zSZ).trans ((Steps.one zSZ).trans ?_)
    refine(Steps.one zK4).trans ?_
    refine(zWE (o:=m) (ops:=#[m,e]) (i:=0) (rest:=[1]) rfl m3 (em _)).trans ?_
    rw[a1,m1]
    refine(zWE (o:=e) (ops:=#[m,e]) (i:=1) (rest:=[]) rfl q3 (ee _ p 0 cap rfl)).trans ?_
    rw[q1]
    refine(Steps.one zEH).trans ?_
    refine(Steps.one (zQY (t:=false) rfl)).trans ?_
    exact .one st_skip
   ·cases hc1
  cases hv0 with
  | slnil=>
   split at hc2
   ·rename_i u recd s' hen
    have:=zJJ hc2
    subst this
    have hen:=zP5 rfl hen s
    obtain⟨g',w',u',tm',todo,cs',h1,h2,h3,h4,h5,h6⟩:=zHP hE hs.1 hs.2 hOK hres hen hok hr (args':=#[.slice none 0 0]) ⟨rfl,fun i x v hx hv=>by
     cases i with
     | zero=>cases hx;cases hv;exact .slnil _ _
     | succ i=>simp at hx⟩ (Nat.zero_le _) (.inl rfl) (cs:=c :: cs) (kd:=.normal) (by intro f0 hk;simp[tryRecover,hk]) rfl
    have hcs:cs'=c :: cs:=by
     rcases h4 with⟨_,e⟩|⟨_,e,_⟩
     ·exact e
     ·cases e
    subst hcs
    obtain⟨e1,v',e2,e3,e4⟩:=h6
    subst e1
    refine⟨g',w',h1,h3,h2,v',?_,Nat.zero_le _,.inr ⟨zDJ hP hname hbody _ w,?_⟩⟩
    ·cases e3 with
     | sl _ _ _ b off cap es vs hl hc hv ht hcap hown hnil=>exact absurd rfl hnil
     | slnil=>exact .slnil _ _
     | slany _ _ _ hnil=>exact absurd rfl hnil
    ·rw[zH1 hP hbody _ .normal]
     exact h5.trans (.one (step_leave_returned ⟨rfl,rfl,rfl,fn,hP,e2⟩))
   ·cases hc2
  | sl _ _ _ b off cap es vs hl hcc hv ht hcap hown hnil=>
   exact nonnil _ _ fun g'=>.sl 0 [] .shut b off cap 0 (fun _ _=>Go.undef) (fun i x hx=>by simp at hx) (fun i x j c hx=>by simp at hx) (fun i x j c hx=>by simp at hx) (Nat.le_refl _) (Nat.zero_le _) (fun h=>absurd rfl h) (by simp)
  | slany _ _ a=>exact nonnil a 0 fun g'=>.slany 0 .shut a (by simp)
 ·cases h
end
def OLe {α:Type}(x y:Option α):Prop:=∀a,x=some a→y=some a
theorem OLe.refl {α:Type}(x:Option α):OLe x x:=fun _ h=>h
theorem OLe.none {α:Type}(y:Option α):OLe none y:=fun _ h=>by cases h
theorem OLe.cases {α:Type}{x y:Option α}(h:OLe x y):x=Option.none∨x=y:=by
 cases x with
 | none=>exact .inl rfl
 | some a=>exact .inr (h a rfl).symm
structure RLe (r r':Rec):Prop where
 exec:∀f rnd c fr s,OLe (r.exec f rnd c fr s) (r'.exec f rnd c fr s)
 call:∀f args m s,OLe (r.call f args m s) (r'.call f args m s)
section
variable {r r':Rec}{E:Env}(h:RLe r r')
include h
theorem runDefers_le:∀(l:List (AV×List AV)) (m:Option AV) (s:Sto),OLe (zBY r l m s) (zBY r' l m s):=by
 intro l
 induction l with
 | nil=>intro m s;exact .refl _
 | cons d r0 ih=>
  obtain⟨f,args⟩:=d
  intro m s
  simp only[zBY]
  split
  ·rename_i f a b
   rcases (h.call f (lapp a (lapp args b)) (some m) s).cases with e|e
   ·rw[e];exact .none _
   ·rw[e]
    split
    ·exact ih _ _
    ·exact .refl _
  ·split
   ·exact ih _ _
   ·exact .refl _
  ·exact .refl _
theorem zNR (l:Nat)(args:List AV)(s:Sto):OLe (zFA r l args s) (zFA r' l args s):=by
 unfold zFA
 split
 ·rename_i lb _
  split
  ·rename_i args s' _
   split
   ·rename_i tm _
    rcases (h.exec lb.fn (some l) lb.assign ⟨tm,[],some (.tuple [])⟩ s').cases with e|e
    ·rw[e];exact .none _
    ·rw[e]
     split
     ·rename_i fr s'' _
      unfold zIX
      split
      ·rename_i lb2 _
       rw[cond_eq_ite,cond_eq_ite]
       split
       ·rcases (h.exec lb.fn (some l) lb.body fr (s''.put l (.loop ⟨1,lb2.pending,lb2.fn,lb2.tmps,lb2.params,lb2.assign,lb2.body⟩))).cases with e2|e2
        ·rw[e2];exact .none _
        ·rw[e2];exact .refl _
       ·exact .refl _
      ·exact .refl _
     ·exact .refl _
   ·exact .refl _
  ·exact .refl _
 ·exact .refl _
theorem zO4 {fid:FuncId}{dst:Option Tmp}{fr:Fr}{nx:Nx}{k k':Fr→Sto→Option (Out×Fr×Sto)}(hk:∀fr s,OLe (k fr s) (k' fr s)):OLe (zBN r E fid dst fr nx k) (zBN r' E fid dst fr nx k'):=by
 unfold zBN
 split
 ·exact hk _ _
 ·rename_i f args s
  rcases (h.call f args none s).cases with e|e
  ·rw[e];exact .none _
  ·rw[e]
   split
   ·exact hk _ _
   ·exact .refl _
   ·exact .refl _
 ·rename_i l args s
  rcases (zNR h l args s).cases with e|e
  ·rw[e];exact .none _
  ·rw[e]
   split
   ·exact hk _ _
   ·exact .refl _
   ·exact .refl _
 ·exact .refl _
 ·rw[cond_eq_ite,cond_eq_ite]
  split
  ·exact .refl _
  ·exact hk _ _
 ·split
  ·exact hk _ _
  ·exact .refl _
  ·exact hk _ _
 ·exact .refl _
theorem zW1 {fid:FuncId}{ops:List Oper}:∀(l:List Oper) (fr:Fr) (s:Sto),OLe (runL r E fid ops l fr s) (runL r' E fid ops l fr s):=by
 intro l
 induction l with
 | nil=>intro fr s;exact .refl _
 | cons o rest ih=>
  intro fr s
  simp only[runL,cond_eq_ite]
  split
  ·exact zO4 h ih
  ·exact ih _ _
theorem zWZ {fid:FuncId}{ops:List Oper}:∀(l:List PStep) (fr:Fr) (s:Sto),OLe (runP r E fid ops l fr s) (runP r' E fid ops l fr s):=by
 intro l
 induction l with
 | nil=>intro fr s;exact .refl _
 | cons o rest ih=>
  intro fr s
  cases o<;>simp only[runP,cond_eq_ite]
  ·split
   ·split
    ·exact zO4 h ih
    ·exact ih _ _
   ·exact .refl _
  ·split
   ·split
    ·split
     ·exact ih _ _
     ·exact .refl _
    ·exact ih _ _
   ·exact .refl _
  ·split
   ·split
    ·split
     ·split
      ·split
       ·exact ih _ _
       ·exact .refl _
      ·exact .refl _
     ·exact .refl _
    ·exact ih _ _
   ·exact .refl _
  ·split
   ·exact ih _ _
   ·exact .refl _
theorem zOO {fid:FuncId}{id:Nat}{ops:List Oper}{draw:Bool}{fr:Fr}{s:Sto}:OLe (zC0 r E fid id ops draw fr s) (zC0 r' E fid id ops draw fr s):=by
 unfold zC0
 cases draw
 ·exact zW1 h _ _ _
 ·simp only[cond_true]
  rcases (zWZ (E:=E) (fid:=fid) (ops:=ops) h (E.plan fid id) fr s).cases with e|e
  ·rw[e];exact .none _
  ·rw[e];exact .refl _
theorem zSV {x x':Option (Out×Fr×Sto)}{k k':Fr→Sto→Option (Out×Fr×Sto)}(hx:OLe x x')(hk:∀fr s,OLe (k fr s) (k' fr s)):OLe (zKI x k) (zKI x' k'):=by
 rcases hx.cases with e|e
 ·rw[e];exact .none _
 ·rw[e]
  unfold zKI
  split
  ·split
   ·exact hk _ _
   ·exact .refl _
  ·exact .refl _
theorem execC_le {fid:FuncId}{rnd:Option Nat}(c:Code)(fr:Fr)(s:Sto):OLe (zCR r E fid rnd c fr s) (zCR r' E fid rnd c fr s):=by
 cases c<;>simp only[zCR]
 case region=>exact zOO h
 case seq a b=>exact zSV h (h.exec _ _ _ _ _) fun fr s=>h.exec _ _ _ _ _
 case loop b=>exact zSV h (h.exec _ _ _ _ _) fun fr s=>h.exec _ _ _ _ _
 case cond c a b=>
  unfold zZB
  split
  ·exact h.exec _ _ _ _ _
  ·exact h.exec _ _ _ _ _
  ·exact .refl _
 case block id b=>
  rcases (h.exec fid rnd b fr s).cases with e|e
  ·rw[e];exact .none _
  ·rw[e];exact .refl _
 case scope b=>exact h.exec _ _ _ _ _
 case rangeFunc f ps a b=>
  have hin:∀fv fr s,OLe (zGM r fid fv ps.toList a b fr s) (zGM r' fid fv ps.toList a b fr s):=by
   intro fv fr s
   unfold zGM
   split
   ·rename_i g args s' _
    rcases (h.call g args none s').cases with e|e
    ·rw[e];exact .none _
    ·rw[e];exact .refl _
   ·exact .refl _
  unfold zJ9
  split
  ·split
   ·exact hin _ _ _
   ·split
    ·exact hin _ _ _
    ·exact .refl _
  ·exact .refl _
 all_goals exact .refl _
theorem zTL {f:FuncId}{fn:Func}{body:Code}{md:Mode}{args:List AV}{m:Option AV}{s0:Sto}:OLe (enter r E f fn body md args m s0) (enter r' E f fn body md args m s0):=by
 have hb:∀{m:Option AV} {base:Nat} {x x':Option (Out×Fr×Sto)},OLe x x'→OLe (behind r E fn md m base s0 x) (behind r' E fn md m base s0 x'):=by
  intro m base x x' hx
  rcases hx.cases with e|e
  ·rw[e];exact .none _
  ·rw[e]
   unfold behind
   split
   ·rename_i o fr s
    split
    ·rename_i m0 _
     rcases (runDefers_le h fr.defers m0 s).cases with e|e
     ·rw[e];exact .none _
     ·rw[e];exact .refl _
    ·exact .refl _
   ·exact .refl _
 unfold enter
 cases md.iso with
 | true=>
  simp only[cond_true]
  split
  ·rw[cond_eq_ite,cond_eq_ite]
   split
   ·exact hb (h.exec _ _ _ _ _)
   ·exact .refl _
  ·exact .refl _
 | false=>exact hb (h.exec _ _ _ _ _)
theorem callF_le {f:FuncId}{args:List AV}{m:Option (Option AV)}{s:Sto}:OLe (zHR r E f args m s) (zHR r' E f args m s):=by
 unfold zHR
 split
 ·exact .refl _
 split
 ·exact .refl _
 ·split
  ·split
   ·rw[cond_eq_ite,cond_eq_ite]
    split
    ·exact zTL h
    ·split
     ·exact zTL h
     ·exact .refl _
   ·exact .refl _
  ·exact .refl _
theorem stepF_le:RLe (zO5 E r) (zO5 E r'):=⟨fun _ _ c fr s=>execC_le h c fr s,fun _ _ _ _=>callF_le h⟩
end
theorem zTH {E:Env}:∀n,RLe (iter E n) (iter E (n+1)):=by
 intro n
 induction n with
 | zero=>exact⟨fun _ _ _ _ _=>.none _,fun _ _ _ _=>.none _⟩
 | succ n ih=>exact stepF_le ih
theorem zLT {E:Env}{n m:Nat}(h:n≤m):RLe (iter E n) (iter E m):=by
 induction h with
 | refl=>exact⟨fun _ _ _ _ _=>.refl _,fun _ _ _ _=>.refl _⟩
 | step _ ih=>exact⟨fun f rnd c fr s a ha=>(zTH _).exec f rnd c fr s a (ih.exec f rnd c fr s a ha),fun f args m s a ha=>(zTH _).call f args m s a (ih.call f args m s a ha)⟩
end Go.Ab
end
