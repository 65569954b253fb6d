/- A part. -/
import Derived.Test.YtfjmlhpdcaeabaaGreatDoorF5
set_option linter.all false
noncomputable section
namespace Go.Ab
open Go
theorem zPX (x:Value)(as:Array Value):(#[x]++as).extract 1 (#[x]++as).size=as:=by
 apply Array.ext'
 simp[Array.toList_extract,List.extract]
theorem zYQ (x:Value)(as:Array Value):(#[x]++as)[0]?=some x:=by
 rw[← Array.getElem?_toList];simp
theorem zT8 {P:Program}{w:World}{t:TypeId}{v:Value}{name:String}{f:FuncId}(hm:(method (P.types.size+Made.depth) t v name).run P w=.ok (f,v) w)(as:Array Value) :
  (invoke (.fn (.method name) #[]) (#[.iface t v]++as)).run P w=(callFunc f (#[v]++as)).run P w:=by
 unfold invoke
 dsimp only
 rw[zYQ]
 dsimp only
 rw[zPX]
 unfold callMethod
 dsimp only
 rw[Sem.run_bind]
 have:(program:Sem Program).run P w=.ok P w:=rfl
 rw[this]
 simp only[Result.andThen_ok]
 rw[Sem.run_bind,hm]
 rfl
section
variable {E:Env}{P:Program}{OK:FuncId→Code→Prop}{g:Gh}{base:Nat}{w0:World}{s:Sto}{w:World}{fr:Fr}{tm:Array Value}{o:Oper}
theorem TysOk.sub1 (hE:TysOk E P){t:TypeId}(ht:(E.types t).ok=true){fs:List (Nat×TypeId)}(h:(E.types t).d=.struct fs):∀f∈fs,TIR E P f.2 (E.types f.2)∧0<(E.types f.2).size:=by
 have:=(hE.ti t ht).sub
 rw[h] at this
 exact fun f hf=>⟨hE.ti _ (this f hf).1,(this f hf).2⟩
theorem TysOk.sub2 (hE:TysOk E P){t:TypeId}(ht:(E.types t).ok=true)(e:TypeId)(h:(E.types t).d=.slice e∨∃n,(E.types t).d=.array n e):TIR E P e (E.types e):=by
 have:=(hE.ti t ht).sub
 rcases h with h|⟨n,h⟩
 ·rw[h] at this;exact hE.ti _ this.1
 ·rw[h] at this;exact hE.ti _ this.1
theorem zLO {d:TD}(h:zOA E d=true):∃e,d=.slice e∧(E.types e).d=.int .u8:=by
 cases d with
 | slice e=>
  refine⟨e,rfl,?_⟩
  unfold zOA at h
  dsimp only at h
  cases hd:(E.types e).d with
  | int k=>rw[hd] at h;cases k<;>first|rfl|cases h
  | _=>rw[hd] at h;cases h
 | _=>cases h
theorem zLC {α β:Type}(f:α→β)(l:Array α):(l.toList.map f).toArray=l.map f:=by
 rw[← Array.toList_map,Array.toArray_toList]
theorem zRM (hE:TysOk E P)(hr:Rel base w0 g s w){src dst:TypeId}(hs:(E.types src).ok=true)(hd:(E.types dst).ok=true){x v:AV}{x':Value}{s':Sto}
  (h:zHH E src dst (some x) s=.val v s') (hx:VR g x x') (hn:top x≤s.n):StR P base w0 g s w (convert src dst x') v s':=by
 obtain⟨ds,hus,hsr,_⟩:=(hE.ti src hs).und
 obtain⟨dd,hud,hdr,_⟩:=(hE.ti dst hd).und
 unfold zHH zOI at h
 dsimp only at h
 split at h
 ·split at h
  ·rename_i hdd
   cases h
   cases hx
   exact(zRN hE hs hd hdd).st hr
  ·cases h
 ·rename_i k o
  cases hx
  obtain⟨rfl,hp⟩:=zRO (w:=w) hE hr hs hd h hn
  exact hp.st hr
 ·rename_i b
  split at h
  ·rename_i hdd
   cases h
   cases hx with
   | str b'=>
   rw[hdd] at hdr
   have:=hdr.str_inv;subst this
   refine zBJ.st hr ⟨.string b',?_,.str b',Nat.zero_le _⟩
   cases ds<;>simp[convert,run_underlying hus,run_underlying hud]
  ·rename_i e hdd
   rw[cond_eq_ite] at h
   split at h
   ·rename_i hb
    cases h
    cases hx with
    | str b'=>
    refine zOH hE hr hs hd hdd ?_
    obtain⟨e',he,hu⟩:=zLO hb
    injection he with he
    subst he
    exact hu
   ·cases h
  ·cases h
 ·rename_i hne1 hne2 hne3
  split at h
  ·rename_i hdd
   rw[cond_eq_ite] at h
   split at h
   ·rename_i hb
    split at h
    ·rename_i xs s1 hel
     split at h
     ·rename_i bs hbs
      cases h
      obtain⟨e,hsd,hee⟩:=zLO hb
      exact zPW hE hr hs hd hsd hee hdd hx hn (fun b e=>hne3 b e) hel hbs
     ·cases h
    ·cases h
   ·cases h
  ·cases h
theorem zRW (hE:TysOk E P)(hr:Rel base w0 g s w){b:Builtin}{tys:Array TypeId}{ty:TypeId}{cs:Array Bool}{args:List AV}{us:List Value}(hok:zFQ E b tys.toList=true)
  (ha:VRs g args us.toArray) (hta:tops args≤s.n) (hex:execOp (zAI tm) o=builtin b tys ty cs us.toArray):OpR P base w0 g s w tm o (zGF E b tys.toList args s):=by
 have htl:tys.toList.toArray=tys:=by simp
 have one:∀{a:AV},args=[a]→∃x,us=[x]∧VR g a x:=by
  intro a e
  subst e
  match us,ha with
  | [x],ha=>exact⟨x,rfl,ha.2 0 _ x rfl rfl⟩
  | [],ha=>have:=ha.1;simp at this
  | _ :: _ :: _,ha=>have:=ha.1;simp at this
 unfold zGF
 split
 ·
  refine OpR.ofVal ?_ (hex.trans rfl) fun h=>?_
  ·unfold zJO
   split
   ·split
    ·split
     ·dsimp only;rw[cond_eq_ite];split
      ·split
       ·rw[cond_eq_ite];split
        ·exact zJH _
        ·rfl
       ·rfl
      ·rw[cond_eq_ite];split
       ·split
        ·exact zJH _
        ·rfl
       ·rfl
     ·rfl
    ·rfl
   ·rfl
  ·have:=zRZ (ty:=ty) hE (zMW hok) hr h ha hta
   rwa [htl] at this
 ·
  refine OpR.ofVal (by
             unfold bLen;split;· split<;>rfl
             ·rfl) (hex.trans rfl) fun h=>?_
  simp only[zFQ] at hok
  split at hok
  ·rename_i t htys
   have hty:tys=#[t]:=by rw[← htl,htys]
   subst hty
   unfold bLen at h
   split at h
   ·rename_i x
    split at h
    ·rename_i n hn
     cases h
     obtain⟨x',rfl,hx⟩:=one rfl
     exact zBJ.st hr ⟨_,lenA_sim (ty:=ty) hE hr hok hn hx,.int .i64 _,Nat.zero_le _⟩
    ·cases h
   ·cases h
  ·cases hok
 ·refine OpR.ofVal (by
             unfold bMin;split;· split<;>rfl
             ·rfl) (hex.trans rfl) fun h=>?_
  obtain⟨rfl,hp⟩:=bMin_sim (ats:=tys) (ty:=ty) (w:=w) (P:=P) h ha
  exact hp.st hr
 ·refine OpR.ofVal (by
             unfold bMax;split;· split<;>rfl
             ·rfl) (hex.trans rfl) fun h=>?_
  obtain⟨rfl,hp⟩:=bMax_sim (ats:=tys) (ty:=ty) (w:=w) (P:=P) h ha
  exact hp.st hr
 ·exact⟨rfl,by rw[hex];rfl⟩
 ·
  refine OpR.ofVal ?_ (hex.trans rfl) fun h=>?_
  ·unfold zZD
   split
   ·split
    ·split
     ·split
      ·rw[cond_eq_ite];split<;>rfl
      ·rfl
     ·rfl
    ·rfl
   ·rfl
  ·simp only[zFQ] at hok
   split at hok
   ·rename_i t r htys
    have hty:tys=(t :: r).toArray:=by rw[← htl,htys]
    rw[htys] at h
    have:=zZC (ty:=ty) (r:=r) hE hok hr h ha hta
    rwa [← hty] at this
   ·cases hok
 ·
  refine OpR.ofVal ?_ (hex.trans rfl) fun h=>?_
  ·unfold zP5
   split
   ·rfl
   ·split
    ·split
     ·rw[cond_eq_ite];split<;>rfl
     ·rfl
    ·rfl
   ·rfl
  ·simp only[zFQ] at hok
   split at hok
   ·rename_i t htys
    have hty:tys=#[t]:=by rw[← htl,htys]
    subst hty
    simp only[Bool.and_eq_true] at hok
    refine zVH (ty:=ty) hE hok.1 ?_ hr h ha hta
    have h2:=hok.2
    unfold isSl at h2
    split at h2
    ·rename_i e he;exact⟨e,he⟩
    ·cases h2
   ·cases hok
 ·
  refine OpR.ofVal (by
             unfold bCap;split;· split<;>rfl
             ·rfl) (hex.trans rfl) fun h=>?_
  simp only[zFQ] at hok
  split at hok
  ·rename_i t htys
   have hty:tys=#[t]:=by rw[← htl,htys]
   subst hty
   have:∃x,args=[x]:=by
    simp only[hd0] at h
    unfold bCap at h
    split at h
    ·split at h
     ·exact⟨_,rfl⟩
     ·exact⟨_,rfl⟩
     ·cases h
    ·cases h
   obtain⟨x,rfl⟩:=this
   obtain⟨x',rfl,hx⟩:=one rfl
   obtain⟨rfl,hp⟩:=bCap_sim (ty:=ty) (w:=w) hE hok h hx
   exact hp.st hr
  ·cases hok
 ·refine OpR.ofVal (by unfold zP4;split<;>rfl) (hex.trans rfl) fun h=>?_
  obtain⟨rfl,hp⟩:=zVG (ats:=tys) (ty:=ty) (w:=w) (P:=P) h ha hta
  exact hp.st hr
 ·refine OpR.ofVal ?_ (hex.trans rfl) fun h=>?_
  ·unfold zI4
   split
   ·split
    ·split
     ·split
      ·rw[cond_eq_ite];split
       ·dsimp only;rw[cond_eq_ite];split
        ·split<;>rfl
        ·rfl
       ·rfl
      ·rfl
     ·rfl
     ·rfl
    ·rfl
   ·rfl
  ·have:=zP3 (ty:=ty) hE hr (zMW hok) h ha
   rwa [htl] at this
 ·trivial
theorem zW5 {fid:FuncId}{o:Oper}(h:isDefer o.op=true):(∃f a s1,opA E fid fr o.op s=.defer f a s1)∨opA E fid fr o.op s=.no:=by
 cases hop:o.op<;>rw[hop] at h<;>simp[isDefer] at h
 rename_i c
 simp only[opA]
 unfold zMZ
 split
 ·split
  ·split
   ·exact .inl ⟨_,_,_,rfl⟩
   ·exact .inr rfl
  ·exact .inr rfl
 ·exact .inr rfl
theorem zTF (hf:VRs g fr.tmps tm){c:Call}{args:List AV}(h:zBO fr c.args.toList=some args):VRs g args (c.args.map (zAI tm)):=by
 have:=zH5 hf h
 rwa [zLC] at this
theorem zRU (hE:TysOk E P){fid:FuncId}{c:Call}(hok:okOp E (.call c)=true)(hr:Rel base w0 g s w)(hf:VRs g fr.tmps tm)(ht:tops fr.tmps≤s.n)(hop:o.op=.call c) :
  OpR P base w0 g s w tm o (opA E fid fr (.call c) s):=by
 simp only[opA]
 unfold zN5
 split
 ·rename_i args hargs
  have ha:=zTF hf hargs
  have hta:=zHL ht hargs
  split
  ·rename_i f hcal
   have viaV:∀{fv:AV},zAH fr f=some fv→OpR P base w0 g s w tm o (zH8 fv args s):=by
    intro fv hfv
    have hv:=zBA hf hfv
    have htv:=zCO ht hfv
    generalize hvv:zAI tm f=vv at hv
    unfold zH8
    split
    ·rename_i t h a b
     cases hv with
     | func _ _ _ _ a' b' hy la hha lb hb htaa htb=>
     have htv:t≤s.n:=htv
     refine⟨rfl,(a'++c.args.map (zAI tm))++b',?_,?_,?_⟩
     ·unfold execOp
      rw[hop]
      simp[resolve,hcal,hvv,zOC,Deferred.ofValue,invoke]
     ·rw[zBM,zBM,← List.append_assoc]
      exact(VRs.append ⟨la,hha⟩ ha).append ⟨lb,hb⟩
     ·rw[zBM,zBM]
      exact zC3 (by omega) (zC3 hta (by omega))
    ·rename_i t l b
     cases hv with
     | func _ _ _ _ a' b' hy la hha lb hb htaa htb=>
     have htv:t≤s.n:=htv
     have:=hy l rfl
     refine⟨rfl,by omega,c.args.map (zAI tm),?_,ha,hta⟩
     have ha':a'=#[]:=Array.eq_empty_of_size_eq_zero la.symm
     unfold execOp
     rw[hop]
     simp[resolve,hcal,hvv,zOC,Deferred.ofValue,invoke,ha']
    ·trivial
   split
   ·rename_i h
    refine⟨rfl,c.args.map (zAI tm),?_,ha,hta⟩
    unfold execOp
    rw[hop]
    simp[resolve,hcal,zAI,Deferred.ofValue,invoke]
   ·split
    ·rename_i fv hfv;exact viaV hfv
    ·trivial
  ·rename_i x name hcal
   unfold zQY
   split
   ·rename_i t y hxv
    rw[cond_eq_ite]
    split
    ·rename_i htok
     split
     ·rename_i f hfm
      have hv:=zBA hf hxv
      have htv:=zCO ht hxv
      generalize hvv:zAI tm x=vv at hv
      cases hv with
      | iface _ _ v h=>
      have hm:=(hE.ti t htok).meth name f hfm v w
      refine⟨rfl,#[v]++c.args.map (zAI tm),?_,?_,?_⟩
      ·unfold execOp
       rw[hop]
       simp only[resolve,hcal,hvv]
       exact zT8 hm _
      ·have h1:VRs g [y] #[v]:=⟨rfl,fun i a u ha hu=>by
        cases i with
        | zero=>simp at ha hu;subst ha;subst hu;exact h
        | succ i=>simp at ha⟩
       exact h1.append ha
      ·rw[zAW];exact Nat.max_le.2 ⟨htv,hta⟩
     ·trivial
    ·trivial
   ·trivial
  ·rename_i b hcal
   simp only[okOp,hcal] at hok
   have ha':VRs g args ((c.args.map (zAI tm)).toList.toArray):=by rw[Array.toArray_toList];exact ha
   refine zRW hE hr (us:=(c.args.map (zAI tm)).toList) (ty:=o.type) (cs:=c.args.map fun|.const _=>true|_=>false) hok ha' hta ?_
   unfold execOp
   rw[hop]
   simp only[resolve,hcal,Array.toArray_toList]
   rfl
 ·trivial
theorem zQU (hE:TysOk E P){fid:FuncId}(hok:okOp E o.op=true)(hr:Rel base w0 g s w)(hf:VRs g fr.tmps tm)(ht:tops fr.tmps≤s.n):OpR P base w0 g s w tm o (opA E fid fr o.op s):=by
 have ev:∀{x:Operand} {a:AV},zAH fr x=some a→VR g a (zAI tm x)∧top a≤s.n:=fun h=>⟨zBA hf h,zCO ht h⟩
 have mv:∀{x:Operand} {v:AV} {s':Sto},nv s (zAH fr x)=.val v s'→StR P base w0 g s w (pure (zAI tm x)) v s':=by
  intro x v s' h
  obtain⟨h1,rfl⟩:=zGY h
  exact zBJ.st hr ⟨_,rfl,(ev h1).1,(ev h1).2⟩
 cases hop:o.op with
 | move x=>exact OpR.ofVal (zG0 _ _) (by unfold execOp;rw[hop];rfl) mv
 | assign x=>exact OpR.ofVal (zG0 _ _) (by unfold execOp;rw[hop];rfl) mv
 | pick c a b=>
  refine OpR.ofVal (zS6 ..) (sem:=do pure (if ← asBool (zAI tm c) then zAI tm a else zAI tm b)) (by unfold execOp;rw[hop];simp) fun h=>?_
  simp only[opA] at h
  have hc:=h
  unfold zGW at hc
  split at hc
  ·rename_i cb hcb
   cases cb with
   | true=>
    obtain⟨h1,rfl⟩:=zGY hc
    simp only[cond_true] at h1
    have h2:=ev hcb
    refine zBJ.st hr ⟨zAI tm a,?_,(ev h1).1,(ev h1).2⟩
    have:=h2.1
    cases hcm:zAI tm c<;>rw[hcm] at this<;>cases this
    rfl
   | false=>
    obtain⟨h1,rfl⟩:=zGY hc
    simp only[cond_false] at h1
    have h2:=ev hcb
    refine zBJ.st hr ⟨zAI tm b,?_,(ev h1).1,(ev h1).2⟩
    have:=h2.1
    cases hcm:zAI tm c<;>rw[hcm] at this<;>cases this
    rfl
  ·cases hc
 | alloc e=>
  rw[hop] at hok
  refine OpR.ofVal rfl (sem:=Instr.alloc e true (.tuple #[])) (by unfold execOp;rw[hop]) fun h=>?_
  simp only[opA] at h
  cases h
  exact zZI hE hr hok
 | box e x=>
  refine OpR.ofVal (zXU ..) (sem:=Instr.box e (zAI tm x)) (by unfold execOp;rw[hop]) fun h=>?_
  simp only[opA] at h
  cases hx:zAH fr x with
  | none=>rw[hx] at h;cases h
  | some a=>rw[hx] at h;exact oBox_sim hE hr h (ev hx).1 (ev hx).2
 | build t ps=>
  rw[hop] at hok
  refine OpR.ofVal (zPN ..) (sem:=Instr.build t (ps.map fun x=>(x.1,zAI tm x.2))) (by unfold execOp;rw[hop]) fun h=>?_
  simp only[opA] at h
  obtain⟨rfl,hp⟩:=zUI (w:=w) hE hok hf ht h
  have:=hp.st hr
  rwa [zLC] at this
 | buildSlice t n ps=>
  rw[hop] at hok
  refine OpR.ofVal (zHT ..) (sem:=Instr.buildSlice t n (ps.map fun x=>(x.1,zAI tm x.2))) (by unfold execOp;rw[hop]) fun h=>?_
  simp only[opA] at h
  have:=zK7 hE hr hok hf ht h
  rwa [zLC] at this
 | load t a=>
  rw[hop] at hok
  refine OpR.ofVal (zS7 ..) (sem:=Instr.loadAt t (zAI tm a)) (by unfold execOp;rw[hop]) fun h=>?_
  simp only[opA] at h
  cases hx:zAH fr a with
  | none=>rw[hx] at h;cases h
  | some x=>
   rw[hx] at h
   obtain⟨h1,rfl⟩:=zGY h
   obtain⟨v',h2,h3,h4⟩:=zPC (hE.ti t hok) hr h1 (ev hx).1 (ev hx).2
   exact zBJ.st hr ⟨v',h2,h3,h4⟩
 | store t a x=>
  rw[hop] at hok
  refine OpR.ofUnit (zPH ..) (sem:=Instr.storeAt t (zAI tm a) (zAI tm x)) (by unfold execOp;rw[hop]) fun h=>?_
  simp only[opA] at h
  unfold zMY at h
  split at h
  ·rename_i a' ha
   split at h
   ·rename_i x' hx
    cases hst:zGL s (E.types t) a' x' with
    | none=>rw[hst] at h;cases h
    | some s1=>
     rw[hst] at h
     simp only[ns] at h
     cases h
     obtain⟨w',g',h1,h2,h3,h4⟩:=zFM (hE.ti t hok) hr hst (ev ha).1 (ev hx).1 (ev hx).2
     exact⟨w',g',h1,h2,h3,h4,rfl⟩
   ·cases h
  ·cases h
 | ready _=>trivial
 | waits _=>trivial
 | nilCheck x=>
  simp only[opA]
  have hv:=zXT (s:=s) (zAH fr x)
  cases hnx:oNil (zAH fr x) s with
  | val v s'=>
   cases hx:zAH fr x with
   | none=>rw[hx] at hnx;cases hnx
   | some a=>
    rw[hx] at hnx
    obtain⟨rfl,rfl,hno⟩:=oNil_sim hnx (ev hx).1
    refine⟨zAI tm x,w,g,.inl ?_,hr,.refl _ _,(ev hx).1,(ev hx).2,Nat.le_refl _⟩
    unfold execOp
    rw[hop]
    dsimp only
    split
    ·rename_i e;exact absurd e (hno #[]).1
    ·rename_i e;exact absurd e (hno #[]).2.1
    ·rename_i e;exact absurd e (hno #[]).2.2.1
    ·rename_i e;exact absurd e ((hno _).2.2.2 _ _)
    ·rfl
  | no=>trivial
  | _=>rw[hnx] at hv;cases hv
 | binOp op t x y yt=>
  rw[hop] at hok
  refine OpR.ofVal (zXV ..) (sem:=do eqGuard op t x y (zAI tm x) (zAI tm y);binOp op t (zAI tm x) (zAI tm y)) (by unfold execOp;rw[hop]) fun h=>?_
  simp only[opA] at h
  cases hx:zAH fr x with
  | none=>rw[hx] at h;cases h
  | some a=>
   cases hy:zAH fr y with
   | none=>rw[hx,hy] at h;cases h
   | some b=>
    rw[hx,hy] at h
    obtain⟨rfl,hp⟩:=oBin_sim hE hr hok h (ev hx).1 (ev hy).1
    exact hp.st hr
 | unOp op t x=>
  refine OpR.ofVal (isV_un ..) (sem:=Op.unary op (zAI tm x)) (by unfold execOp;rw[hop]) fun h=>?_
  simp only[opA] at h
  cases hx:zAH fr x with
  | none=>rw[hx] at h;cases h
  | some a=>
   rw[hx] at h
   obtain⟨rfl,hp⟩:=oUn_sim (w:=w) (P:=P) h (ev hx).1
   exact hp.st hr
 | convert src dst x=>
  rw[hop] at hok
  simp only[okOp,Bool.and_eq_true] at hok
  refine OpR.ofVal (zLL ..) (sem:=convert src dst (zAI tm x)) (by unfold execOp;rw[hop]) fun h=>?_
  simp only[opA] at h
  cases hx:zAH fr x with
  | none=>rw[hx] at h;cases h
  | some a=>rw[hx] at h;exact zRM hE hr hok.1 hok.2 h (ev hx).1 (ev hx).2
 | sliceToArrayPointer _ _=>trivial
 | makeInterface t x=>
  rw[hop] at hok
  refine OpR.ofVal (zPK ..) (sem:=Instr.makeInterface t (zAI tm x)) (by unfold execOp;rw[hop]) fun h=>?_
  simp only[opA] at h
  cases hx:zAH fr x with
  | none=>rw[hx] at h;cases h
  | some a=>
   rw[hx] at h
   obtain⟨rfl,hp⟩:=zUG (w:=w) hE hok h (ev hx).1 (ev hx).2
   exact hp.st hr
 | makeFunc fn a b=>
  refine OpR.ofVal (zJX ..) (sem:=Instr.makeFunc fn (a.map (zAI tm)) (b.map (zAI tm))) (by unfold execOp;rw[hop]) fun h=>?_
  simp only[opA] at h
  obtain⟨rfl,hp⟩:=zN4 (w:=w) (P:=P) hf ht h
  have:=hp.st hr
  rwa [zLC,zLC] at this
 | makeMap t r=>
  rw[hop] at hok
  simp only[okOp] at hok
  cases r with
  | some _=>cases hok
  | none=>
   refine OpR.ofVal rfl (sem:=Instr.makeMap t none) (by unfold execOp;rw[hop];rfl) fun h=>?_
   simp only[opA] at h
   cases h
   exact zQ3 hr
 | makeChan _ _=>trivial
 | makeSlice t l c=>
  rw[hop] at hok
  refine OpR.ofVal (zIV ..) (sem:=Instr.makeSlice t (zAI tm l) (zAI tm c)) (by unfold execOp;rw[hop]) fun h=>?_
  simp only[opA] at h
  cases hx:zAH fr l with
  | none=>rw[hx] at h;unfold zBZ at h;split at h<;>cases h
  | some a=>
   cases hy:zAH fr c with
   | none=>
    rw[hx,hy] at h
    unfold zBZ at h
    split at h
    ·dsimp only at h;split at h<;>cases h
    ·cases h
   | some b=>rw[hx,hy] at h;exact zN8 hE hr hok h (ev hx).1 (ev hy).1
 | slice t x lo hi mx=>
  rw[hop] at hok
  simp only[okOp,Bool.and_eq_true] at hok
  refine OpR.ofVal (zPI ..) (sem:=Instr.sliceAt t (zAI tm x) (lo.map (zAI tm)) (hi.map (zAI tm)) (mx.map (zAI tm))) (by unfold execOp;rw[hop]) fun h=>?_
  simp only[opA] at h
  cases hx:zAH fr x with
  | none=>rw[hx] at h;cases h
  | some a=>
   rw[hx] at h
   refine zUE hE hr hok.1 hf h (ev hx).1 (ev hx).2 fun hm=>?_
   have:=hok.2
   cases mx with
   | none=>cases hm
   | some _=>simpa using this
 | fieldAddr t x i=>
  rw[hop] at hok
  refine OpR.ofVal (zIX ..) (sem:=Instr.fieldAt t (zAI tm x) i) (by unfold execOp;rw[hop]) fun h=>?_
  simp only[opA] at h
  cases hx:zAH fr x with
  | none=>
   rw[hx] at h
   unfold zB0 at h
   split at h
   ·split at h<;>cases h
   ·cases h
  | some a=>
   rw[hx] at h
   obtain⟨rfl,v',h1,h2,h3⟩:=zMJ (w:=w) (hE.ti t hok) (fun fs hfs=>hE.sub1 hok hfs) h (ev hx).1 (ev hx).2
   exact zBJ.st hr ⟨v',h1,h2,h3⟩
 | field t x i=>
  rw[hop] at hok
  refine OpR.ofVal (zPM ..) (sem:=Instr.field t (zAI tm x) i) (by unfold execOp;rw[hop]) fun h=>?_
  simp only[opA] at h
  cases hx:zAH fr x with
  | none=>
   rw[hx] at h
   unfold zHS at h
   split at h
   ·split at h<;>cases h
   ·cases h
  | some a=>
   rw[hx] at h
   obtain⟨rfl,hp⟩:=zUH (w:=w) (hE.ti t hok) (fun fs hfs f hff=>(hE.sub1 hok hfs f hff).1) h (ev hx).1 (ev hx).2
   exact hp.st hr
 | indexAddr t x i=>
  rw[hop] at hok
  refine OpR.ofVal (zIW ..) (sem:=Instr.indexAt t (zAI tm x) (zAI tm i)) (by unfold execOp;rw[hop]) fun h=>?_
  simp only[opA] at h
  cases hi:zAH fr i with
  | none=>rw[hi] at h;cases h
  | some j=>
   cases hx:zAH fr x with
   | none=>rw[hx,hi] at h;unfold zCI at h;dsimp only at h;split at h<;>cases h
   | some a=>
    rw[hx,hi] at h
    obtain⟨rfl,hp⟩:=zMI hr (hE.ti t hok) (hE.sub2 hok) h (ev hx).1 (ev hi).1 (ev hx).2
    exact hp.st hr
 | index t x i=>
  rw[hop] at hok
  refine OpR.ofVal (zPJ ..) (sem:=Instr.index t (zAI tm x) (zAI tm i)) (by unfold execOp;rw[hop]) fun h=>?_
  simp only[opA] at h
  cases hi:zAH fr i with
  | none=>rw[hi] at h;cases h
  | some j=>
   cases hx:zAH fr x with
   | none=>rw[hx,hi] at h;unfold zGX at h;dsimp only at h;split at h<;>cases h
   | some a=>
    rw[hx,hi] at h
    obtain⟨rfl,hp⟩:=zUF (w:=w) hE hok h (ev hx).1 (ev hi).1 (ev hx).2
    exact hp.st hr
 | lookup t x i ok=>
  rw[hop] at hok
  refine OpR.ofVal (zM4 ..) (sem:=Instr.lookup t (zAI tm x) (zAI tm i) ok) (by unfold execOp;rw[hop]) fun h=>?_
  simp only[opA] at h
  cases hi:zAH fr i with
  | none=>rw[hi] at h;unfold zEE at h;split at h<;>cases h
  | some j=>
   cases hx:zAH fr x with
   | none=>
    rw[hx,hi] at h
    unfold zEE at h
    split at h
    ·dsimp only at h;rw[cond_eq_ite] at h;split at h<;>cases h
    ·cases h
   | some a=>
    rw[hx,hi] at h
    obtain⟨rfl,hp⟩:=zQW hE hr hok h (ev hx).1 (ev hi).1 (ev hx).2
    exact hp.st hr
 | mapUpdate t m k x=>
  rw[hop] at hok
  refine OpR.ofUnit (zHI ..) (sem:=Instr.mapUpdate t (zAI tm m) (zAI tm k) (zAI tm x)) (by unfold execOp;rw[hop]) fun h=>?_
  simp only[opA] at h
  cases hm:zAH fr m with
  | none=>rw[hm] at h;unfold zDI at h;split at h<;>cases h
  | some m0=>
   cases hk:zAH fr k with
   | none=>
    rw[hm,hk] at h
    unfold zDI at h
    split at h
    ·split at h<;>cases h
    ·cases h
   | some k0=>
    cases hx:zAH fr x with
    | none=>
     rw[hm,hk,hx] at h
     unfold zDI at h
     split at h
     ·split at h
      ·dsimp only at h;rw[cond_eq_ite] at h;split at h<;>cases h
      ·cases h
     ·cases h
    | some x0=>
     rw[hm,hk,hx] at h
     exact zK6 hE hr hok h (ev hm).1 (ev hk).1 (ev hx).1 (ev hx).2
 | insert t m k x=>
  rw[hop] at hok
  refine OpR.ofUnit (zHI ..) (sem:=Instr.mapUpdate t (zAI tm m) (zAI tm k) (zAI tm x)) (by unfold execOp;rw[hop]) fun h=>?_
  simp only[opA] at h
  cases hm:zAH fr m with
  | none=>rw[hm] at h;unfold zDI at h;split at h<;>cases h
  | some m0=>
   cases hk:zAH fr k with
   | none=>
    rw[hm,hk] at h
    unfold zDI at h
    split at h
    ·split at h<;>cases h
    ·cases h
   | some k0=>
    cases hx:zAH fr x with
    | none=>
     rw[hm,hk,hx] at h
     unfold zDI at h
     split at h
     ·split at h
      ·dsimp only at h;rw[cond_eq_ite] at h;split at h<;>cases h
      ·cases h
     ·cases h
    | some x0=>
     rw[hm,hk,hx] at h
     exact zK6 hE hr hok h (ev hm).1 (ev hk).1 (ev hx).1 (ev hx).2
 | mapEntry _ _ _=>trivial
 | entryStore _ _ _ _=>trivial
 | range _ _=>trivial
 | next _ _=>trivial
 | entry _=>trivial
 | typeAssert x xt t ok=>
  rw[hop] at hok
  refine OpR.ofVal (zM5 ..) (sem:=Instr.typeAssert (zAI tm x) xt t ok) (by unfold execOp;rw[hop]) fun h=>?_
  simp only[opA] at h
  cases hx:zAH fr x with
  | none=>rw[hx] at h;unfold zET at h;split at h<;>cases h
  | some a=>
   rw[hx] at h
   obtain⟨rfl,hp⟩:=zQ0 (w:=w) (xt:=xt) hE hok h (ev hx).1 (ev hx).2
   exact hp.st hr
 | extract x i=>
  refine OpR.ofVal (zLK ..) (sem:=Instr.extract (zAI tm x) i) (by unfold execOp;rw[hop]) fun h=>?_
  simp only[opA] at h
  cases hx:zAH fr x with
  | none=>rw[hx] at h;cases h
  | some a=>
   rw[hx] at h
   obtain⟨rfl,hp⟩:=zO8 (w:=w) (P:=P) h (ev hx).1 (ev hx).2
   exact hp.st hr
 | call c=>
  rw[hop] at hok
  exact zRU hE hok hr hf ht hop
 | go _=>trivial
 | defer c=>
  simp only[opA]
  unfold zMZ
  split
  ·rename_i f hcal
   split
   ·rename_i t h a b hfv
    split
    ·rename_i args hargs
     have hv:=ev hfv
     generalize hvv:zAI tm f=vv at hv
     obtain⟨hv1,hv2⟩:=hv
     cases hv1 with
     | func _ _ _ _ a' b' hy la ha lb hb hta htb=>
     have hv2:t≤s.n:=hv2
     refine⟨rfl,_,?_,.call t h a b args a' b' (c.args.map (zAI tm)) ⟨la,ha⟩ ⟨lb,hb⟩ (zTF hf hargs) (by omega) (by omega) (zHL ht hargs)⟩
     unfold execOp
     rw[hop]
     simp[resolve,hcal,hvv,zOC,Deferred.ofValue]
    ·trivial
   ·trivial
  ·trivial
 | panic x=>
  simp only[opA]
  unfold zW8
  split
  ·rename_i t y hx
   have hv:=ev hx
   generalize hvv:zAI tm x=vv at hv
   obtain⟨hv1,hv2⟩:=hv
   cases hv1 with
   | iface _ _ v h=>
   refine⟨rfl,rfl,hv2,.iface t v,?_,.iface t y v h⟩
   unfold execOp
   rw[hop]
   simp[hvv,Instr.panic,goPanic,Sem.run]
  ·trivial
 | send _ _=>trivial
 | recv _ _ _=>trivial
 | select _ _=>trivial
end
noncomputable section
theorem zEY (a i:Nat):hasM a i=a.testBit i:=by
 have h1:Nat.shiftRight a i=a >>> i:=rfl
 unfold hasM
 rw[h1]
 have h2:Nat.land (a >>> i) 1=(a >>> i) % 2:=by
  show(a >>> i) &&& 1=_
  rw[Nat.and_one_is_mod]
 rw[h2,Nat.testBit_eq_decide_div_mod_eq,Nat.shiftRight_eq_div_pow]
 cases h:Nat.beq (a / 2 ^ i % 2) 1 with
 | true=>simp[Nat.eq_of_beq_eq_true h]
 | false=>
  have:a / 2 ^ i % 2≠1:=fun e=>by rw[e] at h;cases h
  simp[this]
theorem zAR (a b i:Nat):hasM (orM a b) i=(hasM a i||hasM b i):=by
 rw[zEY,zEY,zEY];exact Nat.testBit_or a b i
theorem zAU (i j:Nat):hasM (zCS i) j=decide (i=j):=by
 rw[zEY];exact Nat.testBit_two_pow
theorem zEX (i:Nat):hasM 0 i=false:=by rw[zEY];exact Nat.zero_testBit i
theorem zEO {a b:Nat}(h:subM a b=true){i:Nat}(hi:hasM a i=true):hasM b i=true:=by
 have h1:a &&& b=a:=Nat.eq_of_beq_eq_true h
 rw[zEY] at hi ⊢
 rw[← h1,Nat.testBit_and,Bool.and_eq_true] at hi
 exact hi.2
theorem zI2 (e:Edge):Region.binds .any e=zB9 e:=by
 unfold Region.binds zB9
 cases e.ground<;>rfl
theorem zS1 (l:List Nat)(x:Nat):lsnoc l x=l++[x]:=by
 induction l with
 | nil=>rfl
 | cons a r ih=>rw[lsnoc,ih];rfl
def Closed (ops:List Oper)(S:Nat→Prop):Prop:=∀(j:Nat) (o:Oper),ops[j]?=some o→S j→∀e∈o.after.toList,zB9 e=true→S e.on
theorem zQ1 (l:List Nat)(i:Nat):nthN l i=l.getD i 0:=by
 unfold nthN
 rw[zCZ,List.getD_eq_getElem?_getD]
 cases l[i]?<;>rfl
theorem zRR {S:Nat→Prop}{acc:List Nat}:∀{l:List Edge} {x:Nat},hasM (zL3 acc l) x=true→(∀e∈l,zB9 e=true→S e.on∧∀y,hasM (nthN acc e.on) y=true→S y)→S x:=by
 intro l
 induction l with
 | nil=>intro x h _;rw[zL3,zEX] at h;cases h
 | cons e r ih=>
  intro x h hS
  simp only[zL3,cond_eq_ite] at h
  split at h
  ·rename_i hb
   rw[zAR,zAR,zAU,Bool.or_eq_true,Bool.or_eq_true] at h
   obtain⟨h1,h2⟩:=hS e (.head _) hb
   rcases h with h|h|h
   ·have:=of_decide_eq_true h;subst this;exact h1
   ·exact h2 x h
   ·exact ih h fun e he=>hS e (.tail _ he)
  ·exact ih h fun e he=>hS e (.tail _ he)
theorem zRQ {ops:List Oper}{S:Nat→Prop}(hS:Closed ops S):∀(r:List Oper) (acc:List Nat) (d:List Oper),ops=d++r→acc.length=d.length→
  (∀(j:Nat) (o:Oper),d[j]?=some o→(∀e∈o.after.toList,zB9 e=true→S e.on)→∀x,hasM (nthN acc j) x=true→S x)→
  ∀(j:Nat) (o:Oper),ops[j]?=some o→(∀e∈o.after.toList,zB9 e=true→S e.on)→∀x,hasM (nthN (closes r acc) j) x=true→S x:=by
 intro r
 induction r with
 | nil=>intro acc d h1 h2 h3 j o hj;rw[h1,List.append_nil] at hj;exact h3 j o hj
 | cons a r ih=>
  intro acc d h1 h2 h3
  refine ih (lsnoc acc (zL3 acc a.after.toList)) (d++[a]) (by rw[h1];simp) (by rw[zS1];simp[h2]) ?_
  intro j o hj he x hx
  rw[zS1,zQ1] at hx
  rw[List.getElem?_append] at hj
  by_cases hlt:j<d.length
  ·rw[if_pos hlt] at hj
   rw[List.getD_eq_getElem?_getD,List.getElem?_append,if_pos (by omega),← List.getD_eq_getElem?_getD,← zQ1] at hx
   exact h3 j o hj he x hx
  ·rw[if_neg hlt] at hj
   have hj0:j=d.length:=by
    have:=(List.getElem?_eq_some_iff.1 hj).1
    simp at this;omega
   subst hj0
   simp at hj
   subst hj
   rw[List.getD_eq_getElem?_getD,List.getElem?_append,if_neg (by omega),h2] at hx
   simp only[Nat.sub_self,List.getElem?_cons_zero,Option.getD_some] at hx
   refine zRR hx fun e hem hb=>⟨he e hem hb,fun y hy=>?_⟩
   have hon:=he e hem hb
   by_cases hle:e.on<d.length
   ·have hd:d[e.on]?=some d[e.on]:=List.getElem?_eq_getElem hle
    have ho:ops[e.on]?=some d[e.on]:=by rw[h1,List.getElem?_append,if_pos hle];exact hd
    exact h3 e.on _ hd (fun e' he' hb'=>hS e.on _ ho hon e' he' hb') y hy
   ·rw[zQ1,List.getD_eq_getElem?_getD,List.getElem?_eq_none (by omega)] at hy
    simp only[Option.getD_none] at hy
    rw[zEX] at hy
    cases hy
theorem zHG {ops:List Oper}{S:Nat→Prop}(hS:Closed ops S){j:Nat}{o:Oper}(hj:ops[j]?=some o)(he:∀e∈o.after.toList,zB9 e=true→S e.on){x:Nat}(hx:hasM (nthN (closes ops []) j) x=true):S x:=
 zRQ hS ops [] [] rfl rfl (fun j o h=>by simp at h) j o hj he x hx
end
section
variable {E:Env}{fr fr':Fr}{s s' s1:Sto}{v:AV}
theorem zAY {nx:Nx}(h:valOf nx=some v):∃s',nx=.val v s':=by
 cases nx<;>simp[valOf] at h
 subst h;exact⟨_,rfl⟩
theorem zHY {x:Option AV}(h:nv s x=.val v s'):s'=s:=(zGY h).2
theorem zWD {c a b:Option AV}(h:zGW c a b s=.val v s'):s'=s:=by
 unfold zGW at h;split at h
 ·exact zHY h
 ·cases h
theorem zT6 {t:TypeId}{ps:List (Nat×Operand)}(h:zEH E fr t ps s=.val v s'):s'=s:=by
 unfold zEH at h;split at h
 ·dsimp only at h;split at h
  ·split at h<;>cases h;rfl
  ·split at h<;>cases h;rfl
  ·cases h
 ·cases h
theorem zWE {t:TypeId}{a:Option AV}(h:zQX E t a s=.val v s'):s'=s:=by
 unfold zQX at h;split at h
 ·exact zHY h
 ·cases h
theorem same_nil {x:Option AV}(h:oNil x s=.val v s'):s'=s:=by
 unfold oNil at h;split at h<;>cases h<;>rfl
theorem same_bin {op:BinOp}{t:TypeId}{c:Bool}{x y:Option AV}(h:oBin E op t c x y s=.val v s'):s'=s:=by
 unfold oBin at h;split at h
 ·split at h
  ·exact zHY h
  ·cases h
 ·cases h
theorem same_un {op:UnOp}{x:Option AV}(h:oUn op x s=.val v s'):s'=s:=by
 unfold oUn at h;split at h
 ·split at h<;>cases h;rfl
 ·split at h
  ·cases h;rfl
  ·exact zHY h
  ·cases h
 ·cases h
theorem zT4 {d:TD}{t:TypeId}{x:Option AV}(h:zIQ d t x s=.val v s'):s'=s:=by
 unfold zIQ at h;split at h
 ·split at h<;>cases h;rfl
 ·cases h
theorem zNY {fn:Fn}{a b:List Operand}(h:zCG fr fn a b s=.val v s'):s'=s:=by
 unfold zCG at h;split at h
 ·split at h
  ·split at h<;>cases h;rfl
  ·cases h
 ·cases h
theorem zT2 {t:TypeId}{x:Option AV}{lo hi:Option Operand}(h:zGO E t fr x lo hi none s=.val v s'):s'=s:=by
 have nvs':∀{y:Option (AV×Sto)},nvs y=.val v s'→y=some (v,s'):=fun h=>by
  unfold nvs at h;split at h<;>cases h;rfl
 unfold zGO at h
 split at h
 ·split at h
  ·split at h
   ·split at h
    ·rename_i mx hmx
     have:mx=none:=by simp[zGN] at hmx;exact hmx.symm
     subst this
     split at h
     ·have h:=nvs' h
      unfold zIG at h
      split at h
      ·unfold zJD at h
       split at h
       ·rw[cond_eq_ite] at h;split at h
        ·cases h;rfl
        ·cases h
       ·cases h
      ·unfold zE4 at h
       split at h
       ·rw[cond_eq_ite] at h;split at h
        ·split at h
         ·dsimp only at h;cases h;rfl
         ·cases h
        ·cases h
       ·cases h
      ·cases h
     ·split at h
      ·have h:=nvs' h
       unfold zKF at h
       dsimp only at h
       split at h
       ·cases h;rfl
       ·cases h
      ·cases h
     ·cases h
    ·cases h
   ·cases h
  ·cases h
 ·cases h
theorem zME {d:TD}{x:Option AV}{i:Nat}(h:zB0 d x i s=.val v s'):s'=s:=by
 unfold zB0 at h;split at h
 ·split at h
  ·split at h
   ·cases h;rfl
   ·cases h;rfl
   ·rw[cond_eq_ite] at h;split at h<;>cases h;rfl
   ·cases h
  ·cases h
 ·cases h
theorem zT5 {t:TypeId}{x:Option AV}{i:Nat}(h:zHS E t x i s=.val v s'):s'=s:=by
 unfold zHS at h;split at h
 ·split at h
  ·split at h
   ·exact zHY h
   ·cases h
  ·cases h
 ·cases h
theorem zMD {t:TypeId}{x i:Option AV}(h:zCI E t x i s=.val v s'):s'=s:=by
 unfold zCI at h;split at h
 ·split at h
  ·split at h
   ·split at h
    ·split at h
     ·unfold ixSl at h;split at h
      ·rw[cond_eq_ite] at h;split at h<;>cases h;rfl
      ·cases h
     ·unfold zQ7 at h;split at h
      ·rw[cond_eq_ite] at h;split at h<;>cases h;rfl
      ·cases h
     ·cases h
    ·unfold ixArr at h;rw[cond_eq_ite] at h;split at h
     ·split at h
      ·cases h;rfl
      ·rw[cond_eq_ite] at h;split at h<;>cases h;rfl
      ·cases h
     ·cases h
    ·cases h
   ·cases h
  ·cases h
 ·cases h
theorem zT3 {t:TypeId}{x i:Option AV}(h:zGX E t x i s=.val v s'):s'=s:=by
 unfold zGX at h;split at h
 ·split at h
  ·split at h
   ·split at h
    ·split at h
     ·split at h<;>cases h;rfl
     ·cases h
    ·split at h
     ·rw[cond_eq_ite] at h;split at h
      ·exact zHY h
      ·cases h
     ·cases h
    ·cases h
   ·cases h
  ·cases h
 ·cases h
theorem zMT {ti:TI}{ok:Bool}{x:Option (Option AV)}(h:found ti ok s x=.val v s'):s'=s:=by
 unfold found at h;split at h<;>cases h<;>rfl
theorem zQN {t:TypeId}{x i:Option AV}{ok:Bool}(h:zEE E t x i ok s=.val v s'):s'=s:=by
 unfold zEE at h;split at h
 ·split at h
  ·rw[cond_eq_ite] at h;split at h
   ·split at h
    ·exact zMT h
    ·split at h
     ·exact zMT h
     ·cases h
    ·cases h
   ·cases h
  ·cases h
 ·cases h
theorem zQO {x:Option AV}{t:TypeId}{ok:Bool}(h:zET E x t ok s=.val v s'):s'=s:=by
 unfold zET at h;split at h
 ·cases h
 ·cases h
 ·split at h
  ·rw[cond_eq_ite] at h;split at h
   ·cases h;rfl
   ·rw[cond_eq_ite] at h;split at h<;>cases h;rfl
  ·rw[cond_eq_ite] at h;split at h<;>cases h;rfl
  ·cases h
theorem zO0 {x:Option AV}{i:Nat}(h:zDW x i s=.val v s'):s'=s:=by
 unfold zDW at h;split at h
 ·exact zHY h
 ·cases h
theorem same_len {t:TypeId}{args:List AV}(h:bLen E t args s=.val v s'):s'=s:=by
 unfold bLen at h;split at h
 ·split at h<;>cases h;rfl
 ·cases h
theorem same_min {args:List AV}(h:bMin args s=.val v s'):s'=s:=by
 unfold bMin at h;split at h
 ·split at h<;>cases h;rfl
 ·cases h
theorem same_max {args:List AV}(h:bMax args s=.val v s'):s'=s:=by
 unfold bMax at h;split at h
 ·split at h<;>cases h;rfl
 ·cases h
theorem same_cap {t:TypeId}{args:List AV}(h:bCap E t args s=.val v s'):s'=s:=by
 unfold bCap at h;split at h
 ·split at h<;>cases h<;>rfl
 ·cases h
theorem zLA {x:AV}(h:noOsl1 x=true):seal1 s x=some (shut1 x,s):=by
 cases x<;>first|rfl|cases h
theorem noOslC_seal:∀{l:List AV},noOslC l=true→zCV s l=some (lmap shut1 l,s):=by
 intro l
 induction l with
 | nil=>intro _;rfl
 | cons a r ih=>
  intro h
  simp only[noOslC,cond_eq_ite] at h
  split at h
  ·rename_i ha
   simp only[zCV,zLA ha,ih h]
   rfl
  ·cases h
theorem zUL {x:AV}(h:noOsl x=true):zA0 s x=some (shutV x,s):=by
 unfold noOsl at h
 split at h
 ·simp only[zA0,noOslC_seal h,shutV]
 ·simp only[zA0,noOslC_seal h,shutV]
 ·have h3:=zLA (s:=s) h
  unfold zA0 shutV
  cases x with
  | agg cs=>rename_i h1 _;exact absurd rfl (h1 cs)
  | iface t y=>
   cases y with
   | agg cs=>rename_i _ h2;exact absurd rfl (h2 t cs)
   | _=>exact h3
  | _=>exact h3
theorem noOslP_seal:∀{l:List (Nat×AV)},noOslP l=true→zKW s l=some (zMR l,s):=by
 intro l
 induction l with
 | nil=>intro _;rfl
 | cons a r ih=>
  intro h
  obtain⟨i,x⟩:=a
  simp only[noOslP,cond_eq_ite] at h
  split at h
  ·rename_i ha
   simp only[zKW,zUL ha,ih h]
   rfl
  ·cases h
theorem zMH {fid:FuncId}{t:TypeId}{n:Nat}{ps:List (Nat×Operand)}(h:zES E fid fr t n ps=some v):zCB E fid fr t n ps s=.val v s:=by
 unfold zES at h
 cases hm:(E.mode fid).mutLit with
 | true=>rw[hm] at h;cases h
 | false=>
  rw[hm] at h
  simp only[cond_false] at h
  split at h
  ·rename_i e he
   split at h
   ·rename_i xs hxs
    rw[cond_eq_ite] at h
    split at h
    ·rename_i hno
     rw[cond_eq_ite] at h
     split at h
     ·rename_i hc
      cases h
      unfold zCB
      rw[he]
      simp only[hxs,noOslP_seal hno]
      simp only[Bool.and_eq_true] at hc
      have hp:zDR (E.types e).size n (zMR xs)=true:=by
       have key:∀{l:List (Nat×AV)},zDR (E.types e).size n l=true→zDR (E.types e).size n (zMR l)=true:=by
        intro l
        induction l with
        | nil=>intro _;rfl
        | cons a r ih=>
         intro h
         obtain⟨i,x⟩:=a
         simp only[zDR,cond_eq_ite] at h
         split at h
         ·rename_i ha
          have hlen:llen (cellsOf (shutV x))=llen (cellsOf x):=by
           have h1:∀y,llen (cellsOf (shut1 y))=llen (cellsOf y):=by intro y;cases y<;>rfl
           unfold shutV
           split
           ·simp[cellsOf,zAM,lmap_eq]
           ·rfl
           ·exact h1 x
          show zDR _ n ((i,shutV x) :: zMR r)=true
          simp only[zDR,hlen,cond_eq_ite]
          rw[if_pos ha];exact ih h
         ·cases h
       exact key hc.2.1
      rw[cond_eq_ite,if_pos (by simp only[Bool.and_eq_true];exact⟨hc.1,hp,hc.2.2⟩),hm]
      rfl
     ·cases h
    ·cases h
   ·cases h
  ·cases h
end
section
variable {E:Env}{P:Program}{g:Gh}{base:Nat}{w0:World}{s:Sto}{w:World}{fr:Fr}{tm:Array Value}{o:Oper}{v:AV}
theorem zMG (hE:TysOk E P)(hr:Rel base w0 g s w){t:TypeId}(ht:(E.types t).ok=true){l c:Option AV}{l' c':Value}(h:zFP E t l c=some v)
  (hl:∀x,l=some x→VR g x l') (hc:∀x,c=some x→VR g x c'):StR P base w0 g s w (Instr.makeSlice t l' c') v s:=by
 unfold zFP at h
 split at h
 ·rename_i a b n d1 d2 zs d3 d4 d5 hm
  split at h
  ·rename_i cx
   split at h
   ·rename_i m hmc
    rw[cond_eq_ite] at h
    split at h
    ·rename_i hnm
     have hnm:=Nat.eq_of_beq_eq_true hnm
     subst hnm
     cases h
     cases l with
     | none=>unfold zBZ at hm;split at hm<;>cases hm
     | some lx=>
      obtain⟨e,n',m',arr,h1,h2,h3,h4,h5,h6,h7,h8,h9,h10,h11⟩:=zIS hE ht hm (hl _ rfl) (hc _ rfl)
      rw[hmc] at h3
      cases h3
      injection h9 with q1 q2 q3
      subst q3
      injection h10 with q4 q5 q6
      injection q4 with q7 q8
      injection q7 with q9 q10 q11 q12
      subst q11
      obtain⟨hR,hg⟩:=hr.pushStay arr e
      have hrow:=h7.grows hg (by rw[h8];exact Nat.zero_le _)
      have hst:=zVX hrow .clip (by simp)
      rw[List.length_replicate,← zDS] at hst
      exact⟨_,_,_,h11 w,hR,hg,hst,by rw[zDS];rw[show top (.sl (tops (List.replicate n (zAP (E.types e)))) (List.replicate n (zAP (E.types e))) .clip)=tops (List.replicate n (zAP (E.types e))) from rfl,h8];exact Nat.zero_le _,Nat.le_refl _⟩
    ·cases h
   ·cases h
  ·cases h
 ·cases h
theorem qCall_op {fid:FuncId}{c:Call}(h:zUA E fr c s=some v):opA E fid fr (.call c) s=.val v s:=by
 unfold zUA at h
 split at h
 ·rename_i b hcal
  split at h
  ·rename_i args hargs
   simp only[opA,zN5,hargs,hcal,zGF]
   unfold zKI at h
   split at h
   ·obtain⟨s',h'⟩:=zAY h;have:=same_len h';subst this;exact h'
   ·obtain⟨s',h'⟩:=zAY h;have:=same_min h';subst this;exact h'
   ·obtain⟨s',h'⟩:=zAY h;have:=same_max h';subst this;exact h'
   ·obtain⟨s',h'⟩:=zAY h;have:=same_cap h';subst this;exact h'
   ·cases h
  ·cases h
 ·cases h
theorem zW2 (hE:TysOk E P){fid:FuncId}(hok:okOp E o.op=true)(hr:Rel base w0 g s w)(hf:VRs g fr.tmps tm)(ht:tops fr.tmps≤s.n)(h:opQ E fid fr o.op s=some v):OpR P base w0 g s w tm o (.val v s):=by
 have gen:opA E fid fr o.op s=.val v s→OpR P base w0 g s w tm o (.val v s):=fun e=>by
  have:=zQU (fid:=fid) hE hok hr hf ht
  rwa [e] at this
 cases hop:o.op with
 | makeSlice t l c=>
  rw[hop] at h hok
  simp only[opQ] at h
  refine OpR.ofVal rfl (sem:=Instr.makeSlice t (zAI tm l) (zAI tm c)) (by unfold execOp;rw[hop]) fun e=>?_
  cases e
  exact zMG hE hr hok h (fun x hx=>zBA hf hx) (fun x hx=>zBA hf hx)
 | move x=>rw[hop] at h gen;exact gen (by simp only[opQ] at h;simp only[opA,h];rfl)
 | assign x=>rw[hop] at h gen;exact gen (by simp only[opQ] at h;simp only[opA,h];rfl)
 | pick c a b=>rw[hop] at h gen;simp only[opQ] at h;obtain⟨s',h'⟩:=zAY h;have:=zWD h';subst this;exact gen h'
 | build t ps=>rw[hop] at h gen;simp only[opQ] at h;obtain⟨s',h'⟩:=zAY h;have:=zT6 h';subst this;exact gen h'
 | buildSlice t n ps=>rw[hop] at h gen;simp only[opQ] at h;exact gen (zMH h)
 | load t a=>rw[hop] at h gen;simp only[opQ] at h;obtain⟨s',h'⟩:=zAY h;have:=zWE h';subst this;exact gen h'
 | nilCheck x=>rw[hop] at h gen;simp only[opQ] at h;obtain⟨s',h'⟩:=zAY h;have:=same_nil h';subst this;exact gen h'
 | binOp op t x y yt=>rw[hop] at h gen;simp only[opQ] at h;obtain⟨s',h'⟩:=zAY h;have:=same_bin h';subst this;exact gen h'
 | unOp op t x=>rw[hop] at h gen;simp only[opQ] at h;obtain⟨s',h'⟩:=zAY h;have:=same_un h';subst this;exact gen h'
 | makeInterface t x=>rw[hop] at h gen;simp only[opQ] at h;obtain⟨s',h'⟩:=zAY h;have:=zT4 h';subst this;exact gen h'
 | makeFunc fn a b=>rw[hop] at h gen;simp only[opQ] at h;obtain⟨s',h'⟩:=zAY h;have:=zNY h';subst this;exact gen h'
 | slice t x lo hi mx=>
  rw[hop] at h gen
  cases mx with
  | none=>simp only[opQ] at h;obtain⟨s',h'⟩:=zAY h;have:=zT2 h';subst this;exact gen h'
  | some _=>simp[opQ] at h
 | fieldAddr t x i=>rw[hop] at h gen;simp only[opQ] at h;obtain⟨s',h'⟩:=zAY h;have:=zME h';subst this;exact gen h'
 | field t x i=>rw[hop] at h gen;simp only[opQ] at h;obtain⟨s',h'⟩:=zAY h;have:=zT5 h';subst this;exact gen h'
 | indexAddr t x i=>rw[hop] at h gen;simp only[opQ] at h;obtain⟨s',h'⟩:=zAY h;have:=zMD h';subst this;exact gen h'
 | index t x i=>rw[hop] at h gen;simp only[opQ] at h;obtain⟨s',h'⟩:=zAY h;have:=zT3 h';subst this;exact gen h'
 | lookup t x i ok=>rw[hop] at h gen;simp only[opQ] at h;obtain⟨s',h'⟩:=zAY h;have:=zQN h';subst this;exact gen h'
 | typeAssert x xt t ok=>rw[hop] at h gen;simp only[opQ] at h;obtain⟨s',h'⟩:=zAY h;have:=zQO h';subst this;exact gen h'
 | extract x i=>rw[hop] at h gen;simp only[opQ] at h;obtain⟨s',h'⟩:=zAY h;have:=zO0 h';subst this;exact gen h'
 | call c=>rw[hop] at h gen;simp only[opQ] at h;exact gen (qCall_op h)
 | _=>rw[hop] at h;simp[opQ] at h
end
section
variable {E:Env}{fr fr':Fr}{s s':Sto}
theorem evalOs_congr:∀{l:List Operand},(∀x∈l,zAH fr x=zAH fr' x)→zBO fr l=zBO fr' l:=by
 intro l
 induction l with
 | nil=>intro _;rfl
 | cons a r ih=>
  intro h
  simp only[zBO]
  rw[h a (.head _),ih fun x hx=>h x (.tail _ hx)]
theorem evalPs_congr:∀{l:List (Nat×Operand)},(∀x∈l,zAH fr x.2=zAH fr' x.2)→zB5 fr l=zB5 fr' l:=by
 intro l
 induction l with
 | nil=>intro _;rfl
 | cons a r ih=>
  intro h
  obtain⟨i,x⟩:=a
  simp only[zB5]
  rw[h (i,x) (.head _),ih fun x hx=>h x (.tail _ hx)]
theorem zGV {o:Option Operand}(h:∀x,o=some x→zAH fr x=zAH fr' x):zGN fr o=zGN fr' o:=by
 cases o with
 | none=>rfl
 | some x=>simp only[zGN,h x rfl]
theorem zJV {t:TypeId}{x:Option AV}{lo hi mx:Option Operand}(h1:∀x,lo=some x→zAH fr x=zAH fr' x)(h2:∀x,hi=some x→zAH fr x=zAH fr' x)(h3:∀x,mx=some x→zAH fr x=zAH fr' x) :
  zGO E t fr x lo hi mx s=zGO E t fr' x lo hi mx s:=by
 unfold zGO
 rw[zGV h1,zGV h2,zGV h3]
theorem zQZ {c:Call}(h:∀x∈c.operands.toList,zAH fr x=zAH fr' x):zN5 E fr c s=zN5 E fr' c s:=by
 have ha:zBO fr c.args.toList=zBO fr' c.args.toList:=evalOs_congr fun x hx=>h x (by simp[Call.operands,Array.mem_toList_iff.1 hx])
 unfold zN5
 rw[ha]
 cases hcal:c.callee with
 | value f=>
  have hf:=h f (by simp[Call.operands,hcal])
  cases f with
  | func g=>rfl
  | _=>simp only[hf]
 | invoke r m=>
  have hf:=h r (by simp[Call.operands,hcal])
  simp only[hf]
 | builtin b=>rfl
theorem zO9 {c:Call}(h:∀x∈c.operands.toList,zAH fr x=zAH fr' x):zMZ fr c s=zMZ fr' c s:=by
 have ha:zBO fr c.args.toList=zBO fr' c.args.toList:=evalOs_congr fun x hx=>h x (by simp[Call.operands,Array.mem_toList_iff.1 hx])
 unfold zMZ
 rw[ha]
 cases hcal:c.callee with
 | value f=>
  have hf:=h f (by simp[Call.operands,hcal])
  simp only[hf]
 | invoke r m=>rfl
 | builtin b=>rfl
theorem zW6 {fid:FuncId}{op:Op}(h:∀x∈op.operands.toList,zAH fr x=zAH fr' x):opA E fid fr op s=opA E fid fr' op s:=by
 cases op with
 | call c=>exact zQZ h
 | defer c=>exact zO9 h
 | slice t x lo hi mx=>
  simp only[opA]
  rw[h x (by simp[Op.operands])]
  exact zJV (fun y hy=>h y (by subst hy;simp[Op.operands])) (fun y hy=>h y (by subst hy;simp[Op.operands])) (fun y hy=>h y (by subst hy;simp[Op.operands]))
 | build t ps=>
  have:zB5 fr ps.toList=zB5 fr' ps.toList:=evalPs_congr fun x hx=>h x.2 (by simp[Op.operands];exact⟨x.1,Array.mem_toList_iff.1 hx⟩)
  simp only[opA,zEH,this]
 | buildSlice t n ps=>
  have:zB5 fr ps.toList=zB5 fr' ps.toList:=evalPs_congr fun x hx=>h x.2 (by simp[Op.operands];exact⟨x.1,Array.mem_toList_iff.1 hx⟩)
  simp only[opA,zCB,this]
 | makeFunc fn a b=>
  have h1:zBO fr a.toList=zBO fr' a.toList:=evalOs_congr fun x hx=>h x (by simp[Op.operands,Array.mem_toList_iff.1 hx])
  have h2:zBO fr b.toList=zBO fr' b.toList:=evalOs_congr fun x hx=>h x (by simp[Op.operands,Array.mem_toList_iff.1 hx])
  simp only[opA,zCG,h1,h2]
 | move x=>simp only[opA,h x (by simp[Op.operands])]
 | assign x=>simp only[opA,h x (by simp[Op.operands])]
 | pick c a b=>simp only[opA,h c (by simp[Op.operands]),h a (by simp[Op.operands]),h b (by simp[Op.operands])]
 | box e x=>simp only[opA,h x (by simp[Op.operands])]
 | load t a=>simp only[opA,h a (by simp[Op.operands])]
 | store t a x=>simp only[opA,h a (by simp[Op.operands]),h x (by simp[Op.operands])]
 | nilCheck x=>simp only[opA,h x (by simp[Op.operands])]
 | binOp op t x y yt=>simp only[opA,h x (by simp[Op.operands]),h y (by simp[Op.operands])]
 | unOp op t x=>simp only[opA,h x (by simp[Op.operands])]
 | convert a b x=>simp only[opA,h x (by simp[Op.operands])]
 | makeInterface t x=>simp only[opA,h x (by simp[Op.operands])]
 | makeSlice t l c=>simp only[opA,h l (by simp[Op.operands]),h c (by simp[Op.operands])]
 | fieldAddr t x i=>simp only[opA,h x (by simp[Op.operands])]
 | field t x i=>simp only[opA,h x (by simp[Op.operands])]
 | indexAddr t x i=>simp only[opA,h x (by simp[Op.operands]),h i (by simp[Op.operands])]
 | index t x i=>simp only[opA,h x (by simp[Op.operands]),h i (by simp[Op.operands])]
 | lookup t x i ok=>simp only[opA,h x (by simp[Op.operands]),h i (by simp[Op.operands])]
 | mapUpdate t m k x=>simp only[opA,h m (by simp[Op.operands]),h k (by simp[Op.operands]),h x (by simp[Op.operands])]
 | insert t m k x=>simp only[opA,h m (by simp[Op.operands]),h k (by simp[Op.operands]),h x (by simp[Op.operands])]
 | typeAssert x xt t ok=>simp only[opA,h x (by simp[Op.operands])]
 | extract x i=>simp only[opA,h x (by simp[Op.operands])]
 | panic x=>simp only[opA,h x (by simp[Op.operands])]
 | _=>rfl
theorem zIO {fid:FuncId}{op:Op}(h:∀x∈op.operands.toList,zAH fr x=zAH fr' x):opQ E fid fr op s=opQ E fid fr' op s:=by
 cases op with
 | call c=>
  have ha:zBO fr c.args.toList=zBO fr' c.args.toList:=evalOs_congr fun x hx=>h x (by simp[Op.operands,Call.operands,Array.mem_toList_iff.1 hx])
  simp only[opQ,zUA,ha]
 | slice t x lo hi mx=>
  cases mx with
  | some _=>rfl
  | none=>
   simp only[opQ]
   rw[h x (by simp[Op.operands]),zJV (fun y hy=>h y (by subst hy;simp[Op.operands])) (fun y hy=>h y (by subst hy;simp[Op.operands])) (fun y hy=>by cases hy)]
 | build t ps=>
  have:zB5 fr ps.toList=zB5 fr' ps.toList:=evalPs_congr fun x hx=>h x.2 (by simp[Op.operands];exact⟨x.1,Array.mem_toList_iff.1 hx⟩)
  simp only[opQ,zEH,this]
 | buildSlice t n ps=>
  have:zB5 fr ps.toList=zB5 fr' ps.toList:=evalPs_congr fun x hx=>h x.2 (by simp[Op.operands];exact⟨x.1,Array.mem_toList_iff.1 hx⟩)
  simp only[opQ,zES,this]
 | makeFunc fn a b=>
  have h1:zBO fr a.toList=zBO fr' a.toList:=evalOs_congr fun x hx=>h x (by simp[Op.operands,Array.mem_toList_iff.1 hx])
  have h2:zBO fr b.toList=zBO fr' b.toList:=evalOs_congr fun x hx=>h x (by simp[Op.operands,Array.mem_toList_iff.1 hx])
  simp only[opQ,zCG,h1,h2]
 | move x=>simp only[opQ,h x (by simp[Op.operands])]
 | assign x=>simp only[opQ,h x (by simp[Op.operands])]
 | pick c a b=>simp only[opQ,h c (by simp[Op.operands]),h a (by simp[Op.operands]),h b (by simp[Op.operands])]
 | load t a=>simp only[opQ,h a (by simp[Op.operands])]
 | nilCheck x=>simp only[opQ,h x (by simp[Op.operands])]
 | binOp op t x y yt=>simp only[opQ,h x (by simp[Op.operands]),h y (by simp[Op.operands])]
 | unOp op t x=>simp only[opQ,h x (by simp[Op.operands])]
 | makeInterface t x=>simp only[opQ,h x (by simp[Op.operands])]
 | makeSlice t l c=>simp only[opQ,h l (by simp[Op.operands]),h c (by simp[Op.operands])]
 | fieldAddr t x i=>simp only[opQ,h x (by simp[Op.operands])]
 | field t x i=>simp only[opQ,h x (by simp[Op.operands])]
 | indexAddr t x i=>simp only[opQ,h x (by simp[Op.operands]),h i (by simp[Op.operands])]
 | index t x i=>simp only[opQ,h x (by simp[Op.operands]),h i (by simp[Op.operands])]
 | lookup t x i ok=>simp only[opQ,h x (by simp[Op.operands]),h i (by simp[Op.operands])]
 | typeAssert x xt t ok=>simp only[opQ,h x (by simp[Op.operands])]
 | extract x i=>simp only[opQ,h x (by simp[Op.operands])]
 | _=>rfl
theorem zDD (x:Option AV):valOf (nv s x)=x:=by cases x<;>rfl
theorem zYE {op:BinOp}(h1:op≠.eql)(h2:op≠.neq)(b:Bool):eqOp op b=none:=by
 cases op<;>first|rfl|exact absurd rfl h1|exact absurd rfl h2
theorem zPS {op:BinOp}(h1:op≠.eql)(h2:op≠.neq)(d:TD)(c:Bool)(x y:AV):eqTy E op d c x y s=none:=by
 have e:=zYE h1 h2
 unfold eqTy
 split
 ·split
  ·split<;>simp[e]
  ·rfl
 ·unfold zLX
  split
  ·split
   ·rw[cond_eq_ite];split<;>simp[e]
   ·simp[e]
   ·rfl
  ·split
   ·simp[e]
   ·rw[cond_eq_ite];split<;>simp[e]
   ·rfl
  ·rfl
 ·unfold zU3
  split
  ·split<;>simp[e]
  ·split
   ·simp[e]
   ·rw[cond_eq_ite];split<;>simp[e]
   ·rfl
  ·split<;>simp[e]
  ·split<;>simp[e]
  ·rfl
 ·unfold zNF
  split
  ·split<;>simp[e]
  ·split<;>simp[e]
  ·rfl
 ·unfold zM0
  split
  ·split<;>simp[e]
  ·rfl
 ·rfl
theorem zVF {op:BinOp}(h1:op≠.eql)(h2:op≠.neq)(t:TypeId)(c:Bool)(x y:AV):binA E op t c x y s=binA E op t c x y s':=by
 unfold binA
 split
 ·rfl
 ·rfl
 ·rw[zPS h1 h2,zPS h1 h2]
theorem zW3 {fid:FuncId}{op:Op}(h:indep op=true):opQ E fid fr op s=opQ E fid fr op s':=by
 cases op with
 | pick c a b=>
  simp only[opQ,zGW]
  split
  ·rw[zDD,zDD]
  ·rfl
 | build t ps=>
  simp only[opQ,zEH]
  split
  ·split
   ·split<;>rfl
   ·split<;>rfl
   ·rfl
  ·rfl
 | nilCheck x=>simp only[opQ,oNil];split<;>rfl
 | unOp op t x=>
  simp only[opQ,oUn]
  split
  ·split<;>rfl
  ·split
   ·rfl
   ·rw[zDD,zDD]
   ·rfl
  ·rfl
 | makeInterface t x=>
  simp only[opQ,zIQ]
  split
  ·split<;>rfl
  ·rfl
 | makeFunc fn a b=>
  simp only[opQ,zCG]
  split
  ·split
   ·split<;>rfl
   ·rfl
  ·rfl
 | fieldAddr t x i=>
  simp only[opQ,zB0]
  split
  ·split
   ·split
    ·rfl
    ·rfl
    ·rw[cond_eq_ite,cond_eq_ite];split<;>rfl
    ·rfl
   ·rfl
  ·rfl
 | field t x i=>
  simp only[opQ,zHS]
  split
  ·split
   ·split
    ·rw[zDD,zDD]
    ·rfl
   ·rfl
  ·rfl
 | index t x i=>
  simp only[opQ,zGX]
  split
  ·split
   ·split
    ·split
     ·split
      ·split<;>rfl
      ·rfl
     ·split
      ·rw[cond_eq_ite,cond_eq_ite];split
       ·rw[zDD,zDD]
       ·rfl
      ·rfl
     ·rfl
    ·rfl
   ·rfl
  ·rfl
 | typeAssert x xt t ok=>
  simp only[opQ,zET]
  split
  ·rfl
  ·rfl
  ·split
   ·simp only[cond_eq_ite];split
    ·rfl
    ·split<;>rfl
   ·simp only[cond_eq_ite];split<;>rfl
   ·rfl
 | extract x i=>
  simp only[opQ,zDW]
  split
  ·rw[zDD,zDD]
  ·rfl
 | binOp op t x y yt=>
  have hne:op≠.eql∧op≠.neq:=by
   constructor
   ·rintro rfl;cases h
   ·rintro rfl;cases h
  simp only[opQ,oBin]
  split
  ·split
   ·simp only[zDD];exact zVF hne.1 hne.2 _ _ _ _
   ·rfl
  ·rfl
 | move x=>rfl
 | assign x=>rfl
 | buildSlice t n ps=>rfl
 | makeSlice t l c=>rfl
 | _=>cases h
end
theorem zS0 {t:Nat}:∀{l:List Nat},memT t l=true↔t∈l:=by
 intro l
 induction l with
 | nil=>simp[memT]
 | cons a r ih=>
  simp only[memT,cond_eq_ite]
  split
  ·rename_i h;simp[Nat.eq_of_beq_eq_true h]
  ·rename_i h
   have hne:t≠a:=fun e=>h (by rw[e];exact Nat.beq_refl _)
   rw[ih];simp[hne]
theorem mem_dsts {t:Tmp}:∀{ops:List Oper} {j:Nat} {o:Oper},ops[j]?=some o→o.dst=some t→t∈dsts ops:=by
 intro ops
 induction ops with
 | nil=>intro j o h;simp at h
 | cons a r ih=>
  intro j o h hd
  simp only[dsts]
  cases j with
  | zero=>simp at h;subst h;rw[hd];exact .head _
  | succ j=>
   have:=ih (j:=j) (by simpa using h) hd
   split
   ·exact .tail _ this
   ·exact this
theorem zN7 {t:Tmp}:∀{ops:List Oper} {k j:Nat} {o:Oper},nodupT (dsts ops)=true→ops[j]?=some o→o.dst=some t→maker t ops k=some (k+j):=by
 intro ops
 induction ops with
 | nil=>intro k j o _ h;simp at h
 | cons a r ih=>
  intro k j o hn h hd
  simp only[dsts] at hn
  simp only[maker]
  cases j with
  | zero=>simp at h;subst h;rw[hd];simp only[Nat.beq_refl,cond_true];rfl
  | succ j=>
   have hj:r[j]?=some o:=by simpa using h
   split
   ·rename_i d hda
    rw[hda] at hn
    simp only[nodupT,cond_eq_ite] at hn
    split at hn
    ·cases hn
    ·rename_i hmem
     have hne:¬ Nat.beq d t=true:=fun e=>hmem (by rw[Nat.eq_of_beq_eq_true e];exact zS0.2 (mem_dsts hj hd))
     rw[cond_eq_ite,if_neg hne,ih hn hj hd]
     congr 1;omega
   ·rename_i hda
    rw[hda] at hn
    rw[ih hn hj hd]
    congr 1;omega
theorem dst_inj {ops:List Oper}(hn:nodupT (dsts ops)=true){i j:Nat}{o p:Oper}{t:Tmp}(hi:ops[i]?=some o)(hj:ops[j]?=some p)(h1:o.dst=some t)(h2:p.dst=some t):i=j:=by
 have a:=zN7 (k:=0) hn hi h1
 have b:=zN7 (k:=0) hn hj h2
 rw[a] at b;injection b with b;omega
theorem zM1 {t:Tmp}:∀{l:List Operand},t∈tmpsOf l↔Operand.tmp t∈l:=by
 intro l
 induction l with
 | nil=>simp[tmpsOf]
 | cons a r ih=>
  cases a with
  | tmp u=>simp[tmpsOf,ih]
  | _=>simp[tmpsOf,ih]
theorem zFX {fr fr':Fr}{l:List Operand}(h:∀t∈tmpsOf l,lget fr.tmps t=lget fr'.tmps t):∀x∈l,zAH fr x=zAH fr' x:=by
 intro x hx
 cases x with
 | tmp t=>simp only[zAH];rw[h t (zM1.2 hx)]
 | _=>rfl
theorem zEL {ops:List Oper}{fr fr':Fr}{o:Oper}(h:∀t∈zLQ ops o,lget fr.tmps t=lget fr'.tmps t):zAQ ops fr o.guard=zAQ ops fr' o.guard:=by
 unfold zLQ at h
 unfold zAQ
 cases hg:o.guard with
 | none=>rfl
 | some p=>
  obtain⟨j,wnt⟩:=p
  rw[hg] at h
  simp only at h ⊢
  unfold zKB
  cases hj:zB3 ops j with
  | none=>rfl
  | some q=>
   rw[hj] at h
   obtain⟨qd,qo,q1,q2,q3,q4⟩:=q
   cases qd with
   | none=>rfl
   | some d=>simp only[h d (.head _)]
def zUB (r:Rec):Nx→Option (CR×Sto)
 | .val v s=>some (.ret v,s)
 | .call f args s=>(match r.call f args none s with|some (cr,_,s)=>some (cr,s)|none=>none)
 | .round l args s=>zEZ r l args s
 | .panic v s=>some (.panic v,s)
 | _=>none
def plainNx:Nx→Bool
 | .defer _ _ _=>false
 | .recover _=>false
 | _=>true
section
variable {P:Program}{OK:FuncId→Code→Prop}{r:Rec}{E:Env}{fid:FuncId}{fr:Fr}{s:Sto}
 {base:Nat} {w0:World} {g:Gh} {w:World} {tm:Array Value} {df:List Deferred} {kd:CallKind} {rn:Option Nat} {cs:List Frame} {k:List Item}
theorem zTS {dst:Option Tmp}{nx:Nx}{kont:Fr→Sto→Option (Out×Fr×Sto)}(hp:plainNx nx=true){fin:Out×Fr×Sto}(h:zBK r E fid dst fr nx kont=some fin) :
  (∃v s1,zUB r nx=some (.ret v,s1)∧kont (fr.put dst v) s1=some fin)∨(∃v s1,zUB r nx=some (.panic v,s1)∧fin=(.panic v,fr,s1)):=by
 cases nx with
 | val v s1=>exact .inl ⟨v,s1,rfl,h⟩
 | call f args s1=>
  simp only[zBK] at h
  split at h
  ·rename_i v b s2 hc;exact .inl ⟨v,s2,by simp only[zUB,hc],h⟩
  ·rename_i v b s2 hc;cases h;exact .inr ⟨v,s2,by simp only[zUB,hc],rfl⟩
  ·cases h
 | round l args s1=>
  simp only[zBK] at h
  split at h
  ·rename_i v s2 hc;exact .inl ⟨v,s2,hc,h⟩
  ·rename_i v s2 hc;cases h;exact .inr ⟨v,s2,hc,rfl⟩
  ·cases h
 | panic v s1=>simp only[zBK] at h;cases h;exact .inr ⟨v,s1,rfl,rfl⟩
 | defer f a s1=>cases hp
 | recover s1=>cases hp
 | no=>simp[zBK] at h
theorem zW4 {op:Op}(h:loudOk op=true):plainNx (opA E fid fr op s)=true:=by
 have hv:∀{nx:Nx},isV nx=true→plainNx nx=true:=by intro nx h;cases nx<;>first|rfl|cases h
 cases op with
 | call c=>
  simp only[opA]
  unfold zN5
  split
  ·split
   ·split
    ·rfl
    ·split
     ·unfold zH8;split<;>rfl
     ·rfl
   ·unfold zQY;split
    ·rw[cond_eq_ite];split
     ·split<;>rfl
     ·rfl
    ·rfl
   ·rename_i b hcal
    simp only[loudOk,hcal] at h
    unfold zGF
    split
    ·refine hv ?_
     unfold zJO
     split
     ·split
      ·split
       ·dsimp only;rw[cond_eq_ite];split
        ·split
         ·rw[cond_eq_ite];split
          ·exact zJH _
          ·rfl
         ·rfl
        ·rw[cond_eq_ite];split
         ·split
          ·exact zJH _
          ·rfl
         ·rfl
       ·rfl
      ·rfl
     ·rfl
    ·unfold bLen;split
     ·split<;>rfl
     ·rfl
    ·unfold bMin;split
     ·split<;>rfl
     ·rfl
    ·unfold bMax;split
     ·split<;>rfl
     ·rfl
    ·cases h
    ·unfold zZD;split
     ·split
      ·split
       ·split
        ·rw[cond_eq_ite];split<;>rfl
        ·rfl
       ·rfl
      ·rfl
     ·rfl
    ·unfold zP5;split
     ·rfl
     ·split
      ·split
       ·rw[cond_eq_ite];split<;>rfl
       ·rfl
      ·rfl
     ·rfl
    ·unfold bCap;split
     ·split<;>rfl
     ·rfl
    ·unfold zP4;split<;>rfl
    ·unfold zI4;split
     ·split
      ·split
       ·split
        ·rw[cond_eq_ite];split
         ·dsimp only;rw[cond_eq_ite];split
          ·split<;>rfl
          ·rfl
         ·rfl
        ·rfl
       ·rfl
       ·rfl
      ·rfl
     ·rfl
    ·rfl
  ·rfl
 | defer c=>cases h
 | panic x=>simp only[opA];unfold zW8;split<;>rfl
 | move x=>exact hv (zG0 _ _)
 | assign x=>exact hv (zG0 _ _)
 | pick c a b=>exact hv (zS6 ..)
 | alloc e=>rfl
 | box e x=>exact hv (zXU ..)
 | build t ps=>exact hv (zPN ..)
 | buildSlice t n ps=>exact hv (zHT ..)
 | load t a=>exact hv (zS7 ..)
 | store t a x=>exact hv (zPH ..)
 | nilCheck x=>exact hv (zXT _)
 | binOp op t x y yt=>exact hv (zXV ..)
 | unOp op t x=>exact hv (isV_un ..)
 | convert a b x=>exact hv (zLL ..)
 | makeInterface t x=>exact hv (zPK ..)
 | makeFunc fn a b=>exact hv (zJX ..)
 | makeMap t r=>rfl
 | makeSlice t l c=>exact hv (zIV ..)
 | slice t x lo hi mx=>exact hv (zPI ..)
 | fieldAddr t x i=>exact hv (zIX ..)
 | field t x i=>exact hv (zPM ..)
 | indexAddr t x i=>exact hv (zIW ..)
 | index t x i=>exact hv (zPJ ..)
 | lookup t x i ok=>exact hv (zM4 ..)
 | mapUpdate t m k x=>exact hv (zHI ..)
 | insert t m k x=>exact hv (zHI ..)
 | typeAssert x xt t ok=>exact hv (zM5 ..)
 | extract x i=>exact hv (zLK ..)
 | _=>rfl
def StepTo (P:Program)(fid:FuncId)(kd:CallKind)(rn:Option Nat)(tm:Array Value)(df:List Deferred)(ops:Array Oper)(rest:List Nat)(k:List Item)(cs:List Frame)(m:Machine)(dst:Option Tmp)(g:Gh)(n:Nat)(w:World):CR→Prop
 | .ret v=>∃v',VR g v v'∧top v≤n∧Steps P m (lone (mk fid kd rn (putT dst v' tm) df (.inRegion ops rest :: k)) cs w)
 | .panic v=>∃v' k2,VR g v v'∧isI v=true∧top v≤n∧Steps P m (lone { mk fid kd rn tm df k2 with mode:=.panicking [{ v:=v',recovered:=false }] } cs w)
theorem zW1 (hc:CallSim P OK r)(hro:zE9 P OK r){ops:Array Oper}{i:Nat}{rest:List Nat}{o:Oper}{nx:Nx}{cr:CR}{s1:Sto}
  (h:zUB r nx=some (cr,s1)) (ho:ops[i]?=some o) (hw:Region.wanted o (yielded ops tm)=true) (hop:OpR P base w0 g s w tm o nx) (hd:isDefer o.op=false) (hok:g.ok=OK) (hrel:Rel base w0 g s w) :
  ∃g1 w1,Grows s.n g g1∧Rel base w0 g1 s1 w1∧s.n≤s1.n∧
   StepTo P fid kd rn tm df ops rest k cs (lone (mk fid kd rn tm df (.inRegion ops (i :: rest) :: k)) cs w) o.dst g1 s1.n w1 cr:=by
 have hd:rn=none∨isDefer o.op=false:=.inr hd
 have hfin:∀v,(mk fid kd rn tm df (.inRegion ops (i :: rest) :: k)).finish v=mk fid kd rn (putT o.dst v tm) df (.inRegion ops rest :: k):=by
  intro v;rw[zEU,ho];rfl
 cases nx with
 | val v s2=>
  cases h
  obtain⟨v',w1,g1,hrun,hrel1,hg,hv,ht,hn⟩:=hop
  refine⟨g1,w1,hg,hrel1,hn,v',hv,ht,.one ?_⟩
  rcases hrun with hrun|⟨hrun,rfl⟩
  ·exact zE3 ho hw hd hrun
  ·exact zHE ho hw hd hrun
 | call f args s2=>
  obtain⟨rfl,args',hrun,ha,hta⟩:=hop
  simp only[zUB] at h
  split at h
  ·rename_i cr' b s3 hcall
   cases h
   obtain⟨g1,w1,hg,hrel1,hn,hm⟩:=hc.norm hcall hok hrel ha hta (mk fid kd rn tm df (.inRegion ops (i :: rest) :: k)) cs
   refine⟨g1,w1,hg,hrel1,hn,?_⟩
   cases cr with
   | ret v=>
    obtain⟨v',hv,ht,hm⟩:=hm
    refine⟨v',hv,ht,?_⟩
    rcases hm with hm|⟨hm,hst⟩
    ·exact .one (zE3 ho hw hd (hrun.trans hm))
    ·rw[hfin] at hst
     exact .head (zKE ho hw hd (hrun.trans hm)) hst
   | panic v=>
    obtain⟨v',hv,hi,ht,hm,hst⟩:=hm
    exact⟨v',_,hv,hi,ht,.head (zKE ho hw hd (hrun.trans hm)) hst⟩
  ·cases h
 | round l args s2=>
  obtain⟨rfl,hl',args',hrun,ha,hta⟩:=hop
  obtain⟨g1,w1,f1,ts,as,body,hg,hrel1,hn,hy,hm⟩:=hro h hok hrel hl' ha hta (mk fid kd rn tm df (.inRegion ops (i :: rest) :: k)) cs
  refine⟨g1,w1,hg,hrel1,hn,?_⟩
  cases cr with
  | ret v=>
   obtain⟨v',hv,ht,hst⟩:=hm
   rw[hfin] at hst
   exact⟨v',hv,ht,.head (zKD ho hw hd (hrun.trans hy)) hst⟩
  | panic v=>
   obtain⟨v',hv,hi,ht,hst⟩:=hm
   exact⟨v',_,hv,hi,ht,.head (zKD ho hw hd (hrun.trans hy)) hst⟩
 | panic v s2=>
  obtain⟨rfl,hi,ht,v',hrun,hv⟩:=hop
  cases h
  exact⟨g,w,.refl _ _,hrel,Nat.le_refl _,v',_,hv,hi,ht,.one (zSM ho hw hd hrun)⟩
 | defer f a s2=>cases h
 | recover s2=>cases h
 | no=>cases h
end
theorem zXS {a b:IntKind}(h:keq a b=true):a=b:=by rw[zPG] at h;exact of_decide_eq_true h
theorem zWO {f:AV→Bool}{l:List AV→Bool}{m:List AV}(h:qCons f l m=true):∃b r,m=b :: r∧f b=true∧l r=true:=by
 cases m with
 | nil=>cases h
 | cons b r=>
  simp only[qCons,cond_eq_ite] at h
  split at h
  ·rename_i hf;exact⟨b,r,rfl,hf,h⟩
  ·cases h
def beqL (l:List AV):List AV→Bool:=
 AV.rec_1 (motive_1:=fun _=>AV→Bool) (motive_2:=fun _=>List AV→Bool)
  qBool qInt qStr qNilptr qPtr qEptr (fun t _ ih=>qRptr t ih) (fun t _ o ih=>qSl t o ih) qOsl qNilmap qMap
  (fun t f _ _ iha ihb=>qFunc t f iha ihb) qNilfunc (fun t _ ih=>qIface t ih) qNiliface (fun _ ih=>qAgg ih) (fun _ ih=>qTuple ih)
  qNil (fun _ _ a l=>qCons a l) l
theorem ownB_inv {a b:Own}(h:ownB a b=true):a=b:=by cases a<;>cases b<;>first|rfl|cases h
theorem zI3 {a b:AV}(h:beqV a b=true):a=b:=by
 have key:∀a:AV,∀b:AV,beqV a b=true→a=b:=by
  intro a
  refine AV.rec (motive_1:=fun a=>∀b:AV,beqV a b=true→a=b) (motive_2:=fun l=>∀m:List AV,beqL l m=true→l=m)
   ?_ ?_ ?_ ?_ ?_ ?_ ?_ ?_ ?_ ?_ ?_ ?_ ?_ ?_ ?_ ?_ ?_ ?_ ?_ a
  ·intro x b h
   cases b with
   | bool c=>cases x<;>cases c<;>first|rfl|cases h
   | _=>cases h
  ·intro k n b h
   cases b with
   | int j m=>
    have h:(keq k j&&ieq n m)=true:=h
    rw[Bool.and_eq_true,zHU] at h
    rw[zXS h.1,of_decide_eq_true h.2]
   | _=>cases h
  ·intro l b h
   cases b with
   | str m=>
    have h:bytesEq l m=true:=h
    rw[zDV] at h
    rw[of_decide_eq_true h]
   | _=>cases h
  ·intro b h;cases b<;>first|rfl|cases h
  ·intro k o b h
   cases b with
   | ptr j p=>
    have h:(Nat.beq k j&&Nat.beq o p)=true:=h
    rw[Bool.and_eq_true] at h
    rw[Nat.eq_of_beq_eq_true h.1,Nat.eq_of_beq_eq_true h.2]
   | _=>cases h
  ·intro k i o b h
   cases b with
   | eptr j q p=>
    have h:(Nat.beq k j&&(Nat.beq i q&&Nat.beq o p))=true:=h
    rw[Bool.and_eq_true,Bool.and_eq_true] at h
    rw[Nat.eq_of_beq_eq_true h.1,Nat.eq_of_beq_eq_true h.2.1,Nat.eq_of_beq_eq_true h.2.2]
   | _=>cases h
  ·intro t cs ih b h
   cases b with
   | rptr u ds=>
    have h:(Nat.beq t u&&beqL cs ds)=true:=h
    rw[Bool.and_eq_true] at h
    rw[Nat.eq_of_beq_eq_true h.1,ih ds h.2]
   | _=>cases h
  ·intro t xs o ih b h
   cases b with
   | sl u ys p=>
    have h:(Nat.beq t u&&(ownB o p&&beqL xs ys))=true:=h
    rw[Bool.and_eq_true,Bool.and_eq_true] at h
    rw[Nat.eq_of_beq_eq_true h.1,ownB_inv h.2.1,ih ys h.2.2]
   | _=>cases h
  ·intro k o n b h
   cases b with
   | osl j p m=>
    have h:(Nat.beq k j&&(Nat.beq o p&&Nat.beq n m))=true:=h
    rw[Bool.and_eq_true,Bool.and_eq_true] at h
    rw[Nat.eq_of_beq_eq_true h.1,Nat.eq_of_beq_eq_true h.2.1,Nat.eq_of_beq_eq_true h.2.2]
   | _=>cases h
  ·intro b h;cases b<;>first|rfl|cases h
  ·intro k b h
   cases b with
   | map j=>have h:Nat.beq k j=true:=h;rw[Nat.eq_of_beq_eq_true h]
   | _=>cases h
  ·intro t f xs ys ihx ihy b h
   cases b with
   | func u f2 xs2 ys2=>
    have h:(Nat.beq t u&&(decide (f=f2)&&(beqL xs xs2&&beqL ys ys2)))=true:=h
    rw[Bool.and_eq_true,Bool.and_eq_true,Bool.and_eq_true] at h
    rw[Nat.eq_of_beq_eq_true h.1,of_decide_eq_true h.2.1,ihx xs2 h.2.2.1,ihy ys2 h.2.2.2]
   | _=>cases h
  ·intro b h;cases b<;>first|rfl|cases h
  ·intro t v ih b h
   cases b with
   | iface u v2=>
    have h:(Nat.beq t u&&beqV v v2)=true:=h
    rw[Bool.and_eq_true] at h
    rw[Nat.eq_of_beq_eq_true h.1,ih v2 h.2]
   | _=>cases h
  ·intro b h;cases b<;>first|rfl|cases h
  ·intro cs ih b h
   cases b with
   | agg ds=>have h:beqL cs ds=true:=h;rw[ih ds h]
   | _=>cases h
  ·intro cs ih b h
   cases b with
   | tuple ds=>have h:beqL cs ds=true:=h;rw[ih ds h]
   | _=>cases h
  ·intro m h;cases m<;>first|rfl|cases h
  ·intro v l ihv ihl m h
   obtain⟨b,r,rfl,h1,h2⟩:=zWO (f:=beqV v) (l:=beqL l) h
   rw[ihv b h1,ihl r h2]
 exact key a b h
section
variable {base:Nat}{w0:World}{g g':Gh}{s:Sto}{w w':World}
theorem BoxR.grw {k n:Nat}{b:Box}(hb:BoxR g w k b)(hg:Grw n g g')(hok:g'.ok=g.ok)(hk:k<n)(ht:boxTop b≤n)
  (hh:w'.heap[g.mu k]?=w.heap[g.mu k]?) (hC:∀o,g'.C (g.mu k) o=g.C (g.mu k) o):BoxR g' w' k b:=by
 have emu:=hg.mu k hk
 cases b with
 | cells cs=>
  obtain⟨arr,h1,h2,h3⟩:=hb
  exact⟨arr,by rw[emu,hh];exact h1,h2.grw hg ht,fun o=>by rw[emu,hC];exact h3 o⟩
 | row es xs sl=>
  obtain⟨arr,h1,h2,h3,h4,h5,h6,h7,h8,h9⟩:=hb
  refine⟨arr,by rw[emu,hh];exact h1,h2,by rw[hg.es k hk];exact h3,by rw[hg.rl k hk];exact h4,by rw[hg.bs k hk];exact h5,h6,h7,fun i x j c hi hj=>?_,fun o v hv=>?_⟩
  ·obtain⟨v,hv,hr⟩:=h8 i x j c hi hj
   exact⟨v,hv,hr.grw hg (zF6 ht hi hj)⟩
  ·rw[emu,hC] at hv;exact h9 o v hv
 | mapb es=>
  obtain⟨ents,clock,h1,h2,h3,h4⟩:=hb
  refine⟨ents,clock,by rw[emu,hh];exact h1,h2,fun i x e hi he=>?_,fun o=>by rw[emu,hC];exact h4 o⟩
  have:=zIB ht x (List.mem_of_getElem? hi)
  exact⟨(h3 i x e hi he).1.grw hg this.1,(h3 i x e hi he).2.grw hg this.2⟩
 | loop lb=>
  obtain⟨lp,d,h1,h2,h3,h4,h5,h6,h7,h8,h9,h11,h10⟩:=hb
  exact⟨lp,d,by rw[emu,hh];exact h1,h2,h3,h4,h5.grw hg ht,h6,h7,h8,h9,by rw[hok];exact h11,fun o=>by rw[emu,hC];exact h10 o⟩
 | mark=>exact⟨by rw[emu,hh];exact hb.1,fun o=>by rw[emu,hC];exact hb.2 o⟩
 | dead=>trivial
theorem Grw.reZ (g:Gh)(n:Nat)(Z':Nat→Option Obj):Grw n g { g with Z:=Z' }:=⟨fun _ _=>rfl,fun _ _=>rfl,fun _ _=>rfl,fun _ _=>rfl,fun _ _ _ h=>h⟩
theorem Grw.refl (n:Nat)(g:Gh):Grw n g g:=⟨fun _ _=>rfl,fun _ _=>rfl,fun _ _=>rfl,fun _ _=>rfl,fun _ _ _ h=>h⟩
theorem Grw.trans {n:Nat}{g g' g'':Gh}(h:Grw n g g')(h':Grw n g' g''):Grw n g g'':=
 ⟨fun k hk=>(h'.mu k hk).trans (h.mu k hk),fun k hk=>(h'.es k hk).trans (h.es k hk),fun k hk=>(h'.rl k hk).trans (h.rl k hk),
  fun k hk=>(h'.bs k hk).trans (h.bs k hk),fun b o v hv=>h'.C b o v (h.C b o v hv)⟩
theorem Grw.less {n m:Nat}{g g':Gh}(h:Grw n g g')(hm:m≤n):Grw m g g':=
 ⟨fun k hk=>h.mu k (by omega),fun k hk=>h.es k (by omega),fun k hk=>h.rl k (by omega),fun k hk=>h.bs k (by omega),h.C⟩
theorem Rel.reZ (h:Rel base w0 g s w){Z':Nat→Option Obj}(hs:∀b o,Z' b=some o→g.Z b=some o):Rel base w0 { g with Z:=Z' } s w:=
 ⟨h.len,fun k hk=>(h.box k hk).grw (Grw.reZ g s.n Z') rfl hk (h.top k hk) rfl (fun _=>rfl),h.at_,h.inj,h.top,h.ups,h.C,h.size,h.old,h.oldC,fun b o hz=>h.Z b o (hs b o hz),h.os⟩
theorem Rel.hold (h:Rel base w0 g s w)(o:Obj):Rel base w0 { g with Z:=fun b=>if b=w.heap.size then some o else g.Z b } s (Ab.push w o):=by
 have hlt:∀k,k<s.n→liveBox (s.get k)=true→g.mu k<w.heap.size:=fun k hk hl=>(h.at_ k hk hl).2
 refine⟨h.len,?_,?_,h.inj,h.top,h.ups,fun b i v hv=>zIN (h.C b i v hv),⟨h.size.1,by rw[zD7];have:=h.size.2;omega⟩,?_,h.oldC,?_,h.os⟩
 ·intro k hk
  by_cases hl:liveBox (s.get k)=true
  ·exact(h.box k hk).grw (Grw.reZ g s.n _) rfl hk (h.top k hk) (zDH (hlt k hk hl)) (fun _=>rfl)
  ·cases hb:s.get k<;>rw[hb] at hl<;>simp[liveBox] at hl
   trivial
 ·intro k hk hl
  have:=h.at_ k hk hl
  exact⟨this.1,by rw[zD7];exact Nat.lt_succ_of_lt this.2⟩
 ·intro b hb
  have hlt2:b<w.heap.size:=by have:=h.size.2;omega
  rw[zDH hlt2]
  exact h.old b hb
 ·intro b o' hz
  have hz:(if b=w.heap.size then some o else g.Z b)=some o':=hz
  by_cases e:b=w.heap.size
  ·rw[if_pos e] at hz
   cases hz
   subst e
   exact⟨zE6 w _,fun k hk hl=>Nat.ne_of_lt (hlt k hk hl),fun i=>zQC h i⟩
  ·rw[if_neg e] at hz
   obtain⟨z1,z2,z3⟩:=h.Z b o' hz
   exact⟨by rw[zDH (Array.getElem?_eq_some_iff.1 z1).1];exact z1,z2,z3⟩
theorem Rel.attach (h:Rel base w0 g s w){b0:Nat}{arr:Array Value}{ty:TypeId}{cs:List AV}(hz:g.Z b0=some (.cells arr ty))(hb:base≤b0)(hv:VRs g cs arr)(ht:tops cs≤s.n) :
  Rel base w0 { g.with s.n b0 0 0 0 with Z:=fun b=>if b=b0 then none else g.Z b } (s.alloc (.cells ty cs)) w:=by
 obtain⟨z1,z2,z3⟩:=h.Z b0 _ hz
 have h1:=h.reZ (Z':=fun b=>if b=b0 then none else g.Z b) (fun b o hz=>by
  split at hz
  ·cases hz
  ·exact hz)
 have hgr:=Gh.with_grows { g with Z:=fun b=>if b=b0 then none else g.Z b } s.n b0 0 0 0
 refine h1.alloc b0 0 0 0 (.cells ty cs) (fun _ _ _=>rfl) (Nat.le_refl _) z2 (by simp) ⟨hb,(Array.getElem?_eq_some_iff.1 z1).1⟩ h.C ?_ (by show tops cs≤s.n+1;omega)
 exact⟨arr,by rw[zBP];exact z1,(hv.grw (Grw.reZ g s.n _) ht).grows hgr ht,fun o=>by rw[zBP];exact z3 o⟩
theorem DfR.grw {n m:Nat}{x:AV×List AV}{d:Deferred}(h:DfR g n x d)(hg:Grw n g g')(hm:n≤m):DfR g' m x d:=by
 cases h with
 | mark k l hk=>rw[← hg.mu k hk];exact .mark k l (by omega)
 | call t h a b args a' b' args' ha hb hs ta tb ts=>
  exact .call t h a b args a' b' args' (ha.grw hg ta) (hb.grw hg tb) (hs.grw hg ts) (by omega) (by omega) (by omega)
theorem DfsR.grw {n m:Nat}(hg:Grw n g g')(hm:n≤m):∀{xs:List (AV×List AV)} {ds:List Deferred},DfsR g n xs ds→DfsR g' m xs ds:=by
 intro xs
 induction xs with
 | nil=>intro ds h;cases ds<;>exact h
 | cons x xs ih=>
  intro ds h
  cases ds with
  | nil=>exact h
  | cons d ds=>exact⟨h.1.grw hg hm,ih h.2⟩
theorem RecR.grw {n m:Nat}{kd:CallKind}{r:Option AV}{cs:List Frame}(h:RecR g n kd r cs)(hg:Grw n g g')(hm:n≤m):RecR g' m kd r cs:=by
 cases r with
 | none=>exact h
 | some v=>
  cases v with
  | iface t v=>
   obtain⟨h1,c,rest,v',h2,h3,h4,h5⟩:=h
   exact⟨h1,c,rest,v',h2,h3,h4.grw hg h5,by omega⟩
  | _=>trivial
end
def zc (P:Program)(e:TypeId):Array Value:=match(P.info? e).bind (·.zero) with|some z=>z.cells|none=>#[]
theorem zZJ {E:Env}{P:Program}{e:TypeId}(hE:TIR E P e (E.types e))(w:World):(Instr.alloc e true (.tuple #[])).run P w=.ok (.pointer (some ⟨w.heap.size,0,none⟩)) (push w (.cells (zc P e) e)):=by
 obtain⟨i,z,h1,h2,h3,h4,h5,h6,h7,h8⟩:=hE.info
 have hz:(zeroValue e).run P w=.ok z w:=by simp[zeroValue,typeInfo,h1,h4]
 have hzc:zc P e=z.cells:=by unfold zc;rw[h1];simp[h4]
 rw[hzc]
 simp[Instr.alloc,hz,newVar,newRow,zDQ]
 try rfl
theorem zR5 {E:Env}{P:Program}{e:TypeId}(hE:TIR E P e (E.types e))(g:Gh):VRs g (cellsOf (zAP (E.types e))) (zc P e)∧tops (cellsOf (zAP (E.types e)))=0:=by
 obtain⟨i,z,h1,h2,h3,h4,h5,h6,h7,h8⟩:=hE.info
 obtain⟨z',k1,k2,k3,k4,k5,k6⟩:=hE.zero g default
 have hz:(zeroValue e).run P default=.ok z default:=by simp[zeroValue,typeInfo,h1,h4]
 rw[hz] at k1;cases k1
 have hzc:zc P e=z.cells:=by unfold zc;rw[h1];simp[h4]
 rw[hzc,zB7]
 exact⟨k2.cells,k3⟩
theorem zEW {l:List AV}{t u:Nat}{v:AV}:lget (lset v l t) u=if t=u∧t<l.length then v else lget l u:=by
 rw[zCC,zCC,List.getD_eq_getElem?_getD,List.getD_eq_getElem?_getD,zF9]
 split<;>rfl
theorem zDX {fr:Fr}{d:Option Tmp}{v:AV}{u:Nat}(h:d≠some u):lget (fr.put d v).tmps u=lget fr.tmps u:=by
 cases d with
 | none=>rfl
 | some t=>
  show lget (lset v fr.tmps t) u=_
  rw[zEW,if_neg (by intro e;exact h (by rw[e.1]))]
theorem zDG (fr:Fr)(d:Option Tmp)(v:AV):(fr.put d v).tmps.length=fr.tmps.length:=by
 cases d with
 | none=>rfl
 | some t=>show(lset v fr.tmps t).length=_;rw[zFG];simp
theorem zCY {p i:Nat}:∀{l:List Nat},i∈zFJ p l↔i∈l∧hasM p i=false:=by
 intro l
 induction l with
 | nil=>simp[zFJ]
 | cons a r ih=>
  simp only[zFJ,cond_eq_ite]
  split
  ·rename_i h
   rw[ih]
   constructor
   ·rintro⟨h1,h2⟩;exact⟨.tail _ h1,h2⟩
   ·rintro⟨h1,h2⟩
    cases h1 with
    | head=>rw[h] at h2;cases h2
    | tail _ h1=>exact⟨h1,h2⟩
  ·rename_i h
   rw[List.mem_cons,ih,List.mem_cons]
   constructor
   ·rintro(rfl|⟨h1,h2⟩)
    ·exact⟨.inl rfl,by simpa using h⟩
    ·exact⟨.inr h1,h2⟩
   ·rintro⟨rfl|h1,h2⟩
    ·exact .inl rfl
    ·exact .inr ⟨h1,h2⟩
theorem keepU_zero:∀{l:List Nat},zFJ 0 l=l:=by
 intro l
 induction l with
 | nil=>rfl
 | cons a r ih=>simp only[zFJ,zEX,cond_false,ih]
theorem not_dueU {ops:List Oper}{i:Nat}{o:Oper}(ho:ops[i]?=some o):∀{l:List Nat},i∈l→i ∉ dueU ops l→indep o.op=true:=by
 intro l
 induction l with
 | nil=>intro h;cases h
 | cons a r ih=>
  intro h hn
  simp only[dueU] at hn
  cases h with
  | head=>
   rw[zCZ,ho] at hn
   simp only[cond_eq_ite] at hn
   split at hn
   ·rename_i hi;exact hi
   ·exact absurd (.head _) hn
  | tail _ h=>
   split at hn
   ·rw[cond_eq_ite] at hn
    split at hn
    ·exact ih h hn
    ·exact ih h fun hm=>hn (.tail _ hm)
   ·exact ih h fun hm=>hn (.tail _ hm)
theorem zM2 {t i:Nat}(h:i≠t):∀{l:List Nat},i∈zJZ t l↔i∈l:=by
 intro l
 induction l with
 | nil=>simp[zJZ]
 | cons a r ih=>
  simp only[zJZ,cond_eq_ite]
  split
  ·rename_i e
   have:=Nat.eq_of_beq_eq_true e
   subst this
   simp[h]
  ·rw[List.mem_cons,ih,List.mem_cons]
theorem zH2 {ops:List Oper}{t:Tmp}:∀{l:List Nat},zK9 ops t l=true→∀i∈l,∀o,ops[i]?=some o→t ∉ zBH ops o:=by
 intro l
 induction l with
 | nil=>intro _ i hi;cases hi
 | cons a r ih=>
  intro h i hi o ho
  simp only[zK9] at h
  cases hi with
  | head=>
   rw[zCZ,ho] at h
   simp only[cond_eq_ite] at h
   split at h
   ·cases h
   ·rename_i hm;exact fun e=>hm (zS0.2 e)
  | tail _ hi=>
   split at h
   ·rw[cond_eq_ite] at h
    split at h
    ·cases h
    ·exact ih h i hi o ho
   ·cases h
theorem zPA {ops:List Oper}{d:Option Tmp}{l:List Nat}(h:zK8 ops d l=true):∀i∈l,∀o,ops[i]?=some o→∀t,d=some t→t ∉ zBH ops o:=by
 intro i hi o ho t ht
 subst ht
 exact zH2 h i hi o ho
theorem zIY {l:List Nat}(h:isNilT l=true):l=[]:=by cases l<;>first|rfl|cases h
structure OpsOk (ops:Array Oper):Prop where
 nodup:nodupT (dsts ops.toList)=true
 uses:∀(j:Nat) (o:Oper),ops[j]?=some o→∀t∈zBH ops.toList o,∀(i:Nat) (q:Oper),ops[i]?=some q→q.dst=some t→
  hasM (nthN (closes ops.toList []) j) i=true∨hasM (nthN (closes ops.toList []) i) j=true
 edges:∀(j:Nat) (o:Oper),ops[j]?=some o→∀e∈o.after.toList,zB9 e=true→e.on<j
theorem zON {ops:List Oper}{pre:List Nat}{j:Nat}:∀{l:List Tmp},zNP ops pre j l=true→∀t∈l,useOk ops pre j t=true:=by
 intro l
 induction l with
 | nil=>intro _ t h;cases h
 | cons a r ih=>
  intro h t ht
  simp only[zNP,cond_eq_ite] at h
  split at h
  ·rename_i ha
   cases ht with
   | head=>exact ha
   | tail _ ht=>exact ih h t ht
  ·cases h
theorem zQE {ops:List Oper}{pre:List Nat}:∀{l:List Oper} {k:Nat},zSC ops pre l k=true→∀(j:Nat) (o:Oper),l[j]?=some o→∀t∈zBH ops o,useOk ops pre (k+j) t=true:=by
 intro l
 induction l with
 | nil=>intro k _ j o h;simp at h
 | cons a r ih=>
  intro k h j o ho t ht
  simp only[zSC,cond_eq_ite] at h
  split at h
  ·rename_i ha
   cases j with
   | zero=>simp at ho;subst ho;exact zON ha t ht
   | succ j=>
    have:=ih h j o (by simpa using ho) t ht
    rwa [show k+(j+1)=k+1+j by omega]
  ·cases h
theorem edgesOk_spec:∀{l:List Oper} {k:Nat},edgesOk l k=true→∀(j:Nat) (o:Oper),l[j]?=some o→∀e∈o.after.toList,zB9 e=true→e.on<k+j:=by
 have one:∀{l:List Edge} {i:Nat},zLZ i l=true→∀e∈l,zB9 e=true→e.on<i:=by
  intro l i
  induction l with
  | nil=>intro _ e he;cases he
  | cons a r ih=>
   intro h e he hb
   simp only[zLZ,cond_eq_ite] at h
   cases he with
   | head=>
    rw[if_pos hb] at h
    split at h
    ·rename_i hlt;exact Nat.le_of_ble_eq_true hlt
    ·cases h
   | tail _ he=>
    split at h
    ·split at h
     ·exact ih h e he hb
     ·cases h
    ·exact ih h e he hb
 intro l
 induction l with
 | nil=>intro k _ j o h;simp at h
 | cons a r ih=>
  intro k h j o ho e he hb
  simp only[edgesOk,cond_eq_ite] at h
  split at h
  ·rename_i ha
   cases j with
   | zero=>simp at ho;subst ho;exact one ha e he hb
   | succ j=>
    have:=ih h j o (by simpa using ho) e he hb
    omega
  ·cases h
theorem zQT {ops:Array Oper}{plan:List PStep}(h:zSU ops.toList plan=true):OpsOk ops∧zBY ops.toList (closes ops.toList []) plan 0 0 [] []=true:=by
 unfold zSU at h
 simp only[cond_eq_ite] at h
 split at h
 ·rename_i h1
  split at h
  ·rename_i h2
   split at h
   ·rename_i h3
    refine⟨⟨h1,fun j o ho t ht i q hq hd=>?_,fun j o ho e he hb=>?_⟩,h⟩
    ·have:=zQE h2 j o (by rw[Array.getElem?_toList];exact ho) t ht
     rw[Nat.zero_add] at this
     unfold useOk at this
     rw[zN7 (k:=0) h1 (by rw[Array.getElem?_toList];exact hq) hd] at this
     simp only[Nat.zero_add,cond_eq_ite] at this
     split at this
     ·rename_i hh;exact .inl hh
     ·exact .inr this
    ·have:=edgesOk_spec h3 j o (by rw[Array.getElem?_toList];exact ho) e he hb
     omega
   ·cases h
  ·cases h
 ·cases h
end Go.Ab
end
