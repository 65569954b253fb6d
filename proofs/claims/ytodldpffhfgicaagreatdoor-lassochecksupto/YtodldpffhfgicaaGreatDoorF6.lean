/- A part. -/
import Derived.Test.YtodldpffhfgicaaGreatDoorF5
set_option linter.all false
noncomputable section
namespace Go.Ab
open Go
theorem zP9 (x:Value)(as:Array Value):(#[x]++as).extract 1 (#[x]++as).size=as:=by
 apply Array.ext'
 simp[Array.toList_extract,List.extract]
theorem zZA (x:Value)(as:Array Value):(#[x]++as)[0]?=some x:=by
 rw[← Array.getElem?_toList];simp
theorem zUM {P:Program}{w:World}{t:TypeId}{v:Value}{name:String}{f:FuncId}(hm:(method (P.types.size+Made.depth) t v name).run P w=.ok (f,v) w)(as:Array Value) :
  (invoke (.fn (.method name) #[]) (#[.iface t v]++as)).run P w=(callFunc f (#[v]++as)).run P w:=by
 unfold invoke
 dsimp only
 rw[zZA]
 dsimp only
 rw[zP9]
 unfold callMethod
 dsimp only
 rw[Sem.run_bind]
 have:(program:Sem Program).run P w=.ok P w:=rfl
 rw[this]
 simp only[Result.andThen_ok]
 rw[Sem.run_bind,hm]
 rfl
section
variable {E:Env}{P:Program}{OK:FuncId→Code→Prop}{g:Gh}{base:Nat}{w0:World}{s:Sto}{w:World}{fr:Fr}{tm:Array Value}{o:Oper}
theorem TysOk.sub1 (hE:TysOk E P){t:TypeId}(ht:(E.types t).ok=true){fs:List (Nat×TypeId)}(h:(E.types t).d=.struct fs):∀f∈fs,TIR E P f.2 (E.types f.2)∧0<(E.types f.2).size:=by
 have:=(hE.ti t ht).sub
 rw[h] at this
 exact fun f hf=>⟨hE.ti _ (this f hf).1,(this f hf).2⟩
theorem TysOk.sub2 (hE:TysOk E P){t:TypeId}(ht:(E.types t).ok=true)(e:TypeId)(h:(E.types t).d=.slice e∨∃n,(E.types t).d=.array n e):TIR E P e (E.types e):=by
 have:=(hE.ti t ht).sub
 rcases h with h|⟨n,h⟩
 ·rw[h] at this;exact hE.ti _ this.1
 ·rw[h] at this;exact hE.ti _ this.1
theorem zLZ {d:TD}(h:zOL E d=true):∃e,d=.slice e∧(E.types e).d=.int .u8:=by
 cases d with
 | slice e=>
  refine⟨e,rfl,?_⟩
  unfold zOL at h
  dsimp only at h
  cases hd:(E.types e).d with
  | int k=>rw[hd] at h;cases k<;>first|rfl|cases h
  | _=>rw[hd] at h;cases h
 | _=>cases h
theorem zLO {α β:Type}(f:α→β)(l:Array α):(l.toList.map f).toArray=l.map f:=by
 rw[← Array.toList_map,Array.toArray_toList]
theorem zR1 (hE:TysOk E P)(hr:Rel base w0 g s w){src dst:TypeId}(hs:(E.types src).ok=true)(hd:(E.types dst).ok=true){x v:AV}{x':Value}{s':Sto}
  (h:zHY E src dst (some x) s=.val v s') (hx:VR g x x') (hn:top x≤s.n):StR P base w0 g s w (convert src dst x') v s':=by
 obtain⟨ds,hus,hsr,_⟩:=(hE.ti src hs).und
 obtain⟨dd,hud,hdr,_⟩:=(hE.ti dst hd).und
 unfold zHY zOT at h
 dsimp only at h
 split at h
 ·split at h
  ·rename_i hdd
   cases h
   cases hx
   exact(zR2 hE hs hd hdd).st hr
  ·cases h
 ·rename_i k o
  cases hx
  obtain⟨rfl,hp⟩:=zR3 (w:=w) hE hr hs hd h hn
  exact hp.st hr
 ·rename_i b
  split at h
  ·rename_i hdd
   cases h
   cases hx with
   | str b'=>
   rw[hdd] at hdr
   have:=hdr.str_inv;subst this
   refine zBM.st hr ⟨.string b',?_,.str b',Nat.zero_le _⟩
   cases ds<;>simp[convert,run_underlying hus,run_underlying hud]
  ·rename_i e hdd
   rw[cond_eq_ite] at h
   split at h
   ·rename_i hb
    cases h
    cases hx with
    | str b'=>
    refine zOS hE hr hs hd hdd ?_
    obtain⟨e',he,hu⟩:=zLZ hb
    injection he with he
    subst he
    exact hu
   ·cases h
  ·cases h
 ·rename_i hne1 hne2 hne3
  split at h
  ·rename_i hdd
   rw[cond_eq_ite] at h
   split at h
   ·rename_i hb
    split at h
    ·rename_i xs s1 hel
     split at h
     ·rename_i bs hbs
      cases h
      obtain⟨e,hsd,hee⟩:=zLZ hb
      exact zP8 hE hr hs hd hsd hee hdd hx hn (fun b e=>hne3 b e) hel hbs
     ·cases h
    ·cases h
   ·cases h
  ·cases h
theorem zSB (hE:TysOk E P)(hr:Rel base w0 g s w){b:Builtin}{tys:Array TypeId}{ty:TypeId}{cs:Array Bool}{args:List AV}{us:List Value}(hok:zF2 E b tys.toList=true)
  (ha:VRs g args us.toArray) (hta:tops args≤s.n) (hex:execOp (zAE tm) o=builtin b tys ty cs us.toArray):OpR P base w0 g s w tm o (zGS E b tys.toList args s):=by
 have htl:tys.toList.toArray=tys:=by simp
 have one:∀{a:AV},args=[a]→∃x,us=[x]∧VR g a x:=by
  intro a e
  subst e
  match us,ha with
  | [x],ha=>exact⟨x,rfl,ha.2 0 _ x rfl rfl⟩
  | [],ha=>have:=ha.1;simp at this
  | _ :: _ :: _,ha=>have:=ha.1;simp at this
 unfold zGS
 split
 ·
  refine OpR.ofVal ?_ (hex.trans rfl) fun h=>?_
  ·unfold zJ5
   split
   ·split
    ·split
     ·dsimp only;rw[cond_eq_ite];split
      ·split
       ·rw[cond_eq_ite];split
        ·exact zJX _
        ·rfl
       ·rfl
      ·rw[cond_eq_ite];split
       ·split
        ·exact zJX _
        ·rfl
       ·rfl
     ·rfl
    ·rfl
   ·rfl
  ·have:=zSE (ty:=ty) hE (zM9 hok) hr h ha hta
   rwa [htl] at this
 ·
  refine OpR.ofVal (by
             unfold bLen;split;· split<;>rfl
             ·rfl) (hex.trans rfl) fun h=>?_
  simp only[zF2] at hok
  split at hok
  ·rename_i t htys
   have hty:tys=#[t]:=by rw[← htl,htys]
   subst hty
   unfold bLen at h
   split at h
   ·rename_i x
    split at h
    ·rename_i n hn
     cases h
     obtain⟨x',rfl,hx⟩:=one rfl
     exact zBM.st hr ⟨_,lenA_sim (ty:=ty) hE hr hok hn hx,.int .i64 _,Nat.zero_le _⟩
    ·cases h
   ·cases h
  ·cases hok
 ·refine OpR.ofVal (by
             unfold bMin;split;· split<;>rfl
             ·rfl) (hex.trans rfl) fun h=>?_
  obtain⟨rfl,hp⟩:=bMin_sim (ats:=tys) (ty:=ty) (w:=w) (P:=P) h ha
  exact hp.st hr
 ·refine OpR.ofVal (by
             unfold bMax;split;· split<;>rfl
             ·rfl) (hex.trans rfl) fun h=>?_
  obtain⟨rfl,hp⟩:=bMax_sim (ats:=tys) (ty:=ty) (w:=w) (P:=P) h ha
  exact hp.st hr
 ·exact⟨rfl,by rw[hex];rfl⟩
 ·
  refine OpR.ofVal ?_ (hex.trans rfl) fun h=>?_
  ·unfold zZ0
   split
   ·split
    ·split
     ·split
      ·rw[cond_eq_ite];split<;>rfl
      ·rfl
     ·rfl
    ·rfl
   ·rfl
  ·simp only[zF2] at hok
   split at hok
   ·rename_i t r htys
    have hty:tys=(t :: r).toArray:=by rw[← htl,htys]
    rw[htys] at h
    have:=zZZ (ty:=ty) (r:=r) hE hok hr h ha hta
    rwa [← hty] at this
   ·cases hok
 ·
  refine OpR.ofVal ?_ (hex.trans rfl) fun h=>?_
  ·unfold zQH
   split
   ·rfl
   ·split
    ·split
     ·rw[cond_eq_ite];split<;>rfl
     ·rfl
    ·rfl
   ·rfl
  ·simp only[zF2] at hok
   split at hok
   ·rename_i t htys
    have hty:tys=#[t]:=by rw[← htl,htys]
    subst hty
    simp only[Bool.and_eq_true] at hok
    refine zVV (ty:=ty) hE hok.1 ?_ hr h ha hta
    have h2:=hok.2
    unfold isSl at h2
    split at h2
    ·rename_i e he;exact⟨e,he⟩
    ·cases h2
   ·cases hok
 ·
  refine OpR.ofVal (by
             unfold bCap;split;· split<;>rfl
             ·rfl) (hex.trans rfl) fun h=>?_
  simp only[zF2] at hok
  split at hok
  ·rename_i t htys
   have hty:tys=#[t]:=by rw[← htl,htys]
   subst hty
   have:∃x,args=[x]:=by
    simp only[hd0] at h
    unfold bCap at h
    split at h
    ·split at h
     ·exact⟨_,rfl⟩
     ·exact⟨_,rfl⟩
     ·cases h
    ·cases h
   obtain⟨x,rfl⟩:=this
   obtain⟨x',rfl,hx⟩:=one rfl
   obtain⟨rfl,hp⟩:=bCap_sim (ty:=ty) (w:=w) hE hok h hx
   exact hp.st hr
  ·cases hok
 ·refine OpR.ofVal (by unfold zQG;split<;>rfl) (hex.trans rfl) fun h=>?_
  obtain⟨rfl,hp⟩:=zVU (ats:=tys) (ty:=ty) (w:=w) (P:=P) h ha hta
  exact hp.st hr
 ·refine OpR.ofVal ?_ (hex.trans rfl) fun h=>?_
  ·unfold zJK
   split
   ·split
    ·split
     ·split
      ·rw[cond_eq_ite];split
       ·dsimp only;rw[cond_eq_ite];split
        ·split<;>rfl
        ·rfl
       ·rfl
      ·rfl
     ·rfl
     ·rfl
    ·rfl
   ·rfl
  ·have:=zQF (ty:=ty) hE hr (zM9 hok) h ha
   rwa [htl] at this
 ·trivial
theorem zXN {fid:FuncId}{o:Oper}(h:isDefer o.op=true):(∃f a s1,opA E fid fr o.op s=.defer f a s1)∨opA E fid fr o.op s=.no:=by
 cases hop:o.op<;>rw[hop] at h<;>simp[isDefer] at h
 rename_i c
 simp only[opA]
 unfold zNC
 split
 ·split
  ·split
   ·exact .inl ⟨_,_,_,rfl⟩
   ·exact .inr rfl
  ·exact .inr rfl
 ·exact .inr rfl
theorem zTR (hf:VRs g fr.tmps tm){c:Call}{args:List AV}(h:zBR fr c.args.toList=some args):VRs g args (c.args.map (zAE tm)):=by
 have:=zII hf h
 rwa [zLO] at this
theorem zR9 (hE:TysOk E P){fid:FuncId}{c:Call}(hok:okOp E (.call c)=true)(hr:Rel base w0 g s w)(hf:VRs g fr.tmps tm)(ht:tops fr.tmps≤s.n)(hop:o.op=.call c) :
  OpR P base w0 g s w tm o (opA E fid fr (.call c) s):=by
 simp only[opA]
 unfold zOE
 split
 ·rename_i args hargs
  have ha:=zTR hf hargs
  have hta:=zH0 ht hargs
  split
  ·rename_i f hcal
   have viaV:∀{fv:AV},zAD fr f=some fv→OpR P base w0 g s w tm o (zIM fv args s):=by
    intro fv hfv
    have hv:=zA9 hf hfv
    have htv:=zCX ht hfv
    generalize hvv:zAE tm f=vv at hv
    unfold zIM
    split
    ·rename_i t h a b
     cases hv with
     | func _ _ _ _ a' b' hy la hha lb hb htaa htb=>
     have htv:t≤s.n:=htv
     refine⟨rfl,(a'++c.args.map (zAE tm))++b',?_,?_,?_⟩
     ·unfold execOp
      rw[hop]
      simp[resolve,hcal,hvv,zON,Deferred.ofValue,invoke]
     ·rw[zBP,zBP,← List.append_assoc]
      exact(VRs.append ⟨la,hha⟩ ha).append ⟨lb,hb⟩
     ·rw[zBP,zBP]
      exact zDF (by omega) (zDF hta (by omega))
    ·rename_i t l b
     cases hv with
     | func _ _ _ _ a' b' hy la hha lb hb htaa htb=>
     have htv:t≤s.n:=htv
     have:=hy l rfl
     refine⟨rfl,by omega,c.args.map (zAE tm),?_,ha,hta⟩
     have ha':a'=#[]:=Array.eq_empty_of_size_eq_zero la.symm
     unfold execOp
     rw[hop]
     simp[resolve,hcal,hvv,zON,Deferred.ofValue,invoke,ha']
    ·trivial
   split
   ·rename_i h
    refine⟨rfl,c.args.map (zAE tm),?_,ha,hta⟩
    unfold execOp
    rw[hop]
    simp[resolve,hcal,zAE,Deferred.ofValue,invoke]
   ·split
    ·rename_i fv hfv;exact viaV hfv
    ·trivial
  ·rename_i x name hcal
   unfold zRC
   split
   ·rename_i t y hxv
    rw[cond_eq_ite]
    split
    ·rename_i htok
     split
     ·rename_i f hfm
      have hv:=zA9 hf hxv
      have htv:=zCX ht hxv
      generalize hvv:zAE tm x=vv at hv
      cases hv with
      | iface _ _ v h=>
      have hm:=(hE.ti t htok).meth name f hfm v w
      refine⟨rfl,#[v]++c.args.map (zAE tm),?_,?_,?_⟩
      ·unfold execOp
       rw[hop]
       simp only[resolve,hcal,hvv]
       exact zUM hm _
      ·have h1:VRs g [y] #[v]:=⟨rfl,fun i a u ha hu=>by
        cases i with
        | zero=>simp at ha hu;subst ha;subst hu;exact h
        | succ i=>simp at ha⟩
       exact h1.append ha
      ·rw[zAU];exact Nat.max_le.2 ⟨htv,hta⟩
     ·trivial
    ·trivial
   ·trivial
  ·rename_i b hcal
   simp only[okOp,hcal] at hok
   have ha':VRs g args ((c.args.map (zAE tm)).toList.toArray):=by rw[Array.toArray_toList];exact ha
   refine zSB hE hr (us:=(c.args.map (zAE tm)).toList) (ty:=o.type) (cs:=c.args.map fun|.const _=>true|_=>false) hok ha' hta ?_
   unfold execOp
   rw[hop]
   simp only[resolve,hcal,Array.toArray_toList]
   rfl
 ·trivial
theorem zQ8 (hE:TysOk E P){fid:FuncId}(hok:okOp E o.op=true)(hr:Rel base w0 g s w)(hf:VRs g fr.tmps tm)(ht:tops fr.tmps≤s.n):OpR P base w0 g s w tm o (opA E fid fr o.op s):=by
 have ev:∀{x:Operand} {a:AV},zAD fr x=some a→VR g a (zAE tm x)∧top a≤s.n:=fun h=>⟨zA9 hf h,zCX ht h⟩
 have mv:∀{x:Operand} {v:AV} {s':Sto},nv s (zAD fr x)=.val v s'→StR P base w0 g s w (pure (zAE tm x)) v s':=by
  intro x v s' h
  obtain⟨h1,rfl⟩:=zHE h
  exact zBM.st hr ⟨_,rfl,(ev h1).1,(ev h1).2⟩
 cases hop:o.op with
 | move x=>exact OpR.ofVal (zHG _ _) (by unfold execOp;rw[hop];rfl) mv
 | assign x=>exact OpR.ofVal (zHG _ _) (by unfold execOp;rw[hop];rfl) mv
 | pick c a b=>
  refine OpR.ofVal (zTI ..) (sem:=do pure (if ← asBool (zAE tm c) then zAE tm a else zAE tm b)) (by unfold execOp;rw[hop];simp) fun h=>?_
  simp only[opA] at h
  have hc:=h
  unfold zHC at hc
  split at hc
  ·rename_i cb hcb
   cases cb with
   | true=>
    obtain⟨h1,rfl⟩:=zHE hc
    simp only[cond_true] at h1
    have h2:=ev hcb
    refine zBM.st hr ⟨zAE tm a,?_,(ev h1).1,(ev h1).2⟩
    have:=h2.1
    cases hcm:zAE tm c<;>rw[hcm] at this<;>cases this
    rfl
   | false=>
    obtain⟨h1,rfl⟩:=zHE hc
    simp only[cond_false] at h1
    have h2:=ev hcb
    refine zBM.st hr ⟨zAE tm b,?_,(ev h1).1,(ev h1).2⟩
    have:=h2.1
    cases hcm:zAE tm c<;>rw[hcm] at this<;>cases this
    rfl
  ·cases hc
 | alloc e=>
  rw[hop] at hok
  refine OpR.ofVal rfl (sem:=Instr.alloc e true (.tuple #[])) (by unfold execOp;rw[hop]) fun h=>?_
  simp only[opA] at h
  cases h
  exact zZ5 hE hr hok
 | box e x=>
  refine OpR.ofVal (zYE ..) (sem:=Instr.box e (zAE tm x)) (by unfold execOp;rw[hop]) fun h=>?_
  simp only[opA] at h
  cases hx:zAD fr x with
  | none=>rw[hx] at h;cases h
  | some a=>rw[hx] at h;exact oBox_sim hE hr h (ev hx).1 (ev hx).2
 | build t ps=>
  rw[hop] at hok
  refine OpR.ofVal (zPZ ..) (sem:=Instr.build t (ps.map fun x=>(x.1,zAE tm x.2))) (by unfold execOp;rw[hop]) fun h=>?_
  simp only[opA] at h
  obtain⟨rfl,hp⟩:=zUW (w:=w) hE hok hf ht h
  have:=hp.st hr
  rwa [zLO] at this
 | buildSlice t n ps=>
  rw[hop] at hok
  refine OpR.ofVal (zH8 ..) (sem:=Instr.buildSlice t n (ps.map fun x=>(x.1,zAE tm x.2))) (by unfold execOp;rw[hop]) fun h=>?_
  simp only[opA] at h
  have:=zLK hE hr hok hf ht h
  rwa [zLO] at this
 | load t a=>
  rw[hop] at hok
  refine OpR.ofVal (zTJ ..) (sem:=Instr.loadAt t (zAE tm a)) (by unfold execOp;rw[hop]) fun h=>?_
  simp only[opA] at h
  cases hx:zAD fr a with
  | none=>rw[hx] at h;cases h
  | some x=>
   rw[hx] at h
   obtain⟨h1,rfl⟩:=zHE h
   obtain⟨v',h2,h3,h4⟩:=zPO (hE.ti t hok) hr h1 (ev hx).1 (ev hx).2
   exact zBM.st hr ⟨v',h2,h3,h4⟩
 | store t a x=>
  rw[hop] at hok
  refine OpR.ofUnit (zPT ..) (sem:=Instr.storeAt t (zAE tm a) (zAE tm x)) (by unfold execOp;rw[hop]) fun h=>?_
  simp only[opA] at h
  unfold zNB at h
  split at h
  ·rename_i a' ha
   split at h
   ·rename_i x' hx
    cases hst:zGZ s (E.types t) a' x' with
    | none=>rw[hst] at h;cases h
    | some s1=>
     rw[hst] at h
     simp only[ns] at h
     cases h
     obtain⟨w',g',h1,h2,h3,h4⟩:=zFY (hE.ti t hok) hr hst (ev ha).1 (ev hx).1 (ev hx).2
     exact⟨w',g',h1,h2,h3,h4,rfl⟩
   ·cases h
  ·cases h
 | ready _=>trivial
 | waits _=>trivial
 | nilCheck x=>
  simp only[opA]
  have hv:=zYD (s:=s) (zAD fr x)
  cases hnx:oNil (zAD fr x) s with
  | val v s'=>
   cases hx:zAD fr x with
   | none=>rw[hx] at hnx;cases hnx
   | some a=>
    rw[hx] at hnx
    obtain⟨rfl,rfl,hno⟩:=oNil_sim hnx (ev hx).1
    refine⟨zAE tm x,w,g,.inl ?_,hr,.refl _ _,(ev hx).1,(ev hx).2,Nat.le_refl _⟩
    unfold execOp
    rw[hop]
    dsimp only
    split
    ·rename_i e;exact absurd e (hno #[]).1
    ·rename_i e;exact absurd e (hno #[]).2.1
    ·rename_i e;exact absurd e (hno #[]).2.2.1
    ·rename_i e;exact absurd e ((hno _).2.2.2 _ _)
    ·rfl
  | no=>trivial
  | _=>rw[hnx] at hv;cases hv
 | binOp op t x y yt=>
  rw[hop] at hok
  refine OpR.ofVal (zYF ..) (sem:=do eqGuard op t x y (zAE tm x) (zAE tm y);binOp op t (zAE tm x) (zAE tm y)) (by unfold execOp;rw[hop]) fun h=>?_
  simp only[opA] at h
  cases hx:zAD fr x with
  | none=>rw[hx] at h;cases h
  | some a=>
   cases hy:zAD fr y with
   | none=>rw[hx,hy] at h;cases h
   | some b=>
    rw[hx,hy] at h
    obtain⟨rfl,hp⟩:=oBin_sim hE hr hok h (ev hx).1 (ev hy).1
    exact hp.st hr
 | unOp op t x=>
  refine OpR.ofVal (isV_un ..) (sem:=Op.unary op (zAE tm x)) (by unfold execOp;rw[hop]) fun h=>?_
  simp only[opA] at h
  cases hx:zAD fr x with
  | none=>rw[hx] at h;cases h
  | some a=>
   rw[hx] at h
   obtain⟨rfl,hp⟩:=oUn_sim (w:=w) (P:=P) h (ev hx).1
   exact hp.st hr
 | convert src dst x=>
  rw[hop] at hok
  simp only[okOp,Bool.and_eq_true] at hok
  refine OpR.ofVal (zLW ..) (sem:=convert src dst (zAE tm x)) (by unfold execOp;rw[hop]) fun h=>?_
  simp only[opA] at h
  cases hx:zAD fr x with
  | none=>rw[hx] at h;cases h
  | some a=>rw[hx] at h;exact zR1 hE hr hok.1 hok.2 h (ev hx).1 (ev hx).2
 | sliceToArrayPointer _ _=>trivial
 | makeInterface t x=>
  rw[hop] at hok
  refine OpR.ofVal (zPW ..) (sem:=Instr.makeInterface t (zAE tm x)) (by unfold execOp;rw[hop]) fun h=>?_
  simp only[opA] at h
  cases hx:zAD fr x with
  | none=>rw[hx] at h;cases h
  | some a=>
   rw[hx] at h
   obtain⟨rfl,hp⟩:=zUU (w:=w) hE hok h (ev hx).1 (ev hx).2
   exact hp.st hr
 | makeFunc fn a b=>
  refine OpR.ofVal (zKD ..) (sem:=Instr.makeFunc fn (a.map (zAE tm)) (b.map (zAE tm))) (by unfold execOp;rw[hop]) fun h=>?_
  simp only[opA] at h
  obtain⟨rfl,hp⟩:=zOD (w:=w) (P:=P) hf ht h
  have:=hp.st hr
  rwa [zLO,zLO] at this
 | makeMap t r=>
  rw[hop] at hok
  simp only[okOp] at hok
  cases r with
  | some _=>cases hok
  | none=>
   refine OpR.ofVal rfl (sem:=Instr.makeMap t none) (by unfold execOp;rw[hop];rfl) fun h=>?_
   simp only[opA] at h
   cases h
   exact zRH hr
 | makeChan _ _=>trivial
 | makeSlice t l c=>
  rw[hop] at hok
  refine OpR.ofVal (zI8 ..) (sem:=Instr.makeSlice t (zAE tm l) (zAE tm c)) (by unfold execOp;rw[hop]) fun h=>?_
  simp only[opA] at h
  cases hx:zAD fr l with
  | none=>rw[hx] at h;unfold zB3 at h;split at h<;>cases h
  | some a=>
   cases hy:zAD fr c with
   | none=>
    rw[hx,hy] at h
    unfold zB3 at h
    split at h
    ·dsimp only at h;split at h<;>cases h
    ·cases h
   | some b=>rw[hx,hy] at h;exact zOH hE hr hok h (ev hx).1 (ev hy).1
 | slice t x lo hi mx=>
  rw[hop] at hok
  simp only[okOp,Bool.and_eq_true] at hok
  refine OpR.ofVal (zPU ..) (sem:=Instr.sliceAt t (zAE tm x) (lo.map (zAE tm)) (hi.map (zAE tm)) (mx.map (zAE tm))) (by unfold execOp;rw[hop]) fun h=>?_
  simp only[opA] at h
  cases hx:zAD fr x with
  | none=>rw[hx] at h;cases h
  | some a=>
   rw[hx] at h
   refine zUS hE hr hok.1 hf h (ev hx).1 (ev hx).2 fun hm=>?_
   have:=hok.2
   cases mx with
   | none=>cases hm
   | some _=>simpa using this
 | fieldAddr t x i=>
  rw[hop] at hok
  refine OpR.ofVal (zJA ..) (sem:=Instr.fieldAt t (zAE tm x) i) (by unfold execOp;rw[hop]) fun h=>?_
  simp only[opA] at h
  cases hx:zAD fr x with
  | none=>
   rw[hx] at h
   unfold zB4 at h
   split at h
   ·split at h<;>cases h
   ·cases h
  | some a=>
   rw[hx] at h
   obtain⟨rfl,v',h1,h2,h3⟩:=zMW (w:=w) (hE.ti t hok) (fun fs hfs=>hE.sub1 hok hfs) h (ev hx).1 (ev hx).2
   exact zBM.st hr ⟨v',h1,h2,h3⟩
 | field t x i=>
  rw[hop] at hok
  refine OpR.ofVal (zPY ..) (sem:=Instr.field t (zAE tm x) i) (by unfold execOp;rw[hop]) fun h=>?_
  simp only[opA] at h
  cases hx:zAD fr x with
  | none=>
   rw[hx] at h
   unfold zH7 at h
   split at h
   ·split at h<;>cases h
   ·cases h
  | some a=>
   rw[hx] at h
   obtain⟨rfl,hp⟩:=zUV (w:=w) (hE.ti t hok) (fun fs hfs f hff=>(hE.sub1 hok hfs f hff).1) h (ev hx).1 (ev hx).2
   exact hp.st hr
 | indexAddr t x i=>
  rw[hop] at hok
  refine OpR.ofVal (zI9 ..) (sem:=Instr.indexAt t (zAE tm x) (zAE tm i)) (by unfold execOp;rw[hop]) fun h=>?_
  simp only[opA] at h
  cases hi:zAD fr i with
  | none=>rw[hi] at h;cases h
  | some j=>
   cases hx:zAD fr x with
   | none=>rw[hx,hi] at h;unfold zCP at h;dsimp only at h;split at h<;>cases h
   | some a=>
    rw[hx,hi] at h
    obtain⟨rfl,hp⟩:=zMV hr (hE.ti t hok) (hE.sub2 hok) h (ev hx).1 (ev hi).1 (ev hx).2
    exact hp.st hr
 | index t x i=>
  rw[hop] at hok
  refine OpR.ofVal (zPV ..) (sem:=Instr.index t (zAE tm x) (zAE tm i)) (by unfold execOp;rw[hop]) fun h=>?_
  simp only[opA] at h
  cases hi:zAD fr i with
  | none=>rw[hi] at h;cases h
  | some j=>
   cases hx:zAD fr x with
   | none=>rw[hx,hi] at h;unfold zHD at h;dsimp only at h;split at h<;>cases h
   | some a=>
    rw[hx,hi] at h
    obtain⟨rfl,hp⟩:=zUT (w:=w) hE hok h (ev hx).1 (ev hi).1 (ev hx).2
    exact hp.st hr
 | lookup t x i ok=>
  rw[hop] at hok
  refine OpR.ofVal (zNH ..) (sem:=Instr.lookup t (zAE tm x) (zAE tm i) ok) (by unfold execOp;rw[hop]) fun h=>?_
  simp only[opA] at h
  cases hi:zAD fr i with
  | none=>rw[hi] at h;unfold zDT at h;split at h<;>cases h
  | some j=>
   cases hx:zAD fr x with
   | none=>
    rw[hx,hi] at h
    unfold zDT at h
    split at h
    ·dsimp only at h;rw[cond_eq_ite] at h;split at h<;>cases h
    ·cases h
   | some a=>
    rw[hx,hi] at h
    obtain⟨rfl,hp⟩:=zRA hE hr hok h (ev hx).1 (ev hi).1 (ev hx).2
    exact hp.st hr
 | mapUpdate t m k x=>
  rw[hop] at hok
  refine OpR.ofUnit (zHZ ..) (sem:=Instr.mapUpdate t (zAE tm m) (zAE tm k) (zAE tm x)) (by unfold execOp;rw[hop]) fun h=>?_
  simp only[opA] at h
  cases hm:zAD fr m with
  | none=>rw[hm] at h;unfold zC9 at h;split at h<;>cases h
  | some m0=>
   cases hk:zAD fr k with
   | none=>
    rw[hm,hk] at h
    unfold zC9 at h
    split at h
    ·split at h<;>cases h
    ·cases h
   | some k0=>
    cases hx:zAD fr x with
    | none=>
     rw[hm,hk,hx] at h
     unfold zC9 at h
     split at h
     ·split at h
      ·dsimp only at h;rw[cond_eq_ite] at h;split at h<;>cases h
      ·cases h
     ·cases h
    | some x0=>
     rw[hm,hk,hx] at h
     exact zLJ hE hr hok h (ev hm).1 (ev hk).1 (ev hx).1 (ev hx).2
 | insert t m k x=>
  rw[hop] at hok
  refine OpR.ofUnit (zHZ ..) (sem:=Instr.mapUpdate t (zAE tm m) (zAE tm k) (zAE tm x)) (by unfold execOp;rw[hop]) fun h=>?_
  simp only[opA] at h
  cases hm:zAD fr m with
  | none=>rw[hm] at h;unfold zC9 at h;split at h<;>cases h
  | some m0=>
   cases hk:zAD fr k with
   | none=>
    rw[hm,hk] at h
    unfold zC9 at h
    split at h
    ·split at h<;>cases h
    ·cases h
   | some k0=>
    cases hx:zAD fr x with
    | none=>
     rw[hm,hk,hx] at h
     unfold zC9 at h
     split at h
     ·split at h
      ·dsimp only at h;rw[cond_eq_ite] at h;split at h<;>cases h
      ·cases h
     ·cases h
    | some x0=>
     rw[hm,hk,hx] at h
     exact zLJ hE hr hok h (ev hm).1 (ev hk).1 (ev hx).1 (ev hx).2
 | mapEntry _ _ _=>trivial
 | entryStore _ _ _ _=>trivial
 | range _ _=>trivial
 | next _ _=>trivial
 | entry _=>trivial
 | typeAssert x xt t ok=>
  rw[hop] at hok
  refine OpR.ofVal (zNI ..) (sem:=Instr.typeAssert (zAE tm x) xt t ok) (by unfold execOp;rw[hop]) fun h=>?_
  simp only[opA] at h
  cases hx:zAD fr x with
  | none=>rw[hx] at h;unfold zE3 at h;split at h<;>cases h
  | some a=>
   rw[hx] at h
   obtain⟨rfl,hp⟩:=zRE (w:=w) (xt:=xt) hE hok h (ev hx).1 (ev hx).2
   exact hp.st hr
 | extract x i=>
  refine OpR.ofVal (zLV ..) (sem:=Instr.extract (zAE tm x) i) (by unfold execOp;rw[hop]) fun h=>?_
  simp only[opA] at h
  cases hx:zAD fr x with
  | none=>rw[hx] at h;cases h
  | some a=>
   rw[hx] at h
   obtain⟨rfl,hp⟩:=zPJ (w:=w) (P:=P) h (ev hx).1 (ev hx).2
   exact hp.st hr
 | call c=>
  rw[hop] at hok
  exact zR9 hE hok hr hf ht hop
 | go _=>trivial
 | defer c=>
  simp only[opA]
  unfold zNC
  split
  ·rename_i f hcal
   split
   ·rename_i t h a b hfv
    split
    ·rename_i args hargs
     have hv:=ev hfv
     generalize hvv:zAE tm f=vv at hv
     obtain⟨hv1,hv2⟩:=hv
     cases hv1 with
     | func _ _ _ _ a' b' hy la ha lb hb hta htb=>
     have hv2:t≤s.n:=hv2
     refine⟨rfl,_,?_,.call t h a b args a' b' (c.args.map (zAE tm)) ⟨la,ha⟩ ⟨lb,hb⟩ (zTR hf hargs) (by omega) (by omega) (zH0 ht hargs)⟩
     unfold execOp
     rw[hop]
     simp[resolve,hcal,hvv,zON,Deferred.ofValue]
    ·trivial
   ·trivial
  ·trivial
 | panic x=>
  simp only[opA]
  unfold zXQ
  split
  ·rename_i t y hx
   have hv:=ev hx
   generalize hvv:zAE tm x=vv at hv
   obtain⟨hv1,hv2⟩:=hv
   cases hv1 with
   | iface _ _ v h=>
   refine⟨rfl,rfl,hv2,.iface t v,?_,.iface t y v h⟩
   unfold execOp
   rw[hop]
   simp[hvv,Instr.panic,goPanic,Sem.run]
  ·trivial
 | send _ _=>trivial
 | recv _ _ _=>trivial
 | select _ _=>trivial
end
noncomputable section
theorem zE9 (a i:Nat):hasM a i=a.testBit i:=by
 have h1:Nat.shiftRight a i=a >>> i:=rfl
 unfold hasM
 rw[h1]
 have h2:Nat.land (a >>> i) 1=(a >>> i) % 2:=by
  show(a >>> i) &&& 1=_
  rw[Nat.and_one_is_mod]
 rw[h2,Nat.testBit_eq_decide_div_mod_eq,Nat.shiftRight_eq_div_pow]
 cases h:Nat.beq (a / 2 ^ i % 2) 1 with
 | true=>simp[Nat.eq_of_beq_eq_true h]
 | false=>
  have:a / 2 ^ i % 2≠1:=fun e=>by rw[e] at h;cases h
  simp[this]
theorem zAO (a b i:Nat):hasM (orM a b) i=(hasM a i||hasM b i):=by
 rw[zE9,zE9,zE9];exact Nat.testBit_or a b i
theorem zAT (i j:Nat):hasM (zC2 i) j=decide (i=j):=by
 rw[zE9];exact Nat.testBit_two_pow
theorem zE8 (i:Nat):hasM 0 i=false:=by rw[zE9];exact Nat.zero_testBit i
theorem zEZ {a b:Nat}(h:subM a b=true){i:Nat}(hi:hasM a i=true):hasM b i=true:=by
 have h1:a &&& b=a:=Nat.eq_of_beq_eq_true h
 rw[zE9] at hi ⊢
 rw[← h1,Nat.testBit_and,Bool.and_eq_true] at hi
 exact hi.2
theorem zJI (e:Edge):Region.binds .any e=zCF e:=by
 unfold Region.binds zCF
 cases e.ground<;>rfl
theorem zTE (l:List Nat)(x:Nat):lsnoc l x=l++[x]:=by
 induction l with
 | nil=>rfl
 | cons a r ih=>rw[lsnoc,ih];rfl
def Closed (ops:List Oper)(S:Nat→Prop):Prop:=∀(j:Nat) (o:Oper),ops[j]?=some o→S j→∀e∈o.after.toList,zCF e=true→S e.on
theorem zRF (l:List Nat)(i:Nat):nthN l i=l.getD i 0:=by
 unfold nthN
 rw[zDC,List.getD_eq_getElem?_getD]
 cases l[i]?<;>rfl
theorem zR6 {S:Nat→Prop}{acc:List Nat}:∀{l:List Edge} {x:Nat},hasM (zMG acc l) x=true→(∀e∈l,zCF e=true→S e.on∧∀y,hasM (nthN acc e.on) y=true→S y)→S x:=by
 intro l
 induction l with
 | nil=>intro x h _;rw[zMG,zE8] at h;cases h
 | cons e r ih=>
  intro x h hS
  simp only[zMG,cond_eq_ite] at h
  split at h
  ·rename_i hb
   rw[zAO,zAO,zAT,Bool.or_eq_true,Bool.or_eq_true] at h
   obtain⟨h1,h2⟩:=hS e (.head _) hb
   rcases h with h|h|h
   ·have:=of_decide_eq_true h;subst this;exact h1
   ·exact h2 x h
   ·exact ih h fun e he=>hS e (.tail _ he)
  ·exact ih h fun e he=>hS e (.tail _ he)
theorem zR5 {ops:List Oper}{S:Nat→Prop}(hS:Closed ops S):∀(r:List Oper) (acc:List Nat) (d:List Oper),ops=d++r→acc.length=d.length→
  (∀(j:Nat) (o:Oper),d[j]?=some o→(∀e∈o.after.toList,zCF e=true→S e.on)→∀x,hasM (nthN acc j) x=true→S x)→
  ∀(j:Nat) (o:Oper),ops[j]?=some o→(∀e∈o.after.toList,zCF e=true→S e.on)→∀x,hasM (nthN (closes r acc) j) x=true→S x:=by
 intro r
 induction r with
 | nil=>intro acc d h1 h2 h3 j o hj;rw[h1,List.append_nil] at hj;exact h3 j o hj
 | cons a r ih=>
  intro acc d h1 h2 h3
  refine ih (lsnoc acc (zMG acc a.after.toList)) (d++[a]) (by rw[h1];simp) (by rw[zTE];simp[h2]) ?_
  intro j o hj he x hx
  rw[zTE,zRF] at hx
  rw[List.getElem?_append] at hj
  by_cases hlt:j<d.length
  ·rw[if_pos hlt] at hj
   rw[List.getD_eq_getElem?_getD,List.getElem?_append,if_pos (by omega),← List.getD_eq_getElem?_getD,← zRF] at hx
   exact h3 j o hj he x hx
  ·rw[if_neg hlt] at hj
   have hj0:j=d.length:=by
    have:=(List.getElem?_eq_some_iff.1 hj).1
    simp at this;omega
   subst hj0
   simp at hj
   subst hj
   rw[List.getD_eq_getElem?_getD,List.getElem?_append,if_neg (by omega),h2] at hx
   simp only[Nat.sub_self,List.getElem?_cons_zero,Option.getD_some] at hx
   refine zR6 hx fun e hem hb=>⟨he e hem hb,fun y hy=>?_⟩
   have hon:=he e hem hb
   by_cases hle:e.on<d.length
   ·have hd:d[e.on]?=some d[e.on]:=List.getElem?_eq_getElem hle
    have ho:ops[e.on]?=some d[e.on]:=by rw[h1,List.getElem?_append,if_pos hle];exact hd
    exact h3 e.on _ hd (fun e' he' hb'=>hS e.on _ ho hon e' he' hb') y hy
   ·rw[zRF,List.getD_eq_getElem?_getD,List.getElem?_eq_none (by omega)] at hy
    simp only[Option.getD_none] at hy
    rw[zE8] at hy
    cases hy
theorem zHX {ops:List Oper}{S:Nat→Prop}(hS:Closed ops S){j:Nat}{o:Oper}(hj:ops[j]?=some o)(he:∀e∈o.after.toList,zCF e=true→S e.on){x:Nat}(hx:hasM (nthN (closes ops []) j) x=true):S x:=
 zR5 hS ops [] [] rfl rfl (fun j o h=>by simp at h) j o hj he x hx
end
section
variable {E:Env}{fr fr':Fr}{s s' s1:Sto}{v:AV}
theorem zAZ {nx:Nx}(h:valOf nx=some v):∃s',nx=.val v s':=by
 cases nx<;>simp[valOf] at h
 subst h;exact⟨_,rfl⟩
theorem zIC {x:Option AV}(h:nv s x=.val v s'):s'=s:=(zHE h).2
theorem zWU {c a b:Option AV}(h:zHC c a b s=.val v s'):s'=s:=by
 unfold zHC at h;split at h
 ·exact zIC h
 ·cases h
theorem zUK {t:TypeId}{ps:List (Nat×Operand)}(h:zDL E fr t ps s=.val v s'):s'=s:=by
 unfold zDL at h;split at h
 ·dsimp only at h;split at h
  ·split at h<;>cases h;rfl
  ·split at h<;>cases h;rfl
  ·cases h
 ·cases h
theorem zWV {t:TypeId}{a:Option AV}(h:zRB E t a s=.val v s'):s'=s:=by
 unfold zRB at h;split at h
 ·exact zIC h
 ·cases h
theorem same_nil {x:Option AV}(h:oNil x s=.val v s'):s'=s:=by
 unfold oNil at h;split at h<;>cases h<;>rfl
theorem same_bin {op:BinOp}{t:TypeId}{c:Bool}{x y:Option AV}(h:oBin E op t c x y s=.val v s'):s'=s:=by
 unfold oBin at h;split at h
 ·split at h
  ·exact zIC h
  ·cases h
 ·cases h
theorem same_un {op:UnOp}{x:Option AV}(h:oUn op x s=.val v s'):s'=s:=by
 unfold oUn at h;split at h
 ·split at h<;>cases h;rfl
 ·split at h
  ·cases h;rfl
  ·exact zIC h
  ·cases h
 ·cases h
theorem zUI {d:TD}{t:TypeId}{x:Option AV}(h:zI2 d t x s=.val v s'):s'=s:=by
 unfold zI2 at h;split at h
 ·split at h<;>cases h;rfl
 ·cases h
theorem zN7 {fn:Fn}{a b:List Operand}(h:zCN fr fn a b s=.val v s'):s'=s:=by
 unfold zCN at h;split at h
 ·split at h
  ·split at h<;>cases h;rfl
  ·cases h
 ·cases h
theorem zUG {t:TypeId}{x:Option AV}{lo hi:Option Operand}(h:zG2 E t fr x lo hi none s=.val v s'):s'=s:=by
 have nvs':∀{y:Option (AV×Sto)},nvs y=.val v s'→y=some (v,s'):=fun h=>by
  unfold nvs at h;split at h<;>cases h;rfl
 unfold zG2 at h
 split at h
 ·split at h
  ·split at h
   ·split at h
    ·rename_i mx hmx
     have:mx=none:=by simp[zG1] at hmx;exact hmx.symm
     subst this
     split at h
     ·have h:=nvs' h
      unfold zIS at h
      split at h
      ·unfold zJQ at h
       split at h
       ·rw[cond_eq_ite] at h;split at h
        ·cases h;rfl
        ·cases h
       ·cases h
      ·unfold zFF at h
       split at h
       ·rw[cond_eq_ite] at h;split at h
        ·split at h
         ·dsimp only at h;cases h;rfl
         ·cases h
        ·cases h
       ·cases h
      ·cases h
     ·split at h
      ·have h:=nvs' h
       unfold zKS at h
       dsimp only at h
       split at h
       ·cases h;rfl
       ·cases h
      ·cases h
     ·cases h
    ·cases h
   ·cases h
  ·cases h
 ·cases h
theorem zMR {d:TD}{x:Option AV}{i:Nat}(h:zB4 d x i s=.val v s'):s'=s:=by
 unfold zB4 at h;split at h
 ·split at h
  ·split at h
   ·cases h;rfl
   ·cases h;rfl
   ·rw[cond_eq_ite] at h;split at h<;>cases h;rfl
   ·cases h
  ·cases h
 ·cases h
theorem zUJ {t:TypeId}{x:Option AV}{i:Nat}(h:zH7 E t x i s=.val v s'):s'=s:=by
 unfold zH7 at h;split at h
 ·split at h
  ·split at h
   ·exact zIC h
   ·cases h
  ·cases h
 ·cases h
theorem zMQ {t:TypeId}{x i:Option AV}(h:zCP E t x i s=.val v s'):s'=s:=by
 unfold zCP at h;split at h
 ·split at h
  ·split at h
   ·split at h
    ·split at h
     ·unfold ixSl at h;split at h
      ·rw[cond_eq_ite] at h;split at h<;>cases h;rfl
      ·cases h
     ·unfold zRM at h;split at h
      ·rw[cond_eq_ite] at h;split at h<;>cases h;rfl
      ·cases h
     ·cases h
    ·unfold ixArr at h;rw[cond_eq_ite] at h;split at h
     ·split at h
      ·cases h;rfl
      ·rw[cond_eq_ite] at h;split at h<;>cases h;rfl
      ·cases h
     ·cases h
    ·cases h
   ·cases h
  ·cases h
 ·cases h
theorem zUH {t:TypeId}{x i:Option AV}(h:zHD E t x i s=.val v s'):s'=s:=by
 unfold zHD at h;split at h
 ·split at h
  ·split at h
   ·split at h
    ·split at h
     ·split at h<;>cases h;rfl
     ·cases h
    ·split at h
     ·rw[cond_eq_ite] at h;split at h
      ·exact zIC h
      ·cases h
     ·cases h
    ·cases h
   ·cases h
  ·cases h
 ·cases h
theorem zM6 {ti:TI}{ok:Bool}{x:Option (Option AV)}(h:found ti ok s x=.val v s'):s'=s:=by
 unfold found at h;split at h<;>cases h<;>rfl
theorem zQ1 {t:TypeId}{x i:Option AV}{ok:Bool}(h:zDT E t x i ok s=.val v s'):s'=s:=by
 unfold zDT at h;split at h
 ·split at h
  ·rw[cond_eq_ite] at h;split at h
   ·split at h
    ·exact zM6 h
    ·split at h
     ·exact zM6 h
     ·cases h
    ·cases h
   ·cases h
  ·cases h
 ·cases h
theorem zQ2 {x:Option AV}{t:TypeId}{ok:Bool}(h:zE3 E x t ok s=.val v s'):s'=s:=by
 unfold zE3 at h;split at h
 ·cases h
 ·cases h
 ·split at h
  ·rw[cond_eq_ite] at h;split at h
   ·cases h;rfl
   ·rw[cond_eq_ite] at h;split at h<;>cases h;rfl
  ·rw[cond_eq_ite] at h;split at h<;>cases h;rfl
  ·cases h
theorem zPB {x:Option AV}{i:Nat}(h:zEA x i s=.val v s'):s'=s:=by
 unfold zEA at h;split at h
 ·exact zIC h
 ·cases h
theorem same_len {t:TypeId}{args:List AV}(h:bLen E t args s=.val v s'):s'=s:=by
 unfold bLen at h;split at h
 ·split at h<;>cases h;rfl
 ·cases h
theorem same_min {args:List AV}(h:bMin args s=.val v s'):s'=s:=by
 unfold bMin at h;split at h
 ·split at h<;>cases h;rfl
 ·cases h
theorem same_max {args:List AV}(h:bMax args s=.val v s'):s'=s:=by
 unfold bMax at h;split at h
 ·split at h<;>cases h;rfl
 ·cases h
theorem same_cap {t:TypeId}{args:List AV}(h:bCap E t args s=.val v s'):s'=s:=by
 unfold bCap at h;split at h
 ·split at h<;>cases h<;>rfl
 ·cases h
theorem zLN {x:AV}(h:noOsl1 x=true):seal1 s x=some (shut1 x,s):=by
 cases x<;>first|rfl|cases h
theorem noOslC_seal:∀{l:List AV},noOslC l=true→zC6 s l=some (lmap shut1 l,s):=by
 intro l
 induction l with
 | nil=>intro _;rfl
 | cons a r ih=>
  intro h
  simp only[noOslC,cond_eq_ite] at h
  split at h
  ·rename_i ha
   simp only[zC6,zLN ha,ih h]
   rfl
  ·cases h
theorem zUZ {x:AV}(h:noOsl x=true):zBC s x=some (shutV x,s):=by
 unfold noOsl at h
 split at h
 ·simp only[zBC,noOslC_seal h,shutV]
 ·simp only[zBC,noOslC_seal h,shutV]
 ·have h3:=zLN (s:=s) h
  unfold zBC shutV
  cases x with
  | agg cs=>rename_i h1 _;exact absurd rfl (h1 cs)
  | iface t y=>
   cases y with
   | agg cs=>rename_i _ h2;exact absurd rfl (h2 t cs)
   | _=>exact h3
  | _=>exact h3
theorem noOslP_seal:∀{l:List (Nat×AV)},noOslP l=true→zK9 s l=some (zM4 l,s):=by
 intro l
 induction l with
 | nil=>intro _;rfl
 | cons a r ih=>
  intro h
  obtain⟨i,x⟩:=a
  simp only[noOslP,cond_eq_ite] at h
  split at h
  ·rename_i ha
   simp only[zK9,zUZ ha,ih h]
   rfl
  ·cases h
theorem zMU {fid:FuncId}{t:TypeId}{n:Nat}{ps:List (Nat×Operand)}(h:zE2 E fid fr t n ps=some v):zCI E fid fr t n ps s=.val v s:=by
 unfold zE2 at h
 cases hm:(E.mode fid).mutLit with
 | true=>rw[hm] at h;cases h
 | false=>
  rw[hm] at h
  simp only[cond_false] at h
  split at h
  ·rename_i e he
   split at h
   ·rename_i xs hxs
    rw[cond_eq_ite] at h
    split at h
    ·rename_i hno
     rw[cond_eq_ite] at h
     split at h
     ·rename_i hc
      cases h
      unfold zCI
      rw[he]
      simp only[hxs,noOslP_seal hno]
      simp only[Bool.and_eq_true] at hc
      have hp:zD6 (E.types e).size n (zM4 xs)=true:=by
       have key:∀{l:List (Nat×AV)},zD6 (E.types e).size n l=true→zD6 (E.types e).size n (zM4 l)=true:=by
        intro l
        induction l with
        | nil=>intro _;rfl
        | cons a r ih=>
         intro h
         obtain⟨i,x⟩:=a
         simp only[zD6,cond_eq_ite] at h
         split at h
         ·rename_i ha
          have hlen:llen (cellsOf (shutV x))=llen (cellsOf x):=by
           have h1:∀y,llen (cellsOf (shut1 y))=llen (cellsOf y):=by intro y;cases y<;>rfl
           unfold shutV
           split
           ·simp[cellsOf,zAH,lmap_eq]
           ·rfl
           ·exact h1 x
          show zD6 _ n ((i,shutV x) :: zM4 r)=true
          simp only[zD6,hlen,cond_eq_ite]
          rw[if_pos ha];exact ih h
         ·cases h
       exact key hc.2.1
      rw[cond_eq_ite,if_pos (by simp only[Bool.and_eq_true];exact⟨hc.1,hp,hc.2.2⟩),hm]
      rfl
     ·cases h
    ·cases h
   ·cases h
  ·cases h
end
section
variable {E:Env}{P:Program}{g:Gh}{base:Nat}{w0:World}{s:Sto}{w:World}{fr:Fr}{tm:Array Value}{o:Oper}{v:AV}
theorem zMT (hE:TysOk E P)(hr:Rel base w0 g s w){t:TypeId}(ht:(E.types t).ok=true){l c:Option AV}{l' c':Value}(h:zF1 E t l c=some v)
  (hl:∀x,l=some x→VR g x l') (hc:∀x,c=some x→VR g x c'):StR P base w0 g s w (Instr.makeSlice t l' c') v s:=by
 unfold zF1 at h
 split at h
 ·rename_i a b n d1 d2 zs d3 d4 d5 hm
  split at h
  ·rename_i cx
   split at h
   ·rename_i m hmc
    rw[cond_eq_ite] at h
    split at h
    ·rename_i hnm
     have hnm:=Nat.eq_of_beq_eq_true hnm
     subst hnm
     cases h
     cases l with
     | none=>unfold zB3 at hm;split at hm<;>cases hm
     | some lx=>
      obtain⟨e,n',m',arr,h1,h2,h3,h4,h5,h6,h7,h8,h9,h10,h11⟩:=zI5 hE ht hm (hl _ rfl) (hc _ rfl)
      rw[hmc] at h3
      cases h3
      injection h9 with q1 q2 q3
      subst q3
      injection h10 with q4 q5 q6
      injection q4 with q7 q8
      injection q7 with q9 q10 q11 q12
      subst q11
      obtain⟨hR,hg⟩:=hr.pushStay arr e
      have hrow:=h7.grows hg (by rw[h8];exact Nat.zero_le _)
      have hst:=zWC hrow .clip (by simp)
      rw[List.length_replicate,← zD7] at hst
      exact⟨_,_,_,h11 w,hR,hg,hst,by rw[zD7];rw[show top (.sl (tops (List.replicate n (zAK (E.types e)))) (List.replicate n (zAK (E.types e))) .clip)=tops (List.replicate n (zAK (E.types e))) from rfl,h8];exact Nat.zero_le _,Nat.le_refl _⟩
    ·cases h
   ·cases h
  ·cases h
 ·cases h
theorem qCall_op {fid:FuncId}{c:Call}(h:zUO E fr c s=some v):opA E fid fr (.call c) s=.val v s:=by
 unfold zUO at h
 split at h
 ·rename_i b hcal
  split at h
  ·rename_i args hargs
   simp only[opA,zOE,hargs,hcal,zGS]
   unfold zKV at h
   split at h
   ·obtain⟨s',h'⟩:=zAZ h;have:=same_len h';subst this;exact h'
   ·obtain⟨s',h'⟩:=zAZ h;have:=same_min h';subst this;exact h'
   ·obtain⟨s',h'⟩:=zAZ h;have:=same_max h';subst this;exact h'
   ·obtain⟨s',h'⟩:=zAZ h;have:=same_cap h';subst this;exact h'
   ·cases h
  ·cases h
 ·cases h
theorem zXK (hE:TysOk E P){fid:FuncId}(hok:okOp E o.op=true)(hr:Rel base w0 g s w)(hf:VRs g fr.tmps tm)(ht:tops fr.tmps≤s.n)(h:opQ E fid fr o.op s=some v):OpR P base w0 g s w tm o (.val v s):=by
 have gen:opA E fid fr o.op s=.val v s→OpR P base w0 g s w tm o (.val v s):=fun e=>by
  have:=zQ8 (fid:=fid) hE hok hr hf ht
  rwa [e] at this
 cases hop:o.op with
 | makeSlice t l c=>
  rw[hop] at h hok
  simp only[opQ] at h
  refine OpR.ofVal rfl (sem:=Instr.makeSlice t (zAE tm l) (zAE tm c)) (by unfold execOp;rw[hop]) fun e=>?_
  cases e
  exact zMT hE hr hok h (fun x hx=>zA9 hf hx) (fun x hx=>zA9 hf hx)
 | move x=>rw[hop] at h gen;exact gen (by simp only[opQ] at h;simp only[opA,h];rfl)
 | assign x=>rw[hop] at h gen;exact gen (by simp only[opQ] at h;simp only[opA,h];rfl)
 | pick c a b=>rw[hop] at h gen;simp only[opQ] at h;obtain⟨s',h'⟩:=zAZ h;have:=zWU h';subst this;exact gen h'
 | build t ps=>rw[hop] at h gen;simp only[opQ] at h;obtain⟨s',h'⟩:=zAZ h;have:=zUK h';subst this;exact gen h'
 | buildSlice t n ps=>rw[hop] at h gen;simp only[opQ] at h;exact gen (zMU h)
 | load t a=>rw[hop] at h gen;simp only[opQ] at h;obtain⟨s',h'⟩:=zAZ h;have:=zWV h';subst this;exact gen h'
 | nilCheck x=>rw[hop] at h gen;simp only[opQ] at h;obtain⟨s',h'⟩:=zAZ h;have:=same_nil h';subst this;exact gen h'
 | binOp op t x y yt=>rw[hop] at h gen;simp only[opQ] at h;obtain⟨s',h'⟩:=zAZ h;have:=same_bin h';subst this;exact gen h'
 | unOp op t x=>rw[hop] at h gen;simp only[opQ] at h;obtain⟨s',h'⟩:=zAZ h;have:=same_un h';subst this;exact gen h'
 | makeInterface t x=>rw[hop] at h gen;simp only[opQ] at h;obtain⟨s',h'⟩:=zAZ h;have:=zUI h';subst this;exact gen h'
 | makeFunc fn a b=>rw[hop] at h gen;simp only[opQ] at h;obtain⟨s',h'⟩:=zAZ h;have:=zN7 h';subst this;exact gen h'
 | slice t x lo hi mx=>
  rw[hop] at h gen
  cases mx with
  | none=>simp only[opQ] at h;obtain⟨s',h'⟩:=zAZ h;have:=zUG h';subst this;exact gen h'
  | some _=>simp[opQ] at h
 | fieldAddr t x i=>rw[hop] at h gen;simp only[opQ] at h;obtain⟨s',h'⟩:=zAZ h;have:=zMR h';subst this;exact gen h'
 | field t x i=>rw[hop] at h gen;simp only[opQ] at h;obtain⟨s',h'⟩:=zAZ h;have:=zUJ h';subst this;exact gen h'
 | indexAddr t x i=>rw[hop] at h gen;simp only[opQ] at h;obtain⟨s',h'⟩:=zAZ h;have:=zMQ h';subst this;exact gen h'
 | index t x i=>rw[hop] at h gen;simp only[opQ] at h;obtain⟨s',h'⟩:=zAZ h;have:=zUH h';subst this;exact gen h'
 | lookup t x i ok=>rw[hop] at h gen;simp only[opQ] at h;obtain⟨s',h'⟩:=zAZ h;have:=zQ1 h';subst this;exact gen h'
 | typeAssert x xt t ok=>rw[hop] at h gen;simp only[opQ] at h;obtain⟨s',h'⟩:=zAZ h;have:=zQ2 h';subst this;exact gen h'
 | extract x i=>rw[hop] at h gen;simp only[opQ] at h;obtain⟨s',h'⟩:=zAZ h;have:=zPB h';subst this;exact gen h'
 | call c=>rw[hop] at h gen;simp only[opQ] at h;exact gen (qCall_op h)
 | _=>rw[hop] at h;simp[opQ] at h
end
section
variable {E:Env}{fr fr':Fr}{s s':Sto}
theorem evalOs_congr:∀{l:List Operand},(∀x∈l,zAD fr x=zAD fr' x)→zBR fr l=zBR fr' l:=by
 intro l
 induction l with
 | nil=>intro _;rfl
 | cons a r ih=>
  intro h
  simp only[zBR]
  rw[h a (.head _),ih fun x hx=>h x (.tail _ hx)]
theorem evalPs_congr:∀{l:List (Nat×Operand)},(∀x∈l,zAD fr x.2=zAD fr' x.2)→zBW fr l=zBW fr' l:=by
 intro l
 induction l with
 | nil=>intro _;rfl
 | cons a r ih=>
  intro h
  obtain⟨i,x⟩:=a
  simp only[zBW]
  rw[h (i,x) (.head _),ih fun x hx=>h x (.tail _ hx)]
theorem zHB {o:Option Operand}(h:∀x,o=some x→zAD fr x=zAD fr' x):zG1 fr o=zG1 fr' o:=by
 cases o with
 | none=>rfl
 | some x=>simp only[zG1,h x rfl]
theorem zKC {t:TypeId}{x:Option AV}{lo hi mx:Option Operand}(h1:∀x,lo=some x→zAD fr x=zAD fr' x)(h2:∀x,hi=some x→zAD fr x=zAD fr' x)(h3:∀x,mx=some x→zAD fr x=zAD fr' x) :
  zG2 E t fr x lo hi mx s=zG2 E t fr' x lo hi mx s:=by
 unfold zG2
 rw[zHB h1,zHB h2,zHB h3]
theorem zRD {c:Call}(h:∀x∈c.operands.toList,zAD fr x=zAD fr' x):zOE E fr c s=zOE E fr' c s:=by
 have ha:zBR fr c.args.toList=zBR fr' c.args.toList:=evalOs_congr fun x hx=>h x (by simp[Call.operands,Array.mem_toList_iff.1 hx])
 unfold zOE
 rw[ha]
 cases hcal:c.callee with
 | value f=>
  have hf:=h f (by simp[Call.operands,hcal])
  cases f with
  | func g=>rfl
  | _=>simp only[hf]
 | invoke r m=>
  have hf:=h r (by simp[Call.operands,hcal])
  simp only[hf]
 | builtin b=>rfl
theorem zPK {c:Call}(h:∀x∈c.operands.toList,zAD fr x=zAD fr' x):zNC fr c s=zNC fr' c s:=by
 have ha:zBR fr c.args.toList=zBR fr' c.args.toList:=evalOs_congr fun x hx=>h x (by simp[Call.operands,Array.mem_toList_iff.1 hx])
 unfold zNC
 rw[ha]
 cases hcal:c.callee with
 | value f=>
  have hf:=h f (by simp[Call.operands,hcal])
  simp only[hf]
 | invoke r m=>rfl
 | builtin b=>rfl
theorem zXO {fid:FuncId}{op:Op}(h:∀x∈op.operands.toList,zAD fr x=zAD fr' x):opA E fid fr op s=opA E fid fr' op s:=by
 cases op with
 | call c=>exact zRD h
 | defer c=>exact zPK h
 | slice t x lo hi mx=>
  simp only[opA]
  rw[h x (by simp[Op.operands])]
  exact zKC (fun y hy=>h y (by subst hy;simp[Op.operands])) (fun y hy=>h y (by subst hy;simp[Op.operands])) (fun y hy=>h y (by subst hy;simp[Op.operands]))
 | build t ps=>
  have:zBW fr ps.toList=zBW fr' ps.toList:=evalPs_congr fun x hx=>h x.2 (by simp[Op.operands];exact⟨x.1,Array.mem_toList_iff.1 hx⟩)
  simp only[opA,zDL,this]
 | buildSlice t n ps=>
  have:zBW fr ps.toList=zBW fr' ps.toList:=evalPs_congr fun x hx=>h x.2 (by simp[Op.operands];exact⟨x.1,Array.mem_toList_iff.1 hx⟩)
  simp only[opA,zCI,this]
 | makeFunc fn a b=>
  have h1:zBR fr a.toList=zBR fr' a.toList:=evalOs_congr fun x hx=>h x (by simp[Op.operands,Array.mem_toList_iff.1 hx])
  have h2:zBR fr b.toList=zBR fr' b.toList:=evalOs_congr fun x hx=>h x (by simp[Op.operands,Array.mem_toList_iff.1 hx])
  simp only[opA,zCN,h1,h2]
 | move x=>simp only[opA,h x (by simp[Op.operands])]
 | assign x=>simp only[opA,h x (by simp[Op.operands])]
 | pick c a b=>simp only[opA,h c (by simp[Op.operands]),h a (by simp[Op.operands]),h b (by simp[Op.operands])]
 | box e x=>simp only[opA,h x (by simp[Op.operands])]
 | load t a=>simp only[opA,h a (by simp[Op.operands])]
 | store t a x=>simp only[opA,h a (by simp[Op.operands]),h x (by simp[Op.operands])]
 | nilCheck x=>simp only[opA,h x (by simp[Op.operands])]
 | binOp op t x y yt=>simp only[opA,h x (by simp[Op.operands]),h y (by simp[Op.operands])]
 | unOp op t x=>simp only[opA,h x (by simp[Op.operands])]
 | convert a b x=>simp only[opA,h x (by simp[Op.operands])]
 | makeInterface t x=>simp only[opA,h x (by simp[Op.operands])]
 | makeSlice t l c=>simp only[opA,h l (by simp[Op.operands]),h c (by simp[Op.operands])]
 | fieldAddr t x i=>simp only[opA,h x (by simp[Op.operands])]
 | field t x i=>simp only[opA,h x (by simp[Op.operands])]
 | indexAddr t x i=>simp only[opA,h x (by simp[Op.operands]),h i (by simp[Op.operands])]
 | index t x i=>simp only[opA,h x (by simp[Op.operands]),h i (by simp[Op.operands])]
 | lookup t x i ok=>simp only[opA,h x (by simp[Op.operands]),h i (by simp[Op.operands])]
 | mapUpdate t m k x=>simp only[opA,h m (by simp[Op.operands]),h k (by simp[Op.operands]),h x (by simp[Op.operands])]
 | insert t m k x=>simp only[opA,h m (by simp[Op.operands]),h k (by simp[Op.operands]),h x (by simp[Op.operands])]
 | typeAssert x xt t ok=>simp only[opA,h x (by simp[Op.operands])]
 | extract x i=>simp only[opA,h x (by simp[Op.operands])]
 | panic x=>simp only[opA,h x (by simp[Op.operands])]
 | _=>rfl
theorem zI0 {fid:FuncId}{op:Op}(h:∀x∈op.operands.toList,zAD fr x=zAD fr' x):opQ E fid fr op s=opQ E fid fr' op s:=by
 cases op with
 | call c=>
  have ha:zBR fr c.args.toList=zBR fr' c.args.toList:=evalOs_congr fun x hx=>h x (by simp[Op.operands,Call.operands,Array.mem_toList_iff.1 hx])
  simp only[opQ,zUO,ha]
 | slice t x lo hi mx=>
  cases mx with
  | some _=>rfl
  | none=>
   simp only[opQ]
   rw[h x (by simp[Op.operands]),zKC (fun y hy=>h y (by subst hy;simp[Op.operands])) (fun y hy=>h y (by subst hy;simp[Op.operands])) (fun y hy=>by cases hy)]
 | build t ps=>
  have:zBW fr ps.toList=zBW fr' ps.toList:=evalPs_congr fun x hx=>h x.2 (by simp[Op.operands];exact⟨x.1,Array.mem_toList_iff.1 hx⟩)
  simp only[opQ,zDL,this]
 | buildSlice t n ps=>
  have:zBW fr ps.toList=zBW fr' ps.toList:=evalPs_congr fun x hx=>h x.2 (by simp[Op.operands];exact⟨x.1,Array.mem_toList_iff.1 hx⟩)
  simp only[opQ,zE2,this]
 | makeFunc fn a b=>
  have h1:zBR fr a.toList=zBR fr' a.toList:=evalOs_congr fun x hx=>h x (by simp[Op.operands,Array.mem_toList_iff.1 hx])
  have h2:zBR fr b.toList=zBR fr' b.toList:=evalOs_congr fun x hx=>h x (by simp[Op.operands,Array.mem_toList_iff.1 hx])
  simp only[opQ,zCN,h1,h2]
 | move x=>simp only[opQ,h x (by simp[Op.operands])]
 | assign x=>simp only[opQ,h x (by simp[Op.operands])]
 | pick c a b=>simp only[opQ,h c (by simp[Op.operands]),h a (by simp[Op.operands]),h b (by simp[Op.operands])]
 | load t a=>simp only[opQ,h a (by simp[Op.operands])]
 | nilCheck x=>simp only[opQ,h x (by simp[Op.operands])]
 | binOp op t x y yt=>simp only[opQ,h x (by simp[Op.operands]),h y (by simp[Op.operands])]
 | unOp op t x=>simp only[opQ,h x (by simp[Op.operands])]
 | makeInterface t x=>simp only[opQ,h x (by simp[Op.operands])]
 | makeSlice t l c=>simp only[opQ,h l (by simp[Op.operands]),h c (by simp[Op.operands])]
 | fieldAddr t x i=>simp only[opQ,h x (by simp[Op.operands])]
 | field t x i=>simp only[opQ,h x (by simp[Op.operands])]
 | indexAddr t x i=>simp only[opQ,h x (by simp[Op.operands]),h i (by simp[Op.operands])]
 | index t x i=>simp only[opQ,h x (by simp[Op.operands]),h i (by simp[Op.operands])]
 | lookup t x i ok=>simp only[opQ,h x (by simp[Op.operands]),h i (by simp[Op.operands])]
 | typeAssert x xt t ok=>simp only[opQ,h x (by simp[Op.operands])]
 | extract x i=>simp only[opQ,h x (by simp[Op.operands])]
 | _=>rfl
theorem zDP (x:Option AV):valOf (nv s x)=x:=by cases x<;>rfl
theorem zYY {op:BinOp}(h1:op≠.eql)(h2:op≠.neq)(b:Bool):eqOp op b=none:=by
 cases op<;>first|rfl|exact absurd rfl h1|exact absurd rfl h2
theorem zP4 {op:BinOp}(h1:op≠.eql)(h2:op≠.neq)(d:TD)(c:Bool)(x y:AV):eqTy E op d c x y s=none:=by
 have e:=zYY h1 h2
 unfold eqTy
 split
 ·split
  ·split<;>simp[e]
  ·rfl
 ·unfold zL8
  split
  ·split
   ·rw[cond_eq_ite];split<;>simp[e]
   ·simp[e]
   ·rfl
  ·split
   ·simp[e]
   ·rw[cond_eq_ite];split<;>simp[e]
   ·rfl
  ·rfl
 ·unfold zVG
  split
  ·split<;>simp[e]
  ·split
   ·simp[e]
   ·rw[cond_eq_ite];split<;>simp[e]
   ·rfl
  ·split<;>simp[e]
  ·split<;>simp[e]
  ·rfl
 ·unfold zNP
  split
  ·split<;>simp[e]
  ·split<;>simp[e]
  ·rfl
 ·unfold zND
  split
  ·split<;>simp[e]
  ·rfl
 ·rfl
theorem zVT {op:BinOp}(h1:op≠.eql)(h2:op≠.neq)(t:TypeId)(c:Bool)(x y:AV):binA E op t c x y s=binA E op t c x y s':=by
 unfold binA
 split
 ·rfl
 ·rfl
 ·rw[zP4 h1 h2,zP4 h1 h2]
theorem zXL {fid:FuncId}{op:Op}(h:indep op=true):opQ E fid fr op s=opQ E fid fr op s':=by
 cases op with
 | pick c a b=>
  simp only[opQ,zHC]
  split
  ·rw[zDP,zDP]
  ·rfl
 | build t ps=>
  simp only[opQ,zDL]
  split
  ·split
   ·split<;>rfl
   ·split<;>rfl
   ·rfl
  ·rfl
 | nilCheck x=>simp only[opQ,oNil];split<;>rfl
 | unOp op t x=>
  simp only[opQ,oUn]
  split
  ·split<;>rfl
  ·split
   ·rfl
   ·rw[zDP,zDP]
   ·rfl
  ·rfl
 | makeInterface t x=>
  simp only[opQ,zI2]
  split
  ·split<;>rfl
  ·rfl
 | makeFunc fn a b=>
  simp only[opQ,zCN]
  split
  ·split
   ·split<;>rfl
   ·rfl
  ·rfl
 | fieldAddr t x i=>
  simp only[opQ,zB4]
  split
  ·split
   ·split
    ·rfl
    ·rfl
    ·rw[cond_eq_ite,cond_eq_ite];split<;>rfl
    ·rfl
   ·rfl
  ·rfl
 | field t x i=>
  simp only[opQ,zH7]
  split
  ·split
   ·split
    ·rw[zDP,zDP]
    ·rfl
   ·rfl
  ·rfl
 | index t x i=>
  simp only[opQ,zHD]
  split
  ·split
   ·split
    ·split
     ·split
      ·split<;>rfl
      ·rfl
     ·split
      ·rw[cond_eq_ite,cond_eq_ite];split
       ·rw[zDP,zDP]
       ·rfl
      ·rfl
     ·rfl
    ·rfl
   ·rfl
  ·rfl
 | typeAssert x xt t ok=>
  simp only[opQ,zE3]
  split
  ·rfl
  ·rfl
  ·split
   ·simp only[cond_eq_ite];split
    ·rfl
    ·split<;>rfl
   ·simp only[cond_eq_ite];split<;>rfl
   ·rfl
 | extract x i=>
  simp only[opQ,zEA]
  split
  ·rw[zDP,zDP]
  ·rfl
 | binOp op t x y yt=>
  have hne:op≠.eql∧op≠.neq:=by
   constructor
   ·rintro rfl;cases h
   ·rintro rfl;cases h
  simp only[opQ,oBin]
  split
  ·split
   ·simp only[zDP];exact zVT hne.1 hne.2 _ _ _ _
   ·rfl
  ·rfl
 | move x=>rfl
 | assign x=>rfl
 | buildSlice t n ps=>rfl
 | makeSlice t l c=>rfl
 | _=>cases h
end
theorem zTD {t:Nat}:∀{l:List Nat},memT t l=true↔t∈l:=by
 intro l
 induction l with
 | nil=>simp[memT]
 | cons a r ih=>
  simp only[memT,cond_eq_ite]
  split
  ·rename_i h;simp[Nat.eq_of_beq_eq_true h]
  ·rename_i h
   have hne:t≠a:=fun e=>h (by rw[e];exact Nat.beq_refl _)
   rw[ih];simp[hne]
theorem mem_dsts {t:Tmp}:∀{ops:List Oper} {j:Nat} {o:Oper},ops[j]?=some o→o.dst=some t→t∈dsts ops:=by
 intro ops
 induction ops with
 | nil=>intro j o h;simp at h
 | cons a r ih=>
  intro j o h hd
  simp only[dsts]
  cases j with
  | zero=>simp at h;subst h;rw[hd];exact .head _
  | succ j=>
   have:=ih (j:=j) (by simpa using h) hd
   split
   ·exact .tail _ this
   ·exact this
theorem zOG {t:Tmp}:∀{ops:List Oper} {k j:Nat} {o:Oper},nodupT (dsts ops)=true→ops[j]?=some o→o.dst=some t→maker t ops k=some (k+j):=by
 intro ops
 induction ops with
 | nil=>intro k j o _ h;simp at h
 | cons a r ih=>
  intro k j o hn h hd
  simp only[dsts] at hn
  simp only[maker]
  cases j with
  | zero=>simp at h;subst h;rw[hd];simp only[Nat.beq_refl,cond_true];rfl
  | succ j=>
   have hj:r[j]?=some o:=by simpa using h
   split
   ·rename_i d hda
    rw[hda] at hn
    simp only[nodupT,cond_eq_ite] at hn
    split at hn
    ·cases hn
    ·rename_i hmem
     have hne:¬ Nat.beq d t=true:=fun e=>hmem (by rw[Nat.eq_of_beq_eq_true e];exact zTD.2 (mem_dsts hj hd))
     rw[cond_eq_ite,if_neg hne,ih hn hj hd]
     congr 1;omega
   ·rename_i hda
    rw[hda] at hn
    rw[ih hn hj hd]
    congr 1;omega
theorem dst_inj {ops:List Oper}(hn:nodupT (dsts ops)=true){i j:Nat}{o p:Oper}{t:Tmp}(hi:ops[i]?=some o)(hj:ops[j]?=some p)(h1:o.dst=some t)(h2:p.dst=some t):i=j:=by
 have a:=zOG (k:=0) hn hi h1
 have b:=zOG (k:=0) hn hj h2
 rw[a] at b;injection b with b;omega
theorem zNE {t:Tmp}:∀{l:List Operand},t∈tmpsOf l↔Operand.tmp t∈l:=by
 intro l
 induction l with
 | nil=>simp[tmpsOf]
 | cons a r ih=>
  cases a with
  | tmp u=>simp[tmpsOf,ih]
  | _=>simp[tmpsOf,ih]
theorem zF8 {fr fr':Fr}{l:List Operand}(h:∀t∈tmpsOf l,lget fr.tmps t=lget fr'.tmps t):∀x∈l,zAD fr x=zAD fr' x:=by
 intro x hx
 cases x with
 | tmp t=>simp only[zAD];rw[h t (zNE.2 hx)]
 | _=>rfl
theorem zET {ops:List Oper}{fr fr':Fr}{o:Oper}(h:∀t∈zL1 ops o,lget fr.tmps t=lget fr'.tmps t):zAM ops fr o.guard=zAM ops fr' o.guard:=by
 unfold zL1 at h
 unfold zAM
 cases hg:o.guard with
 | none=>rfl
 | some p=>
  obtain⟨j,wnt⟩:=p
  rw[hg] at h
  simp only at h ⊢
  unfold zKO
  cases hj:zB7 ops j with
  | none=>rfl
  | some q=>
   rw[hj] at h
   obtain⟨qd,qo,q1,q2,q3,q4⟩:=q
   cases qd with
   | none=>rfl
   | some d=>simp only[h d (.head _)]
def zUP (r:Rec):Nx→Option (CR×Sto)
 | .val v s=>some (.ret v,s)
 | .call f args s=>(match r.call f args none s with|some (cr,_,s)=>some (cr,s)|none=>none)
 | .round l args s=>zFA r l args s
 | .panic v s=>some (.panic v,s)
 | _=>none
def plainNx:Nx→Bool
 | .defer _ _ _=>false
 | .recover _=>false
 | _=>true
section
variable {P:Program}{OK:FuncId→Code→Prop}{r:Rec}{E:Env}{fid:FuncId}{fr:Fr}{s:Sto}
 {base:Nat} {w0:World} {g:Gh} {w:World} {tm:Array Value} {df:List Deferred} {kd:CallKind} {rn:Option Nat} {cs:List Frame} {k:List Item}
theorem zT4 {dst:Option Tmp}{nx:Nx}{kont:Fr→Sto→Option (Out×Fr×Sto)}(hp:plainNx nx=true){fin:Out×Fr×Sto}(h:zBN r E fid dst fr nx kont=some fin) :
  (∃v s1,zUP r nx=some (.ret v,s1)∧kont (fr.put dst v) s1=some fin)∨(∃v s1,zUP r nx=some (.panic v,s1)∧fin=(.panic v,fr,s1)):=by
 cases nx with
 | val v s1=>exact .inl ⟨v,s1,rfl,h⟩
 | call f args s1=>
  simp only[zBN] at h
  split at h
  ·rename_i v b s2 hc;exact .inl ⟨v,s2,by simp only[zUP,hc],h⟩
  ·rename_i v b s2 hc;cases h;exact .inr ⟨v,s2,by simp only[zUP,hc],rfl⟩
  ·cases h
 | round l args s1=>
  simp only[zBN] at h
  split at h
  ·rename_i v s2 hc;exact .inl ⟨v,s2,hc,h⟩
  ·rename_i v s2 hc;cases h;exact .inr ⟨v,s2,hc,rfl⟩
  ·cases h
 | panic v s1=>simp only[zBN] at h;cases h;exact .inr ⟨v,s1,rfl,rfl⟩
 | defer f a s1=>cases hp
 | recover s1=>cases hp
 | no=>simp[zBN] at h
theorem zXM {op:Op}(h:loudOk op=true):plainNx (opA E fid fr op s)=true:=by
 have hv:∀{nx:Nx},isV nx=true→plainNx nx=true:=by intro nx h;cases nx<;>first|rfl|cases h
 cases op with
 | call c=>
  simp only[opA]
  unfold zOE
  split
  ·split
   ·split
    ·rfl
    ·split
     ·unfold zIM;split<;>rfl
     ·rfl
   ·unfold zRC;split
    ·rw[cond_eq_ite];split
     ·split<;>rfl
     ·rfl
    ·rfl
   ·rename_i b hcal
    simp only[loudOk,hcal] at h
    unfold zGS
    split
    ·refine hv ?_
     unfold zJ5
     split
     ·split
      ·split
       ·dsimp only;rw[cond_eq_ite];split
        ·split
         ·rw[cond_eq_ite];split
          ·exact zJX _
          ·rfl
         ·rfl
        ·rw[cond_eq_ite];split
         ·split
          ·exact zJX _
          ·rfl
         ·rfl
       ·rfl
      ·rfl
     ·rfl
    ·unfold bLen;split
     ·split<;>rfl
     ·rfl
    ·unfold bMin;split
     ·split<;>rfl
     ·rfl
    ·unfold bMax;split
     ·split<;>rfl
     ·rfl
    ·cases h
    ·unfold zZ0;split
     ·split
      ·split
       ·split
        ·rw[cond_eq_ite];split<;>rfl
        ·rfl
       ·rfl
      ·rfl
     ·rfl
    ·unfold zQH;split
     ·rfl
     ·split
      ·split
       ·rw[cond_eq_ite];split<;>rfl
       ·rfl
      ·rfl
     ·rfl
    ·unfold bCap;split
     ·split<;>rfl
     ·rfl
    ·unfold zQG;split<;>rfl
    ·unfold zJK;split
     ·split
      ·split
       ·split
        ·rw[cond_eq_ite];split
         ·dsimp only;rw[cond_eq_ite];split
          ·split<;>rfl
          ·rfl
         ·rfl
        ·rfl
       ·rfl
       ·rfl
      ·rfl
     ·rfl
    ·rfl
  ·rfl
 | defer c=>cases h
 | panic x=>simp only[opA];unfold zXQ;split<;>rfl
 | move x=>exact hv (zHG _ _)
 | assign x=>exact hv (zHG _ _)
 | pick c a b=>exact hv (zTI ..)
 | alloc e=>rfl
 | box e x=>exact hv (zYE ..)
 | build t ps=>exact hv (zPZ ..)
 | buildSlice t n ps=>exact hv (zH8 ..)
 | load t a=>exact hv (zTJ ..)
 | store t a x=>exact hv (zPT ..)
 | nilCheck x=>exact hv (zYD _)
 | binOp op t x y yt=>exact hv (zYF ..)
 | unOp op t x=>exact hv (isV_un ..)
 | convert a b x=>exact hv (zLW ..)
 | makeInterface t x=>exact hv (zPW ..)
 | makeFunc fn a b=>exact hv (zKD ..)
 | makeMap t r=>rfl
 | makeSlice t l c=>exact hv (zI8 ..)
 | slice t x lo hi mx=>exact hv (zPU ..)
 | fieldAddr t x i=>exact hv (zJA ..)
 | field t x i=>exact hv (zPY ..)
 | indexAddr t x i=>exact hv (zI9 ..)
 | index t x i=>exact hv (zPV ..)
 | lookup t x i ok=>exact hv (zNH ..)
 | mapUpdate t m k x=>exact hv (zHZ ..)
 | insert t m k x=>exact hv (zHZ ..)
 | typeAssert x xt t ok=>exact hv (zNI ..)
 | extract x i=>exact hv (zLV ..)
 | _=>rfl
def StepTo (P:Program)(fid:FuncId)(kd:CallKind)(rn:Option Nat)(tm:Array Value)(df:List Deferred)(ops:Array Oper)(rest:List Nat)(k:List Item)(cs:List Frame)(m:Machine)(dst:Option Tmp)(g:Gh)(n:Nat)(w:World):CR→Prop
 | .ret v=>∃v',VR g v v'∧top v≤n∧Steps P m (lone (mk fid kd rn (putT dst v' tm) df (.inRegion ops rest :: k)) cs w)
 | .panic v=>∃v' k2,VR g v v'∧isI v=true∧top v≤n∧Steps P m (lone { mk fid kd rn tm df k2 with mode:=.panicking [{ v:=v',recovered:=false }] } cs w)
theorem zXJ (hc:CallSim P OK r)(hro:zFK P OK r){ops:Array Oper}{i:Nat}{rest:List Nat}{o:Oper}{nx:Nx}{cr:CR}{s1:Sto}
  (h:zUP r nx=some (cr,s1)) (ho:ops[i]?=some o) (hw:Region.wanted o (yielded ops tm)=true) (hop:OpR P base w0 g s w tm o nx) (hd:isDefer o.op=false) (hok:g.ok=OK) (hrel:Rel base w0 g s w) :
  ∃g1 w1,Grows s.n g g1∧Rel base w0 g1 s1 w1∧s.n≤s1.n∧
   StepTo P fid kd rn tm df ops rest k cs (lone (mk fid kd rn tm df (.inRegion ops (i :: rest) :: k)) cs w) o.dst g1 s1.n w1 cr:=by
 have hd:rn=none∨isDefer o.op=false:=.inr hd
 have hfin:∀v,(mk fid kd rn tm df (.inRegion ops (i :: rest) :: k)).finish v=mk fid kd rn (putT o.dst v tm) df (.inRegion ops rest :: k):=by
  intro v;rw[zE4,ho];rfl
 cases nx with
 | val v s2=>
  cases h
  obtain⟨v',w1,g1,hrun,hrel1,hg,hv,ht,hn⟩:=hop
  refine⟨g1,w1,hg,hrel1,hn,v',hv,ht,.one ?_⟩
  rcases hrun with hrun|⟨hrun,rfl⟩
  ·exact zFD ho hw hd hrun
  ·exact zHV ho hw hd hrun
 | call f args s2=>
  obtain⟨rfl,args',hrun,ha,hta⟩:=hop
  simp only[zUP] at h
  split at h
  ·rename_i cr' b s3 hcall
   cases h
   obtain⟨g1,w1,hg,hrel1,hn,hm⟩:=hc.norm hcall hok hrel ha hta (mk fid kd rn tm df (.inRegion ops (i :: rest) :: k)) cs
   refine⟨g1,w1,hg,hrel1,hn,?_⟩
   cases cr with
   | ret v=>
    obtain⟨v',hv,ht,hm⟩:=hm
    refine⟨v',hv,ht,?_⟩
    rcases hm with hm|⟨hm,hst⟩
    ·exact .one (zFD ho hw hd (hrun.trans hm))
    ·rw[hfin] at hst
     exact .head (zKR ho hw hd (hrun.trans hm)) hst
   | panic v=>
    obtain⟨v',hv,hi,ht,hm,hst⟩:=hm
    exact⟨v',_,hv,hi,ht,.head (zKR ho hw hd (hrun.trans hm)) hst⟩
  ·cases h
 | round l args s2=>
  obtain⟨rfl,hl',args',hrun,ha,hta⟩:=hop
  obtain⟨g1,w1,f1,ts,as,body,hg,hrel1,hn,hy,hm⟩:=hro h hok hrel hl' ha hta (mk fid kd rn tm df (.inRegion ops (i :: rest) :: k)) cs
  refine⟨g1,w1,hg,hrel1,hn,?_⟩
  cases cr with
  | ret v=>
   obtain⟨v',hv,ht,hst⟩:=hm
   rw[hfin] at hst
   exact⟨v',hv,ht,.head (zKQ ho hw hd (hrun.trans hy)) hst⟩
  | panic v=>
   obtain⟨v',hv,hi,ht,hst⟩:=hm
   exact⟨v',_,hv,hi,ht,.head (zKQ ho hw hd (hrun.trans hy)) hst⟩
 | panic v s2=>
  obtain⟨rfl,hi,ht,v',hrun,hv⟩:=hop
  cases h
  exact⟨g,w,.refl _ _,hrel,Nat.le_refl _,v',_,hv,hi,ht,.one (zS0 ho hw hd hrun)⟩
 | defer f a s2=>cases h
 | recover s2=>cases h
 | no=>cases h
end
theorem zYC {a b:IntKind}(h:keq a b=true):a=b:=by rw[zPS] at h;exact of_decide_eq_true h
theorem zW5 {f:AV→Bool}{l:List AV→Bool}{m:List AV}(h:qCons f l m=true):∃b r,m=b :: r∧f b=true∧l r=true:=by
 cases m with
 | nil=>cases h
 | cons b r=>
  simp only[qCons,cond_eq_ite] at h
  split at h
  ·rename_i hf;exact⟨b,r,rfl,hf,h⟩
  ·cases h
def beqL (l:List AV):List AV→Bool:=
 AV.rec_1 (motive_1:=fun _=>AV→Bool) (motive_2:=fun _=>List AV→Bool)
  qBool qInt qStr qNilptr qPtr qEptr (fun t _ ih=>qRptr t ih) (fun t _ o ih=>qSl t o ih) qOsl qNilmap qMap
  (fun t f _ _ iha ihb=>qFunc t f iha ihb) qNilfunc (fun t _ ih=>qIface t ih) qNiliface (fun _ ih=>qAgg ih) (fun _ ih=>qTuple ih)
  qNil (fun _ _ a l=>qCons a l) l
theorem ownB_inv {a b:Own}(h:ownB a b=true):a=b:=by cases a<;>cases b<;>first|rfl|cases h
theorem zJJ {a b:AV}(h:beqV a b=true):a=b:=by
 have key:∀a:AV,∀b:AV,beqV a b=true→a=b:=by
  intro a
  refine AV.rec (motive_1:=fun a=>∀b:AV,beqV a b=true→a=b) (motive_2:=fun l=>∀m:List AV,beqL l m=true→l=m)
   ?_ ?_ ?_ ?_ ?_ ?_ ?_ ?_ ?_ ?_ ?_ ?_ ?_ ?_ ?_ ?_ ?_ ?_ ?_ a
  ·intro x b h
   cases b with
   | bool c=>cases x<;>cases c<;>first|rfl|cases h
   | _=>cases h
  ·intro k n b h
   cases b with
   | int j m=>
    have h:(keq k j&&ieq n m)=true:=h
    rw[Bool.and_eq_true,zJC] at h
    rw[zYC h.1,of_decide_eq_true h.2]
   | _=>cases h
  ·intro l b h
   cases b with
   | str m=>
    have h:bytesEq l m=true:=h
    rw[zD9] at h
    rw[of_decide_eq_true h]
   | _=>cases h
  ·intro b h;cases b<;>first|rfl|cases h
  ·intro k o b h
   cases b with
   | ptr j p=>
    have h:(Nat.beq k j&&Nat.beq o p)=true:=h
    rw[Bool.and_eq_true] at h
    rw[Nat.eq_of_beq_eq_true h.1,Nat.eq_of_beq_eq_true h.2]
   | _=>cases h
  ·intro k i o b h
   cases b with
   | eptr j q p=>
    have h:(Nat.beq k j&&(Nat.beq i q&&Nat.beq o p))=true:=h
    rw[Bool.and_eq_true,Bool.and_eq_true] at h
    rw[Nat.eq_of_beq_eq_true h.1,Nat.eq_of_beq_eq_true h.2.1,Nat.eq_of_beq_eq_true h.2.2]
   | _=>cases h
  ·intro t cs ih b h
   cases b with
   | rptr u ds=>
    have h:(Nat.beq t u&&beqL cs ds)=true:=h
    rw[Bool.and_eq_true] at h
    rw[Nat.eq_of_beq_eq_true h.1,ih ds h.2]
   | _=>cases h
  ·intro t xs o ih b h
   cases b with
   | sl u ys p=>
    have h:(Nat.beq t u&&(ownB o p&&beqL xs ys))=true:=h
    rw[Bool.and_eq_true,Bool.and_eq_true] at h
    rw[Nat.eq_of_beq_eq_true h.1,ownB_inv h.2.1,ih ys h.2.2]
   | _=>cases h
  ·intro k o n b h
   cases b with
   | osl j p m=>
    have h:(Nat.beq k j&&(Nat.beq o p&&Nat.beq n m))=true:=h
    rw[Bool.and_eq_true,Bool.and_eq_true] at h
    rw[Nat.eq_of_beq_eq_true h.1,Nat.eq_of_beq_eq_true h.2.1,Nat.eq_of_beq_eq_true h.2.2]
   | _=>cases h
  ·intro b h;cases b<;>first|rfl|cases h
  ·intro k b h
   cases b with
   | map j=>have h:Nat.beq k j=true:=h;rw[Nat.eq_of_beq_eq_true h]
   | _=>cases h
  ·intro t f xs ys ihx ihy b h
   cases b with
   | func u f2 xs2 ys2=>
    have h:(Nat.beq t u&&(decide (f=f2)&&(beqL xs xs2&&beqL ys ys2)))=true:=h
    rw[Bool.and_eq_true,Bool.and_eq_true,Bool.and_eq_true] at h
    rw[Nat.eq_of_beq_eq_true h.1,of_decide_eq_true h.2.1,ihx xs2 h.2.2.1,ihy ys2 h.2.2.2]
   | _=>cases h
  ·intro b h;cases b<;>first|rfl|cases h
  ·intro t v ih b h
   cases b with
   | iface u v2=>
    have h:(Nat.beq t u&&beqV v v2)=true:=h
    rw[Bool.and_eq_true] at h
    rw[Nat.eq_of_beq_eq_true h.1,ih v2 h.2]
   | _=>cases h
  ·intro b h;cases b<;>first|rfl|cases h
  ·intro cs ih b h
   cases b with
   | agg ds=>have h:beqL cs ds=true:=h;rw[ih ds h]
   | _=>cases h
  ·intro cs ih b h
   cases b with
   | tuple ds=>have h:beqL cs ds=true:=h;rw[ih ds h]
   | _=>cases h
  ·intro m h;cases m<;>first|rfl|cases h
  ·intro v l ihv ihl m h
   obtain⟨b,r,rfl,h1,h2⟩:=zW5 (f:=beqV v) (l:=beqL l) h
   rw[ihv b h1,ihl r h2]
 exact key a b h
section
variable {base:Nat}{w0:World}{g g':Gh}{s:Sto}{w w':World}
theorem BoxR.grw {k n:Nat}{b:Box}(hb:BoxR g w k b)(hg:Grw n g g')(hok:g'.ok=g.ok)(hk:k<n)(ht:boxTop b≤n)
  (hh:w'.heap[g.mu k]?=w.heap[g.mu k]?) (hC:∀o,g'.C (g.mu k) o=g.C (g.mu k) o):BoxR g' w' k b:=by
 have emu:=hg.mu k hk
 cases b with
 | cells cs=>
  obtain⟨arr,h1,h2,h3⟩:=hb
  exact⟨arr,by rw[emu,hh];exact h1,h2.grw hg ht,fun o=>by rw[emu,hC];exact h3 o⟩
 | row es xs sl=>
  obtain⟨arr,h1,h2,h3,h4,h5,h6,h7,h8,h9⟩:=hb
  refine⟨arr,by rw[emu,hh];exact h1,h2,by rw[hg.es k hk];exact h3,by rw[hg.rl k hk];exact h4,by rw[hg.bs k hk];exact h5,h6,h7,fun i x j c hi hj=>?_,fun o v hv=>?_⟩
  ·obtain⟨v,hv,hr⟩:=h8 i x j c hi hj
   exact⟨v,hv,hr.grw hg (zGI ht hi hj)⟩
  ·rw[emu,hC] at hv;exact h9 o v hv
 | mapb es=>
  obtain⟨ents,clock,h1,h2,h3,h4⟩:=hb
  refine⟨ents,clock,by rw[emu,hh];exact h1,h2,fun i x e hi he=>?_,fun o=>by rw[emu,hC];exact h4 o⟩
  have:=zIO ht x (List.mem_of_getElem? hi)
  exact⟨(h3 i x e hi he).1.grw hg this.1,(h3 i x e hi he).2.grw hg this.2⟩
 | loop lb=>
  obtain⟨lp,d,h1,h2,h3,h4,h5,h6,h7,h8,h9,h11,h10⟩:=hb
  exact⟨lp,d,by rw[emu,hh];exact h1,h2,h3,h4,h5.grw hg ht,h6,h7,h8,h9,by rw[hok];exact h11,fun o=>by rw[emu,hC];exact h10 o⟩
 | mark=>exact⟨by rw[emu,hh];exact hb.1,fun o=>by rw[emu,hC];exact hb.2 o⟩
 | dead=>trivial
theorem Grw.reZ (g:Gh)(n:Nat)(Z':Nat→Option Obj):Grw n g { g with Z:=Z' }:=⟨fun _ _=>rfl,fun _ _=>rfl,fun _ _=>rfl,fun _ _=>rfl,fun _ _ _ h=>h⟩
theorem Grw.refl (n:Nat)(g:Gh):Grw n g g:=⟨fun _ _=>rfl,fun _ _=>rfl,fun _ _=>rfl,fun _ _=>rfl,fun _ _ _ h=>h⟩
theorem Grw.trans {n:Nat}{g g' g'':Gh}(h:Grw n g g')(h':Grw n g' g''):Grw n g g'':=
 ⟨fun k hk=>(h'.mu k hk).trans (h.mu k hk),fun k hk=>(h'.es k hk).trans (h.es k hk),fun k hk=>(h'.rl k hk).trans (h.rl k hk),
  fun k hk=>(h'.bs k hk).trans (h.bs k hk),fun b o v hv=>h'.C b o v (h.C b o v hv)⟩
theorem Grw.less {n m:Nat}{g g':Gh}(h:Grw n g g')(hm:m≤n):Grw m g g':=
 ⟨fun k hk=>h.mu k (by omega),fun k hk=>h.es k (by omega),fun k hk=>h.rl k (by omega),fun k hk=>h.bs k (by omega),h.C⟩
theorem Rel.reZ (h:Rel base w0 g s w){Z':Nat→Option Obj}(hs:∀b o,Z' b=some o→g.Z b=some o):Rel base w0 { g with Z:=Z' } s w:=
 ⟨h.len,fun k hk=>(h.box k hk).grw (Grw.reZ g s.n Z') rfl hk (h.top k hk) rfl (fun _=>rfl),h.at_,h.inj,h.top,h.ups,h.C,h.size,h.old,h.oldC,fun b o hz=>h.Z b o (hs b o hz),h.os⟩
theorem Rel.hold (h:Rel base w0 g s w)(o:Obj):Rel base w0 { g with Z:=fun b=>if b=w.heap.size then some o else g.Z b } s (Ab.push w o):=by
 have hlt:∀k,k<s.n→liveBox (s.get k)=true→g.mu k<w.heap.size:=fun k hk hl=>(h.at_ k hk hl).2
 refine⟨h.len,?_,?_,h.inj,h.top,h.ups,fun b i v hv=>zIZ (h.C b i v hv),⟨h.size.1,by rw[zEJ];have:=h.size.2;omega⟩,?_,h.oldC,?_,h.os⟩
 ·intro k hk
  by_cases hl:liveBox (s.get k)=true
  ·exact(h.box k hk).grw (Grw.reZ g s.n _) rfl hk (h.top k hk) (zDS (hlt k hk hl)) (fun _=>rfl)
  ·cases hb:s.get k<;>rw[hb] at hl<;>simp[liveBox] at hl
   trivial
 ·intro k hk hl
  have:=h.at_ k hk hl
  exact⟨this.1,by rw[zEJ];exact Nat.lt_succ_of_lt this.2⟩
 ·intro b hb
  have hlt2:b<w.heap.size:=by have:=h.size.2;omega
  rw[zDS hlt2]
  exact h.old b hb
 ·intro b o' hz
  have hz:(if b=w.heap.size then some o else g.Z b)=some o':=hz
  by_cases e:b=w.heap.size
  ·rw[if_pos e] at hz
   cases hz
   subst e
   exact⟨zFH w _,fun k hk hl=>Nat.ne_of_lt (hlt k hk hl),fun i=>zQQ h i⟩
  ·rw[if_neg e] at hz
   obtain⟨z1,z2,z3⟩:=h.Z b o' hz
   exact⟨by rw[zDS (Array.getElem?_eq_some_iff.1 z1).1];exact z1,z2,z3⟩
theorem Rel.attach (h:Rel base w0 g s w){b0:Nat}{arr:Array Value}{ty:TypeId}{cs:List AV}(hz:g.Z b0=some (.cells arr ty))(hb:base≤b0)(hv:VRs g cs arr)(ht:tops cs≤s.n) :
  Rel base w0 { g.with s.n b0 0 0 0 with Z:=fun b=>if b=b0 then none else g.Z b } (s.alloc (.cells ty cs)) w:=by
 obtain⟨z1,z2,z3⟩:=h.Z b0 _ hz
 have h1:=h.reZ (Z':=fun b=>if b=b0 then none else g.Z b) (fun b o hz=>by
  split at hz
  ·cases hz
  ·exact hz)
 have hgr:=Gh.with_grows { g with Z:=fun b=>if b=b0 then none else g.Z b } s.n b0 0 0 0
 refine h1.alloc b0 0 0 0 (.cells ty cs) (fun _ _ _=>rfl) (Nat.le_refl _) z2 (by simp) ⟨hb,(Array.getElem?_eq_some_iff.1 z1).1⟩ h.C ?_ (by show tops cs≤s.n+1;omega)
 exact⟨arr,by rw[zBS];exact z1,(hv.grw (Grw.reZ g s.n _) ht).grows hgr ht,fun o=>by rw[zBS];exact z3 o⟩
theorem DfR.grw {n m:Nat}{x:AV×List AV}{d:Deferred}(h:DfR g n x d)(hg:Grw n g g')(hm:n≤m):DfR g' m x d:=by
 cases h with
 | mark k l hk=>rw[← hg.mu k hk];exact .mark k l (by omega)
 | call t h a b args a' b' args' ha hb hs ta tb ts=>
  exact .call t h a b args a' b' args' (ha.grw hg ta) (hb.grw hg tb) (hs.grw hg ts) (by omega) (by omega) (by omega)
theorem DfsR.grw {n m:Nat}(hg:Grw n g g')(hm:n≤m):∀{xs:List (AV×List AV)} {ds:List Deferred},DfsR g n xs ds→DfsR g' m xs ds:=by
 intro xs
 induction xs with
 | nil=>intro ds h;cases ds<;>exact h
 | cons x xs ih=>
  intro ds h
  cases ds with
  | nil=>exact h
  | cons d ds=>exact⟨h.1.grw hg hm,ih h.2⟩
theorem RecR.grw {n m:Nat}{kd:CallKind}{r:Option AV}{cs:List Frame}(h:RecR g n kd r cs)(hg:Grw n g g')(hm:n≤m):RecR g' m kd r cs:=by
 cases r with
 | none=>exact h
 | some v=>
  cases v with
  | iface t v=>
   obtain⟨h1,c,rest,v',h2,h3,h4,h5⟩:=h
   exact⟨h1,c,rest,v',h2,h3,h4.grw hg h5,by omega⟩
  | _=>trivial
end
def zc (P:Program)(e:TypeId):Array Value:=match(P.info? e).bind (·.zero) with|some z=>z.cells|none=>#[]
theorem zZ6 {E:Env}{P:Program}{e:TypeId}(hE:TIR E P e (E.types e))(w:World):(Instr.alloc e true (.tuple #[])).run P w=.ok (.pointer (some ⟨w.heap.size,0,none⟩)) (push w (.cells (zc P e) e)):=by
 obtain⟨i,z,h1,h2,h3,h4,h5,h6,h7,h8⟩:=hE.info
 have hz:(zeroValue e).run P w=.ok z w:=by simp[zeroValue,typeInfo,h1,h4]
 have hzc:zc P e=z.cells:=by unfold zc;rw[h1];simp[h4]
 rw[hzc]
 simp[Instr.alloc,hz,newVar,newRow,zD5]
 try rfl
theorem zSK {E:Env}{P:Program}{e:TypeId}(hE:TIR E P e (E.types e))(g:Gh):VRs g (cellsOf (zAK (E.types e))) (zc P e)∧tops (cellsOf (zAK (E.types e)))=0:=by
 obtain⟨i,z,h1,h2,h3,h4,h5,h6,h7,h8⟩:=hE.info
 obtain⟨z',k1,k2,k3,k4,k5,k6⟩:=hE.zero g default
 have hz:(zeroValue e).run P default=.ok z default:=by simp[zeroValue,typeInfo,h1,h4]
 rw[hz] at k1;cases k1
 have hzc:zc P e=z.cells:=by unfold zc;rw[h1];simp[h4]
 rw[hzc,zCC]
 exact⟨k2.cells,k3⟩
theorem zE7 {l:List AV}{t u:Nat}{v:AV}:lget (lset v l t) u=if t=u∧t<l.length then v else lget l u:=by
 rw[zCJ,zCJ,List.getD_eq_getElem?_getD,List.getD_eq_getElem?_getD,zGN]
 split<;>rfl
theorem zEB {fr:Fr}{d:Option Tmp}{v:AV}{u:Nat}(h:d≠some u):lget (fr.put d v).tmps u=lget fr.tmps u:=by
 cases d with
 | none=>rfl
 | some t=>
  show lget (lset v fr.tmps t) u=_
  rw[zE7,if_neg (by intro e;exact h (by rw[e.1]))]
theorem zDR (fr:Fr)(d:Option Tmp)(v:AV):(fr.put d v).tmps.length=fr.tmps.length:=by
 cases d with
 | none=>rfl
 | some t=>show(lset v fr.tmps t).length=_;rw[zFR];simp
theorem zDA {p i:Nat}:∀{l:List Nat},i∈zFU p l↔i∈l∧hasM p i=false:=by
 intro l
 induction l with
 | nil=>simp[zFU]
 | cons a r ih=>
  simp only[zFU,cond_eq_ite]
  split
  ·rename_i h
   rw[ih]
   constructor
   ·rintro⟨h1,h2⟩;exact⟨.tail _ h1,h2⟩
   ·rintro⟨h1,h2⟩
    cases h1 with
    | head=>rw[h] at h2;cases h2
    | tail _ h1=>exact⟨h1,h2⟩
  ·rename_i h
   rw[List.mem_cons,ih,List.mem_cons]
   constructor
   ·rintro(rfl|⟨h1,h2⟩)
    ·exact⟨.inl rfl,by simpa using h⟩
    ·exact⟨.inr h1,h2⟩
   ·rintro⟨rfl|h1,h2⟩
    ·exact .inl rfl
    ·exact .inr ⟨h1,h2⟩
theorem keepU_zero:∀{l:List Nat},zFU 0 l=l:=by
 intro l
 induction l with
 | nil=>rfl
 | cons a r ih=>simp only[zFU,zE8,cond_false,ih]
theorem not_dueU {ops:List Oper}{i:Nat}{o:Oper}(ho:ops[i]?=some o):∀{l:List Nat},i∈l→i ∉ dueU ops l→indep o.op=true:=by
 intro l
 induction l with
 | nil=>intro h;cases h
 | cons a r ih=>
  intro h hn
  simp only[dueU] at hn
  cases h with
  | head=>
   rw[zDC,ho] at hn
   simp only[cond_eq_ite] at hn
   split at hn
   ·rename_i hi;exact hi
   ·exact absurd (.head _) hn
  | tail _ h=>
   split at hn
   ·rw[cond_eq_ite] at hn
    split at hn
    ·exact ih h hn
    ·exact ih h fun hm=>hn (.tail _ hm)
   ·exact ih h fun hm=>hn (.tail _ hm)
theorem zNF {t i:Nat}(h:i≠t):∀{l:List Nat},i∈zKF t l↔i∈l:=by
 intro l
 induction l with
 | nil=>simp[zKF]
 | cons a r ih=>
  simp only[zKF,cond_eq_ite]
  split
  ·rename_i e
   have:=Nat.eq_of_beq_eq_true e
   subst this
   simp[h]
  ·rw[List.mem_cons,ih,List.mem_cons]
theorem zIG {ops:List Oper}{t:Tmp}:∀{l:List Nat},zLM ops t l=true→∀i∈l,∀o,ops[i]?=some o→t ∉ zBJ ops o:=by
 intro l
 induction l with
 | nil=>intro _ i hi;cases hi
 | cons a r ih=>
  intro h i hi o ho
  simp only[zLM] at h
  cases hi with
  | head=>
   rw[zDC,ho] at h
   simp only[cond_eq_ite] at h
   split at h
   ·cases h
   ·rename_i hm;exact fun e=>hm (zTD.2 e)
  | tail _ hi=>
   split at h
   ·rw[cond_eq_ite] at h
    split at h
    ·cases h
    ·exact ih h i hi o ho
   ·cases h
theorem zPL {ops:List Oper}{d:Option Tmp}{l:List Nat}(h:zLL ops d l=true):∀i∈l,∀o,ops[i]?=some o→∀t,d=some t→t ∉ zBJ ops o:=by
 intro i hi o ho t ht
 subst ht
 exact zIG h i hi o ho
theorem zJB {l:List Nat}(h:isNilT l=true):l=[]:=by cases l<;>first|rfl|cases h
structure OpsOk (ops:Array Oper):Prop where
 nodup:nodupT (dsts ops.toList)=true
 uses:∀(j:Nat) (o:Oper),ops[j]?=some o→∀t∈zBJ ops.toList o,∀(i:Nat) (q:Oper),ops[i]?=some q→q.dst=some t→
  hasM (nthN (closes ops.toList []) j) i=true∨hasM (nthN (closes ops.toList []) i) j=true
 edges:∀(j:Nat) (o:Oper),ops[j]?=some o→∀e∈o.after.toList,zCF e=true→e.on<j
theorem zOY {ops:List Oper}{pre:List Nat}{j:Nat}:∀{l:List Tmp},zNY ops pre j l=true→∀t∈l,useOk ops pre j t=true:=by
 intro l
 induction l with
 | nil=>intro _ t h;cases h
 | cons a r ih=>
  intro h t ht
  simp only[zNY,cond_eq_ite] at h
  split at h
  ·rename_i ha
   cases ht with
   | head=>exact ha
   | tail _ ht=>exact ih h t ht
  ·cases h
theorem zQS {ops:List Oper}{pre:List Nat}:∀{l:List Oper} {k:Nat},zSQ ops pre l k=true→∀(j:Nat) (o:Oper),l[j]?=some o→∀t∈zBJ ops o,useOk ops pre (k+j) t=true:=by
 intro l
 induction l with
 | nil=>intro k _ j o h;simp at h
 | cons a r ih=>
  intro k h j o ho t ht
  simp only[zSQ,cond_eq_ite] at h
  split at h
  ·rename_i ha
   cases j with
   | zero=>simp at ho;subst ho;exact zOY ha t ht
   | succ j=>
    have:=ih h j o (by simpa using ho) t ht
    rwa [show k+(j+1)=k+1+j by omega]
  ·cases h
theorem edgesOk_spec:∀{l:List Oper} {k:Nat},edgesOk l k=true→∀(j:Nat) (o:Oper),l[j]?=some o→∀e∈o.after.toList,zCF e=true→e.on<k+j:=by
 have one:∀{l:List Edge} {i:Nat},zMB i l=true→∀e∈l,zCF e=true→e.on<i:=by
  intro l i
  induction l with
  | nil=>intro _ e he;cases he
  | cons a r ih=>
   intro h e he hb
   simp only[zMB,cond_eq_ite] at h
   cases he with
   | head=>
    rw[if_pos hb] at h
    split at h
    ·rename_i hlt;exact Nat.le_of_ble_eq_true hlt
    ·cases h
   | tail _ he=>
    split at h
    ·split at h
     ·exact ih h e he hb
     ·cases h
    ·exact ih h e he hb
 intro l
 induction l with
 | nil=>intro k _ j o h;simp at h
 | cons a r ih=>
  intro k h j o ho e he hb
  simp only[edgesOk,cond_eq_ite] at h
  split at h
  ·rename_i ha
   cases j with
   | zero=>simp at ho;subst ho;exact one ha e he hb
   | succ j=>
    have:=ih h j o (by simpa using ho) e he hb
    omega
  ·cases h
theorem zQ7 {ops:Array Oper}{plan:List PStep}(h:zS7 ops.toList plan=true):OpsOk ops∧zB2 ops.toList (closes ops.toList []) plan 0 0 [] []=true:=by
 unfold zS7 at h
 simp only[cond_eq_ite] at h
 split at h
 ·rename_i h1
  split at h
  ·rename_i h2
   split at h
   ·rename_i h3
    refine⟨⟨h1,fun j o ho t ht i q hq hd=>?_,fun j o ho e he hb=>?_⟩,h⟩
    ·have:=zQS h2 j o (by rw[Array.getElem?_toList];exact ho) t ht
     rw[Nat.zero_add] at this
     unfold useOk at this
     rw[zOG (k:=0) h1 (by rw[Array.getElem?_toList];exact hq) hd] at this
     simp only[Nat.zero_add,cond_eq_ite] at this
     split at this
     ·rename_i hh;exact .inl hh
     ·exact .inr this
    ·have:=edgesOk_spec h3 j o (by rw[Array.getElem?_toList];exact ho) e he hb
     omega
   ·cases h
  ·cases h
 ·cases h
end Go.Ab
end
