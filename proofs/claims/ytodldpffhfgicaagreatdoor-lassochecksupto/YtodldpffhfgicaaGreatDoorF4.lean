/- A part. -/
import Derived.Test.YtodldpffhfgicaaGreatDoorF3
import Derived.Lib.ConvBytes
import Derived.Laws.BytesString
import Derived.Lib.UnsafeStr
import Derived.Recover
set_option linter.all false
noncomputable section
namespace Go.Ab
open Go
section
variable {E:Env}{P:Program}{base:Nat}{w0:World}{w:World}
theorem zXR {x:Option (AV×Sto)}{v:AV}{s':Sto}(h:nvs x=.val v s'):x=some (v,s'):=by
 unfold nvs at h;split at h<;>cases h;rfl
theorem TDR.int_inv' {k:IntKind}{d:TypeDesc}(h:TDR (.int k) d):d=.int k:=by cases d<;>simp_all[TDR]
theorem zRQ {d:TD}{d':TypeDesc}(h:TDR d d')(hi:isIntD d=true):∃k,d'=.int k:=by
 cases d<;>simp[isIntD] at hi
 exact⟨_,h.int_inv'⟩
theorem zRP {d:TD}{d':TypeDesc}(h:TDR d d')(hi:isSeqD d=true):∀k,d'≠.int k:=by
 intro k e;subst e
 cases d<;>simp[isSeqD] at hi<;>simp[TDR] at h
theorem zSE (hE:TysOk E P){g:Gh}{s s':Sto}{tys:List TypeId}{ty:TypeId}{args:List AV}{us:List Value}{v:AV}(htys:∀t∈tys,(E.types t).ok=true)
  (hr:Rel base w0 g s w) (h:zJ5 E tys args s=.val v s') (ha:VRs g args us.toArray) (hta:tops args≤s.n):StR P base w0 g s w (Builtin.append_ tys.toArray ty us.toArray) v s':=by
 unfold zJ5 at h
 split at h
 ·rename_i a x
  split at h
  ·rename_i t u
   have hus:us.length=2:=by have:=ha.1;simpa using this.symm
   match us,hus,ha with
   | [a',x'],_,ha=>
   have hva:VR g a a':=ha.2 0 _ _ rfl rfl
   have hvx:VR g x x':=ha.2 1 _ _ rfl rfl
   rw[zAU,zAU] at hta
   have hta':=Nat.max_le.1 hta
   have htx':=(Nat.max_le.1 hta'.2).1
   have hti:=hE.ti t (htys t (by simp))
   have hui:=hE.ti u (htys u (by simp))
   obtain⟨d,hd,htd,_⟩:=hti.und
   obtain⟨du,hdu,hud,_⟩:=hui.und
   split at h
   ·rename_i e he
    rw[he] at htd
    have hde:=htd.slice_inv;subst hde
    have hsub:=hti.sub;rw[he] at hsub
    have hel:=hE.ti e hsub.1
    obtain⟨z,hz,hzr,hz0,hzs,hzc,hsz⟩:=hel.zero g w
    obtain⟨i,z2,hi,hi1,hi2,hi3,hi4,hi5,hi6,hi7⟩:=hel.info
    have hzz:z2=z:=by
     have:(zeroValue e).run P w=.ok z2 w:=by simp[zeroValue,typeInfo,hi,hi3]
     rw[this] at hz;cases hz;rfl
    subst hzz
    dsimp only at h
    rw[cond_eq_ite] at h
    split at h
    ·rename_i hint
     obtain⟨k,rfl⟩:=zRQ hud hint
     split at h
     ·rename_i n hn
      obtain⟨kk,rfl⟩:=zGE hn hvx
      rw[cond_eq_ite] at h
      split at h
      ·rename_i hc
       simp only[Bool.and_eq_true,limit] at hc
       have h1:=Nat.le_of_ble_eq_true hc.1
       have h2:=Nat.le_of_ble_eq_true hc.2
       have hA:=zXR h
       rw[zD7] at hA
       refine zML (i:=i) (z:=z2) (e:=e) hi1 hi2 hsz hsub.2 hr hA hva hta'.1 (zES hzr hsz n) ?_ ?_
       ·refine zAP.2 fun x hx=>?_
        rw[List.mem_replicate] at hx
        rw[hx.2,hz0];exact Nat.zero_le _
       ·rw[List.length_replicate]
        exact zVW hd hi hi3 hdu (by rw[hi2];exact h1) h2 (by rw[hsz,hi1])
      ·cases h
     ·cases h
    ·rw[cond_eq_ite] at h
     split at h
     ·rename_i hseq
      split at h
      ·rename_i ys s1 hel2
       have hA:=zXR h
       have hfit:ys=[]∨zBK (E.types e).size ys=true:=by
        unfold zAR at hA
        split at hA
        ·exact .inl rfl
        ·rw[cond_eq_ite] at hA
         split at hA
         ·rename_i hf;exact .inr hf
         ·cases hA
       have hes:∀y∈ys,(cellsOf y).length=(E.types e).size:=by
        rcases hfit with rfl|hf
        ·intro y hy;cases hy
        ·exact zKY hf
       obtain⟨g',cs,hS,hrow,hl,hf,hty⟩:=zIK (P:=P) hr hel2 hvx htx' hes
       have:=zML (i:=i) (z:=z2) (e:=e) (ty:=ty) hi1 hi2 hsz hsub.2 hS.rel hA (hva.grows hS.grows hta'.1) (by rw[hS.n];exact hta'.1) hrow (by rw[hS.n];exact hty)
        (zSJ hd hi hi3 hdu (zRP hud hseq) hl (by rw[hi1];exact hf))
       obtain⟨v',w',g'',h1,h2,h3,h4,h5,h6⟩:=this
       exact⟨v',w',g'',h1,h2,hS.grows.trans (h3.less (by rw[hS.n];exact Nat.le_refl _)),h4,h5,by rw[hS.n] at h6;exact h6⟩
      ·cases h
     ·cases h
   ·cases h
  ·cases h
 ·cases h
end
section
variable {E:Env}{P:Program}{t:TypeId}{g:Gh}{base:Nat}{w0:World}{s s':Sto}{w:World}{v:AV}
theorem zM7 {r:Nat}{ents:Array MapEntry}{clock:Nat}(o:Obj)(h:w.heap[r]?=some (.map ents clock)):(setObj r o).run P w=.ok () (putB w r o):=by
 simp only[setObj,Sem.run,h];rfl
theorem zM8 {r:Nat}{ents:Array MapEntry}{clock:Nat}(h:w.heap[r]?=some (.map ents clock)):(getObj r).run P w=.ok (.map ents clock) w:=by
 simp only[getObj,Sem.run,h]
theorem zVO {a b:ByteArray}(h:bytesEq a.data.toList b.data.toList=true):a=b:=by
 rw[zD9] at h
 have:=of_decide_eq_true h
 cases a;cases b
 congr 1
 exact Array.ext' this
theorem zNT (a:ByteArray):(a == a)=true:=by rw[← zTM];simp
theorem zYB {kt:TypeId}(hE:TIR E P kt (E.types kt)){k k2:AV}{k' k2':Value}(h:zH6 (E.types kt).d k=true)(hk:VR g k k')(hk2:VR g k2 k2')(hq:zKJ k k2=some true) :
  k2'=k'∧∀n,Instr.sameBits n k' k'=true:=by
 unfold zH6 at h
 split at h
 ·split at h
  ·cases hk
   simp only[zKJ] at hq
   split at hq
   ·cases hk2
    rw[zPS,cond_eq_ite,zJC] at hq
    split at hq
    ·rename_i he
     simp at he hq
     subst he;subst hq
     exact⟨rfl,fun n=>by cases n<;>simp[Instr.sameBits]⟩
    ·cases hq
   ·cases hq
  ·cases h
 ·split at h
  ·cases hk
   simp only[zKJ] at hq
   split at hq
   ·cases hk2
    simp only[Option.some.injEq] at hq
    have:=zVO hq
    subst this
    exact⟨rfl,fun n=>by cases n<;>simp[Instr.sameBits,zNT]⟩
   ·cases hq
  ·cases h
 ·cases h
theorem zU2 {kt:TypeId}(hE:TIR E P kt (E.types kt)){k x:AV}{k':Value}(h:zH6 (E.types kt).d k=true)(hk:VR g k k'){d:TypeDesc}(hu:P.underlying kt=some d) :
  ∀{es es2:List (AV×AV)} {ents:List MapEntry} (i:Nat),zSN g es ents→zI4 k x es=some es2→
   (Instr.findNow d k' ents i=some none∧es2=es++[(k,x)])∨
   ∃(j:Nat) (e:MapEntry) (y:AV×AV),Instr.findNow d k' ents i=some (some (i+j,e.val))∧ents[j]?=some e∧e.key=k'∧es[j]?=some y∧es2=es.set j (y.1,x):=by
 intro es
 induction es with
 | nil=>
  intro es2 ents i hr hf
  cases hf
  cases ents with
  | nil=>exact .inl ⟨rfl,rfl⟩
  | cons=>have:=hr.1;simp at this
 | cons e es ih=>
  intro es2 ents i hr hf
  cases ents with
  | nil=>have:=hr.1;simp at this
  | cons m ents=>
   obtain⟨ek,ev⟩:=e
   have h0:=hr.2 0 _ _ rfl rfl
   simp only[zI4] at hf
   split at hf
   ·rename_i b hq
    have hs:=zLA hE h hk h0.1 hq hu
    cases b with
    | true=>
     simp only[cond_true,Option.some.injEq] at hf
     subst hf
     have h1:=(zYB hE h hk h0.1 hq).1
     exact .inr ⟨0,m,(ek,ev),by simp[Instr.findNow,hs],rfl,h1,rfl,rfl⟩
    | false=>
     simp only[cond_false] at hf
     split at hf
     ·rename_i r hr2
      cases hf
      have hr':zSN g es ents:=⟨by have:=hr.1;simpa using this,fun i x e hi he=>hr.2 (i+1) x e hi he⟩
      rcases ih (i+1) hr' hr2 with⟨h1,h2⟩|⟨j,e,y,h1,h2,h3,h4,h5⟩
      ·exact .inl ⟨by simpa[Instr.findNow,hs] using h1,by rw[h2];rfl⟩
      ·exact .inr ⟨j+1,e,y,by simp[Instr.findNow,hs,h1];omega,h2,h3,h4,by rw[h5];rfl⟩
     ·cases hf
   ·cases hf
end
section
variable {E:Env}{P:Program}{t:TypeId}{g:Gh}{base:Nat}{w0:World}{s s':Sto}{w:World}{v:AV}
theorem zPQ {d:TD}{k:AV}(h:zH6 d k=true):top k=0:=by
 unfold zH6 at h
 split at h
 ·split at h
  ·rfl
  ·cases h
 ·split at h
  ·rfl
  ·cases h
 ·cases h
theorem key_same {d:TD}{k:AV}{k':Value}(h:zH6 d k=true)(hk:VR g k k')(n:Nat):Instr.sameBits n k' k'=true:=by
 unfold zH6 at h
 split at h
 ·split at h
  ·cases hk;cases n<;>simp[Instr.sameBits]
  ·cases h
 ·split at h
  ·cases hk;cases n<;>simp[Instr.sameBits,zNT]
  ·cases h
 ·cases h
theorem zQD {es:List (AV×AV)}{n:Nat}(h:∀x∈es,top x.1≤n∧top x.2≤n):boxTop (.mapb es)≤n:=by
 simp only[boxTop]
 induction es with
 | nil=>exact Nat.zero_le _
 | cons a l ih=>
  simp only[List.foldr_cons]
  have h1:=h a (by simp)
  exact Nat.max_le.2 ⟨Nat.max_le.2 h1,ih fun x hx=>h x (List.mem_cons_of_mem _ hx)⟩
theorem zXW (hr:Rel base w0 g s w){j:Nat}{es es2:List (AV×AV)}{x:AV}{ents ents2:Array MapEntry}{clock clock2:Nat}(hj:s.get j=.mapb es)(hh:w.heap[g.mu j]?=some (.map ents clock))
  (hC:∀o,g.C (g.mu j) o=none) (hents:zSN g es2 ents2.toList) (htop:boxTop (.mapb es2)≤Nat.max (boxTop (s.get j)) (top x)) (hx:top x≤s.n) :
  Rel base w0 g ((s.put j (.mapb es2)).note j (top x)) (putB w (g.mu j) (.map ents2 clock2)):=by
 have hlt:=zEQ hj (by simp)
 have ht:=hr.top j hlt
 refine hr.update hlt _ (.refl _ _) (by rw[hj];rfl) (fun b o u hu=>?_) (fun _ _ _=>rfl) (fun b hb=>zCY hb) (zG9 ..) ?_ (Nat.le_trans htop (Nat.max_le.2 ⟨ht,hx⟩)) _ (hr.upsOr hlt htop)
 ·have hne:b≠g.mu j:=fun e=>by subst e;rw[hC] at hu;cases hu
  rw[zGC (zCY hne)];exact hr.C b o u hu
 ·exact⟨ents2,clock2,zIY hh,by simpa using hents.1,fun i x e hi he=>hents.2 i x e hi (by simpa using he),hC⟩
theorem zLJ (hE:TysOk E P)(hr:Rel base w0 g s w)(ht:(E.types t).ok=true){m k x:AV}{m' k' x':Value}(h:zC9 E t (some m) (some k) (some x) s=.val v s')(hm:VR g m m')(hk:VR g k k')(hx:VR g x x')
  (hn:top x≤s.n):∃w' g',(Instr.mapUpdate t m' k' x').run P w=.ok () w'∧Rel base w0 g' s' w'∧Grows s.n g g'∧s'.n=s.n∧v=undef:=by
 obtain⟨d,hu,hdr,_⟩:=(hE.ti t ht).und
 have hsub:=(hE.ti t ht).sub
 unfold zC9 at h
 split at h
 ·rename_i kt e hd
  rw[hd] at hdr hsub
  have:=hdr.map_inv;subst this
  have hkt:=hE.ti kt hsub.1
  obtain⟨dk,huk,_⟩:=hkt.und
  split at h
  ·rename_i j hmj
   cases hmj
   dsimp only at h
   rw[cond_eq_ite] at h
   split at h
   ·rename_i hok
    split at h
    ·rename_i x1 s1 hs
     split at h
     ·rename_i es hj
      split at h
      ·rename_i es2 hp
       cases h
       obtain⟨g',hS,hxv,hxt,_,_⟩:=zF0 hr hs hx hn
       have hk2:=hk.grows hS.grows (by rw[zPQ hok];exact Nat.zero_le _)
       have hlt:=zEQ hj (by simp)
       have hb:=hS.rel.box j hlt
       have htop:=hS.rel.top j hlt
       rw[hj] at hb
       obtain⟨ents,clock,hh,h2,h3,hC⟩:=hb
       have hents:zSN g' es ents.toList:=⟨by simpa using h2,fun i x e hi he=>h3 i x e hi (by simpa using he)⟩
       have hmu:g'.mu j=g.mu j:=hS.grows.mu j (by rw[← hS.n];exact hlt)
       have hxt':top x1≤s1.n:=by rw[hS.n];exact hxt
       cases hm
       rw[← hmu]
       have hck:=zPR (w:=w) hkt hok hk2 false 9999
       have hold:∀y∈es,top y.1≤Nat.max (boxTop (s1.get j)) (top x1)∧top y.2≤Nat.max (boxTop (s1.get j)) (top x1):=fun y hy=>by
        have:=zIO (Nat.le_refl (boxTop (.mapb es))) y hy
        rw[hj]
        exact⟨Nat.le_trans this.1 (Nat.le_max_left _ _),Nat.le_trans this.2 (Nat.le_max_left _ _)⟩
       rcases zU2 hkt hok hk2 huk 0 hents hp with⟨h4,h5⟩|⟨i,en,y,h4,h5,h6,h7,h8⟩
       ·subst h5
        refine⟨_,g',?_,zXW (ents2:=ents.push { key:=k',val:=x',born:=clock }) (clock2:=clock+1) hS.rel hj hh hC ?_ ?_ hxt',hS.grows,by rw[zFI,zFP,hS.n],rfl⟩
        ·simp[Instr.mapUpdate,run_underlying hu,zM8 hh,hck,Instr.findKey,run_underlying huk,h4,zM7 _ hh]
        ·refine⟨by simp[hents.1],fun i y e hi he=>?_⟩
         rw[Array.toList_push] at he
         by_cases hil:i<es.length
         ·rw[List.getElem?_append_left hil] at hi
          rw[List.getElem?_append_left (by rw[← hents.1];exact hil)] at he
          exact hents.2 i y e hi he
         ·rw[List.getElem?_append_right (by omega)] at hi
          rw[List.getElem?_append_right (by rw[← hents.1];omega),← hents.1] at he
          cases hq:i-es.length with
          | zero=>rw[hq] at hi he;simp at hi he;subst hi;subst he;exact⟨hk2,hxv⟩
          | succ n=>rw[hq] at hi;simp at hi
        ·refine zQD fun y hy=>?_
         rcases List.mem_append.1 hy with hy|hy
         ·exact hold y hy
         ·simp at hy;subst hy
          exact⟨by simp only;rw[zPQ hok];exact Nat.zero_le _,Nat.le_max_right _ _⟩
       ·subst h8
        have hie:ents[i]?=some en:=by simpa using h5
        refine⟨_,g',?_,zXW (ents2:=ents.modify i fun e=>{ e with key:=k',val:=x' }) (clock2:=clock) hS.rel hj hh hC ?_ ?_ hxt',hS.grows,by rw[zFI,zFP,hS.n],rfl⟩
        ·have hsb:Instr.sameBits 10000 k' k'=true:=key_same hok hk 10000
         simp[Instr.mapUpdate,run_underlying hu,zM8 hh,hck,Instr.findKey,run_underlying huk,h4,hie,h6,Instr.keyThatStays,hsb,zM7 _ hh]
        ·refine⟨by simp[hents.1],fun i2 y2 e2 hi he=>?_⟩
         rw[List.getElem?_set] at hi
         rw[Array.getElem?_toList,Array.getElem?_modify] at he
         by_cases hii:i=i2
         ·subst hii
          have hlt2:i<es.length:=(List.getElem?_eq_some_iff.1 h7).1
          simp only[if_true,hlt2] at hi
          simp only[if_true,hie,Option.map_some] at he
          cases hi;cases he
          have:=hents.2 i y en h7 h5
          exact⟨by simp only;rw[← h6];exact this.1,hxv⟩
         ·rw[if_neg hii] at hi he
          exact hents.2 i2 y2 e2 hi (by simpa using he)
        ·refine zQD fun y2 hy=>?_
         obtain⟨i2,hi2⟩:=List.getElem?_of_mem hy
         rw[List.getElem?_set] at hi2
         split at hi2
         ·split at hi2
          ·cases hi2
           exact⟨(hold y (List.mem_of_getElem? h7)).1,Nat.le_max_right _ _⟩
          ·cases hi2
         ·exact hold y2 (List.mem_of_getElem? hi2)
      ·cases h
     ·cases h
    ·cases h
   ·cases h
  ·cases h
 ·cases h
end
section
variable {E:Env}{P:Program}{t:TypeId}{g:Gh}{base:Nat}{w0:World}{s s':Sto}{w:World}{v:AV}
theorem RowR.midL {es:Nat}{xs:List AV}{arr:Array Value}(h:RowR g es xs arr)(a n:Nat)(hn:a+n≤xs.length):RowL g es ((xs.drop a).take n) ((arr.toList.drop (a*es)).take (n*es)):=by
 have hsz:(a+n)*es≤arr.size:=Nat.le_trans (Nat.mul_le_mul_right _ hn) h.1
 rw[Nat.add_mul] at hsz
 refine .of ?_ ?_ ?_
 ·rw[List.length_take,List.length_take,List.length_drop,List.length_drop,Array.length_toList,Nat.min_eq_left (by omega),Nat.min_eq_left (by omega)]
 ·intro i x hi
  rw[List.getElem?_take] at hi
  split at hi
  ·rw[List.getElem?_drop] at hi;exact h.2.1 _ x hi
  ·cases hi
 ·intro i x j c hi hj
  rw[List.getElem?_take] at hi
  split at hi
  ·rename_i hlt
   rw[List.getElem?_drop] at hi
   obtain⟨v,hv,hr⟩:=h.2.2 _ x j c hi hj
   refine⟨v,?_,hr⟩
   have hjs:j<es:=by rw[← h.2.1 _ x hi];exact(List.getElem?_eq_some_iff.1 hj).1
   have h2:(i+1)*es≤n*es:=Nat.mul_le_mul_right _ hlt
   rw[Nat.add_mul,Nat.one_mul] at h2
   rw[List.getElem?_take,if_pos (by omega),List.getElem?_drop,Array.getElem?_toList]
   rw[Nat.add_mul] at hv
   rw[← hv];congr 1;omega
  ·cases hi
theorem zVI {x:AV}{x':Value}{ys:List AV}{es n:Nat}(hr:Rel base w0 g s w)(h:zYZ n s x=some (ys,s'))(hx:VR g x x')(hn:top x≤s.n)
  (hes:∀y∈ys,(cellsOf y).length=es) (hyn:ys.length≤n) :
  ∃g' cs m,SealR base w0 g g' s s' w∧RowL g' es ys cs∧(Builtin.lenOf x').run P w=.ok m w∧min m n=ys.length∧(∀w':World,w'.heap=w.heap→(Builtin.firstCells es ys.length x').run P w'=.ok cs.toArray w')∧tops ys≤s.n:=by
 unfold zYZ at h
 split at h
 ·rename_i k off len
  split at h
  ·rename_i ty es0 xs sl hk
   rw[cond_eq_ite] at h
   split at h
   ·rename_i hle
    have hle:=Nat.le_of_ble_eq_true hle
    rw[zAH] at hle
    cases h
    obtain⟨hklt,arr,hh,_,hges,hrl,hbs,hR,htop,hC⟩:=hr.rowBlock hk
    rw[zCA,zCZ] at hes hyn ⊢
    have e0:Nat.min len n=min len n:=rfl
    rw[e0] at hes hyn ⊢
    have hlm:min len n≤len:=Nat.min_le_left ..
    have hlen:((xs.drop off).take (min len n)).length=min len n:=by rw[List.length_take,List.length_drop];omega
    have htt:tops ((xs.drop off).take (min len n))≤s.n:=zAP.2 fun y hy=>zAP.1 htop y (List.mem_of_mem_drop (List.mem_of_mem_take hy))
    have hlo:(Builtin.lenOf x').run P w=.ok len w:=by cases hx<;>rfl
    by_cases h0:min len n=0
    ·refine⟨g,[],len,.refl hr,?_,hlo,hlen.symm,?_,htt⟩
     ·rw[h0];exact rfl
     ·intro w' _;rw[hlen,h0]
      cases hx<;>simp[Builtin.firstCells,loadCells,loadCellsFrom]
    ·have he:es=es0:=by
      have hi:((xs.drop off).take (min len n))[0]?=some (((xs.drop off).take (min len n))[0]'(by omega)):=List.getElem?_eq_getElem _
      rw[← hes _ (List.mem_of_getElem? hi)]
      exact((hR.midL off (min len n) (by omega)).wid hi)
     subst he
     cases hx with
     | osl _ _ _ cap h1 h2 h3=>
      refine⟨g,_,len,.refl hr,hR.midL off (min len n) (by omega),hlo,hlen.symm,?_,htt⟩
      intro w' hw'
      rw[hlen]
      simp only[Builtin.firstCells]
      have hl2:((arr.toList.drop (off*es)).take (min len n*es)).length=min len n*es:=by
       rw[(hR.midL off (min len n) (by omega)).len,hlen]
      have:=run_loadCells_list (P:=P) w' ⟨g.mu k,off*g.es k,none⟩ ((arr.toList.drop (off*es)).take (min len n*es)) fun j u hu=>by
       rw[zD3,zH2 hw',zD0 hh,hges]
       rw[List.getElem?_take] at hu
       split at hu
       ·rw[List.getElem?_drop,Array.getElem?_toList] at hu;exact hu
       ·cases hu
      rw[hl2] at this
      exact this
     | oslE=>exact absurd (Nat.zero_min _) h0
   ·cases h
  ·cases h
 ·rename_i t xs own
  cases h
  rw[zCA,zAH] at hes hyn ⊢
  have e0:Nat.min xs.length n=min xs.length n:=rfl
  rw[e0] at hes hyn ⊢
  have hlen:(xs.take (min xs.length n)).length=min xs.length n:=by rw[List.length_take];omega
  have htk:∀⦃t':Nat⦄,tops xs≤t'→tops (xs.take (min xs.length n))≤t':=fun _ ht=>zK0 ht
  cases hx with
  | sl _ _ _ b off cap es0 vs hl hc hv ht hcap hown hnil=>
   have hg:∀{i:Nat} {x:AV},(xs.take (min xs.length n))[i]?=some x→xs[i]?=some x:=by
    intro i x hi
    rw[List.getElem?_take] at hi
    split at hi
    ·exact hi
    ·cases hi
   have hv2:VR g (.sl t (xs.take (min xs.length n)) .shut) (.slice (some ⟨b,off,none⟩) (xs.take (min xs.length n)).length cap):=
    .sl t _ .shut b off cap es0 vs (fun i x hi=>hl i x (hg hi)) (fun i x j c hi hj=>hc i x j c (hg hi) hj) (fun i x j c hi hj=>hv i x j c (hg hi) hj) (htk ht) (by rw[hlen];omega) (fun h=>absurd rfl h) (by simp)
   obtain⟨cs,h1,h2,h3,h4,_⟩:=zPA (P:=P) hr hv2 hes
   exact⟨g,cs,_,.refl hr,h1,rfl,by rw[hlen],h3,Nat.le_trans (htk ht) hn⟩
  | slnil=>
   refine⟨g,[],0,.refl hr,by simp;exact rfl,rfl,by simp,fun w' _=>by simp[Builtin.firstCells],by simp;exact Nat.zero_le _⟩
  | slany=>
   refine⟨g,[],0,.refl hr,by simp;exact rfl,rfl,by simp,fun w' _=>by simp[Builtin.firstCells,loadCells,loadCellsFrom],by simp;exact Nat.zero_le _⟩
 ·obtain⟨g',cs,h1,h2,h3,h4,h5⟩:=zIK (P:=P) hr h hx hn hes
  exact⟨g',cs,_,h1,h2,h3,Nat.min_eq_left hyn,h4,h5⟩
theorem zTN {e ty:TypeId}{r:List TypeId}{b:Option Addr}{n cap m:Nat}{xv:Value}{news:List Value}{es m0:Nat}(ht:P.underlying t=some (.slice e))(hE:TIR E P e (E.types e))(he:es=(E.types e).size)
  (hl:(Builtin.lenOf xv).run P w=.ok m0 w) (hf:(Builtin.firstCells es m xv).run P w=.ok news.toArray w) (hm:min m0 n=m) :
  (Builtin.copy_ (t :: r).toArray ty #[.slice b n cap,xv]).run P w=((match b with|some a=>storeCells a news|none=>pure ()).run P w).andThen fun _ w=>.ok (.int .i64 (m:Int)) w:=by
 have hf':(Builtin.firstCells (E.types e).size m xv).run P w=.ok news.toArray w:=by rw[← he];exact hf
 have hmin':min n m0=m:=by rw[Nat.min_comm];exact hm
 cases b<;>simp[Builtin.copy_,run_underlying ht,hE.sizeOf w,hl,hm,hmin',hf',goInt]
theorem zZZ (hE:TysOk E P){ty:TypeId}{r:List TypeId}{args:List AV}{us:List Value}(ht:(E.types t).ok=true)
  (hr:Rel base w0 g s w) (h:zZ0 E t args s=.val v s') (ha:VRs g args us.toArray) (hta:tops args≤s.n):StR P base w0 g s w (Builtin.copy_ (t :: r).toArray ty us.toArray) v s':=by
 obtain⟨d,hd,htd,_⟩:=(hE.ti t ht).und
 have hsub:=(hE.ti t ht).sub
 unfold zZ0 at h
 split at h
 ·rename_i e he
  rw[he] at htd hsub
  have hde:=htd.slice_inv;subst hde
  have hel:=hE.ti e hsub.1
  split at h
  ·rename_i k off len x
   have hus:us.length=2:=by have:=ha.1;simpa using this.symm
   match us,hus,ha with
   | [a',x'],_,ha=>
   have hva:VR g (.osl k off len) a':=ha.2 0 _ _ rfl rfl
   have hvx:VR g x x':=ha.2 1 _ _ rfl rfl
   rw[zAU,zAU] at hta
   have hta':=Nat.max_le.1 hta
   have htx':=(Nat.max_le.1 hta'.2).1
   split at h
   ·rename_i ys s1 hel2
    split at h
    ·rename_i es xs hk
     rw[cond_eq_ite] at h
     split at h
     ·rename_i hc
      simp only[Bool.and_eq_true,zAH] at hc
      have h1:=Nat.le_of_ble_eq_true hc.2.1
      have h2:=Nat.le_of_ble_eq_true hc.2.2.1
      have h3:=Nat.eq_of_beq_eq_true hc.2.2.2
      cases h
      obtain⟨g',cs,m0,hS,hrow,hl,hm0,hf,hty⟩:=zVI (P:=P) hr hel2 hvx htx' (zKY hc.1) h1
      have hk0:=zEQ hk (by simp)
      rw[hS.n] at hk0
      obtain⟨w',hw',hR⟩:=zN9 (P:=P) hS.rel hk hrow (fun x hx=>(zGQ hc.1 x hx).2) h2 (by rw[hS.n];exact hty)
      rw[hS.grows.mu k hk0] at hw'
      have hrb:=(hS.rel.row hk).2.1
      rw[hS.grows.es k hk0] at hrb
      refine⟨.int .i64 (ys.length:Int),w',g',?_,hR,hS.grows,by rw[zAH];exact .int _ _,Nat.zero_le _,by rw[zFI,zFP,hS.n];exact Nat.le_refl _⟩
      cases hva with
      | osl _ _ _ cap _ _ _=>
       rw[zTN hd hel h3 hl (hf w rfl) hm0]
       simp only[hrb,hw',Result.andThen_ok]
      | oslE _ _ b o _=>
       have h0:ys.length=0:=by omega
       have hys:ys=[]:=List.eq_nil_of_length_eq_zero h0
       subst hys
       have hcs:cs=[]:=hrow
       subst hcs
       rw[zTN hd hel h3 hl (hf w rfl) hm0]
       simp only[storeCells,Sem.run_pure,Result.andThen_ok] at hw' ⊢
       cases hw';rfl
     ·cases h
    ·cases h
   ·cases h
  ·cases h
 ·cases h
theorem zZG {e ty:TypeId}{a:Addr}{n cap:Nat}{z:Value}(ht:P.underlying t=some (.slice e))(hz:(zeroValue e).run P w=.ok z w)(hn:n≠0) :
  (Builtin.clear_ #[t] ty #[.slice (some a) n cap]).run P w=((storeCells a (Builtin.zeroCells z.cells n).toList).run P w).andThen fun _ w=>.ok (.tuple #[]) w:=by
 cases n with
 | zero=>exact absurd rfl hn
 | succ n=>simp[Builtin.clear_,run_underlying ht,hz]
theorem zGA {e ty:TypeId}{b:Option Addr}{n cap:Nat}(ht:P.underlying t=some (.slice e))(hn:n=0∨b=none):(Builtin.clear_ #[t] ty #[.slice b n cap]).run P w=.ok (.tuple #[]) w:=by
 rcases hn with rfl|rfl
 ·cases b<;>simp[Builtin.clear_,run_underlying ht]
 ·cases n<;>simp[Builtin.clear_,run_underlying ht]
theorem zVV (hE:TysOk E P){ty:TypeId}{args:List AV}{us:List Value}(ht:(E.types t).ok=true)(hsl:∃e,(E.types t).d=.slice e)
  (hr:Rel base w0 g s w) (h:zQH E t args s=.val v s') (ha:VRs g args us.toArray) (hta:tops args≤s.n):StR P base w0 g s w (Builtin.clear_ #[t] ty us.toArray) v s':=by
 obtain⟨d,hd,htd,_⟩:=(hE.ti t ht).und
 have hsub:=(hE.ti t ht).sub
 obtain⟨e,he⟩:=hsl
 rw[he] at htd hsub
 have hde:=htd.slice_inv;subst hde
 have hel:=hE.ti e hsub.1
 have hu0:VR g undef (.tuple #[]):=.tuple [] #[] rfl (fun i x v hi _=>by simp at hi)
 unfold zQH at h
 split at h
 ·cases h
  have hus:us.length=1:=by have:=ha.1;simpa using this.symm
  match us,hus,ha with
  | [a'],_,ha=>
  have hva:=ha.2 0 _ _ rfl rfl
  refine⟨.tuple #[],w,g,?_,hr,.refl _ _,hu0,Nat.zero_le _,Nat.le_refl _⟩
  cases hva with
  | sl=>exact zGA hd (.inl rfl)
  | slnil=>exact zGA hd (.inl rfl)
  | slany=>exact zGA hd (.inl rfl)
 ·rename_i k off len
  have hus:us.length=1:=by have:=ha.1;simpa using this.symm
  match us,hus,ha with
  | [a'],_,ha=>
  have hva:VR g (.osl k off len) a':=ha.2 0 _ _ rfl rfl
  rw[he] at h
  dsimp only at h
  split at h
  ·rename_i es xs hk
   rw[cond_eq_ite] at h
   split at h
   ·rename_i hc
    simp only[Bool.and_eq_true,zAH] at hc
    have h1:=Nat.le_of_ble_eq_true hc.1
    have h2:=zGQ hc.2.1
    have h3:=Nat.eq_of_beq_eq_true hc.2.2
    subst h3
    cases h
    obtain⟨z,hz,hzr,hz0,hzs,hzc,hsz⟩:=hel.zero g w
    have hrow:=zES hzr hsz len
    have htz:tops (List.replicate len (zAK (E.types e)))=0:=by
     refine Nat.le_zero.1 (zAP.2 fun x hx=>?_)
     rw[List.mem_replicate] at hx
     rw[hx.2,hz0];exact Nat.le_refl _
    obtain⟨w',hw',hR⟩:=zN9 (P:=P) (a:=off) hr hk hrow (fun x hx=>by
     rw[List.mem_replicate] at hx
     rw[hx.2];exact(h2 _ (by simp)).2) (by rw[List.length_replicate];exact h1) (by rw[htz];exact Nat.zero_le _)
    rw[htz,zFQ (Nat.zero_le _)] at hR
    rw[zD7]
    refine⟨.tuple #[],w',g,?_,hR,.refl _ _,hu0,Nat.zero_le _,Nat.le_refl _⟩
    have hges:=(hr.row hk).2.1
    cases hva with
    | osl _ _ _ cap _ _ _=>
     by_cases h0:len=0
     ·subst h0
      rw[zGA hd (.inl rfl)]
      have:(Builtin.zeroCells z.cells 0).toList=[]:=by
       apply List.eq_nil_of_length_eq_zero;rw[Array.length_toList,zBV];simp
      rw[this] at hw'
      simp only[storeCells,Sem.run_pure] at hw'
      cases hw';rfl
     ·rw[zZG hd hz h0,hges,hw'];rfl
    | oslE _ _ b o _=>
     rw[zGA hd (.inl rfl)]
     have:(Builtin.zeroCells z.cells 0).toList=[]:=by
      apply List.eq_nil_of_length_eq_zero;rw[Array.length_toList,zBV];simp
     rw[this] at hw'
     simp only[storeCells,Sem.run_pure] at hw'
     cases hw';rfl
   ·cases h
  ·cases h
 ·cases h
end
section
variable {E:Env}{P:Program}{t:TypeId}{g:Gh}{base:Nat}{w0:World}{s s':Sto}{w:World}{v:AV}
theorem zPF {es n:Nat}:∀{ps:List (Nat×AV)},zD6 es n ps=true→∀p∈ps,p.1<n∧(cellsOf p.2).length=es:=by
 intro ps
 induction ps with
 | nil=>intro _ p hp;cases hp
 | cons a r ih=>
  obtain⟨i,v⟩:=a
  intro h
  simp only[zD6,cond_eq_ite] at h
  split at h
  ·rename_i hc
   simp only[Bool.and_eq_true,zAH,Nat.blt_eq] at hc
   intro p hp
   cases hp with
   | head=>exact⟨hc.1,Nat.eq_of_beq_eq_true hc.2⟩
   | tail _ hp=>exact ih h p hp
  ·cases h
theorem zRI {xs:List AV}{i:Nat}{x:AV}(h:i<xs.length):lset x xs i=splice xs i [x]:=by
 apply List.ext_getElem?
 intro j
 rw[zGN,zHW (by simp only[List.length_singleton];omega)]
 simp only[List.length_singleton]
 by_cases hj:i=j
 ·subst hj;rw[if_pos ⟨rfl,h⟩,if_pos (by omega)];simp
 ·rw[if_neg (by omega),if_neg (by omega)]
theorem fill_row {es:Nat}:∀{ps:List (Nat×AV)} {us:List (Nat×Value)} {zs:List AV} {arr:Array Value} {n:Nat},RowR g es zs arr→arr.size=n*es→zs.length=n→
  ps.length=us.length→(∀(i:Nat) p u,ps[i]?=some p→us[i]?=some u→p.1=u.1∧VR g p.2 u.2)→(∀p∈ps,p.1<n∧(cellsOf p.2).length=es)→
  ∃arr',Instr.fill (fun i=>some (i*es,es)) arr us=some arr'∧RowR g es (zG0 zs ps) arr'∧arr'.size=n*es∧(zG0 zs ps).length=n:=by
 intro ps
 induction ps with
 | nil=>
  intro us zs arr n h1 h2 h3 hl _ _
  cases us with
  | nil=>exact⟨arr,rfl,h1,h2,h3⟩
  | cons=>simp at hl
 | cons p r ih=>
  intro us zs arr n h1 h2 h3 hl hv hp
  cases us with
  | nil=>simp at hl
  | cons u us=>
   obtain⟨i,x⟩:=p
   obtain⟨i',x'⟩:=u
   obtain⟨e1,e2⟩:=hv 0 _ _ rfl rfl
   simp only at e1 e2
   subst e1
   obtain⟨p1,p2⟩:=hp (i,x) (by simp)
   simp only at p1 p2
   have hsz:x'.cells.size=es:=by rw[← e2.cells.1];exact p2
   have hle:(i+1)*es≤n*es:=Nat.mul_le_mul_right _ p1
   rw[Nat.add_mul,Nat.one_mul] at hle
   have hone:=RowL.one e2 p2
   have hbl:=zN8 (a:=i) h1 hone (by omega) (by simp only[List.length_singleton,Nat.add_mul,Nat.one_mul];omega)
   rw[← zRI (by omega)] at hbl
   obtain⟨arr',a1,a2,a3,a4⟩:=ih (us:=us) hbl (by rw[zEM];exact h2) (by rw[zFR,List.length_set];exact h3) (by simpa using hl) (fun j p u hj hu=>hv (j+1) p u (by simpa using hj) (by simpa using hu)) (fun p hp'=>hp p (List.mem_cons_of_mem _ hp'))
   refine⟨arr',?_,a2,a3,a4⟩
   rw[zL4 _ _ _ _ _ (i*es) es rfl hsz (by omega)]
   exact a1
theorem zM2 (hE:TysOk E P){e:TypeId}(hu:P.underlying t=some (.slice e))(he:(E.types e).ok=true){n:Nat}{ps:List (Nat×AV)}{us:List (Nat×Value)}
  (hl:ps.length=us.length) (hv:∀(i:Nat) p u,ps[i]?=some p→us[i]?=some u→p.1=u.1∧VR g p.2 u.2) (hp:zD6 (E.types e).size n ps=true) (hn:n*(E.types e).size≤16777216) :
  ∃arr,(Instr.buildSlice t n us.toArray).run P w=.ok (.slice (some ⟨w.heap.size,0,none⟩) n n) (push w (.cells arr e))∧RowR g (E.types e).size (zG0 (lrep (zAK (E.types e)) n) ps) arr∧
   arr.size=n*(E.types e).size∧(zG0 (lrep (zAK (E.types e)) n) ps).length=n:=by
 have hel:=hE.ti e he
 obtain⟨z,hz,hzr,hz0,hzs,hzc,hsz⟩:=hel.zero g w
 have hrow:=zES hzr hsz n
 have hR:=hrow.rowR (r:=[])
 rw[List.append_nil,Array.toArray_toList] at hR
 obtain⟨arr,h1,h2,h3,h4⟩:=fill_row (us:=us) (n:=n) hR (by rw[zBV,hsz]) (by simp) hl hv (zPF hp)
 rw[zD7]
 refine⟨arr,?_,h2,h3,h4⟩
 have hbig:¬ (16777216<n*(E.types e).size):=by omega
 have hnot:n*(E.types e).size>2 ^ 24↔False:=by simp;omega
 by_cases h0:n*(E.types e).size=0
 ·have hzz:Builtin.zeroCells z.cells n=#[]:=by unfold Builtin.zeroCells;rw[hsz,h0];simp
  rw[hzz] at h1
  have hsz':=hel.sizeOf w
  simp[Instr.buildSlice,run_underlying hu,hsz',h0,h1,newRow,show Array.range 0=(#[]:Array Nat) by simp]
  rfl
 ·have hzz:(Array.range (n*(E.types e).size)).map (fun i=>z.cells[i % (E.types e).size]!)=Builtin.zeroCells z.cells n:=by unfold Builtin.zeroCells;rw[hsz]
  have hsz':=hel.sizeOf w
  simp[Instr.buildSlice,run_underlying hu,hsz',h0,hz,hbig,hsz,hzz,h1,newRow]
  rfl
theorem zQT {n:Nat}:∀{ps:List (Nat×AV)} {zs:List AV},tops zs≤n→(∀p∈ps,top p.2≤n)→tops (zG0 zs ps)≤n:=by
 intro ps
 induction ps with
 | nil=>intro zs h _;exact h
 | cons p r ih=>
  obtain⟨i,x⟩:=p
  intro zs h hp
  refine ih (zAP.2 fun y hy=>?_) fun p hp'=>hp p (List.mem_cons_of_mem _ hp')
  obtain⟨j,hj⟩:=List.getElem?_of_mem hy
  rw[zGN] at hj
  split at hj
  ·cases hj;exact hp (i,x) (by simp)
  ·exact zAP.1 h y (List.mem_of_getElem? hj)
end
section
variable {E:Env}{P:Program}{t:TypeId}{g:Gh}{base:Nat}{w0:World}{s s':Sto}{w:World}{v:AV}
theorem zWC {g:Gh}{b es:Nat}{zs:List AV}{arr:Array Value}(hR:RowR (g.stay b arr) es zs arr)(own:Own)(hown:own≠.nil):VR (g.stay b arr) (.sl (tops zs) zs own) (.slice (some ⟨b,0,none⟩) zs.length zs.length):=by
 have key:∀(i:Nat) (x:AV) (j:Nat) (c:AV),zs[i]?=some x→(cellsOf x)[j]?=some c→∃u,arr[i*es+j]?=some u∧VR (g.stay b arr) c u:=fun i x j c hi hj=>hR.2.2 i x j c hi hj
 refine .sl (tops zs) zs own b 0 zs.length es (fun i j=>(arr[i*es+j]?).getD .nilFunc) hR.2.1 (fun i x j c hi hj=>?_) (fun i x j c hi hj=>?_) (Nat.le_refl _) (Nat.le_refl _) (fun _=>rfl) hown
 ·obtain⟨u,hu,_⟩:=key i x j c hi hj
  simp only[Gh.stay,if_true,Nat.zero_add,hu];rfl
 ·obtain⟨u,hu,h⟩:=key i x j c hi hj
  simp only[hu];exact h
theorem zLK (hE:TysOk E P)(hr:Rel base w0 g s w)(ht:(E.types t).ok=true){fid:FuncId}{fr:Fr}{tmps:Array Value}{n:Nat}{ps:List (Nat×Operand)}
  (hf:VRs g fr.tmps tmps) (hft:tops fr.tmps≤s.n) (h:zCI E fid fr t n ps s=.val v s') :
  StR P base w0 g s w (Instr.buildSlice t n (ps.map fun p=>(p.1,zAE tmps p.2)).toArray) v s':=by
 obtain⟨d,hu,htd,_⟩:=(hE.ti t ht).und
 have hsub:=(hE.ti t ht).sub
 unfold zCI at h
 split at h
 ·rename_i e he
  rw[he] at htd hsub
  have hde:=htd.slice_inv;subst hde
  have hel:=hE.ti e hsub.1
  split at h
  ·rename_i xs hxs
   obtain⟨hl,hv⟩:=zL7 hf hxs
   have htp:=zNN hft hxs
   split at h
   ·rename_i ys s1 hs
    dsimp only at h
    rw[cond_eq_ite] at h
    split at h
    ·rename_i hc
     simp only[Bool.and_eq_true] at hc
     obtain⟨g',hS,hl2,hv2⟩:=sealPs_sim (us:=ps.map fun p=>(p.1,zAE tmps p.2)) hr hs (by simpa using hl) (fun i p u hp hu=>by
      rw[List.getElem?_map] at hu
      cases hpi:ps[i]? with
      | none=>rw[hpi] at hu;cases hu
      | some q=>
       rw[hpi] at hu
       cases hu
       have:=hv i p q hp hpi
       exact⟨this.1,this.2,htp p (List.mem_of_getElem? hp)⟩)
     obtain⟨arr,h1,h2,h3,h4⟩:=zM2 (w:=w) hE hu hsub.1 hl2 (fun i p u hp hu=>⟨(hv2 i p u hp hu).1,(hv2 i p u hp hu).2.1⟩) hc.2.1 (Nat.le_of_ble_eq_true hc.2.2)
     obtain⟨z,_,_,hz0,_⟩:=hel.zero g w
     have htz:tops (zG0 (lrep (zAK (E.types e)) n) ys)≤s.n:=by
      refine zQT ?_ ?_
      ·rw[zD7]
       refine zAP.2 fun x hx=>?_
       rw[List.mem_replicate] at hx
       rw[hx.2,hz0];exact Nat.zero_le _
      ·intro p hp
       obtain⟨i,hi⟩:=List.getElem?_of_mem hp
       have hlt:i<(ps.map fun p=>(p.1,zAE tmps p.2)).length:=by rw[← hl2];exact(List.getElem?_eq_some_iff.1 hi).1
       exact(hv2 i p _ hi (List.getElem?_eq_getElem hlt)).2.2
     rw[cond_eq_ite] at h
     split at h
     ·rw[zFQ (by rw[hS.n];omega)] at h
      cases h
      have hR:=hS.rel.pushRow e hsub.2 h2 (by rw[hS.n];exact htz) false
      refine⟨_,_,_,h1,hR,hS.grows.trans ((Gh.with_grows ..).less (by rw[hS.n];exact Nat.le_refl _)),?_,by rw[zB8];exact Nat.le_refl _,by rw[zB8,hS.n];omega⟩
      have:=VR.osl (g:=g'.with s1.n w.heap.size (E.types e).size (zG0 (lrep (zAK (E.types e)) n) ys).length arr.size) s1.n 0 n n (Nat.le_refl _) (by rw[zFL,zJM,h3,Nat.zero_add];exact Nat.le_refl _) (by rw[zJL,h4];omega)
      rw[zBS,zFL,Nat.zero_mul] at this;exact this
     ·cases h
      obtain⟨hR,hg⟩:=hS.rel.pushStay arr e
      have htz':tops (zG0 (lrep (zAK (E.types e)) n) ys)≤s'.n:=by rw[hS.n];exact htz
      have hst:=zWC (h2.grows hg htz') .clip (by simp)
      rw[h4] at hst
      exact⟨_,_,_,h1,hR,hS.grows.trans (hg.less (by rw[hS.n];exact Nat.le_refl _)),hst,htz',by rw[hS.n];exact Nat.le_refl _⟩
    ·cases h
   ·cases h
  ·cases h
 ·cases h
end
section
variable {E:Env}{P:Program}{g:Gh}{base:Nat}{w0:World}{s s':Sto}{w:World}{v:AV}
theorem zR2 {src dst:TypeId}(hE:TysOk E P)(hs:(E.types src).ok=true)(hd:(E.types dst).ok=true){k k':IntKind}{n:Int}(hdd:(E.types dst).d=.int k) :
  zBM P g s.n w (convert src dst (.int k' n)) (.int k (wr k n)):=by
 obtain⟨ds,hus,_,_⟩:=(hE.ti src hs).und
 obtain⟨dd,hud,hdr,_⟩:=(hE.ti dst hd).und
 rw[hdd] at hdr
 have:=hdr.int_inv';subst this
 refine⟨.int k (k.wrap n),?_,?_,Nat.zero_le _⟩
 ·cases ds<;>simp[convert,run_underlying hus,run_underlying hud,Conv.intToInt]
 ·rw[wr_eq];exact .int _ _
end
section
variable {E:Env}{P:Program}{g:Gh}{base:Nat}{w0:World}{s s':Sto}{w:World}{v:AV}
theorem Rel.pushStayF (h:Rel base w0 g s w)(arr:Array Value)(ty:TypeId)(fr:Nat×Nat):Rel base w0 (g.stay w.heap.size arr) s (Ab.push w (.cells arr ty fr))∧Grows s.n g (g.stay w.heap.size arr):=by
 have hg:=Gh.stay_grows arr (zQQ h) s.n
 have hlt:∀k,k<s.n→liveBox (s.get k)=true→g.mu k<w.heap.size:=fun k hk hl=>(h.at_ k hk hl).2
 refine⟨⟨h.len,?_,?_,h.inj,h.top,h.ups,?_,⟨h.size.1,by rw[zEJ];have:=h.size.2;omega⟩,?_,fun b o hb=>by
  have:=h.size.2
  simp only[Gh.stay];rw[if_neg (by omega)];exact h.oldC b o hb,fun b o hz=>by
  obtain⟨z1,z2,z3⟩:=h.Z b o hz
  have hlt:b<w.heap.size:=(Array.getElem?_eq_some_iff.1 z1).1
  refine⟨by rw[zDS hlt];exact z1,z2,fun i=>?_⟩
  simp only[Gh.stay];rw[if_neg (by omega)];exact z3 i,h.os⟩,hg⟩
 ·intro k hk
  by_cases hl:liveBox (s.get k)=true
  ·refine(h.box k hk).mono hg hk (h.top k hk) (zDS (hlt k hk hl)) (fun o=>?_)
   simp only[Gh.stay]
   rw[if_neg (by have:=hlt k hk hl;omega)]
  ·cases hb:s.get k<;>rw[hb] at hl<;>simp[liveBox] at hl
   trivial
 ·intro k hk hl
  have:=h.at_ k hk hl
  exact⟨this.1,by rw[zEJ];exact Nat.lt_succ_of_lt this.2⟩
 ·intro b o v hv
  simp only[Gh.stay] at hv
  by_cases e:b=w.heap.size
  ·subst e
   rw[if_pos rfl] at hv
   rw[zD0 (zFH w _)];exact hv
  ·rw[if_neg e] at hv;exact zIZ (h.C b o v hv)
 ·intro b hb
  rw[zDS (by have:=h.size.2;omega)]
  exact h.old b hb
theorem zRU (w:World)(arr:Array Value)(e:TypeId)(n:Nat):(push w (.cells arr e)).freeze ⟨w.heap.size,n,none⟩ 1=push w (.cells arr e (n,n+1)):=by
 unfold World.freeze push
 simp only[Nat.one_ne_zero,if_false]
 congr 1
 apply Array.ext_getElem?
 intro i
 rw[Array.getElem?_modify,Array.getElem?_push,Array.getElem?_push]
 by_cases hi:i=w.heap.size
 ·subst hi;simp
 ·rw[if_neg hi,if_neg (by omega),if_neg hi]
theorem zWD {g:Gh}{b es t cap:Nat}{zs:List AV}{arr:Array Value}(hR:RowR (g.stay b arr) es zs arr)(ht:tops zs≤t)(hcap:zs.length≤cap):VR (g.stay b arr) (.sl t zs .shut) (.slice (some ⟨b,0,none⟩) zs.length cap):=by
 have key:∀(i:Nat) (x:AV) (j:Nat) (c:AV),zs[i]?=some x→(cellsOf x)[j]?=some c→∃u,arr[i*es+j]?=some u∧VR (g.stay b arr) c u:=fun i x j c hi hj=>hR.2.2 i x j c hi hj
 refine .sl t zs .shut b 0 cap es (fun i j=>(arr[i*es+j]?).getD .nilFunc) hR.2.1 (fun i x j c hi hj=>?_) (fun i x j c hi hj=>?_) ht hcap (fun h=>absurd rfl h) (by simp)
 ·obtain⟨u,hu,_⟩:=key i x j c hi hj
  simp only[Gh.stay,if_true,Nat.zero_add,hu];rfl
 ·obtain⟨u,hu,h⟩:=key i x j c hi hj
  simp only[hu];exact h
theorem zOS {src dst e:TypeId}(hE:TysOk E P)(hr:Rel base w0 g s w)(hs:(E.types src).ok=true)(hd:(E.types dst).ok=true){b:ByteArray}(hdd:(E.types dst).d=.slice e)(hee:(E.types e).d=.int .u8) :
  StR P base w0 g s w (convert src dst (.string b)) (.sl 0 (byteVs b.data.toList) .shut) s:=by
 obtain⟨ds,hus,_,_⟩:=(hE.ti src hs).und
 obtain⟨dd,hud,hdr,_⟩:=(hE.ti dst hd).und
 have hsub:=(hE.ti dst hd).sub
 rw[hdd] at hdr hsub
 have:=hdr.slice_inv;subst this
 obtain⟨de,hue,her,_⟩:=(hE.ti e hsub.1).und
 rw[hee] at her
 have:=her.int_inv';subst this
 have hsz:b.size≤grownCap w b.size 0 e:=grownCap_ge w b.size 0 e
 obtain⟨hR,hg⟩:=(hr.same (w':=w.drew) rfl).pushStayF (Lib.bytesCells w e b) e ((Lib.bytesCells w e b).size,(Lib.bytesCells w e b).size+1)
 have hrow:RowR (g.stay w.heap.size (Lib.bytesCells w e b)) 1 (byteVs b.data.toList) (Lib.bytesCells w e b):=by
  have:=(zNU (g.stay w.heap.size (Lib.bytesCells w e b)) b.data.toList).rowR (r:=List.replicate (grownCap w b.size 0 e-b.size) (.int .u8 0))
  have he:(b.data.toList.map (fun(c:UInt8)=>Value.int .u8 (c.toNat:Int))++List.replicate (grownCap w b.size 0 e-b.size) (Value.int .u8 0)).toArray=Lib.bytesCells w e b:=by
   unfold Lib.bytesCells
   apply Array.ext'
   rw[Array.toList_append,Array.toList_map,Array.toList_replicate]
  rw[he] at this
  exact this
 refine⟨_,_,_,Lib.run_convert_string_bytes w src dst e b hus hud hue,?_,hg,?_,Nat.zero_le _,Nat.le_refl _⟩
 ·have:Lib.bytesWorld w e b=push w.drew (.cells (Lib.bytesCells w e b) e ((Lib.bytesCells w e b).size,(Lib.bytesCells w e b).size+1)):=zRU w.drew _ e _
  rw[this];exact hR
 ·have hlen:(byteVs b.data.toList).length=b.size:=by rw[zNV,Array.length_toList];rfl
  have:=zWD hrow (t:=0) (cap:=grownCap w b.size 0 e) (by rw[zMI];exact Nat.le_refl _) (by rw[hlen];exact hsz)
  rw[hlen] at this;exact this
end
theorem vsBytes_wid:∀{xs:List AV} {bs:List UInt8},vsBytes xs=some bs→∀x∈xs,(cellsOf x).length=1:=by
 intro xs
 induction xs with
 | nil=>intro bs _ x hx;cases hx
 | cons a r ih=>
  intro bs h x hx
  unfold vsBytes at h
  split at h
  ·rename_i heq;cases heq
  ·rename_i heq
   cases heq
   split at h
   ·rename_i b2 hb
    cases hx with
    | head=>rfl
    | tail _ hx=>exact ih hb x hx
   ·cases h
  ·cases h
theorem zOX {g:Gh}:∀{xs:List AV} {bs:List UInt8} {cs:List Value},vsBytes xs=some bs→RowL g 1 xs cs→
  ∃ns:List Int,cs=ns.map (Value.int .u8)∧bs=ns.map (fun n=>UInt8.ofNat n.toNat):=by
 intro xs
 induction xs with
 | nil=>intro bs cs h hr;cases h;cases hr;exact⟨[],rfl,rfl⟩
 | cons a r ih=>
  intro bs cs h hr
  unfold vsBytes at h
  split at h
  ·rename_i heq;cases heq
  ·rename_i n r' heq
   cases heq
   split at h
   ·rename_i b2 hb
    cases h
    obtain⟨c,l',h1,h2,_,h4,h5⟩:=hr
    obtain⟨ns,e1,e2⟩:=ih hb h5
    match c,h2 with
    | [u],_=>
     have hu:=h4 0 _ u rfl rfl
     cases hu
     exact⟨(n:Int) :: ns,by rw[h1,e1];rfl,by rw[e2];rfl⟩
   ·cases h
  ·cases h
theorem zYM (f:Int→UInt8):∀(ns:List Int) (s:ByteArray),(ns.foldl (fun r n=>r.push (f n)) s).data.toList=s.data.toList++ns.map f:=by
 intro ns
 induction ns with
 | nil=>intro s;simp
 | cons n ns ih=>intro s;rw[List.foldl_cons,ih];simp[ByteArray.push]
section
variable {E:Env}{P:Program}{g:Gh}{base:Nat}{w0:World}{s s':Sto}{w:World}{v:AV}
theorem zP8 {src dst e:TypeId}{x:AV}{x':Value}{xs:List AV}{bs:List UInt8}(hE:TysOk E P)(hr:Rel base w0 g s w)(hs:(E.types src).ok=true)(hd:(E.types dst).ok=true)(hss:(E.types src).d=.slice e)(hee:(E.types e).d=.int .u8)
  (hdd:(E.types dst).d=.str) (hx:VR g x x') (hn:top x≤s.n) (hne:∀b,x≠.str b) (hel:zHQ s x=some (xs,s')) (hb:vsBytes xs=some bs):StR P base w0 g s w (convert src dst x') (.str bs) s':=by
 obtain⟨ds,hus,hsr,_⟩:=(hE.ti src hs).und
 obtain⟨dd,hud,hdr,_⟩:=(hE.ti dst hd).und
 have hsub:=(hE.ti src hs).sub
 rw[hss] at hsr hsub
 have:=hsr.slice_inv;subst this
 rw[hdd] at hdr
 have:=hdr.str_inv;subst this
 obtain⟨de,hue,her,_⟩:=(hE.ti e hsub.1).und
 rw[hee] at her
 have:=her.int_inv';subst this
 obtain⟨g',cs,hS,hrow,hl,hf,hty⟩:=zIK (P:=P) hr hel hx hn (vsBytes_wid hb)
 obtain⟨ns,e1,e2⟩:=zOX hb hrow
 have hf':=hf w rfl
 have fin:∀a c,x'=.slice a xs.length c→StR P base w0 g s w (convert src dst x') (.str bs) s':=by
  intro a c hx'
  subst hx'
  have hrun:(Conv.bytesToString (.slice a xs.length c)).run P w=.ok (.string (ns.foldl (fun r n=>r.push (UInt8.ofNat n.toNat)) ByteArray.empty)) w:=by
   cases a with
   | none=>
    simp only[Builtin.firstCells,Sem.run_pure] at hf'
    have:cs=[]:=by
     injection hf' with h1
     have:=congrArg Array.toList h1
     simpa using this.symm
    rw[this] at e1
    have hns:ns=[]:=by cases ns with|nil=>rfl|cons=>simp at e1
    subst hns
    simp[Conv.bytesToString]
   | some a=>
    simp only[Builtin.firstCells,Nat.mul_one] at hf'
    exact run_bytesToString w a xs.length c ns (by rw[hf',e1])
  have hd:(ns.foldl (fun r n=>r.push (UInt8.ofNat n.toNat)) ByteArray.empty).data.toList=bs:=by rw[zYM (fun n=>UInt8.ofNat n.toNat),e2];simp
  refine⟨.string (ns.foldl (fun r n=>r.push (UInt8.ofNat n.toNat)) ByteArray.empty),w,g',?_,hS.rel,hS.grows,?_,Nat.zero_le _,by rw[hS.n];exact Nat.le_refl _⟩
  ·rw[run_convert_bytes_string w src dst e _ _ _ hus hue hud];exact hrun
  ·rw[← hd];exact .str _
 unfold zHQ at hel
 split at hel
 ·cases hel
  cases hx with
  | sl=>exact fin _ _ rfl
  | slnil=>exact fin none 0 rfl
  | slany=>exact fin _ _ rfl
 ·rename_i k off len
  have hlen:xs.length=len:=by
   split at hel
   ·rename_i h1
    cases hel
    unfold seal1 at h1
    split at h1
    ·rename_i heq
     cases heq
     split at h1
     ·rw[cond_eq_ite] at h1
      split at h1
      ·rename_i hc
       have:=Nat.le_of_ble_eq_true hc
       rw[zAH] at this
       dsimp only at h1
       cases h1
       rw[zCA,zCZ,List.length_take,List.length_drop];omega
      ·cases h1
     ·cases h1
    ·rename_i heq;cases heq
    ·rename_i hno _;exact absurd rfl (hno k off len)
   ·cases hel
  cases hx with
  | osl _ _ _ cap=>exact fin _ cap (by rw[hlen])
  | oslE _ _ b o=>exact fin (some ⟨b,o,none⟩) 0 (by rw[hlen])
 ·exact absurd rfl (hne _)
 ·cases hel
end
theorem zTV {base:Nat}:∀{l:List (Nat×Nat)},zAQ base l=true→∀e∈l,e.1<base→e.2≤base:=by
 intro l
 induction l with
 | nil=>intro _ e he;cases he
 | cons a r ih=>
  intro h e he hlt
  simp only[zAQ,cond_eq_ite] at h
  cases he with
  | head=>
   rw[if_pos (by simpa using hlt)] at h
   split at h
   ·rename_i hc;exact Nat.le_of_ble_eq_true hc
   ·cases h
  | tail _ he=>
   refine ih ?_ e he hlt
   split at h
   ·split at h
    ·exact h
    ·cases h
   ·exact h
theorem zTW {base:Nat}:∀{l:List (Nat×Nat)} {e:Nat×Nat},e∈l→e.1<base→e∈zAJ base l:=by
 intro l
 induction l with
 | nil=>intro e he;cases he
 | cons a r ih=>
  intro e he hlt
  simp only[zAJ,cond_eq_ite]
  cases he with
  | head=>rw[if_pos (by simpa using hlt)];exact .head _
  | tail _ he=>
   split
   ·exact .tail _ (ih he hlt)
   ·exact ih he hlt
section
variable {base:Nat}{w0:World}{g:Gh}{s:Sto}{w:World}
theorem zIL (hl:s.boxes.length=s.n){n k:Nat}(hn:n≤s.n)(hk:k<n):(s.cut n).get k=s.get k:=by
 rw[zKE,zKE]
 simp only[Sto.cut,zLQ]
 rw[if_pos hk,if_pos (by omega),List.getElem?_drop]
 congr 2
 omega
theorem Rel.cut (h:Rel base w0 g s w){n:Nat}(hn:n≤s.n)(hu:zAQ n s.ups=true):Rel base w0 g (s.cut n) w:=by
 have hcn:(s.cut n).n=n:=rfl
 refine⟨?_,?_,?_,?_,?_,?_,h.C,h.size,h.old,h.oldC,fun b o hz=>?_,h.os⟩
 ·simp only[Sto.cut,zLQ,List.length_drop];rw[h.len];omega
 ·intro k hk
  rw[hcn] at hk
  rw[zIL h.len hn hk];exact h.box k (by omega)
 ·intro k hk hl
  rw[hcn] at hk
  rw[zIL h.len hn hk] at hl;exact h.at_ k (by omega) hl
 ·intro j k hj hk hlj hlk he
  rw[hcn] at hj hk
  rw[zIL h.len hn hj] at hlj
  rw[zIL h.len hn hk] at hlk
  exact h.inj j k (by omega) (by omega) hlj hlk he
 ·intro k hk
  rw[hcn] at hk ⊢
  rw[zIL h.len hn hk]
  rcases h.ups k (by omega) with h1|⟨t,h1,h2⟩
  ·omega
  ·have:=zTV hu _ h1 hk
   simp only at this
   omega
 ·intro k hk
  rw[hcn] at hk
  rw[zIL h.len hn hk]
  rcases h.ups k (by omega) with h1|⟨t,h1,h2⟩
  ·exact .inl h1
  ·exact .inr ⟨t,zTW h1 hk,h2⟩
 ·obtain⟨z1,z2,z3⟩:=h.Z b o hz
  refine⟨z1,fun k hk hl=>?_,z3⟩
  rw[hcn] at hk
  rw[zIL h.len hn hk] at hl
  exact z2 k (by omega) hl
theorem Rel.done (h:Rel base w0 g s w){n t:Nat}(hn:n≤s.n):Rel base w0 g (s.done n t) w∧n≤(s.done n t).n∧(t≤s.n→t≤(s.done n t).n):=by
 unfold Sto.done
 rw[cond_eq_ite]
 split
 ·rename_i h1
  rw[cond_eq_ite]
  split
  ·rename_i h2
   exact⟨h.cut hn h2,Nat.le_refl _,fun _=>Nat.le_of_ble_eq_true h1⟩
  ·exact⟨h,hn,fun h=>h⟩
 ·exact⟨h,hn,fun h=>h⟩
end
section
variable {E:Env}{P:Program}{g:Gh}{base:Nat}{w0:World}{s s':Sto}{w:World}{v:AV}
theorem TDR.upt_inv {d:TypeDesc}(h:TDR .upt d):d=.unsafePointer:=by
 cases d<;>first|rfl|exact h.elim
theorem zJ3 {t:TypeId}{ti:TI}(h:TIR E P t ti):P.cellsOf t=ti.size:=by
 obtain⟨⟨i,z,h1,h2,_⟩,_⟩:=h
 simp[Program.cellsOf,h1,h2]
theorem zPP {t:TypeId}{ti:TI}(h:TIR E P t ti)(hs:0<ti.size){cells n:Nat}(hn:n*ti.size≤cells):liesAt P P.depth t (cells / P.cellsOf t) 0 t n=true:=by
 have hd:P.depth=(2*(P.types.size+Made.depth)+1)+1:=rfl
 have hsame:sameLayout P P.depth t t=true:=by
  rw[hd];simp[sameLayout]
 have hrow:rowAt P (sameLayout P P.depth · t) P.depth t (cells / P.cellsOf t) 0 n=true:=by
  rw[zJ3 h]
  have hle:n≤cells / ti.size:=(Nat.le_div_iff_mul_le hs).2 hn
  generalize hq:(sameLayout P P.depth · t)=fits
  have hfit:fits t=true:=by rw[← hq];exact hsame
  rw[hd]
  simp only[rowAt,zJ3 h]
  rw[if_neg (by omega)]
  simp[hfit,hle]
 generalize hdd:P.depth=dd at hrow ⊢
 rw[hd] at hdd
 subst hdd
 rw[liesAt,hd,hrow]
 rfl
theorem zR3 (hE:TysOk E P)(hr:Rel base w0 g s w){src dst:TypeId}(hs:(E.types src).ok=true)(hd:(E.types dst).ok=true){k o:Nat}(h:zME E (E.types src).d (E.types dst).d k o s=.val v s')(hk:k<s.n) :
  s'=s∧zBM P g s.n w (convert src dst (.pointer (some ⟨g.mu k,o,none⟩))) v:=by
 obtain⟨ds,hus,hsr,_⟩:=(hE.ti src hs).und
 obtain⟨dd,hud,hdr,_⟩:=(hE.ti dst hd).und
 unfold zME at h
 split at h
 ·rename_i ty cs hbox
  have hb:=hr.box k hk
  rw[hbox] at hb
  obtain⟨arr,h1,h2,h3⟩:=hb
  have hshape:w.shape? (g.mu k)=some (ty,arr.size):=zKT h1
  split at h
  ·rename_i t hsd
   split at h
   ·rename_i hdd
    rw[cond_eq_ite] at h
    split at h
    ·rename_i hc
     simp only[Bool.and_eq_true,zAH] at hc
     obtain⟨hok,hsz,hlt⟩:=hc
     have hsz:=Nat.lt_of_lt_of_le Nat.zero_lt_one (Nat.le_of_ble_eq_true hsz)
     have hlt:o<cs.length:=Nat.le_of_ble_eq_true hlt
     cases h
     rw[hsd] at hsr
     have:=hsr.ptr_inv;subst this
     rw[hdd] at hdr
     have:=hdr.upt_inv;subst this
     have hsize:=(hE.ti t hok).sizeOf w
     refine⟨rfl,.pointer (some ⟨g.mu k,o,none⟩),?_,.ptr k o,hk⟩
     have hne:¬ (E.types t).size=0:=by omega
     have hna:¬ (arr.size≤o):=by rw[← h2.1];omega
     simp[convert,run_underlying hus,run_underlying hud,Conv.unsafePointer,Conv.seenAt,viewAt,cellsIn,shape,Sem.run,hshape,hsize,hne,hna]
     try rfl
    ·cases h
   ·cases h
  ·rename_i hsd
   split at h
   ·rename_i u hdd
    rw[cond_eq_ite] at h
    split at h
    ·rename_i hc
     simp only[Bool.and_eq_true,zAH] at hc
     obtain⟨hty,hok,hsz,hle,ho⟩:=hc
     have hty:=Nat.eq_of_beq_eq_true hty
     have ho:=Nat.eq_of_beq_eq_true ho
     have hsz:=Nat.lt_of_lt_of_le Nat.zero_lt_one (Nat.le_of_ble_eq_true hsz)
     have hle:=Nat.le_of_ble_eq_true hle
     subst hty;subst ho
     cases h
     rw[hsd] at hsr
     have:=hsr.upt_inv;subst this
     rw[hdd] at hdr
     have:=hdr.ptr_inv;subst this
     have hsize:=(hE.ti ty hok).sizeOf w
     refine⟨rfl,.pointer (some ⟨g.mu k,0,none⟩),?_,.ptr k 0,hk⟩
     have hne:¬ (E.types ty).size=0:=by omega
     have hl:=zPP (hE.ti ty hok) hsz (cells:=arr.size) (n:=1) (by rw[← h2.1];omega)
     simp[convert,run_underlying hus,run_underlying hud,Conv.unsafePointer,Conv.seenAt,viewAt,variablesAt,program,shape,Sem.run,hshape,hsize,hne,hl]
     try rfl
    ·cases h
   ·cases h
  ·cases h
 ·cases h
theorem zVU {ats:Array TypeId}{ty:TypeId}{args:List AV}{us:List Value}(h:zQG args s=.val v s')(ha:VRs g args us.toArray)(hn:tops args≤s.n) :
  s'=s∧zBM P g s.n w (Builtin.unsafeSliceData_ ats ty us.toArray) v:=by
 unfold zQG at h
 split at h
 ·rename_i k n
  cases h
  match us,ha with
  | [u],ha=>
   have hu:=ha.2 0 _ u rfl rfl
   cases hu with
   | osl _ _ _ cap h1 h2 h3=>
    refine⟨rfl,.pointer (some ⟨g.mu k,0,none⟩),?_,?_,?_⟩
    ·cases cap with
     | zero=>omega
     | succ c=>
      rw[Nat.zero_mul];rfl
    ·have:=VR.eptr (g:=g) k 0 0
     simpa using this
    ·rw[zAU] at hn;exact Nat.le_trans (Nat.le_max_left _ _) hn
  | [],ha=>have:=ha.1;simp at this
  | _ :: _ :: _,ha=>have:=ha.1;simp at this
 ·cases h
  match us,ha with
  | [u],ha=>
   have hu:=ha.2 0 _ u rfl rfl
   cases hu with
   | sl _ _ _ b off cap es vs hl hc hv ht hcap hown hnil=>exact absurd rfl hnil
   | slnil=>exact⟨rfl,.pointer none,rfl,.nilptr,Nat.zero_le _⟩
   | slany _ _ _ hnil=>exact absurd rfl hnil
  | [],ha=>have:=ha.1;simp at this
  | _ :: _ :: _,ha=>have:=ha.1;simp at this
 ·cases h
theorem u8s_spec:∀{xs:List AV} {bs:List UInt8} {cs:List Value},u8s xs=true→vsBytes xs=some bs→RowL g 1 xs cs→cs=bs.map (fun b=>Value.int .u8 b.toNat):=by
 intro xs
 induction xs with
 | nil=>intro bs cs _ h hr;cases h;cases hr;rfl
 | cons a r ih=>
  intro bs cs hu h hr
  unfold vsBytes at h
  split at h
  ·rename_i heq;cases heq
  ·rename_i n r' heq
   cases heq
   simp only[u8s,cond_eq_ite] at hu
   split at hu
   ·rename_i hlt
    have hlt:n<256:=Nat.le_of_ble_eq_true hlt
    split at h
    ·rename_i b2 hb
     cases h
     obtain⟨c,l',h1,h2,_,h4,h5⟩:=hr
     have e1:=ih hu hb h5
     match c,h2 with
     | [u],_=>
      have hv:=h4 0 _ u rfl rfl
      cases hv
      have hn:(UInt8.ofNat n).toNat=n:=by simp;omega
      rw[h1,e1]
      simp[hn]
    ·cases h
   ·cases hu
  ·cases h
theorem zQF (hE:TysOk E P)(hr:Rel base w0 g s w){tys:List TypeId}{ty:TypeId}(ht:∀t∈tys,(E.types t).ok=true){args:List AV}{us:List Value}(h:zJK E tys args s=.val v s')(ha:VRs g args us.toArray) :
  StR P base w0 g s w (Builtin.unsafeString_ tys.toArray ty us.toArray) v s':=by
 have two:∀{a b:AV},args=[a,b]→∃x y,us=[x,y]∧VR g a x∧VR g b y:=by
  intro a b e
  subst e
  match us,ha with
  | [x,y],ha=>exact⟨x,y,rfl,ha.2 0 _ x rfl rfl,ha.2 1 _ y rfl rfl⟩
  | [],ha=>have:=ha.1;simp at this
  | [_],ha=>have:=ha.1;simp at this
  | _ :: _ :: _ :: _,ha=>have:=ha.1;simp at this
 unfold zJK at h
 split at h
 ·rename_i t it
  obtain⟨d,hu,hdr,_⟩:=(hE.ti t (ht t (.head _))).und
  split at h
  ·rename_i e htd
   rw[htd] at hdr
   have:=hdr.ptr_inv;subst this
   split at h
   ·rename_i k n
    obtain⟨x,y,rfl,hx,hy⟩:=two rfl
    split at h
    ·rename_i ty' es xs sl hbox
     rw[cond_eq_ite] at h
     split at h
     ·rename_i hc
      simp only[Bool.and_eq_true,zAH] at hc
      obtain⟨c1,c2,c3,c4,c5⟩:=hc
      have c1:=Nat.eq_of_beq_eq_true c1
      have c2:=Nat.eq_of_beq_eq_true c2
      have c3:=Nat.le_of_ble_eq_true c3
      have c4:n<limit:=Nat.le_of_ble_eq_true c4
      have c6:(E.types e).ok=true∧(E.types e).size=1:=by
       cases hok:(E.types e).ok with
       | false=>rw[hok] at c5;cases c5
       | true=>rw[hok] at c5;exact⟨rfl,Nat.eq_of_beq_eq_true c5⟩
      subst c1;subst c2
      dsimp only at h
      rw[cond_eq_ite] at h
      split at h
      ·rename_i hu8
       split at h
       ·rename_i bs hbs
        cases h
        obtain⟨hk,arr,hh,hes,hges,hrl,hbs',hR,htop,hC⟩:=hr.rowBlock hbox
        have hfst:=hR.firstL (n+1) c3
        rw[zCA] at hbs hu8
        have e1:=u8s_spec hu8 hbs hfst
        rw[Nat.mul_one] at e1
        have hsz:=hR.1
        have hlen:bs.length=n+1:=by
         have h1:=congrArg List.length e1
         simp only[List.length_take,Array.length_toList,List.length_map] at h1
         omega
        have hcell:∀(j:Nat) (x:UInt8),bs[j]?=some x→w.cell? ((⟨g.mu k,0,none⟩:Addr).add j)=some (.int .u8 x.toNat):=by
         intro j m hm
         have hj:j<n+1:=by rw[← hlen];exact(List.getElem?_eq_some_iff.1 hm).1
         have:(arr.toList.take (n+1))[j]?=some (.int .u8 m.toNat):=by rw[e1,List.getElem?_map,hm];rfl
         rw[List.getElem?_take,if_pos hj,Array.getElem?_toList] at this
         rw[zD3,Nat.zero_add,zD0 hh];exact this
        have hlim:limit=140737488355328:=rfl
        cases hx with
        | eptr=>
        cases hy with
        | int=>
        have hrun:=Lib.run_unsafeString_row (P:=P) w t it ty ty' hu (by rw[zJ3 (hE.ti ty' c6.1)];exact c6.2) (g.mu k) arr.size (zKT hh) bs (by intro e;rw[e] at hlen;cases hlen) (by omega) (by omega) hcell
        rw[hlen] at hrun
        have hfr:w.freeze ⟨g.mu k,0,none⟩ (n+1)=putB w (g.mu k) (.cells arr ty' (0,0+(n+1))):=by
         unfold World.freeze putB
         rw[if_neg (by omega)]
         congr 1
         apply Array.ext_getElem?
         intro j
         rw[Array.getElem?_modify,Array.getElem?_setIfInBounds]
         obtain⟨hlt,he⟩:=Array.getElem?_eq_some_iff.1 hh
         by_cases hj:g.mu k=j
         ·subst hj;simp[hlt,he]
         ·simp[hj]
        have hlive:liveBox (s.get k)=true:=by rw[hbox];rfl
        refine⟨.string ⟨bs.toArray⟩,putB w (g.mu k) (.cells arr ty' (0,0+(n+1))),g,?_,?_,.refl _ _,?_,Nat.zero_le _,Nat.le_refl _⟩
        ·rw[← hfr,Nat.zero_mul,Nat.zero_add];exact hrun
        ·have:=hr.update (g':=g) (w':=putB w (g.mu k) (.cells arr ty' (0,0+(n+1)))) hk .dead (.refl _ _) hlive (fun b i v hv=>by
           have h0:=hr.C b i v hv
           by_cases hb:b=g.mu k
           ·subst hb
            rw[zD0 hh] at h0
            rw[zD0 (zIY hh)];exact h0
           ·unfold World.cell? at h0 ⊢
            rw[zCY hb];exact h0) (fun _ _ _=>rfl) (fun b hb=>zCY hb) (zG9 ..) trivial (Nat.zero_le _) 0 (.inl (Nat.zero_le _))
         rwa [zFQ (Nat.zero_le _)] at this
        ·have:=VR.str (g:=g) ⟨bs.toArray⟩
         simpa using this
       ·cases h
      ·cases h
     ·cases h
    ·cases h
   ·cases h
    obtain⟨x,y,rfl,hx,hy⟩:=two rfl
    cases hx
    cases hy
    exact zBM.st hr ⟨.string .empty,Lib.run_unsafeString_none w t it ty none,.str .empty,Nat.zero_le _⟩
   ·cases h
  ·cases h
 ·cases h
end
section
variable {E:Env}{P:Program}{t:TypeId}{g:Gh}{base:Nat}{w0:World}{s s':Sto}{w:World}{v:AV}
theorem VR.recap {tp n cap:Nat}{xs:List AV}{own:Own}{a:Option Addr}(h:VR g (.sl tp xs own) (.slice a n cap))(hn:xs.length=n):VR g (.sl tp xs .clip) (.slice a n n):=by
 cases h with
 | slnil=>exact .slnil _ _
 | slany=>exact .slany _ _ _ (by simp)
 | sl _ _ _ b off _ es vs hl hc hv ht hcap hown hnil=>exact .sl tp xs .clip b off _ es vs hl hc hv ht (Nat.le_refl _) (fun _=>rfl) (by simp)
theorem VR.empty {tp:Nat}(b o:Nat):VR g (.sl tp [] .clip) (.slice (some ⟨b,o,none⟩) 0 0):=
 VR.sl tp [] .clip b o 0 0 (fun _ _=>.nilFunc) (by simp) (by simp) (by simp) (Nat.zero_le _) (Nat.le_refl _) (fun _=>rfl) (by simp)
theorem zWS {k off len:Nat}{y:AV}(h:seal1 s (.osl k off len)=some (y,s')):∃xs,y=.sl (tops xs) xs .shut∧xs.length=len:=by
 unfold seal1 at h
 split at h
 ·rename_i heq
  cases heq
  split at h
  ·rw[cond_eq_ite] at h
   split at h
   ·rename_i hc
    have:=Nat.le_of_ble_eq_true hc
    rw[zAH] at this
    dsimp only at h
    cases h
    exact⟨_,rfl,by rw[zCA,zCZ,List.length_take,List.length_drop];omega⟩
   ·cases h
  ·cases h
 ·rename_i heq;cases heq
 ·rename_i hno _;exact absurd rfl (hno k off len)
theorem zK7 (hr:Rel base w0 g s w){e:TypeId}(hE:TIR E P e (E.types e))(hu:P.underlying t=some (.slice e)){k off len m:Nat}{x':Value}{lo hi:Option Nat}{lo' hi' mx':Option Value}
  (h:zFF (E.types e).size k off len lo hi (some m) s=some (v,s')) (hx:VR g (.osl k off len) x') (hn:k+1≤s.n) (h1:zD4 lo lo') (h2:zD4 hi hi') (h3:zD4 (some m) mx') (hm:hi.isSome=true) :
  StR P base w0 g s w (Instr.slice t x' lo' hi' mx') v s':=by
 unfold zFF at h
 split at h
 ·rename_i es xs sl hk
  obtain⟨b1,b2,b3,b4,b5,b6⟩:=hr.row hk
  rw[cond_eq_ite] at h
  split at h
  ·rename_i hes
   have hes':=Nat.eq_of_beq_eq_true hes
   split at h
   ·rename_i l hh hc
    obtain⟨a1,a2,a3,a4,a5⟩:=zEE hc
    have hmh:=a5 m rfl
    subst hmh
    dsimp only at h
    split at h
    ·rename_i tp ys own s1 hseal
     cases h
     obtain⟨ys',e1,e2⟩:=zWS hseal
     injection e1 with e3 e4 e5
     subst e4
     cases hx with
     | oslE _ _ b o hrl=>
      have hb:=zBI (P:=P) (w:=w) (isS:=true) (cap:=0) hc (Nat.le_refl _) h1 h2 h3 (fun _=>hm)
      have hh0:m=0:=by omega
      have hl0:l=0:=by omega
      subst hh0;subst hl0
      obtain⟨g',hS,hv,ht,_⟩:=zG7 hr hseal (.oslE k _ b o (by omega)) hn
      have hnil:ys=[]:=List.eq_nil_of_length_eq_zero e2
      subst hnil
      refine⟨.slice (some ⟨b,o,none⟩) 0 0,w,g',?_,hS.rel,hS.grows,.empty b o,by rw[hS.n];exact ht,by rw[hS.n];exact Nat.le_refl _⟩
      simp[Instr.slice,run_underlying hu,hb,hE.sizeOf w]
     | osl _ _ _ cap hlen hbs hrl=>
      have hb:=zBI (P:=P) (w:=w) (isS:=true) (cap:=cap) hc hlen h1 h2 h3 (fun _=>hm)
      simp only[Option.getD_some] at hb
      have hmu:g.es k=(E.types e).size:=by rw[b2,← hes']
      have e6:(off+l+(cap-l))=off+cap:=by omega
      obtain⟨g',hS,hv,ht,_⟩:=zG7 hr hseal (VR.osl k (off+l) (m-l) (cap-l) (by omega) (by rw[e6];exact hbs) (by omega)) hn
      refine⟨.slice (if m=l then some ⟨g.mu k,off*g.es k,none⟩ else some ⟨g.mu k,off*g.es k+l*(E.types e).size,none⟩) (m-l) (m-l),w,g',?_,hS.rel,hS.grows,?_,by rw[hS.n];exact ht,by rw[hS.n];exact Nat.le_refl _⟩
      ·simp only[Instr.slice,Sem.run_bind,run_underlying hu,Result.andThen_ok,hb,hE.sizeOf w,Sem.run_pure,Option.map_some,zD3]
      ·by_cases hml:m=l
       ·rw[if_pos hml]
        subst hml
        simp only[Nat.sub_self] at e2 ⊢
        have hnil:ys=[]:=List.eq_nil_of_length_eq_zero e2
        subst hnil
        exact .empty _ _
       ·rw[if_neg hml]
        have e7:off*g.es k+l*(E.types e).size=(off+l)*g.es k:=by rw[hmu,Nat.add_mul]
        rw[e7]
        exact hv.recap e2
    ·cases h
   ·cases h
  ·cases h
 ·cases h
theorem zUS (hE:TysOk E P)(hr:Rel base w0 g s w)(ht:(E.types t).ok=true){fr:Fr}{tmps:Array Value}(hf:VRs g fr.tmps tmps){x:AV}{x':Value}{lo hi mx:Option Operand}
  (h:zG2 E t fr (some x) lo hi mx s=.val v s') (hx:VR g x x') (hn:top x≤s.n) (hm:mx.isSome=true→hi.isSome=true) :
  StR P base w0 g s w (Instr.sliceAt t x' (lo.map (zAE tmps)) (hi.map (zAE tmps)) (mx.map (zAE tmps))) v s':=by
 obtain⟨d,hu,hdr,_⟩:=(hE.ti t ht).und
 have hsub:=(hE.ti t ht).sub
 have nvs':∀{y:Option (AV×Sto)},nvs y=.val v s'→y=some (v,s'):=fun h=>by
  unfold nvs at h;split at h<;>cases h;rfl
 have optS:∀{o:Option Operand} {r:Option Nat},zG1 fr o=some r→r.isSome=o.isSome:=by
  intro o r h
  unfold zG1 at h
  split at h
  ·cases h;rfl
  ·split at h
   ·split at h
    ·cases h;rfl
    ·cases h
   ·cases h
 unfold zG2 at h
 dsimp only at h
 split at h
 ·rename_i l hl
  split at h
  ·rename_i hh hhi
   split at h
   ·rename_i mm hmm
    have b1:=zJT hf hl
    have b2:=zJT hf hhi
    have b3:=zJT hf hmm
    have hm':mm.isSome=true→hh.isSome=true:=by rw[optS hmm,optS hhi];exact hm
    split at h
    ·rename_i e htd
     rw[htd] at hdr hsub
     have:=hdr.slice_inv;subst this
     have hsl:∀a b c,(Instr.sliceAt t x' a b c).run P w=(Instr.slice t x' a b c).run P w:=fun a b c=>by
      simp[Instr.sliceAt,run_underlying hu]
     have tr:StR P base w0 g s w (Instr.slice t x' (lo.map (zAE tmps)) (hi.map (zAE tmps)) (mx.map (zAE tmps))) v s'→
       StR P base w0 g s w (Instr.sliceAt t x' (lo.map (zAE tmps)) (hi.map (zAE tmps)) (mx.map (zAE tmps))) v s':=by
      rintro⟨v',w',g',h1,h2⟩
      exact⟨v',w',g',by rw[hsl];exact h1,h2⟩
     have h:=nvs' h
     unfold zIS at h
     split at h
     ·rename_i tp xs own
      obtain⟨rfl,hp⟩:=zQZ (w:=w) (hE.ti e hsub.1) hu h hx hn b1 b2 b3 hm'
      exact tr (hp.st hr)
     ·rename_i k off len
      cases mm with
      | none=>
       have b3':mx.map (zAE tmps)=none:=by
        have:=optS hmm
        cases mx with
        | none=>rfl
        | some _=>cases this
       obtain⟨rfl,hp⟩:=zO9 hr (hE.ti e hsub.1) hu h hx hn b1 b2
       rw[← b3'] at hp
       exact tr (hp.st hr)
      | some m=>exact tr (zK7 hr (hE.ti e hsub.1) hu h hx hn b1 b2 b3 (hm' rfl))
     ·cases h
    ·rename_i htd
     rw[htd] at hdr
     have:=hdr.str_inv;subst this
     split at h
     ·rename_i b
      have h:=nvs' h
      cases hx with
      | str b'=>
      obtain⟨rfl,hp⟩:=zO8 (w:=w) (g:=g) hu h b1 b2 b3
      refine zBM.st hr ?_
      obtain⟨v',h1,h2⟩:=hp
      exact⟨v',by simpa[Instr.sliceAt,run_underlying hu] using h1,h2⟩
     ·cases h
    ·cases h
   ·cases h
  ·cases h
 ·cases h
end
def mk (f:FuncId)(kd:CallKind)(rn:Option Nat)(tm:Array Value)(df:List Deferred)(todo:List Item):Frame:=
 { fn:=f,tmps:=tm,todo,defers:=df,mode:=.run,kind:=kd,roundOf:=rn }
def putT (d:Option Tmp)(v:Value)(tm:Array Value):Array Value:=
 match d with
 | some d=>tm.setIfInBounds d v
 | none=>tm
section
variable {P:Program}{f:FuncId}{kd:CallKind}{rn:Option Nat}{tm:Array Value}{df:List Deferred}{k:List Item}{cs:List Frame}{w w':World}
theorem zJU (todo:List Item):(mk f kd rn tm df todo).eval=zAE tm:=by
 funext o;cases o<;>rfl
theorem zE4 (ops:Array Oper)(i:Nat)(rest:List Nat)(v:Value) :
  (mk f kd rn tm df (.inRegion ops (i :: rest) :: k)).finish v=mk f kd rn (putT ((ops[i]?).bind (·.dst)) v tm) df (.inRegion ops rest :: k):=by
 cases h:(ops[i]?).bind (·.dst)<;>simp[Frame.finish,mk,putT,h]
theorem st_skip:step P (lone (mk f kd rn tm df (.code .skip :: k)) cs w)=.next (lone (mk f kd rn tm df k) cs w):=
 step_lone_go (by simp[stepG,stepG.exec,mk])
theorem st_label {l:Nat}:step P (lone (mk f kd rn tm df (.code (.label l) :: k)) cs w)=.next (lone (mk f kd rn tm df k) cs w):=
 step_lone_go (by simp[stepG,stepG.exec,mk])
theorem zT6 {id:Nat}:step P (lone (mk f kd rn tm df (.inBlock id :: k)) cs w)=.next (lone (mk f kd rn tm df k) cs w):=
 step_lone_go (by simp[stepG,stepG.exec,mk])
theorem zSZ {x y:Code}:step P (lone (mk f kd rn tm df (.code (.seq x y) :: k)) cs w)=.next (lone (mk f kd rn tm df (.code x :: .code y :: k)) cs w):=
 step_lone_go (by simp[stepG,stepG.exec,mk])
theorem zQY {c:Operand}{x y:Code}{t:Bool}(h:zAE tm c=.bool t) :
  step P (lone (mk f kd rn tm df (.code (.cond c x y) :: k)) cs w)=.next (lone (mk f kd rn tm df (.code (if t then x else y) :: k)) cs w):=
 step_lone_go (by
  have:=congrFun (zJU (f:=f) (kd:=kd) (rn:=rn) (tm:=tm) (df:=df) (.code (.cond c x y) :: k)) c
  simp only[mk] at this
  simp[stepG,stepG.exec,mk,this,h])
theorem st_block {id:Nat}{c:Code}:step P (lone (mk f kd rn tm df (.code (.block id c) :: k)) cs w)=.next (lone (mk f kd rn tm df (.code c :: .inBlock id :: k)) cs w):=
 step_lone_go (by simp[stepG,stepG.exec,mk])
theorem st_scope {c:Code}:step P (lone (mk f kd rn tm df (.code (.scope c) :: k)) cs w)=.next (lone (mk f kd rn tm df (.code c :: .inScope c :: k)) cs w):=
 step_lone_go (by simp[stepG,stepG.exec,mk])
theorem zT5 {c:Code}:step P (lone (mk f kd rn tm df (.inScope c :: k)) cs w)=.next (lone (mk f kd rn tm df k) cs w):=
 step_lone_go (by simp[stepG,stepG.exec,mk])
theorem zWG {c:Code}:step P (lone (mk f kd rn tm df (.code (.loop c) :: k)) cs w)=.next (lone (mk f kd rn tm df (.code c :: .inLoop c :: k)) cs w):=
 step_lone_go (by simp[stepG,stepG.exec,mk])
theorem zWH {c:Code}:step P (lone (mk f kd rn tm df (.inLoop c :: k)) cs w)=.next (lone (mk f kd rn tm df (.code c :: .inLoop c :: k)) cs w):=
 step_lone_go (by simp[stepG,stepG.exec,mk])
theorem st_exit {id:Nat}{k':List Item}(h:exitTo id k=some k') :
  step P (lone (mk f kd rn tm df (.code (.exit id) :: k)) cs w)=.next (lone (mk f kd rn tm df k') cs w):=
 step_lone_go (by simp[stepG,stepG.exec,mk,h])
theorem st_ret:step P (lone (mk f kd none tm df (.code .ret :: k)) cs w)=.next (lone { mk f kd none tm df (.code .ret :: k) with mode:=.returning } cs w):=
 step_lone_go (by simp[stepG,stepG.exec,mk])
theorem st_end:step P (lone (mk f kd none tm df []) cs w)=.next (lone { mk f kd none tm df [] with mode:=.returning } cs w):=
 step_lone_go (by simp[stepG,stepG.exec,mk])
theorem zK4 {id:Nat}{ops:Array Oper} :
  step P (lone (mk f kd rn tm df (.code (.region id ops false) :: k)) cs w)=.next (lone (mk f kd rn tm df (.inRegion ops (List.range ops.size) :: k)) cs w):=
 step_lone_go (by simp[stepG,stepG.exec,mk])
theorem st_draw {id:Nat}{ops:Array Oper} :
  step P (lone (mk f kd rn tm df (.code (.region id ops true) :: k)) cs w) =
   .next (lone (mk f kd rn tm df (.inRegion ops (Region.schedule (P.follows .mixedOrders) ops (w.tape w.drawn (.order f id))) :: k)) cs { w with drawn:=w.drawn+1 }):=
 step_lone_go (by simp[stepG,stepG.exec,mk,choose,Sem.run,Question.forced,Question.cut])
theorem zEH {ops:Array Oper}:step P (lone (mk f kd rn tm df (.inRegion ops [] :: k)) cs w)=.next (lone (mk f kd rn tm df k) cs w):=
 step_lone_go (by simp[stepG,stepG.exec,mk])
theorem zK5 {ops:Array Oper}{i:Nat}{rest:List Nat}(h:((ops[i]?).map (Region.wanted · (yielded ops tm))).getD false=false) :
  step P (lone (mk f kd rn tm df (.inRegion ops (i :: rest) :: k)) cs w) =
   .next (lone (mk f kd rn (putT ((ops[i]?).bind (·.dst)) Go.undef tm) df (.inRegion ops rest :: k)) cs w):=by
 rw[← zE4]
 exact step_lone_go (by
  have h':=h
  simp only[mk] at *
  simp[stepG,stepG.exec,h'])
def isDefer:Op→Bool
 | .defer _=>true
 | _=>false
theorem zK6 {ops:Array Oper}{i:Nat}{rest:List Nat}{o:Oper}(ho:ops[i]?=some o)(hw:Region.wanted o (yielded ops tm)=true)(hd:rn=none∨isDefer o.op=false) :
  stepG P true { frame:=mk f kd rn tm df (.inRegion ops (i :: rest) :: k),callers:=cs,status:=.running,dying:=none } w =
   stepG.apply P true (mk f kd rn tm df (.inRegion ops (i :: rest) :: k)) cs none (execOp (zAE tm) o) w:=by
 have he:=zJU (f:=f) (kd:=kd) (rn:=rn) (tm:=tm) (df:=df) (.inRegion ops (i :: rest) :: k)
 simp only[mk] at he
 rcases hd with hd|hd
 ·subst hd
  simp[stepG,stepG.exec,stepG.oper,Frame.oper?,mk,ho,hw,he]
 ·cases hop:o.op<;>rw[hop] at hd<;>simp[isDefer] at hd<;>cases rn<;>simp[stepG,stepG.exec,stepG.oper,Frame.oper?,mk,ho,hw,he,hop]
variable {ops:Array Oper}{i:Nat}{rest:List Nat}{o:Oper}
theorem zFD (ho:ops[i]?=some o)(hw:Region.wanted o (yielded ops tm)=true)(hd:rn=none∨isDefer o.op=false){v:Value}(hr:(execOp (zAE tm) o).run P w=.ok (.value v) w') :
  step P (lone (mk f kd rn tm df (.inRegion ops (i :: rest) :: k)) cs w)=.next (lone (mk f kd rn (putT o.dst v tm) df (.inRegion ops rest :: k)) cs w'):=by
 have hf:=zE4 (f:=f) (kd:=kd) (rn:=rn) (tm:=tm) (df:=df) (k:=k) ops i rest v
 rw[ho] at hf
 simp only[Option.bind_some] at hf
 rw[← hf]
 refine step_lone_go ?_
 rw[zK6 ho hw hd]
 simp[stepG.apply,hr]
theorem zHV (ho:ops[i]?=some o)(hw:Region.wanted o (yielded ops tm)=true)(hd:rn=none∨isDefer o.op=false)(hr:(execOp (zAE tm) o).run P w=.ok .skip w') :
  step P (lone (mk f kd rn tm df (.inRegion ops (i :: rest) :: k)) cs w)=.next (lone (mk f kd rn (putT o.dst Go.undef tm) df (.inRegion ops rest :: k)) cs w'):=by
 have hf:=zE4 (f:=f) (kd:=kd) (rn:=rn) (tm:=tm) (df:=df) (k:=k) ops i rest Go.undef
 rw[ho] at hf
 simp only[Option.bind_some] at hf
 rw[← hf]
 refine step_lone_go ?_
 rw[zK6 ho hw hd]
 simp[stepG.apply,hr]
theorem zKR (ho:ops[i]?=some o)(hw:Region.wanted o (yielded ops tm)=true)(hd:rn=none∨isDefer o.op=false){h:FuncId}{args:Array Value}(hr:(execOp (zAE tm) o).run P w=.ok (.enter h args) w') :
  step P (lone (mk f kd rn tm df (.inRegion ops (i :: rest) :: k)) cs w)=.next (lone (Frame.enter P h args .normal) (mk f kd rn tm df (.inRegion ops (i :: rest) :: k) :: cs) w'):=by
 refine step_lone_go ?_
 rw[zK6 ho hw hd]
 simp[stepG.apply,hr,mk]
theorem zKQ (ho:ops[i]?=some o)(hw:Region.wanted o (yielded ops tm)=true)(hd:rn=none∨isDefer o.op=false){l:Nat}{h:FuncId}{ts:Array Value}{as body:Code}
  (hr:(execOp (zAE tm) o).run P w=.ok (.round l h ts as body) w') :
  step P (lone (mk f kd rn tm df (.inRegion ops (i :: rest) :: k)) cs w)=.next (lone (Frame.round l h ts as body .normal) (mk f kd rn tm df (.inRegion ops (i :: rest) :: k) :: cs) w'):=by
 refine step_lone_go ?_
 rw[zK6 ho hw hd]
 simp[stepG.apply,hr,mk]
theorem zS0 (ho:ops[i]?=some o)(hw:Region.wanted o (yielded ops tm)=true)(hd:rn=none∨isDefer o.op=false){v:Value}(hr:(execOp (zAE tm) o).run P w=.halt (.panic v) w') :
  step P (lone (mk f kd rn tm df (.inRegion ops (i :: rest) :: k)) cs w) =
   .next (lone { mk f kd rn tm df (.inRegion ops (i :: rest) :: k) with mode:=.panicking [{ v,recovered:=false }] } cs w'):=by
 refine step_lone_go ?_
 rw[zK6 ho hw hd]
 simp[stepG.apply,hr,mk,Frame.raise]
theorem st_defer (ho:ops[i]?=some o)(hw:Region.wanted o (yielded ops tm)=true)(hd:rn=none){d:Deferred}(hr:(execOp (zAE tm) o).run P w=.ok (.defer d) w') :
  step P (lone (mk f kd rn tm df (.inRegion ops (i :: rest) :: k)) cs w)=.next (lone (mk f kd rn (putT o.dst Go.undef tm) (d :: df) (.inRegion ops rest :: k)) cs w'):=by
 have hf:=zE4 (f:=f) (kd:=kd) (rn:=rn) (tm:=tm) (df:=d :: df) (k:=k) ops i rest Go.undef
 rw[ho] at hf
 simp only[Option.bind_some] at hf
 rw[← hf]
 refine step_lone_go ?_
 rw[zK6 ho hw (.inl hd)]
 simp[stepG.apply,hr,mk]
theorem zM3 (ho:ops[i]?=some o)(hw:Region.wanted o (yielded ops tm)=true)(hd:rn=none)(hr:(execOp (zAE tm) o).run P w=.ok .recover w')
  {r:Value×List Frame} (ht:(tryRecover (mk f kd rn tm df (.inRegion ops (i :: rest) :: k)) cs).getD (.nilIface,cs)=r) :
  step P (lone (mk f kd rn tm df (.inRegion ops (i :: rest) :: k)) cs w)=.next (lone (mk f kd rn (putT o.dst r.1 tm) df (.inRegion ops rest :: k)) r.2 w'):=by
 have hf:=zE4 (f:=f) (kd:=kd) (rn:=rn) (tm:=tm) (df:=df) (k:=k) ops i rest r.1
 rw[ho] at hf
 simp only[Option.bind_some] at hf
 rw[← hf]
 refine step_lone_go ?_
 rw[zK6 ho hw (.inl hd)]
 subst hd
 cases hq:tryRecover (mk f kd none tm df (.inRegion ops (i :: rest) :: k)) cs with
 | none=>
  rw[hq] at ht
  simp only[Option.getD_none] at ht
  subst ht
  simp only[mk] at hq
  simp[stepG.apply,hr,mk,hq]
 | some q=>
  rw[hq] at ht
  simp only[Option.getD_some] at ht
  subst ht
  simp only[mk] at hq
  simp[stepG.apply,hr,mk,hq]
end
inductive DfR (g:Gh) (n:Nat):AV×List AV→Deferred→Prop
 | mark (k:Nat) (l:List AV) (hk:k<n):DfR g n (.ptr k 0,l) ⟨.collected (g.mu k),#[]⟩
 | call (t:Nat) (h:FuncId) (a b args:List AV) (a' b' args':Array Value) (ha:VRs g a a') (hb:VRs g b b') (hs:VRs g args args')
   (ta:tops a≤n) (tb:tops b≤n) (ts:tops args≤n):DfR g n (.func t (.func h) a b,args) ⟨.fn (.func h) b',a'++args'⟩
def DfsR (g:Gh)(n:Nat):List (AV×List AV)→List Deferred→Prop
 | [],[]=>True
 | x :: xs,y :: ys=>DfR g n x y∧DfsR g n xs ys
 | _,_=>False
theorem DfR.grows {g g':Gh}{n m:Nat}{x:AV×List AV}{d:Deferred}(h:DfR g n x d)(hg:Grows n g g')(hm:n≤m):DfR g' m x d:=by
 cases h with
 | mark k l hk=>rw[← hg.mu k hk];exact .mark k l (by omega)
 | call t h a b args a' b' args' ha hb hs ta tb ts=>
  exact .call t h a b args a' b' args' (ha.grows hg ta) (hb.grows hg tb) (hs.grows hg ts) (by omega) (by omega) (by omega)
theorem DfsR.grows {g g':Gh}{n m:Nat}(hg:Grows n g g')(hm:n≤m):∀{xs:List (AV×List AV)} {ds:List Deferred},DfsR g n xs ds→DfsR g' m xs ds:=by
 intro xs
 induction xs with
 | nil=>intro ds h;cases ds<;>exact h
 | cons x xs ih=>
  intro ds h
  cases ds with
  | nil=>exact h
  | cons d ds=>exact⟨h.1.grows hg hm,ih h.2⟩
def isI:AV→Bool
 | .iface _ _=>true
 | _=>false
def RecR (g:Gh)(n:Nat)(kd:CallKind):Option AV→List Frame→Prop
 | none,cs=>∀fr:Frame,fr.kind=kd→tryRecover fr cs=none
 | some (.iface t v),cs=>kd=.deferred∧∃c rest v',cs=c :: rest∧c.mode=.panicking [{ v:=v',recovered:=false }]∧VR g (.iface t v) v'∧top v≤n
 | some _,_=>True
theorem RecR.grows {g g':Gh}{n m:Nat}{kd:CallKind}{r:Option AV}{cs:List Frame}(h:RecR g n kd r cs)(hg:Grows n g g')(hm:n≤m):RecR g' m kd r cs:=by
 cases r with
 | none=>exact h
 | some v=>
  cases v with
  | iface t v=>
   obtain⟨h1,c,rest,v',h2,h3,h4,h5⟩:=h
   exact⟨h1,c,rest,v',h2,h3,h4.grows hg h5,by omega⟩
  | _=>trivial
def recMark:List Frame→List Frame
 | c :: r=>{ c with mode:=match c.mode with|.panicking (e :: l)=>.panicking ({ e with recovered:=true } :: l)|m=>m } :: r
 | []=>[]
def CsR (m m':Option AV)(cs cs':List Frame):Prop:=(m'=m∧cs'=cs)∨(∃v,m=some v∧isI v=true)∧m'=none∧cs'=recMark cs
theorem CsR.refl (m:Option AV)(cs:List Frame):CsR m m cs cs:=.inl ⟨rfl,rfl⟩
theorem CsR.trans {m m' m'':Option AV}{cs cs' cs'':List Frame}(h:CsR m m' cs cs')(h':CsR m' m'' cs' cs''):CsR m m'' cs cs'':=by
 rcases h with⟨rfl,rfl⟩|⟨hm,rfl,rfl⟩
 ·exact h'
 ·rcases h' with⟨rfl,rfl⟩|⟨⟨v,hv,_⟩,_⟩
  ·exact .inr ⟨hm,rfl,rfl⟩
  ·cases hv
structure FI (base:Nat) (w0:World) (g:Gh) (s:Sto) (w:World) (fr:Fr) (tm:Array Value) (df:List Deferred) (kd:CallKind) (rn:Option Nat) (cs:List Frame) (ls:Bool):Prop where
 rel:Rel base w0 g s w
 tm:ls=false→VRs g fr.tmps tm∧tops fr.tmps≤s.n
 df:DfsR g s.n fr.defers df
 rec_:RecR g s.n kd fr.rec_ cs
 rnd:rn.isSome=zGO fr
 kd:kd=.normal∨kd=.deferred
def RnR (g:Gh)(n:Nat)(rnd rn:Option Nat):Prop:=rn=rnd.map g.mu∧∀l,rnd=some l→l<n
theorem RnR.grows {g g':Gh}{n m:Nat}{rnd rn:Option Nat}(h:RnR g n rnd rn)(hg:Grows n g g')(hm:n≤m):RnR g' m rnd rn:=by
 refine⟨?_,fun l hl=>by have:=h.2 l hl;omega⟩
 rw[h.1]
 cases rnd with
 | none=>rfl
 | some l=>simp[hg.mu l (h.2 l rfl)]
def Arr (P:Program)(base:Nat)(w0:World)(fid:FuncId)(kd:CallKind)(rn:Option Nat)(k:List Item)(m:Machine)(o:Out)(g:Gh)(s:Sto)(w:World)(fr:Fr)(tm:Array Value)(df:List Deferred)(cs:List Frame):Prop:=
 match o with
 | .normal=>FI base w0 g s w fr tm df kd rn cs false∧Steps P m (lone (mk fid kd rn tm df k) cs w)
 | .exit id=>FI base w0 g s w fr tm df kd rn cs false∧∃k2,exitTo id k2=exitTo id k∧Steps P m (lone (mk fid kd rn tm df (.code (.exit id) :: k2)) cs w)
 | .ret=>FI base w0 g s w fr tm df kd rn cs false∧∃k2,Steps P m (lone (mk fid kd rn tm df (.code .ret :: k2)) cs w)
 | .panic v=>FI base w0 g s w fr tm df kd rn cs (allMarks fr.defers)∧∃v' k2,VR g v v'∧isI v=true∧top v≤s.n∧
   Steps P m (lone { mk fid kd rn tm df k2 with mode:=.panicking [{ v:=v',recovered:=false }] } cs w)
 | .goto _=>False
theorem Arr.steps {P:Program}{base:Nat}{w0:World}{fid:FuncId}{kd:CallKind}{rn:Option Nat}{k:List Item}{m m1:Machine}{o:Out}{g:Gh}{s:Sto}{w:World}{fr:Fr}{tm:Array Value}{df:List Deferred}
  {cs:List Frame} (hs:Steps P m m1) (h:Arr P base w0 fid kd rn k m1 o g s w fr tm df cs):Arr P base w0 fid kd rn k m o g s w fr tm df cs:=by
 cases o with
 | normal=>exact⟨h.1,hs.trans h.2⟩
 | exit id=>obtain⟨h1,k2,h2,h3⟩:=h;exact⟨h1,k2,h2,hs.trans h3⟩
 | ret=>obtain⟨h1,k2,h3⟩:=h;exact⟨h1,k2,hs.trans h3⟩
 | panic v=>obtain⟨h1,v',k2,h2,h3,h4,h5⟩:=h;exact⟨h1,v',k2,h2,h3,h4,hs.trans h5⟩
 | goto l=>exact h
def Lands (P:Program)(base:Nat)(w0:World)(fid:FuncId)(kd:CallKind)(rn:Option Nat)(k:List Item)(m:Machine)(g:Gh)(n:Nat)(rc:Option AV)(cs:List Frame)(o:Out)(fr':Fr)(s':Sto):Prop:=
 ∃g' w' tm' df' cs',Grows n g g'∧n≤s'.n∧CsR rc fr'.rec_ cs cs'∧Arr P base w0 fid kd rn k m o g' s' w' fr' tm' df' cs'
section
variable {P:Program}{base:Nat}{w0:World}{fid:FuncId}{kd:CallKind}{rn:Option Nat}{k k0:List Item}{m m1:Machine}{g g1:Gh}{n n1:Nat}{rc rc1:Option AV}{cs cs1:List Frame}{o:Out}{fr':Fr}{s':Sto}
theorem Lands.steps (hs:Steps P m m1)(h:Lands P base w0 fid kd rn k m1 g n rc cs o fr' s'):Lands P base w0 fid kd rn k m g n rc cs o fr' s':=by
 obtain⟨g',w',tm',df',cs',h1,h2,h3,h4⟩:=h
 exact⟨g',w',tm',df',cs',h1,h2,h3,h4.steps hs⟩
theorem Lands.from (hg:Grows n g g1)(hn:n≤n1)(hc:CsR rc rc1 cs cs1)(h:Lands P base w0 fid kd rn k m g1 n1 rc1 cs1 o fr' s'):Lands P base w0 fid kd rn k m g n rc cs o fr' s':=by
 obtain⟨g',w',tm',df',cs',h1,h2,h3,h4⟩:=h
 exact⟨g',w',tm',df',cs',hg.trans (h1.less hn),by omega,hc.trans h3,h4⟩
theorem Lands.pass {x:Item}(hx:x.plain=true)(ho:o≠.normal)(h:Lands P base w0 fid kd rn (x :: k) m g n rc cs o fr' s'):Lands P base w0 fid kd rn k m g n rc cs o fr' s':=by
 obtain⟨g',w',tm',df',cs',h1,h2,h3,h4⟩:=h
 refine⟨g',w',tm',df',cs',h1,h2,h3,?_⟩
 cases o with
 | normal=>exact absurd rfl ho
 | exit id=>
  obtain⟨h5,k2,h6,h7⟩:=h4
  exact⟨h5,k2,h6.trans (by cases x<;>simp_all[exitTo,Item.plain]),h7⟩
 | ret=>exact h4
 | panic v=>exact h4
 | goto l=>exact h4
end
structure ExecSim (P:Program) (OK:FuncId→Code→Prop) (r:Rec):Prop where
 run:∀{fid:FuncId} {rnd:Option Nat} {c:Code} {fr:Fr} {s:Sto} {o:Out} {fr':Fr} {s':Sto},r.exec fid rnd c fr s=some (o,fr',s')→OK fid c→
  ∀{base:Nat} {w0:World} {g:Gh} {w:World} {tm:Array Value} {df:List Deferred} {kd:CallKind} {rn:Option Nat} {cs:List Frame} (k:List Item),
   g.ok=OK→FI base w0 g s w fr tm df kd rn cs false→RnR g s.n rnd rn→
   Lands P base w0 fid kd rn k (lone (mk fid kd rn tm df (.code c :: k)) cs w) g s.n fr.rec_ cs o fr' s'
def zSM (P:Program)(g:Gh)(n:Nat)(f:FuncId)(args:Array Value)(w w':World)(c:Frame)(cs:List Frame):CR→Prop
 | .ret v=>∃v',VR g v v'∧top v≤n∧((callFunc f args).run P w=.ok (.value v') w'∨
   ((callFunc f args).run P w=.ok (.enter f args) w∧Steps P (lone (Frame.enter P f args .normal) (c :: cs) w) (lone (c.finish v') cs w')))
 | .panic v=>∃v',VR g v v'∧isI v=true∧top v≤n∧(callFunc f args).run P w=.ok (.enter f args) w∧
   Steps P (lone (Frame.enter P f args .normal) (c :: cs) w) (lone (c.raise [{ v:=v',recovered:=false }]) cs w')
def zC3 (P:Program)(base:Nat)(w0:World)(g:Gh)(s:Sto)(w:World)(f:FuncId)(args:Array Value)(cr:CR)(s':Sto):Prop:=
 ∀(c:Frame) (cs:List Frame),∃g' w',Grows s.n g g'∧Rel base w0 g' s' w'∧s.n≤s'.n∧zSM P g' s'.n f args w w' c cs cr
def zQO (g:Gh)(n:Nat):Option AV→FrameMode→Prop
 | none,u=>u=.returning
 | some v,u=>isI v=true∧top v≤n∧∃v',u=.panicking [{ v:=v',recovered:=false }]∧VR g v v'
def CallDef (P:Program)(base:Nat)(w0:World)(g:Gh)(s:Sto)(w:World)(f:FuncId)(args:Array Value)(m:Option AV)(recd:Bool)(s':Sto):Prop:=
 ∀(c:Frame) (cs:List Frame),zQO g s.n m c.mode→∃g' w',Grows s.n g g'∧Rel base w0 g' s' w'∧s.n≤s'.n∧
  (callFunc f args).run P w=.ok (.enter f args) w∧(recd=true→m.isSome=true)∧
  Steps P (lone (Frame.enter P f args .deferred) (c :: cs) w) (lone { c with mode:=if recd then .returning else c.mode } cs w')
structure CallSim (P:Program) (OK:FuncId→Code→Prop) (r:Rec):Prop where
 norm:∀{f:FuncId} {args:List AV} {s:Sto} {cr:CR} {recd:Bool} {s':Sto},r.call f args none s=some (cr,recd,s')→
  ∀{base:Nat} {w0:World} {g:Gh} {w:World} {args':Array Value},g.ok=OK→Rel base w0 g s w→VRs g args args'→tops args≤s.n→zC3 P base w0 g s w f args' cr s'
 defd:∀{f:FuncId} {args:List AV} {m:Option AV} {s:Sto} {v:AV} {recd:Bool} {s':Sto},r.call f args (some m) s=some (.ret v,recd,s')→
  ∀{base:Nat} {w0:World} {g:Gh} {w:World} {args':Array Value},g.ok=OK→Rel base w0 g s w→VRs g args args'→tops args≤s.n→CallDef P base w0 g s w f args' m recd s'
end Go.Ab
end
