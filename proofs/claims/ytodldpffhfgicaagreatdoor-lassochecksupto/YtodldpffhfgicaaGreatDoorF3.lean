/- A part. -/
import Derived.Test.YtodldpffhfgicaaGreatDoorF2
import Derived.Laws.AppendOwn
set_option linter.all false
noncomputable section
namespace Go.Ab
open Go
theorem zIO {es:List (AV×AV)}{n:Nat}(h:boxTop (.mapb es)≤n):∀x∈es,top x.1≤n∧top x.2≤n:=by
 simp only[boxTop] at h
 induction es with
 | nil=>intro x hx;cases hx
 | cons a l ih=>
  simp only[List.foldr_cons] at h
  have h':=Nat.max_le.1 h
  have h'':=Nat.max_le.1 h'.1
  intro x hx
  cases hx with
  | head=>exact h''
  | tail _ hx=>exact ih h'.2 x hx
theorem BoxR.mono {g g':Gh}{w w':World}{k n:Nat}{b:Box}(hb:BoxR g w k b)(hg:Grows n g g')(hk:k<n)(ht:boxTop b≤n)
  (hh:w'.heap[g.mu k]?=w.heap[g.mu k]?) (hC:∀o,g'.C (g.mu k) o=g.C (g.mu k) o):BoxR g' w' k b:=by
 have emu:=hg.mu k hk
 cases b with
 | cells cs=>
  obtain⟨arr,h1,h2,h3⟩:=hb
  exact⟨arr,by rw[emu,hh];exact h1,h2.grows hg ht,fun o=>by rw[emu,hC];exact h3 o⟩
 | row es xs sl=>
  obtain⟨arr,h1,h2,h3,h4,h5,h6,h7,h8,h9⟩:=hb
  refine⟨arr,by rw[emu,hh];exact h1,h2,by rw[hg.es k hk];exact h3,by rw[hg.rl k hk];exact h4,by rw[hg.bs k hk];exact h5,h6,h7,fun i x j c hi hj=>?_,fun o v hv=>?_⟩
  ·obtain⟨v,hv,hr⟩:=h8 i x j c hi hj
   exact⟨v,hv,hr.grows hg (zGI ht hi hj)⟩
  ·rw[emu,hC] at hv;exact h9 o v hv
 | mapb es=>
  obtain⟨ents,clock,h1,h2,h3,h4⟩:=hb
  refine⟨ents,clock,by rw[emu,hh];exact h1,h2,fun i x e hi he=>?_,fun o=>by rw[emu,hC];exact h4 o⟩
  have:=zIO ht x (List.mem_of_getElem? hi)
  exact⟨(h3 i x e hi he).1.grows hg this.1,(h3 i x e hi he).2.grows hg this.2⟩
 | loop lb=>
  obtain⟨lp,d,h1,h2,h3,h4,h5,h6,h7,h8,h9,h11,h10⟩:=hb
  exact⟨lp,d,by rw[emu,hh];exact h1,h2,h3,h4,h5.grows hg ht,h6,h7,h8,h9,by rw[hg.ok];exact h11,fun o=>by rw[emu,hC];exact h10 o⟩
 | mark=>exact⟨by rw[emu,hh];exact hb.1,fun o=>by rw[emu,hC];exact hb.2 o⟩
 | dead=>trivial
theorem zFP (s:Sto)(k:Nat)(b:Box):(s.put k b).n=s.n:=rfl
theorem zLE {s:Sto}(hl:s.boxes.length=s.n){k:Nat}(hk:k<s.n)(b:Box)(j:Nat):(s.put k b).get j=if j=k then b else s.get j:=by
 rw[zKE,zKE,zFP]
 unfold Sto.put
 simp only[zKW]
 by_cases hj:j<s.n
 ·rw[if_pos hj,if_pos hj,List.getElem?_set]
  by_cases h:j=k
  ·subst h
   rw[if_pos rfl,if_pos rfl,if_pos (by omega)];rfl
  ·rw[if_neg h,if_neg (by omega)]
 ·rw[if_neg hj,if_neg (by omega),if_neg hj]
theorem put_len {s:Sto}(k:Nat)(b:Box):(s.put k b).boxes.length=s.boxes.length:=by
 unfold Sto.put;simp[zKW]
theorem zB8 (s:Sto)(b:Box):(s.alloc b).n=s.n+1:=rfl
theorem zGG {s:Sto}(b:Box)(j:Nat):(s.alloc b).get j=if j=s.n then b else s.get j:=by
 rw[zKE,zKE,zB8]
 unfold Sto.alloc
 simp only
 by_cases h:j=s.n
 ·subst h;rw[if_pos (by omega),if_pos rfl];simp
 ·rw[if_neg h]
  by_cases hj:j<s.n
  ·rw[if_pos (by omega),if_pos hj]
   have:s.n+1-1-j=(s.n-1-j)+1:=by omega
   rw[this,List.getElem?_cons_succ]
  ·rw[if_neg (by omega),if_neg hj]
theorem zOZ {k t:Nat}:∀{l:List (Nat×Nat)} {j u:Nat},((j,u)∈l→∃u',(j,u')∈zJO k t l∧u≤u')∧∃u',(k,u')∈zJO k t l∧t≤u':=by
 intro l
 induction l with
 | nil=>intro j u;exact⟨fun h=>(nomatch h),t,by simp[zJO],Nat.le_refl _⟩
 | cons e r ih=>
  intro j u
  simp only[zJO]
  cases hb:Nat.beq e.1 k with
  | true=>
   have he:=Nat.eq_of_beq_eq_true hb
   simp only[cond_true]
   refine⟨fun h=>?_,Nat.max e.2 t,by simp,Nat.le_max_right _ _⟩
   cases h with
   | head=>exact⟨Nat.max u t,by simp at he;subst he;simp,Nat.le_max_left _ _⟩
   | tail _ h=>exact⟨u,List.mem_cons_of_mem _ h,Nat.le_refl _⟩
  | false=>
   simp only[cond_false]
   refine⟨fun h=>?_,?_⟩
   ·cases h with
    | head=>exact⟨u,by simp,Nat.le_refl _⟩
    | tail _ h=>
     obtain⟨u',h1,h2⟩:=(ih (j:=j) (u:=u)).1 h
     exact⟨u',List.mem_cons_of_mem _ h1,h2⟩
   ·obtain⟨u',h1,h2⟩:=(ih (j:=j) (u:=u)).2
    exact⟨u',List.mem_cons_of_mem _ h1,h2⟩
theorem zOF (s:Sto)(k t j:Nat):(s.note k t).get j=s.get j:=by
 unfold Sto.note;rw[cond_eq_ite];split<;>rfl
theorem zFI (s:Sto)(k t:Nat):(s.note k t).n=s.n:=by
 unfold Sto.note;rw[cond_eq_ite];split<;>rfl
theorem zUY (s:Sto)(k t:Nat):(s.note k t).boxes=s.boxes:=by
 unfold Sto.note;rw[cond_eq_ite];split<;>rfl
theorem zTB {s:Sto}{k t j u:Nat}(h:(j,u)∈s.ups):∃u',(j,u')∈(s.note k t).ups∧u≤u':=by
 unfold Sto.note;rw[cond_eq_ite];split
 ·exact⟨u,h,Nat.le_refl _⟩
 ·exact zOZ.1 h
theorem zXS {s:Sto}{k t:Nat}:t≤k+1∨∃u',(k,u')∈(s.note k t).ups∧t≤u':=by
 unfold Sto.note;rw[cond_eq_ite];split
 ·rename_i h;exact .inl (Nat.le_of_ble_eq_true h)
 ·exact .inr (zOZ (j:=0) (u:=0)).2
theorem zFQ {s:Sto}{k t:Nat}(h:t≤k+1):s.note k t=s:=by
 unfold Sto.note;rw[Nat.ble_eq_true_of_le h];rfl
section
variable {base:Nat}{w0:World}{g g':Gh}{s:Sto}{w w':World}
theorem Rel.update (h:Rel base w0 g s w){k:Nat}(hk:k<s.n)(b':Box)(hg:Grows s.n g g')(hlive:liveBox (s.get k)=true)
  (hC:∀b o v,g'.C b o=some v→w'.cell? ⟨b,o,none⟩=some v) (hCk:∀b o,b≠g.mu k→g'.C b o=g.C b o)
  (hheap:∀b,b≠g.mu k→w'.heap[b]?=w.heap[b]?) (hsz:w'.heap.size=w.heap.size)
  (hbox:BoxR g' w' k b') (htop:boxTop b'≤s.n) (t:Nat) (ht:boxTop b'≤k+1∨boxTop b'≤t∨∃u,(k,u)∈s.ups∧boxTop b'≤u)
  (hos:w'.os=w.os∧w'.output=w.output:=by exact⟨rfl,rfl⟩):Rel base w0 g' ((s.put k b').note k t) w':=by
 have hget:∀j,((s.put k b').note k t).get j=if j=k then b' else s.get j:=fun j=>by rw[zOF,zLE h.len hk]
 have hmuk:=(h.at_ k hk hlive)
 refine⟨by rw[zUY,zFI,put_len];exact h.len,?_,?_,?_,?_,?_,hC,⟨h.size.1,by rw[hsz];exact h.size.2⟩,?_,
  fun b o hb=>by rw[hCk b o (by omega),hg.Cb];exact h.oldC b o hb,?_,⟨hos.1.trans h.os.1,hos.2.trans h.os.2⟩⟩
 ·intro j hj
  rw[zFI,zFP] at hj
  rw[hget]
  by_cases e:j=k
  ·subst e;rw[if_pos rfl];exact hbox
  ·rw[if_neg e]
   by_cases hl:liveBox (s.get j)=true
   ·have hne:g.mu j≠g.mu k:=fun he=>e (h.inj j k hj hk hl hlive he)
    exact(h.box j hj).mono hg hj (h.top j hj) (hheap _ hne) (fun o=>hCk _ o hne)
   ·cases hb:s.get j<;>rw[hb] at hl<;>simp[liveBox] at hl
    trivial
 ·intro j hj hl
  rw[zFI,zFP] at hj
  rw[hget] at hl
  rw[hg.mu j hj,hsz]
  by_cases e:j=k
  ·subst e;exact hmuk
  ·rw[if_neg e] at hl;exact h.at_ j hj hl
 ·intro i j hi hj hli hlj he
  rw[zFI,zFP] at hi hj
  rw[hget] at hli hlj
  rw[hg.mu i hi,hg.mu j hj] at he
  refine h.inj i j hi hj ?_ ?_ he
  ·by_cases e:i=k
   ·subst e;exact hlive
   ·rwa [if_neg e] at hli
  ·by_cases e:j=k
   ·subst e;exact hlive
   ·rwa [if_neg e] at hlj
 ·intro j hj
  rw[zFI,zFP] at hj ⊢
  rw[hget]
  by_cases e:j=k
  ·rw[if_pos e];exact htop
  ·rw[if_neg e];exact h.top j hj
 ·intro j hj
  rw[zFI,zFP] at hj
  rw[hget]
  by_cases e:j=k
  ·subst e
   rw[if_pos rfl]
   rcases ht with ht|ht|⟨u,hu,ht⟩
   ·exact .inl ht
   ·rcases zXS (s:=s.put j b') (k:=j) (t:=t) with hh|⟨u',hu,hh⟩
    ·exact .inl (Nat.le_trans ht hh)
    ·exact .inr ⟨u',hu,Nat.le_trans ht hh⟩
   ·obtain⟨u',h1,h2⟩:=zTB (s:=s.put j b') (k:=j) (t:=t) (h:=hu)
    exact .inr ⟨u',h1,Nat.le_trans ht h2⟩
  ·rw[if_neg e]
   rcases h.ups j hj with hh|⟨u,hu,hh⟩
   ·exact .inl hh
   ·obtain⟨u',h1,h2⟩:=zTB (s:=s.put k b') (k:=k) (t:=t) (h:=hu)
    exact .inr ⟨u',h1,Nat.le_trans hh h2⟩
 ·intro b hb
  rw[hheap b (by omega)]
  exact h.old b hb
 ·intro b o hz
  rw[hg.Z] at hz
  obtain⟨z1,z2,z3⟩:=h.Z b o hz
  have hne:b≠g.mu k:=fun e=>z2 k hk hlive e.symm
  refine⟨by rw[hheap b hne];exact z1,fun j hj hl=>?_,fun i=>by rw[hCk b i hne];exact z3 i⟩
  rw[zFI,zFP] at hj
  rw[hget] at hl
  rw[hg.mu j hj]
  by_cases e:j=k
  ·subst e;exact fun e=>hne e.symm
  ·rw[if_neg e] at hl;exact z2 j hj hl
def Gh.with (g:Gh)(k b es rl bs:Nat):Gh:=
 { g with mu:=fun j=>if j=k then b else g.mu j,es:=fun j=>if j=k then es else g.es j,rl:=fun j=>if j=k then rl else g.rl j,bs:=fun j=>if j=k then bs else g.bs j }
theorem Gh.with_grows (g:Gh)(k b es rl bs:Nat):Grows k g (g.with k b es rl bs):=
 ⟨fun j hj=>by simp[Gh.with,Nat.ne_of_lt hj],fun j hj=>by simp[Gh.with,Nat.ne_of_lt hj],fun j hj=>by simp[Gh.with,Nat.ne_of_lt hj],fun j hj=>by simp[Gh.with,Nat.ne_of_lt hj],fun _ _ _ h=>h,rfl,rfl,rfl⟩
theorem Rel.alloc (h:Rel base w0 g s w)(b0 es rl bs:Nat)(b':Box)(hheap:∀b,b≠b0→b<w.heap.size→w'.heap[b]?=w.heap[b]?)(hsz:w.heap.size≤w'.heap.size)
  (hne:∀j,j<s.n→liveBox (s.get j)=true→g.mu j≠b0) (hz0:g.Z b0=none) (hb0:base≤b0∧b0<w'.heap.size)
  (hC:∀b o v,g.C b o=some v→w'.cell? ⟨b,o,none⟩=some v) (hbox:BoxR (g.with s.n b0 es rl bs) w' s.n b') (htop:boxTop b'≤s.n+1)
  (hos:w'.os=w.os∧w'.output=w.output:=by exact⟨rfl,rfl⟩):Rel base w0 (g.with s.n b0 es rl bs) (s.alloc b') w':=by
 have hg:=Gh.with_grows g s.n b0 es rl bs
 have hmu:(g.with s.n b0 es rl bs).mu s.n=b0:=by simp[Gh.with]
 refine⟨by simp only[Sto.alloc,List.length_cons];rw[h.len],?_,?_,?_,?_,?_,hC,⟨h.size.1,Nat.le_trans h.size.2 hsz⟩,?_,h.oldC,?_,⟨hos.1.trans h.os.1,hos.2.trans h.os.2⟩⟩
 ·intro j hj
  rw[zB8] at hj
  rw[zGG]
  by_cases e:j=s.n
  ·subst e;rw[if_pos rfl];exact hbox
  ·rw[if_neg e]
   have hj':j<s.n:=by omega
   by_cases hl:liveBox (s.get j)=true
   ·exact(h.box j hj').mono hg hj' (h.top j hj') (hheap _ (hne j hj' hl) (h.at_ j hj' hl).2) (fun o=>rfl)
   ·cases hb:s.get j<;>rw[hb] at hl<;>simp[liveBox] at hl
    trivial
 ·intro j hj hl
  rw[zB8] at hj
  rw[zGG] at hl
  by_cases e:j=s.n
  ·subst e;rw[hmu];exact hb0
  ·rw[if_neg e] at hl
   have hj':j<s.n:=by omega
   rw[hg.mu j hj']
   have:=h.at_ j hj' hl
   exact⟨this.1,by omega⟩
 ·intro i j hi hj hli hlj he
  rw[zB8] at hi hj
  rw[zGG] at hli hlj
  by_cases ei:i=s.n
  ·by_cases ej:j=s.n
   ·rw[ei,ej]
   ·rw[if_neg ej] at hlj
    have hj':j<s.n:=by omega
    subst ei
    rw[hmu,hg.mu j hj'] at he
    exact absurd he.symm (hne j hj' hlj)
  ·rw[if_neg ei] at hli
   have hi':i<s.n:=by omega
   by_cases ej:j=s.n
   ·subst ej
    rw[hmu,hg.mu i hi'] at he
    exact absurd he (hne i hi' hli)
   ·rw[if_neg ej] at hlj
    have hj':j<s.n:=by omega
    rw[hg.mu i hi',hg.mu j hj'] at he
    exact h.inj i j hi' hj' hli hlj he
 ·intro j hj
  rw[zB8] at hj ⊢
  rw[zGG]
  by_cases e:j=s.n
  ·rw[if_pos e];exact htop
  ·rw[if_neg e];have:=h.top j (by omega);omega
 ·intro j hj
  rw[zB8] at hj
  rw[zGG]
  by_cases e:j=s.n
  ·subst e;rw[if_pos rfl];exact .inl htop
  ·rw[if_neg e];exact h.ups j (by omega)
 ·intro b hb
  rw[hheap b (by omega) (by have:=h.size.2;omega)]
  exact h.old b hb
 ·intro b o hz
  obtain⟨z1,z2,z3⟩:=h.Z b o hz
  have hne':b≠b0:=fun e=>by subst e;rw[show(g.with s.n b es rl bs).Z b=g.Z b from rfl,hz0] at hz;cases hz
  have hlt:b<w.heap.size:=(Array.getElem?_eq_some_iff.1 z1).1
  refine⟨by rw[hheap b hne' hlt];exact z1,fun j hj hl=>?_,z3⟩
  rw[zB8] at hj
  rw[zGG] at hl
  by_cases e:j=s.n
  ·subst e;rw[hmu];exact fun e=>hne' e.symm
  ·rw[if_neg e] at hl
   rw[hg.mu j (by omega)]
   exact z2 j (by omega) hl
end
def push (w:World)(o:Obj):World:={ w with heap:=w.heap.push o }
theorem zEJ (w:World)(o:Obj):(push w o).heap.size=w.heap.size+1:=by show(w.heap.push o).size=_;simp
theorem zFH (w:World)(o:Obj):(push w o).heap[w.heap.size]?=some o:=by show(w.heap.push o)[w.heap.size]?=some o;simp
theorem zDS {w:World}{o:Obj}{b:Nat}(h:b<w.heap.size):(push w o).heap[b]?=w.heap[b]?:=by
 show(w.heap.push o)[b]?=_
 rw[Array.getElem?_push,if_neg (by omega)]
theorem zD5 (P:Program)(w:World)(o:Obj):(newObj o).run P w=.ok w.heap.size (push w o):=rfl
theorem zIZ {w:World}{o:Obj}{b i:Nat}{v:Value}(h:w.cell? ⟨b,i,none⟩=some v):(push w o).cell? ⟨b,i,none⟩=some v:=by
 unfold World.cell? at h ⊢
 have hlt:b<w.heap.size:=by
  cases hb:w.heap[b]? with
  | none=>simp[hb] at h
  | some x=>exact(Array.getElem?_eq_some_iff.1 hb).1
 rw[zDS hlt];exact h
section
variable {base:Nat}{w0:World}{g:Gh}{s:Sto}{w:World}
theorem Z_new (h:Rel base w0 g s w):g.Z w.heap.size=none:=by
 cases hz:g.Z w.heap.size with
 | none=>rfl
 | some o=>
  have:=(h.Z _ _ hz).1
  simp at this
theorem Rel.push (h:Rel base w0 g s w)(o:Obj)(es rl bs:Nat)(b':Box)(hbox:BoxR (g.with s.n w.heap.size es rl bs) (push w o) s.n b')(htop:boxTop b'≤s.n+1) :
  Rel base w0 (g.with s.n w.heap.size es rl bs) (s.alloc b') (Ab.push w o):=
 h.alloc w.heap.size es rl bs b' (fun _ _ hb=>zDS hb) (by rw[zEJ];omega) (fun j hj hl e=>by have:=(h.at_ j hj hl).2;omega) (Z_new h)
  ⟨h.size.2,by rw[zEJ];omega⟩ (fun b o v hv=>zIZ (h.C b o v hv)) hbox htop
theorem zQQ (h:Rel base w0 g s w)(o:Nat):g.C w.heap.size o=none:=by
 cases hc:g.C w.heap.size o with
 | none=>rfl
 | some v=>
  have:=h.C _ _ _ hc
  unfold World.cell? at this
  simp at this
theorem zBS (g:Gh)(k b es rl bs:Nat):(g.with k b es rl bs).mu k=b:=by simp[Gh.with]
theorem zFL (g:Gh)(k b es rl bs:Nat):(g.with k b es rl bs).es k=es:=by simp[Gh.with]
theorem zJL (g:Gh)(k b es rl bs:Nat):(g.with k b es rl bs).rl k=rl:=by simp[Gh.with]
theorem zJM (g:Gh)(k b es rl bs:Nat):(g.with k b es rl bs).bs k=bs:=by simp[Gh.with]
theorem Rel.pushCells (h:Rel base w0 g s w){cs:List AV}{arr:Array Value}(ty:TypeId)(hv:VRs g cs arr)(ht:tops cs≤s.n) :
  Rel base w0 (g.with s.n w.heap.size 0 0 0) (s.alloc (.cells ty cs)) (Ab.push w (.cells arr ty)):=
 h.push _ 0 0 0 _ ⟨arr,by rw[zBS];exact zFH w _,hv.grows (Gh.with_grows g s.n _ _ _ _) ht,fun o=>by rw[zBS];exact zQQ h o⟩ (by simp only[boxTop];omega)
def RowR (g:Gh)(es:Nat)(xs:List AV)(arr:Array Value):Prop:=
 xs.length*es≤arr.size∧(∀(i:Nat) (x:AV),xs[i]?=some x→(cellsOf x).length=es)∧
 ∀(i:Nat) (x:AV) (j:Nat) (c:AV),xs[i]?=some x→(cellsOf x)[j]?=some c→∃v,arr[i*es+j]?=some v∧VR g c v
theorem RowR.grows {n:Nat}{g g':Gh}{es:Nat}{xs:List AV}{arr:Array Value}(h:RowR g es xs arr)(hg:Grows n g g')(ht:tops xs≤n):RowR g' es xs arr:=
 ⟨h.1,h.2.1,fun i x j c hi hj=>let ⟨v,h1,h2⟩:=h.2.2 i x j c hi hj;⟨v,h1,h2.grows hg (zGI ht hi hj)⟩⟩
theorem Rel.pushRow (h:Rel base w0 g s w){es:Nat}{xs:List AV}{arr:Array Value}(ty:TypeId)(hes:0<es)(hv:RowR g es xs arr)(ht:tops xs≤s.n)(sl:Bool) :
  Rel base w0 (g.with s.n w.heap.size es xs.length arr.size) (s.alloc (.row ty es xs sl)) (Ab.push w (.cells arr ty)):=by
 have hv':=hv.grows (Gh.with_grows g s.n w.heap.size es xs.length arr.size) ht
 exact h.push _ es xs.length arr.size _ ⟨arr,by rw[zBS];exact zFH w _,hes,zFL ..,zJL ..,zJM ..,hv'.1,hv'.2.1,hv'.2.2,
  fun o v hc=>by rw[zBS] at hc;have:g.C w.heap.size o=some v:=hc;rw[zQQ h o] at this;cases this⟩ (by simp only[boxTop];omega)
def Gh.stay (g:Gh)(b:Nat)(arr:Array Value):Gh:={ g with C:=fun b' o=>if b'=b then arr[o]? else g.C b' o }
theorem Gh.stay_grows {g:Gh}{b:Nat}(arr:Array Value)(h:∀o,g.C b o=none)(n:Nat):Grows n g (g.stay b arr):=
 ⟨fun _ _=>rfl,fun _ _=>rfl,fun _ _=>rfl,fun _ _=>rfl,fun b' o v hv=>by
  simp only[Gh.stay]
  by_cases e:b'=b
  ·subst e;rw[h o] at hv;cases hv
  ·rw[if_neg e];exact hv,rfl,rfl,rfl⟩
theorem Rel.pushStay (h:Rel base w0 g s w)(arr:Array Value)(ty:TypeId):Rel base w0 (g.stay w.heap.size arr) s (Ab.push w (.cells arr ty))∧Grows s.n g (g.stay w.heap.size arr):=by
 have hg:=Gh.stay_grows arr (zQQ h) s.n
 have hlt:∀k,k<s.n→liveBox (s.get k)=true→g.mu k<w.heap.size:=fun k hk hl=>(h.at_ k hk hl).2
 refine⟨⟨h.len,?_,?_,h.inj,h.top,h.ups,?_,⟨h.size.1,by rw[zEJ];have:=h.size.2;omega⟩,?_,fun b o hb=>by
  have:=h.size.2
  simp only[Gh.stay];rw[if_neg (by omega)];exact h.oldC b o hb,fun b o hz=>by
  obtain⟨z1,z2,z3⟩:=h.Z b o hz
  have hlt:b<w.heap.size:=(Array.getElem?_eq_some_iff.1 z1).1
  refine⟨by rw[zDS hlt];exact z1,z2,fun i=>?_⟩
  simp only[Gh.stay];rw[if_neg (by omega)];exact z3 i,h.os⟩,hg⟩
 ·intro k hk
  by_cases hl:liveBox (s.get k)=true
  ·refine(h.box k hk).mono hg hk (h.top k hk) (zDS (hlt k hk hl)) (fun o=>?_)
   simp only[Gh.stay]
   rw[if_neg (by have:=hlt k hk hl;omega)]
  ·cases hb:s.get k<;>rw[hb] at hl<;>simp[liveBox] at hl
   trivial
 ·intro k hk hl
  have:=h.at_ k hk hl
  exact⟨this.1,by rw[zEJ];exact Nat.lt_succ_of_lt this.2⟩
 ·intro b o v hv
  simp only[Gh.stay] at hv
  by_cases e:b=w.heap.size
  ·subst e
   rw[if_pos rfl] at hv
   rw[zD0 (zFH w _)];exact hv
  ·rw[if_neg e] at hv;exact zIZ (h.C b o v hv)
 ·intro b hb
  rw[zDS (by have:=h.size.2;omega)]
  exact h.old b hb
end
def StR (P:Program)(base:Nat)(w0:World)(g:Gh)(s:Sto)(w:World)(sem:Sem Value)(v:AV)(s':Sto):Prop:=
 ∃v' w' g',sem.run P w=.ok v' w'∧Rel base w0 g' s' w'∧Grows s.n g g'∧VR g' v v'∧top v≤s'.n∧s.n≤s'.n
section
variable {E:Env}{P:Program}{t:TypeId}{g:Gh}{base:Nat}{w0:World}{s s':Sto}{w:World}{v:AV}
theorem zBM.st (hr:Rel base w0 g s w){sem:Sem Value}(h:zBM P g s.n w sem v):StR P base w0 g s w sem v s:=
 let ⟨v',h1,h2,h3⟩:=h;⟨v',w,g,h1,hr,.refl _ _,h2,h3,Nat.le_refl _⟩
theorem zZ5 (hE:TysOk E P)(hr:Rel base w0 g s w)(ht:(E.types t).ok=true) :
  StR P base w0 g s w (Instr.alloc t true (.tuple #[])) (.ptr s.n 0) (s.alloc (.cells t (cellsOf (zAK (E.types t))))):=by
 obtain⟨z,hz,hzr,hz0,_⟩:=(hE.ti t ht).zero g w
 have htop:tops (cellsOf (zAK (E.types t)))≤s.n:=by rw[zCC,hz0];exact Nat.zero_le _
 refine⟨.pointer (some ⟨w.heap.size,0,none⟩),push w (.cells z.cells t),g.with s.n w.heap.size 0 0 0,?_,hr.pushCells t hzr.cells htop,Gh.with_grows ..,?_,Nat.le_refl _,by rw[zB8];omega⟩
 ·simp[Instr.alloc,hz,newVar,newRow,zD5]
  try rfl
 ·have:=VR.ptr (g:=g.with s.n w.heap.size 0 0 0) s.n 0
  rw[zBS] at this;exact this
theorem oBox_sim (hE:TysOk E P)(hr:Rel base w0 g s w){e:TypeId}{x:AV}{x':Value}(h:oBox E e (some x) s=.val v s')(hx:VR g x x')(hn:top x≤s.n):StR P base w0 g s w (Instr.box e x') v s':=by
 unfold oBox at h
 dsimp only at h
 rw[cond_eq_ite] at h
 split at h
 ·have htop:tops (cellsOf x)≤s.n:=by rw[zCC];exact hn
  rw[zFQ (by omega)] at h
  cases h
  refine⟨.pointer (some ⟨w.heap.size,0,none⟩),push w (.cells x'.cells e),g.with s.n w.heap.size 0 0 0,?_,hr.pushCells e hx.cells htop,Gh.with_grows ..,?_,Nat.le_refl _,by rw[zB8];omega⟩
  ·simp[Instr.box,newVar,newRow,zD5]
   try rfl
  ·have:=VR.ptr (g:=g.with s.n w.heap.size 0 0 0) s.n 0
   rw[zBS] at this;exact this
 ·cases h
theorem zRH (hr:Rel base w0 g s w):StR P base w0 g s w (Instr.makeMap t none) (.map s.n) (s.alloc (.mapb [])):=by
 refine⟨.map (some w.heap.size),push w (.map #[] 0),g.with s.n w.heap.size 0 0 0,by simp[Instr.makeMap,zD5];try rfl,?_,Gh.with_grows ..,?_,Nat.le_refl _,by rw[zB8];omega⟩
 ·exact hr.push _ 0 0 0 _ ⟨#[],0,by rw[zBS];exact zFH w _,rfl,fun i x e hi _=>by simp at hi,fun o=>by rw[zBS];exact zQQ hr o⟩ (Nat.zero_le _)
 ·have:=VR.map (g:=g.with s.n w.heap.size 0 0 0) s.n
  rw[zBS] at this;exact this
theorem flat_one {x:AV}{u:Value}(h:VR g x u)(hf:flat1 x=true):u.oneCell'=true:=by
 cases h<;>first|rfl|(simp[flat1] at hf)
theorem zYQ {l:List AV}(h:flatC l=true):∀x∈l,flat1 x=true:=by
 induction l with
 | nil=>intro x hx;cases hx
 | cons a r ih=>
  simp only[flatC,cond_eq_ite] at h
  split at h
  ·rename_i ha
   intro x hx
   cases hx with
   | head=>exact ha
   | tail _ hx=>exact ih h x hx
  ·cases h
theorem zF5 {l:List AV}{us:Array Value}(h:VRs g l us)(hf:flatC l=true):∀u∈us.toList,u.oneCell'=true:=by
 intro u hu
 obtain⟨i,hi⟩:=List.getElem?_of_mem hu
 rw[Array.getElem?_toList] at hi
 have hlt:i<l.length:=by rw[h.1];exact(Array.getElem?_eq_some_iff.1 hi).1
 exact flat_one (h.2 i l[i] u (List.getElem?_eq_getElem hlt) hi) (zYQ hf _ (List.getElem_mem hlt))
end
def RowL (g:Gh)(es:Nat):List AV→List Value→Prop
 | [],l=>l=[]
 | x :: xs,l=>∃c l',l=c++l'∧c.length=es∧(cellsOf x).length=es∧(∀(j:Nat) (y:AV) (v:Value),(cellsOf x)[j]?=some y→c[j]?=some v→VR g y v)∧RowL g es xs l'
section
variable {g:Gh}{es:Nat}
theorem RowL.len:∀{xs:List AV} {l:List Value},RowL g es xs l→l.length=xs.length*es:=by
 intro xs
 induction xs with
 | nil=>intro l h;cases h;simp
 | cons x xs ih=>
  intro l ⟨c,l',h1,h2,_,_,h5⟩
  rw[h1,List.length_append,h2,ih h5,List.length_cons,Nat.add_mul];omega
theorem RowL.app:∀{xs ys:List AV} {l m:List Value},RowL g es xs l→RowL g es ys m→RowL g es (xs++ys) (l++m):=by
 intro xs
 induction xs with
 | nil=>intro ys l m h h';cases h;exact h'
 | cons x xs ih=>
  intro ys l m ⟨c,l',h1,h2,h3,h4,h5⟩ h'
  exact⟨c,l'++m,by rw[h1,List.append_assoc],h2,h3,h4,ih h5 h'⟩
theorem RowL.take:∀{xs:List AV} {l:List Value},RowL g es xs l→∀n,RowL g es (xs.take n) (l.take (n*es)):=by
 intro xs
 induction xs with
 | nil=>intro l h n;cases h;simp[RowL]
 | cons x xs ih=>
  intro l ⟨c,l',h1,h2,h3,h4,h5⟩ n
  cases n with
  | zero=>simp[RowL]
  | succ n=>
   refine⟨c,l'.take (n*es),?_,h2,h3,h4,ih h5 n⟩
   rw[h1,List.take_append,Nat.add_mul,Nat.one_mul,List.take_of_length_le (by omega),h2]
   congr 2
   omega
theorem RowL.drop:∀{xs:List AV} {l:List Value},RowL g es xs l→∀n,RowL g es (xs.drop n) (l.drop (n*es)):=by
 intro xs
 induction xs with
 | nil=>intro l h n;cases h;simp[RowL]
 | cons x xs ih=>
  intro l ⟨c,l',h1,h2,h3,h4,h5⟩ n
  cases n with
  | zero=>simp only[List.drop_zero,Nat.zero_mul];exact⟨c,l',h1,h2,h3,h4,h5⟩
  | succ n=>
   simp only[List.drop_succ_cons]
   rw[h1,List.drop_append,Nat.add_mul,Nat.one_mul,List.drop_eq_nil_of_le (as:=c) (by omega),h2,List.nil_append]
   have:n*es+es-es=n*es:=by omega
   rw[this];exact ih h5 n
theorem RowL.get:∀{xs:List AV} {l:List Value},RowL g es xs l→∀{i j:Nat} {x c:AV},xs[i]?=some x→(cellsOf x)[j]?=some c→∃v,l[i*es+j]?=some v∧VR g c v:=by
 intro xs
 induction xs with
 | nil=>intro l _ i j x c hi;simp at hi
 | cons y xs ih=>
  intro l ⟨d,l',h1,h2,h3,h4,h5⟩ i j x c hi hj
  cases i with
  | zero=>
   simp only[List.getElem?_cons_zero,Option.some.injEq] at hi
   subst hi
   have hlt:j<es:=by rw[← h3];exact(List.getElem?_eq_some_iff.1 hj).1
   refine⟨d[j],?_,h4 j c _ hj (List.getElem?_eq_getElem (by omega))⟩
   rw[h1,Nat.zero_mul,Nat.zero_add,List.getElem?_append_left (by omega)]
   exact List.getElem?_eq_getElem (by omega)
  | succ i=>
   simp only[List.getElem?_cons_succ] at hi
   obtain⟨v,hv,hr⟩:=ih h5 hi hj
   refine⟨v,?_,hr⟩
   have e:(i+1)*es+j=es+(i*es+j):=by rw[Nat.add_mul,Nat.one_mul];omega
   rw[h1,e,List.getElem?_append_right (by omega),h2]
   have:es+(i*es+j)-es=i*es+j:=by omega
   rw[this];exact hv
theorem RowL.wid:∀{xs:List AV} {l:List Value},RowL g es xs l→∀{i:Nat} {x:AV},xs[i]?=some x→(cellsOf x).length=es:=by
 intro xs
 induction xs with
 | nil=>intro l _ i x hi;simp at hi
 | cons y xs ih=>
  intro l ⟨d,l',_,_,h3,_,h5⟩ i x hi
  cases i with
  | zero=>simp only[List.getElem?_cons_zero,Option.some.injEq] at hi;subst hi;exact h3
  | succ i=>simp only[List.getElem?_cons_succ] at hi;exact ih h5 hi
theorem RowL.of:∀{xs:List AV} {l:List Value},l.length=xs.length*es→(∀(i:Nat) (x:AV),xs[i]?=some x→(cellsOf x).length=es)→
  (∀(i:Nat) (x:AV) (j:Nat) (c:AV),xs[i]?=some x→(cellsOf x)[j]?=some c→∃v,l[i*es+j]?=some v∧VR g c v)→RowL g es xs l:=by
 intro xs
 induction xs with
 | nil=>intro l h _ _;simp at h;exact h
 | cons x xs ih=>
  intro l h h1 h2
  rw[List.length_cons,Nat.add_mul,Nat.one_mul] at h
  refine⟨l.take es,l.drop es,(List.take_append_drop es l).symm,by rw[List.length_take];omega,h1 0 x rfl,fun j y v hy hv=>?_,ih (by rw[List.length_drop];omega) (fun i x hi=>h1 (i+1) x hi) fun i y j c hi hj=>?_⟩
  ·obtain⟨u,hu,hr⟩:=h2 0 x j y rfl hy
   rw[Nat.zero_mul,Nat.zero_add] at hu
   rw[List.getElem?_take] at hv
   split at hv
   ·rw[hu] at hv;cases hv;exact hr
   ·cases hv
  ·obtain⟨u,hu,hr⟩:=h2 (i+1) y j c hi hj
   refine⟨u,?_,hr⟩
   rw[List.getElem?_drop,← hu]
   congr 1
   rw[Nat.add_mul];omega
theorem RowL.grows {n:Nat}{g':Gh}:∀{xs:List AV} {l:List Value},RowL g es xs l→Grows n g g'→tops xs≤n→RowL g' es xs l:=by
 intro xs
 induction xs with
 | nil=>intro l h _ _;exact h
 | cons x xs ih=>
  intro l ⟨c,l',h1,h2,h3,h4,h5⟩ hg ht
  rw[zAU] at ht
  have ht':=Nat.max_le.1 ht
  exact⟨c,l',h1,h2,h3,fun j y v hy hv=>(h4 j y v hy hv).grows hg (zCV (l:=cellsOf x) (by rw[zCC];exact ht'.1) hy),ih h5 hg ht'.2⟩
theorem RowL.one {x:AV}{u:Value}(h:VR g x u)(hl:(cellsOf x).length=es):RowL g es [x] u.cells.toList:=by
 have hc:=h.cells
 refine⟨u.cells.toList,[],by simp,by rw[Array.length_toList,← hc.1,hl],hl,fun j y v hy hv=>?_,rfl⟩
 exact hc.2 j y v hy (by rwa [Array.getElem?_toList] at hv)
theorem RowL.flat:∀{xs:List AV} {l:List Value},RowL g es xs l→(∀x∈xs,flatC (cellsOf x)=true)→∀v∈l,v.oneCell'=true:=by
 intro xs
 induction xs with
 | nil=>intro l h _ v hv;cases h;cases hv
 | cons x xs ih=>
  intro l ⟨c,l',h1,h2,h3,h4,h5⟩ hf v hv
  rw[h1,List.mem_append] at hv
  rcases hv with hv|hv
  ·exact zF5 (us:=c.toArray) ⟨by simp[h2,h3],by simpa using h4⟩ (hf x (by simp)) v (by simpa using hv)
  ·exact ih h5 (fun y hy=>hf y (by simp[hy])) v hv
theorem RowL.rowR {xs:List AV}{l r:List Value}(h:RowL g es xs l):RowR g es xs (l++r).toArray:=by
 refine⟨by rw[← h.len];simp,fun i x hi=>h.wid hi,fun i x j c hi hj=>?_⟩
 obtain⟨v,hv,hr⟩:=h.get hi hj
 refine⟨v,?_,hr⟩
 have:=(List.getElem?_eq_some_iff.1 hv).1
 simp only[List.getElem?_toArray]
 rw[List.getElem?_append_left this];exact hv
end
theorem zGQ {es:Nat}{xs:List AV}(h:zBK es xs=true):∀x∈xs,(cellsOf x).length=es∧flatC (cellsOf x)=true:=by
 induction xs with
 | nil=>intro x hx;cases hx
 | cons a l ih=>
  simp only[zBK,cond_eq_ite] at h
  split at h
  ·rename_i ha
   simp only[Bool.and_eq_true,zAH] at ha
   intro x hx
   cases hx with
   | head=>exact⟨Nat.eq_of_beq_eq_true ha.1,ha.2⟩
   | tail _ hx=>exact ih h x hx
  ·cases h
section
variable {E:Env}{P:Program}{t:TypeId}{g:Gh}{base:Nat}{w0:World}{s s':Sto}{w:World}{v:AV}
theorem zES {ti:TI}{z:Value}(hzr:VR g (zAK ti) z)(hs:z.cells.size=ti.size)(n:Nat) :
  RowL g ti.size (List.replicate n (zAK ti)) (Builtin.zeroCells z.cells n).toList:=by
 have hcs:=hzr.cells
 refine .of ?_ ?_ ?_
 ·simp[Builtin.zeroCells,hs]
 ·intro i x hi
  have:=List.mem_of_getElem? hi
  rw[List.mem_replicate] at this
  rw[this.2,hcs.1,hs]
 ·intro i x j c hi hj
  have hm:=List.mem_of_getElem? hi
  rw[List.mem_replicate] at hm
  have hx:=hm.2
  subst hx
  have hj':j<ti.size:=by rw[← hs,← hcs.1];exact(List.getElem?_eq_some_iff.1 hj).1
  have hi':i<n:=by have:=(List.getElem?_eq_some_iff.1 hi).1;simpa using this
  have hlt:i*ti.size+j<n*ti.size:=by
   have:(i+1)*ti.size≤n*ti.size:=Nat.mul_le_mul_right _ hi'
   rw[Nat.add_mul,Nat.one_mul] at this;omega
  have hmod:(i*ti.size+j) % ti.size=j:=by rw[Nat.mul_comm,Nat.mul_add_mod,Nat.mod_eq_of_lt hj']
  refine⟨z.cells[j]'(by omega),?_,hcs.2 j c _ hj (Array.getElem?_eq_getElem (by omega))⟩
  rw[Array.getElem?_toList]
  simp only[Builtin.zeroCells,hs,Array.getElem?_map,Array.getElem?_range,hlt,if_true,Option.map_some,hmod]
  simp[show j<z.cells.size by omega]
end
theorem wrap64 {n:Nat}(h:n≤140737488355328):IntKind.i64.wrap (n:Int)=(n:Int):=by
 simp only[IntKind.wrap,IntKind.bits,IntKind.signed];simp;omega
theorem zBV (z:Array Value)(n:Nat):(Builtin.zeroCells z n).size=n*z.size:=by simp[Builtin.zeroCells]
section
variable {E:Env}{P:Program}{t:TypeId}{g:Gh}{base:Nat}{w0:World}{s s':Sto}{w:World}{v:AV}
theorem zI5 (hE:TysOk E P)(ht:(E.types t).ok=true){l c:AV}{l' c':Value}(h:zB3 E t (some l) (some c) s=.val v s')(hl:VR g l l')(hc:VR g c c') :
  ∃e n m arr,(E.types t).d=.slice e∧asNat l=some n∧asNat c=some m∧n≤m∧0<(E.types e).size∧arr.size=m*(E.types e).size∧RowR g (E.types e).size (List.replicate n (zAK (E.types e))) arr∧
   tops (List.replicate n (zAK (E.types e)))=0∧v=.osl s.n 0 n∧s'=s.alloc (.row e (E.types e).size (lrep (zAK (E.types e)) n) false)∧
   ∀w,(Instr.makeSlice t l' c').run P w=.ok (.slice (some ⟨w.heap.size,0,none⟩) n m) (push w (.cells arr e)):=by
 have hti:=hE.ti t ht
 obtain⟨d,hd,htd,_⟩:=hti.und
 unfold zB3 at h
 split at h
 ·rename_i e he
  rw[he] at htd
  have hde:=htd.slice_inv;subst hde
  have hsub:=hti.sub;rw[he] at hsub
  have hel:=hE.ti e hsub.1
  dsimp only at h
  split at h
  ·rename_i l1 n hn
   split at h
   ·rename_i c1 m hm
    obtain⟨k,rfl⟩:=zGE hn hl
    obtain⟨k',rfl⟩:=zGE hm hc
    rw[cond_eq_ite] at h
    split at h
    ·rename_i hcond
     simp only[Bool.and_eq_true,limit] at hcond
     have h1:=Nat.le_of_ble_eq_true hcond.1
     have h2:=Nat.le_of_ble_eq_true hcond.2.1
     have h3:=Nat.le_of_ble_eq_true hcond.2.2
     cases h
     obtain⟨z,hz,hzr,hz0,hzs,hzc,hsz⟩:=hel.zero g default
     obtain⟨i,z2,hi,hi1,hi2,hi3,hi4,hi5,hi6,hi7⟩:=hel.info
     have hzz:z2=z:=by
      have:(zeroValue e).run P default=.ok z2 default:=by simp[zeroValue,typeInfo,hi,hi3]
      rw[this] at hz;cases hz;rfl
     subst hzz
     have hrow:=zES (g:=g) hzr hsz m
     have hwl:=wrap64 (n:=n) (by omega)
     have hwc:=wrap64 (n:=m) h3
     have hbig:¬ ((i.bytes:Int)*(m:Int)>2 ^ 48):=by
      rw[hi2]
      have:((E.types e).bytes:Int)*(m:Int)=((m*(E.types e).bytes:Nat):Int):=by push_cast;rw[Int.mul_comm]
      rw[this];omega
     have hbig':¬ (281474976710656<(i.bytes:Int)*(m:Int)):=by simpa using hbig
     have hrowR:RowR g (E.types e).size (List.replicate n (zAK (E.types e))) (Builtin.zeroCells z2.cells m):=by
      refine⟨?_,?_,?_⟩
      ·rw[zBV,hsz,List.length_replicate];exact Nat.mul_le_mul_right _ h1
      ·intro i x hix
       have hm:=List.mem_of_getElem? hix
       rw[List.mem_replicate] at hm
       rw[hm.2,hzr.cells.1,hsz]
      ·intro i x j c hix hj
       have hlt:i<n:=by have:=(List.getElem?_eq_some_iff.1 hix).1;simpa using this
       have hm:=List.mem_of_getElem? hix
       rw[List.mem_replicate] at hm
       have hx:(List.replicate m (zAK (E.types e)))[i]?=some x:=by rw[List.getElem?_replicate,if_pos (by omega),hm.2]
       obtain⟨v,hv,hr⟩:=hrow.get hx hj
       exact⟨v,by rwa [Array.getElem?_toList] at hv,hr⟩
     have htops:tops (List.replicate n (zAK (E.types e)))=0:=by
      refine Nat.le_zero.1 (zAP.2 fun x hx=>?_)
      rw[List.mem_replicate] at hx
      rw[hx.2,hz0];exact Nat.le_refl _
     refine⟨e,n,m,Builtin.zeroCells z2.cells m,he,hn,hm,h1,hsub.2,by rw[zBV,hsz],hrowR,htops,rfl,rfl,fun w=>?_⟩
     ·have hneg:¬ ((m:Int)<0):=by omega
      have hneg2:¬ ((n:Int)<0):=by omega
      have hlt:¬ ((m:Int)<(n:Int)):=by omega
      have hs':i.size=z2.cells.size:=by rw[hsz,hi1]
      by_cases h0:m*i.size=0
      ·have he:Builtin.zeroCells z2.cells m=#[]:=by unfold Builtin.zeroCells;rw[← hs',h0];simp
       simp[Instr.makeSlice,run_underlying hd,asInt,asIntOf,typeInfo,hi,hwl,hwc,hbig',hneg,hneg2,hlt,sizeOf,newRow,h0,he]
       rw[show Array.range 0=(#[]:Array Nat) by simp,Array.map_empty];rfl
      ·simp[Instr.makeSlice,run_underlying hd,asInt,asIntOf,typeInfo,hi,hwl,hwc,hbig',hneg,hneg2,hlt,sizeOf,newRow,zeroValue,hi3,h0]
       unfold Builtin.zeroCells;rw[hs'];try rfl
    ·cases h
   ·cases h
  ·cases h
 ·cases h
theorem zOH (hE:TysOk E P)(hr:Rel base w0 g s w)(ht:(E.types t).ok=true){l c:AV}{l' c':Value}(h:zB3 E t (some l) (some c) s=.val v s')(hl:VR g l l')(hc:VR g c c') :
  StR P base w0 g s w (Instr.makeSlice t l' c') v s':=by
 obtain⟨e,n,m,arr,h1,h2,h3,h4,h5,h6,h7,h8,rfl,rfl,h11⟩:=zI5 hE ht h hl hc
 have hR:=hr.pushRow e h5 h7 (by rw[h8];exact Nat.zero_le _) false
 rw[List.length_replicate,← zD7] at hR
 refine⟨_,_,_,h11 w,hR,Gh.with_grows ..,?_,Nat.le_refl _,by rw[zB8];omega⟩
 have:=VR.osl (g:=g.with s.n w.heap.size (E.types e).size n arr.size) s.n 0 n m h4 (by rw[zFL,zJM,h6];simp) (by rw[zJL];omega)
 rw[zBS,zFL,Nat.zero_mul] at this;exact this
end
theorem zIB {cs:List AV}{off:Nat}{vs:List AV}:tops (splice cs off vs)≤Nat.max (tops cs) (tops vs):=by
 refine zAP.2 fun x hx=>?_
 rw[zE0,List.mem_append,List.mem_append] at hx
 rcases hx with hx|hx|hx
 ·exact Nat.le_trans (zAP.1 (Nat.le_refl _) x (List.mem_of_mem_take hx)) (Nat.le_max_left _ _)
 ·exact Nat.le_trans (zAP.1 (Nat.le_refl _) x hx) (Nat.le_max_right _ _)
 ·exact Nat.le_trans (zAP.1 (Nat.le_refl _) x (List.mem_of_mem_drop hx)) (Nat.le_max_left _ _)
theorem zT7 {g:Gh}{cs vs:List AV}{arr:Array Value}{us:List Value}{off:Nat}(h:VRs g cs arr)(hv:VRs g vs us.toArray)(hl:off+vs.length≤cs.length) :
  VRs g (splice cs off vs) (blit arr off us):=by
 have hus:vs.length=us.length:=by simpa using hv.1
 refine⟨by rw[zFZ hl,zEM];exact h.1,fun i x u hx hu=>?_⟩
 rw[zHW hl] at hx
 rw[zH3 _ _ _ _ (by rw[← hus,← h.1];exact hl),← hus] at hu
 split at hx
 ·rename_i hc
  rw[if_pos hc] at hu
  exact hv.2 _ x u hx (by simpa using hu)
 ·rename_i hc
  rw[if_neg hc] at hu
  exact h.2 _ x u hx hu
section
variable {E:Env}{P:Program}{t:TypeId}{g:Gh}{base:Nat}{w0:World}{s s':Sto}{w:World}{v:AV}
theorem zX5 {a b c:Nat}(h:a≤Nat.max b c):a≤b∨a≤c:=by
 by_cases hb:b≤c
 ·right;rw[show Nat.max b c=c from Nat.max_eq_right hb] at h;exact h
 ·left;rw[show Nat.max b c=b from Nat.max_eq_left (by omega)] at h;exact h
theorem Rel.upsOr (hr:Rel base w0 g s w){k:Nat}(hk:k<s.n){b':Box}{t:Nat}(h:boxTop b'≤Nat.max (boxTop (s.get k)) t) :
  boxTop b'≤k+1∨boxTop b'≤t∨∃u,(k,u)∈s.ups∧boxTop b'≤u:=by
 rcases zX5 h with h|h
 ·rcases hr.ups k hk with h1|⟨u,h1,h2⟩
  ·exact .inl (Nat.le_trans h h1)
  ·exact .inr (.inr ⟨u,h1,Nat.le_trans h h2⟩)
 ·exact .inr (.inl h)
theorem zGC {w w':World}{b o:Nat}(h:w'.heap[b]?=w.heap[b]?):w'.cell? ⟨b,o,none⟩=w.cell? ⟨b,o,none⟩:=by
 unfold World.cell?;simp only[h]
theorem zN1 {ty:TypeId}(hti:TIR E P t (E.types t))(hr:Rel base w0 g s w){k off:Nat}{cs:List AV}{x:AV}{x':Value}(hk:s.get k=.cells ty cs)(hx:VR g x x')(hn:top x≤s.n)
  (h1:(cellsOf x).length=(E.types t).size) (h2:off+(E.types t).size≤cs.length) (h3:flatC (cellsOf x)=true) :
  ∃w',(Instr.storeAt t (.pointer (some ⟨g.mu k,off,none⟩)) x').run P w=.ok () w'∧Rel base w0 g ((s.put k (.cells ty (splice cs off (cellsOf x)))).note k (top x)) w':=by
 have hlt:=zEQ hk (by simp)
 have hb:=hr.box k hlt
 have htop:=hr.top k hlt
 rw[hk] at hb htop
 obtain⟨arr,hh,hvs,hC⟩:=hb
 have hxc:=hx.cells
 have hone:=zF5 hxc h3
 have hlen:x'.cells.toList.length=(cellsOf x).length:=by rw[Array.length_toList];exact hxc.1.symm
 obtain⟨w',hw,hs1,hs2,hs3,hs4⟩:=zBH P (g.mu k) off ty x'.cells.toList 0 w arr hh (by rw[hlen,h1,← hvs.1,Nat.add_zero];exact h2) hone
 rw[Nat.add_zero] at hs2
 have hlive:liveBox (s.get k)=true:=by rw[hk];rfl
 have hb':boxTop (Box.cells ty (splice cs off (cellsOf x)))≤Nat.max (boxTop (s.get k)) (top x):=by
  rw[hk];simp only[boxTop];rw[← zCC x];exact zIB
 refine⟨w',?_,?_⟩
 ·have hsz:x'.cells.size=(E.types t).size:=by rw[← hxc.1];exact h1
  simp[Instr.storeAt,Instr.sureAddr,storeVar,hti.sizeOf w,hsz,hw]
 ·refine hr.update hlt _ (.refl _ _) hlive (fun b o v hv=>?_) (fun _ _ _=>rfl) hs3 hs1 ?_ ?_ _ (hr.upsOr hlt hb') hs4.2
  ·have hne:b≠g.mu k:=fun e=>by subst e;rw[hC] at hv;cases hv
   rw[zGC (hs3 b hne)];exact hr.C b o v hv
  ·exact⟨_,hs2,zT7 hvs (by simpa using hxc) (by rw[h1];exact h2),hC⟩
  ·refine Nat.le_trans hb' (Nat.max_le.2 ⟨by rw[hk];exact htop,hn⟩)
end
def Gh.sealAt (g:Gh)(b n:Nat)(arr:Array Value):Gh:={ g with C:=fun b' o=>if b'=b∧o<n then arr[o]? else g.C b' o }
structure SealR (base:Nat) (w0:World) (g g':Gh) (s s':Sto) (w:World):Prop where
 rel:Rel base w0 g' s' w
 grows:Grows s.n g g'
 n:s'.n=s.n
theorem SealR.refl {base:Nat}{w0:World}{g:Gh}{s:Sto}{w:World}(h:Rel base w0 g s w):SealR base w0 g g s s w:=⟨h,.refl _ _,rfl⟩
theorem SealR.trans {base:Nat}{w0:World}{g g' g'':Gh}{s s' s'':Sto}{w:World}(h:SealR base w0 g g' s s' w)(h':SealR base w0 g' g'' s' s'' w):SealR base w0 g g'' s s'' w:=
 ⟨h'.rel,h.grows.trans (h'.grows.less (by rw[h.n];exact Nat.le_refl _)),h'.n.trans h.n⟩
section
variable {base:Nat}{w0:World}{g:Gh}{s:Sto}{w:World}
theorem Rel.sealRow {ty:TypeId}(hr:Rel base w0 g s w){k es:Nat}{xs:List AV}{sl:Bool}(hk:s.get k=.row ty es xs sl) :
  ∃g' arr,SealR base w0 g g' s (s.put k (.row ty es xs true)) w∧RowR g es xs arr∧g.es k=es∧(∀o,o<xs.length*es→g'.C (g.mu k) o=arr[o]?):=by
 have hlt:=zEQ hk (by simp)
 have hb:=hr.box k hlt
 have htop:=hr.top k hlt
 rw[hk] at hb htop
 obtain⟨arr,hh,hes,hges,hrl,hbs,hsz,hw,hv,hC⟩:=hb
 have hgrow:Grows s.n g (g.sealAt (g.mu k) (xs.length*es) arr):=by
  refine⟨fun _ _=>rfl,fun _ _=>rfl,fun _ _=>rfl,fun _ _=>rfl,fun b o v hc=>?_,rfl,rfl,rfl⟩
  simp only[Gh.sealAt]
  split
  ·rename_i hcond
   have:=hr.C b o v hc
   rw[hcond.1,zD0 hh] at this
   exact this
  ·exact hc
 refine⟨g.sealAt (g.mu k) (xs.length*es) arr,arr,⟨?_,hgrow,rfl⟩,⟨hsz,hw,hv⟩,hges,fun o ho=>by simp[Gh.sealAt,ho]⟩
 have:=hr.update (g':=g.sealAt (g.mu k) (xs.length*es) arr) (w':=w) hlt (.row ty es xs true) hgrow (by rw[hk];rfl) (fun b o v hc=>?_) (fun b o hb=>?_) (fun _ _=>rfl) rfl ?_ htop 0 ?_
 ·rw[zFQ (Nat.zero_le _)] at this;exact this
 ·simp only[Gh.sealAt] at hc
  split at hc
  ·rename_i hcond
   rw[hcond.1,zD0 hh];exact hc
  ·exact hr.C b o v hc
 ·simp[Gh.sealAt,hb]
 ·refine⟨arr,hh,hes,hges,hrl,hbs,hsz,hw,fun i x j c hi hj=>?_,fun o v hc=>?_⟩
  ·obtain⟨v,h1,h2⟩:=hv i x j c hi hj
   exact⟨v,h1,h2.grows hgrow (zGI htop hi hj)⟩
  ·simp only[Gh.sealAt] at hc
   split at hc
   ·rename_i hcond;exact⟨rfl,hcond.2⟩
   ·exact⟨rfl,(hC o v hc).2⟩
 ·rcases hr.ups k hlt with h|⟨u,h1,h2⟩
  ·rw[hk] at h;exact .inl h
  ·rw[hk] at h2;exact .inr (.inr ⟨u,h1,h2⟩)
theorem zG7 {x v:AV}{x':Value}{s':Sto}(hr:Rel base w0 g s w)(h:seal1 s x=some (v,s'))(hx:VR g x x')(hn:top x≤s.n) :
  ∃g',SealR base w0 g g' s s' w∧VR g' v x'∧top v≤s.n∧(cellsOf v).length=(cellsOf x).length∧flat1 v=flat1 x:=by
 unfold seal1 at h
 split at h
 ·rename_i k off len
  split at h
  ·rename_i es xs sl hk
   rw[cond_eq_ite] at h
   split at h
   ·rename_i hle
    have hle:=Nat.le_of_ble_eq_true hle
    rw[zAH] at hle
    dsimp only at h
    cases h
    obtain⟨g',arr,hS,hR,hges,hC⟩:=hr.sealRow hk
    have hrow:=hr.row hk
    have htops:tops ((xs.drop off).take len)≤s.n:=zAP.2 fun y hy=>zAP.1 hrow.2.2.2.2.2 y (List.mem_of_mem_drop (List.mem_of_mem_take hy))
    have hlen:((xs.drop off).take len).length=len:=by simp;omega
    simp only[zCA,zCZ]
    refine⟨g',hS,?_,htops,rfl,rfl⟩
    have hget:∀{i:Nat} {y:AV},((xs.drop off).take len)[i]?=some y→xs[off+i]?=some y∧i<len:=by
     intro i y hi
     rw[List.getElem?_take] at hi
     split at hi
     ·rename_i hl;rw[List.getElem?_drop] at hi;exact⟨hi,hl⟩
     ·cases hi
    cases hx with
    | osl _ _ _ cap h1 h2 h3=>
     have key:∀(i:Nat) (y:AV) (j:Nat) (c:AV),((xs.drop off).take len)[i]?=some y→(cellsOf y)[j]?=some c→∃u,g'.C (g.mu k) (off*es+i*es+j)=some u∧VR g' c u:=by
      intro i y j c hi hj
      obtain⟨hi',hil⟩:=hget hi
      obtain⟨u,hu,hru⟩:=hR.2.2 _ _ _ _ hi' hj
      have hj':j<es:=by rw[← hR.2.1 _ _ hi'];exact(List.getElem?_eq_some_iff.1 hj).1
      have e:(off+i)*es+j=off*es+i*es+j:=by rw[Nat.add_mul]
      have hlt:off*es+i*es+j<xs.length*es:=by
       have:(off+i+1)*es≤xs.length*es:=Nat.mul_le_mul_right _ (by omega)
       rw[Nat.add_mul,Nat.add_mul] at this;omega
      refine⟨u,by rw[hC _ hlt,← e];exact hu,hru.grows hS.grows (zGI hrow.2.2.2.2.2 hi' hj)⟩
     rw[hges]
     have:=VR.sl (g:=g') (tops ((xs.drop off).take len)) ((xs.drop off).take len) .shut (g.mu k) (off*es) cap es (fun i j=>(g'.C (g.mu k) (off*es+i*es+j)).getD .nilFunc)
      (fun i y hi=>hR.2.1 _ _ (hget hi).1) (fun i y j c hi hj=>by obtain⟨u,hu,_⟩:=key i y j c hi hj;rw[hu];rfl)
      (fun i y j c hi hj=>by obtain⟨u,hu,h⟩:=key i y j c hi hj;rw[hu];exact h) (Nat.le_refl _) (by rw[hlen];exact h1) (fun h=>absurd rfl h) (by simp)
     rw[hlen] at this
     exact this
    | oslE _ _ b o h3=>
     simp only[List.take_zero]
     exact VR.sl (g:=g') 0 [] .shut b o 0 1 (fun _ _=>.nilFunc) (fun i y hi=>by simp at hi) (fun i y j c hi _=>by simp at hi) (fun i y j c hi _=>by simp at hi) (Nat.le_refl _) (Nat.le_refl _) (fun h=>absurd rfl h) (by simp)
   ·cases h
  ·cases h
 ·rename_i t xs o
  cases h
  refine⟨g,.refl hr,?_,hn,rfl,rfl⟩
  cases hx with
  | sl _ _ _ b off cap es vs hl hc hv ht hcap hown hnil=>exact .sl t xs .shut b off cap es vs hl hc hv ht hcap (fun h=>absurd rfl h) (by simp)
  | slnil=>exact .slnil t .shut
  | slany=>exact .slany t .shut _ (by simp)
 ·cases h
  exact⟨g,.refl hr,hx,hn,rfl,rfl⟩
theorem sealCs_sim:∀{xs vs:List AV} {g:Gh} {s s':Sto} {us:List Value},Rel base w0 g s w→zC6 s xs=some (vs,s')→
  VRs g xs us.toArray→tops xs≤s.n→∃g',SealR base w0 g g' s s' w∧VRs g' vs us.toArray∧tops vs≤s.n∧vs.length=xs.length∧flatC vs=flatC xs:=by
 intro xs
 induction xs with
 | nil=>intro vs g s s' us hr h hx hn;cases h;exact⟨g,.refl hr,hx,hn,rfl,rfl⟩
 | cons x xs ih=>
  intro vs g s s' us hr h hx hn
  simp only[zC6] at h
  split at h
  ·rename_i v1 s1 h1
   split at h
   ·rename_i r s2 h2
    cases h
    cases us with
    | nil=>have:=hx.1;simp at this
    | cons u us=>
     rw[zAU] at hn
     have hn':=Nat.max_le.1 hn
     obtain⟨g1,hS,hv1,ht1,_,hf1⟩:=zG7 hr h1 (hx.2 0 x u rfl (by simp)) hn'.1
     have hxs:VRs g1 xs us.toArray:=by
      refine⟨by have:=hx.1;simp at this;simpa using this,fun i y v hi hv=>?_⟩
      exact(hx.2 (i+1) y v hi (by simpa using hv)).grows hS.grows (zCV hn'.2 hi)
     obtain⟨g2,hS2,hv2,ht2,hl2,hf2⟩:=ih hS.rel h2 hxs (by rw[hS.n];exact hn'.2)
     refine⟨g2,hS.trans hS2,⟨by have:=hv2.1;simp at this;simp[this],fun i y v hi hv=>?_⟩,?_,by simp[hl2],by simp only[flatC,hf1,hf2]⟩
     ·cases i with
      | zero=>simp at hi hv;subst hi;subst hv;exact hv1.grows hS2.grows (by rw[hS.n];exact ht1)
      | succ i=>exact hv2.2 i y v (by simpa using hi) (by simpa using hv)
     ·rw[zAU];exact Nat.max_le.2 ⟨ht1,by rw[hS.n] at ht2;exact ht2⟩
   ·cases h
  ·cases h
end
section
variable {base:Nat}{w0:World}{w:World}
theorem zQ0 {s s':Sto}{x v:AV}(h:seal1 s x=some (v,s')):flat1 x=true∨(v=x∧s'=s):=by
 unfold seal1 at h
 split at h
 ·left;rfl
 ·left;rfl
 ·cases h;exact .inr ⟨rfl,rfl⟩
theorem zLI {x:AV}(h:flat1 x=true):cellsOf x=[x]:=by
 cases x<;>first|rfl|simp[flat1] at h
theorem zUB {g:Gh}{s s':Sto}{x v:AV}{x':Value}(hr:Rel base w0 g s w)(h:seal1 s x=some (v,s'))(hx:VR g x x')(hn:top x≤s.n) :
  ∃g',SealR base w0 g g' s s' w∧VR g' v x'∧top v≤s.n∧(cellsOf v).length=(cellsOf x).length∧flatC (cellsOf v)=flatC (cellsOf x):=by
 obtain⟨g',h1,h2,h3,h4,h5⟩:=zG7 hr h hx hn
 refine⟨g',h1,h2,h3,h4,?_⟩
 rcases zQ0 h with hf|⟨rfl,_⟩
 ·have hf':flat1 v=true:=by rw[h5];exact hf
  rw[zLI hf,zLI hf'];simp[flatC,hf,hf']
 ·rfl
theorem zF0 {g:Gh}{s s':Sto}{x v:AV}{x':Value}(hr:Rel base w0 g s w)(h:zBC s x=some (v,s'))(hx:VR g x x')(hn:top x≤s.n) :
  ∃g',SealR base w0 g g' s s' w∧VR g' v x'∧top v≤s.n∧(cellsOf v).length=(cellsOf x).length∧flatC (cellsOf v)=flatC (cellsOf x):=by
 unfold zBC at h
 split at h
 ·rename_i cs
  split at h
  ·rename_i vs s1 h1
   cases h
   rw[zDQ] at hn
   cases hx with
   | agg _ us l hh=>
    obtain⟨g',hS,hv,ht,hl,hf⟩:=sealCs_sim (us:=us.toList) hr h1 ⟨by simpa using l,by simpa using hh⟩ hn
    simp only[Array.toArray_toList] at hv
    exact⟨g',hS,.agg _ _ hv.1 hv.2,by rw[zDQ];exact ht,hl,hf⟩
  ·cases h
 ·rename_i t cs
  split at h
  ·rename_i vs s1 h1
   cases h
   have hn':tops cs≤s.n:=by rw[zO1,zDQ] at hn;exact hn
   cases hx with
   | iface _ _ u hu=>
    cases hu with
    | agg _ us l hh=>
     obtain⟨g',hS,hv,ht,hl,hf⟩:=sealCs_sim (us:=us.toList) hr h1 ⟨by simpa using l,by simpa using hh⟩ hn'
     simp only[Array.toArray_toList] at hv
     exact⟨g',hS,.iface _ _ _ (.agg _ _ hv.1 hv.2),by rw[zO1,zDQ];exact ht,rfl,rfl⟩
  ·cases h
 ·exact zUB hr h hx hn
theorem sealVs_sim:∀{xs vs:List AV} {g:Gh} {s s':Sto} {us:List Value},Rel base w0 g s w→zBO s xs=some (vs,s')→
  VRs g xs us.toArray→tops xs≤s.n→∃g',SealR base w0 g g' s s' w∧VRs g' vs us.toArray∧tops vs≤s.n:=by
 intro xs
 induction xs with
 | nil=>intro vs g s s' us hr h hx hn;cases h;exact⟨g,.refl hr,hx,hn⟩
 | cons x xs ih=>
  intro vs g s s' us hr h hx hn
  simp only[zBO] at h
  split at h
  ·rename_i v1 s1 h1
   split at h
   ·rename_i r s2 h2
    cases h
    cases us with
    | nil=>have:=hx.1;simp at this
    | cons u us=>
     rw[zAU] at hn
     have hn':=Nat.max_le.1 hn
     obtain⟨g1,hS,hv1,ht1,_,_⟩:=zF0 hr h1 (hx.2 0 x u rfl (by simp)) hn'.1
     have hxs:VRs g1 xs us.toArray:=by
      refine⟨by have:=hx.1;simp at this;simpa using this,fun i y v hi hv=>?_⟩
      exact(hx.2 (i+1) y v hi (by simpa using hv)).grows hS.grows (zCV hn'.2 hi)
     obtain⟨g2,hS2,hv2,ht2⟩:=ih hS.rel h2 hxs (by rw[hS.n];exact hn'.2)
     refine⟨g2,hS.trans hS2,⟨by have:=hv2.1;simp at this;simp[this],fun i y v hi hv=>?_⟩,?_⟩
     ·cases i with
      | zero=>simp at hi hv;subst hi;subst hv;exact hv1.grows hS2.grows (by rw[hS.n];exact ht1)
      | succ i=>exact hv2.2 i y v (by simpa using hi) (by simpa using hv)
     ·rw[zAU];exact Nat.max_le.2 ⟨ht1,by rw[hS.n] at ht2;exact ht2⟩
   ·cases h
  ·cases h
theorem zWP {g:Gh}{s s':Sto}{x v:AV}{x':Value}(hr:Rel base w0 g s w)(h:zK8 s x=some (v,s'))(hx:VR g x x')(hn:top x≤s.n) :
  ∃g',SealR base w0 g g' s s' w∧VR g' v x'∧top v≤s.n:=by
 unfold zK8 at h
 split at h
 ·rename_i cs
  split at h
  ·rename_i vs s1 h1
   cases h
   rw[zCU] at hn
   cases hx with
   | tuple _ us l hh=>
    obtain⟨g',hS,hv,ht⟩:=sealVs_sim (us:=us.toList) hr h1 ⟨by simpa using l,by simpa using hh⟩ hn
    simp only[Array.toArray_toList] at hv
    exact⟨g',hS,.tuple _ _ hv.1 hv.2,by rw[zCU];exact ht⟩
  ·cases h
 ·obtain⟨g',h1,h2,h3,_⟩:=zF0 hr h hx hn
  exact⟨g',h1,h2,h3⟩
theorem sealPs_sim:∀{ps vs:List (Nat×AV)} {g:Gh} {s s':Sto} {us:List (Nat×Value)},Rel base w0 g s w→zK9 s ps=some (vs,s')→
  ps.length=us.length→(∀(i:Nat) p u,ps[i]?=some p→us[i]?=some u→p.1=u.1∧VR g p.2 u.2∧top p.2≤s.n)→
  ∃g',SealR base w0 g g' s s' w∧vs.length=us.length∧(∀(i:Nat) p u,vs[i]?=some p→us[i]?=some u→p.1=u.1∧VR g' p.2 u.2∧top p.2≤s.n):=by
 intro ps
 induction ps with
 | nil=>intro vs g s s' us hr h hl hx;cases h;exact⟨g,.refl hr,hl,hx⟩
 | cons x xs ih=>
  intro vs g s s' us hr h hl hx
  obtain⟨xi,xv⟩:=x
  simp only[zK9] at h
  split at h
  ·rename_i v1 s1 h1
   split at h
   ·rename_i r s2 h2
    cases h
    cases us with
    | nil=>simp at hl
    | cons u us=>
     obtain⟨e0,hx0,ht0⟩:=hx 0 _ u rfl rfl
     obtain⟨g1,hS,hv1,ht1,_,_⟩:=zF0 hr h1 hx0 ht0
     obtain⟨g2,hS2,hl2,hv2⟩:=ih hS.rel h2 (by simpa using hl) (fun i p u' hi hu=>by
      obtain⟨a,b,c⟩:=hx (i+1) p u' (by simpa using hi) (by simpa using hu)
      exact⟨a,b.grows hS.grows c,by rw[hS.n];exact c⟩)
     refine⟨g2,hS.trans hS2,by simp[hl2],fun i p u' hi hu=>?_⟩
     cases i with
     | zero=>simp at hi hu;subst hi;subst hu;exact⟨e0,hv1.grows hS2.grows (by rw[hS.n];exact ht1),ht1⟩
     | succ i=>
      obtain⟨a,b,c⟩:=hv2 i p u' (by simpa using hi) (by simpa using hu)
      exact⟨a,b,by rw[hS.n] at c;exact c⟩
   ·cases h
  ·cases h
end
section
variable {E:Env}{P:Program}{t:TypeId}{base:Nat}{w0:World}{w:World}{v:AV}
theorem zGN (x:AV)(xs:List AV)(i j:Nat):(lset x xs i)[j]?=if i=j∧i<xs.length then some x else xs[j]?:=by
 rw[zFR,List.getElem?_set]
 by_cases h:i=j
 ·subst h
  by_cases h2:i<xs.length
  ·simp[h2]
  ·simp[h2]
 ·simp[h]
theorem zPD {x:AV}{cs:List AV}(hl:cs.length=(cellsOf x).length)(hf:flatC cs=true):cellsOf (zJ8 x cs)=cs:=by
 cases x with
 | agg cs'=>rfl
 | _=>
  simp only[cellsOf,List.length_singleton] at hl
  match cs,hl with
  | [c],_=>
   simp only[zJ8,zCJ]
   simp only[flatC,cond_eq_ite] at hf
   split at hf
   ·rename_i hc;exact zLI hc
   ·cases hf
theorem zN0 {ty:TypeId}(hti:TIR E P t (E.types t)){g:Gh}{s:Sto}(hr:Rel base w0 g s w){k i off es:Nat}{xs:List AV}{e x:AV}{x':Value}(hk:s.get k=.row ty es xs false)(hi:xs[i]?=some e)
  (hfe:flatC (splice (cellsOf e) off (cellsOf x))=true)
  (hx:VR g x x') (hn:top x≤s.n) (h1:(cellsOf x).length=(E.types t).size) (h2:off+(E.types t).size≤(cellsOf e).length) (h3:flatC (cellsOf x)=true) :
  ∃w',(Instr.storeAt t (.pointer (some ⟨g.mu k,i*g.es k+off,none⟩)) x').run P w=.ok () w'∧
   Rel base w0 g ((s.put k (.row ty es (lset (zJ8 e (splice (cellsOf e) off (cellsOf x))) xs i) false)).note k (top x)) w':=by
 have hlt:=zEQ hk (by simp)
 have hb:=hr.box k hlt
 have htop:=hr.top k hlt
 rw[hk] at hb htop
 obtain⟨arr,hh,hes,hges,hrl,hbs,hsz,hw,hv,hC⟩:=hb
 have hxc:=hx.cells
 have hone:=zF5 hxc h3
 have hlen:x'.cells.toList.length=(cellsOf x).length:=by rw[Array.length_toList];exact hxc.1.symm
 have hil:i<xs.length:=(List.getElem?_eq_some_iff.1 hi).1
 have hwe:=hw i e hi
 have hbound:i*es+es≤arr.size:=by
  have:(i+1)*es≤xs.length*es:=Nat.mul_le_mul_right _ hil
  rw[Nat.add_mul,Nat.one_mul] at this;omega
 have hfit:i*es+off+0+x'.cells.toList.length≤arr.size:=by rw[hlen,h1];omega
 obtain⟨w',hw',hs1,hs2,hs3,hs4⟩:=zBH P (g.mu k) (i*es+off) ty x'.cells.toList 0 w arr hh hfit hone
 rw[Nat.add_zero] at hs2
 have hlive:liveBox (s.get k)=true:=by rw[hk];rfl
 have hcl:cellsOf (zJ8 e (splice (cellsOf e) off (cellsOf x)))=splice (cellsOf e) off (cellsOf x):=zPD (zFZ (by rw[h1];exact h2)) hfe
 have hsl:(splice (cellsOf e) off (cellsOf x)).length=(cellsOf e).length:=zFZ (by rw[h1];exact h2)
 have hnew:top (zJ8 e (splice (cellsOf e) off (cellsOf x)))≤Nat.max (tops xs) (top x):=by
  rw[← zCC,hcl,← zCC x]
  refine Nat.le_trans zIB (Nat.max_le.2 ⟨?_,Nat.le_max_right _ _⟩)
  rw[zCC]
  exact Nat.le_trans (zAP.1 (Nat.le_refl _) e (List.mem_of_getElem? hi)) (Nat.le_max_left _ _)
 have hb':boxTop (Box.row ty es (lset (zJ8 e (splice (cellsOf e) off (cellsOf x))) xs i) false)≤Nat.max (boxTop (s.get k)) (top x):=by
  rw[hk];simp only[boxTop]
  refine zAP.2 fun y hy=>?_
  obtain⟨j,hj⟩:=List.getElem?_of_mem hy
  rw[zGN] at hj
  split at hj
  ·cases hj;exact hnew
  ·exact Nat.le_trans (zAP.1 (Nat.le_refl _) y (List.mem_of_getElem? hj)) (Nat.le_max_left _ _)
 refine⟨w',?_,?_⟩
 ·have hsz:x'.cells.size=(E.types t).size:=by rw[← hxc.1];exact h1
  rw[hges]
  simp[Instr.storeAt,Instr.sureAddr,storeVar,hti.sizeOf w,hsz,hw']
 ·refine hr.update hlt _ (.refl _ _) hlive (fun b o u hu=>?_) (fun _ _ _=>rfl) hs3 hs1 ?_ (Nat.le_trans hb' (Nat.max_le.2 ⟨by rw[hk];exact htop,hn⟩)) _ (hr.upsOr hlt hb') hs4.2
  ·have hne:b≠g.mu k:=fun e=>by subst e;have:=hC o u hu;simp at this
   rw[zGC (hs3 b hne)];exact hr.C b o u hu
  ·have hll:(lset (zJ8 e (splice (cellsOf e) off (cellsOf x))) xs i).length=xs.length:=by rw[zFR,List.length_set]
   refine⟨_,hs2,hes,hges,by rw[hll];exact hrl,by rw[zEM];exact hbs,by rw[zEM,hll];exact hsz,?_,?_,?_⟩
   ·intro j y hj
    rw[zGN] at hj
    split at hj
    ·cases hj;rw[hcl,hsl,hwe]
    ·exact hw j y hj
   ·intro j y m c hj hm
    rw[zGN] at hj
    split at hj
    ·rename_i hij
     cases hj
     obtain⟨rfl,_⟩:=hij
     rw[hcl,zHW (by rw[h1];exact h2)] at hm
     rw[zH3 _ _ _ _ (by simpa using hfit),hlen]
     split at hm
     ·rename_i hc
      rw[if_pos (by omega)]
      have e:i*es+m-(i*es+off)=m-off:=by omega
      rw[e]
      have hml:m-off<x'.cells.size:=by rw[← hxc.1];exact(List.getElem?_eq_some_iff.1 hm).1
      exact⟨x'.cells[m-off],by rw[Array.getElem?_toList];exact Array.getElem?_eq_getElem hml,hxc.2 _ _ _ hm (Array.getElem?_eq_getElem hml)⟩
     ·rename_i hc
      rw[if_neg (by omega)]
      exact hv i e m c hi hm
    ·rename_i hij
     have hjl:j<xs.length:=(List.getElem?_eq_some_iff.1 hj).1
     have hne:i≠j:=fun e=>hij ⟨e,hil⟩
     have hms:m<es:=by rw[← hw j y hj];exact(List.getElem?_eq_some_iff.1 hm).1
     rw[zH3 _ _ _ _ (by simpa using hfit),hlen,if_neg ?_]
     ·exact hv j y m c hj hm
     ·intro ⟨ha,hb⟩
      rcases Nat.lt_or_gt_of_ne hne with h|h
      ·have:(i+1)*es≤j*es:=Nat.mul_le_mul_right _ h
       rw[Nat.add_mul,Nat.one_mul] at this;omega
      ·have:(j+1)*es≤i*es:=Nat.mul_le_mul_right _ h
       rw[Nat.add_mul,Nat.one_mul] at this;omega
   ·intro o u hu
    have:=hC o u hu;simp at this
theorem zFY (hti:TIR E P t (E.types t)){g:Gh}{s s':Sto}(hr:Rel base w0 g s w){a x:AV}{a' x':Value}(h:zGZ s (E.types t) a x=some s')(ha:VR g a a')(hx:VR g x x')(hn:top x≤s.n) :
  ∃w' g',(Instr.storeAt t a' x').run P w=.ok () w'∧Rel base w0 g' s' w'∧Grows s.n g g'∧s'.n=s.n:=by
 unfold zGZ at h
 split at h
 ·rename_i k off
  split at h
  ·rename_i cs hk
   rw[cond_eq_ite] at h
   split at h
   ·rename_i hc
    cases h
    simp only[Bool.and_eq_true,zAH] at hc
    cases ha
    obtain⟨w',h1,h2⟩:=zN1 hti hr hk hx hn (Nat.eq_of_beq_eq_true hc.1) (Nat.le_of_ble_eq_true hc.2.1) hc.2.2
    exact⟨w',g,h1,h2,.refl _ _,by rw[zFI,zFP]⟩
   ·cases h
  ·cases h
 ·rename_i k i off
  split at h
  ·rename_i v1 s1 hs
   split at h
   ·rename_i es xs hk
    split at h
    ·rename_i e hi
     rw[cond_eq_ite] at h
     split at h
     ·rename_i hc
      cases h
      simp only[Bool.and_eq_true,zAH] at hc
      obtain⟨g',hS,hv,ht,_,_⟩:=zF0 hr hs hx hn
      have ha':=ha.grows hS.grows
      rw[zE6] at hi
      cases ha with
      | eptr _ _ _=>
       have hk0:=zEQ hk (by simp)
       rw[hS.n] at hk0
       obtain⟨w',h1,h2⟩:=zN0 hti hS.rel hk hi hc.2.2.2 hv (by rw[hS.n];exact ht) (Nat.eq_of_beq_eq_true hc.1) (Nat.le_of_ble_eq_true hc.2.1) hc.2.2.1
       rw[hS.grows.mu k hk0,hS.grows.es k hk0] at h1
       exact⟨w',g',h1,h2,hS.grows,by rw[zFI,zFP,hS.n]⟩
     ·cases h
    ·cases h
   ·cases h
  ·cases h
 ·cases h
end
theorem zH2 {w w':World}(h:w'.heap=w.heap)(a:Addr):w'.cell? a=w.cell? a:=by
 unfold World.cell?;rw[h]
section
variable {base:Nat}{w0:World}{w:World}{g:Gh}{s:Sto}
theorem Rel.same (h:Rel base w0 g s w){w':World}(he:w'.heap=w.heap)(hos:w'.os=w.os∧w'.output=w.output:=by exact⟨rfl,rfl⟩):Rel base w0 g s w':=by
 have hb:∀k b,BoxR g w k b→BoxR g w' k b:=by
  intro k b hb
  cases b<;>simp only[BoxR] at hb ⊢<;>rw[he]<;>exact hb
 exact⟨h.len,fun k hk=>hb _ _ (h.box k hk),by rw[he];exact h.at_,h.inj,h.top,h.ups,fun b o v hv=>by rw[zH2 he];exact h.C b o v hv,by rw[he];exact h.size,by rw[he];exact h.old,h.oldC,by rw[he];exact h.Z,⟨hos.1.trans h.os.1,hos.2.trans h.os.2⟩⟩
theorem Rel.kill (h:Rel base w0 g s w){k:Nat}(hk:k<s.n)(hl:liveBox (s.get k)=true):Rel base w0 g (s.put k .dead) w:=by
 have:=h.update (g':=g) (w':=w) hk .dead (.refl _ _) hl (fun b o v hv=>h.C b o v hv) (fun _ _ _=>rfl) (fun _ _=>rfl) rfl trivial (Nat.zero_le _) 0 (.inl (Nat.zero_le _))
 rwa [zFQ (Nat.zero_le _)] at this
theorem zPA {P:Program}{t:Nat}{xs:List AV}{own:Own}{v:Value}{es:Nat}(hr:Rel base w0 g s w)(hv:VR g (.sl t xs own) v)(hes:∀x∈xs,(cellsOf x).length=es) :
  ∃cs,RowL g es xs cs∧(Builtin.lenOf v).run P w=.ok xs.length w∧(∀w':World,w'.heap=w.heap→(Builtin.firstCells es xs.length v).run P w'=.ok cs.toArray w')∧tops xs≤t∧
   ((v=.slice none 0 0∧xs=[])∨∃a cap,v=.slice (some a) xs.length cap∧xs.length≤cap∧(own≠.shut→cap=xs.length)):=by
 cases hv with
 | slnil=>
  exact⟨[],rfl,rfl,fun w' _=>by simp[Builtin.firstCells],Nat.zero_le _,.inl ⟨rfl,rfl⟩⟩
 | slany _ _ a hnil=>
  refine⟨[],rfl,rfl,fun w' _=>?_,Nat.zero_le _,.inr ⟨_,_,rfl,Nat.le_refl _,fun _=>rfl⟩⟩
  simp only[Builtin.firstCells,List.length_nil,Nat.zero_mul]
  exact run_loadCells_list w' a [] (fun j u hu=>by simp at hu)
 | sl _ _ _ b off cap es' vs hl hc hv ht hcap hown hnil=>
  have key:∀(xs:List AV) (i0:Nat),(∀x∈xs,(cellsOf x).length=es)→(∀(i:Nat) (x:AV),xs[i]?=some x→(cellsOf x).length=es')→
    (∀(i:Nat) (x:AV) (j:Nat) (c:AV),xs[i]?=some x→(cellsOf x)[j]?=some c→∃u,g.C b (off+(i0+i)*es'+j)=some u∧VR g c u)→
    ∃cs,RowL g es xs cs∧∀j u,cs[j]?=some u→g.C b (off+i0*es'+j)=some u:=by
   intro xs
   induction xs with
   | nil=>intro i0 _ _ _;exact⟨[],rfl,fun j u h=>by simp at h⟩
   | cons x xs ih=>
    intro i0 h1 h2 h3
    obtain⟨cs,hcs,hj⟩:=ih (i0+1) (fun x hx=>h1 x (List.mem_cons_of_mem _ hx)) (fun i x hi=>h2 (i+1) x (by simpa using hi)) (fun i x j c hi hj=>by
     have:=h3 (i+1) x j c (by simpa using hi) hj
     rwa [show i0+(i+1)=i0+1+i by omega] at this)
    have he:es'=es:=by rw[← h2 0 x rfl];exact h1 x (by simp)
    subst he
    have hlen:=h1 x (by simp)
    refine⟨((cellsOf x).zipIdx.map fun p=>(g.C b (off+i0*es'+p.2)).getD .nilFunc)++cs,⟨_,cs,rfl,by simp[hlen],hlen,fun j y v hy hv=>?_,hcs⟩,fun j u hu=>?_⟩
    ·obtain⟨u,hu,hr'⟩:=h3 0 x j y rfl hy
     simp only[List.getElem?_map,List.getElem?_zipIdx,hy,Option.map_some,Nat.zero_add] at hv
     rw[Nat.add_zero] at hu
     rw[hu] at hv
     simp at hv
     subst hv;exact hr'
    ·by_cases hlt:j<es'
     ·rw[List.getElem?_append_left (by simp[hlen,hlt])] at hu
      have hjx:(cellsOf x)[j]?=some (cellsOf x)[j]:=List.getElem?_eq_getElem (by omega)
      obtain⟨u',hu',_⟩:=h3 0 x j _ rfl hjx
      simp only[List.getElem?_map,List.getElem?_zipIdx,hjx,Option.map_some,Nat.zero_add] at hu
      rw[Nat.add_zero] at hu'
      rw[hu'] at hu
      simp at hu
      subst hu;exact hu'
     ·rw[List.getElem?_append_right (by simp[hlen];omega)] at hu
      simp only[List.length_map,List.length_zipIdx,hlen] at hu
      have:=hj _ _ hu
      rw[← this];congr 1
      rw[Nat.add_mul];omega
  obtain⟨cs,hcs,hj⟩:=key xs 0 hes hl (fun i x j c hi hj=>⟨vs i j,by rw[Nat.zero_add];exact hc i x j c hi hj,hv i x j c hi hj⟩)
  refine⟨cs,hcs,rfl,fun w' hw'=>?_,ht,.inr ⟨_,_,rfl,hcap,hown⟩⟩
  simp only[Builtin.firstCells]
  rw[← hcs.len]
  refine run_loadCells_list w' ⟨b,off,none⟩ cs fun j u hu=>?_
  rw[zD3,zH2 hw']
  refine hr.C _ _ _ ?_
  have:=hj j u hu
  rwa [Nat.zero_mul,Nat.add_zero] at this
end
theorem zNV (b:List UInt8):(byteVs b).length=b.length:=by
 induction b with
 | nil=>rfl
 | cons a l ih=>simp[byteVs,ih]
theorem zMI (b:List UInt8):tops (byteVs b)=0:=by
 induction b with
 | nil=>rfl
 | cons a l ih=>simp only[byteVs,zAU,ih];rfl
theorem zNU (g:Gh)(b:List UInt8):RowL g 1 (byteVs b) (b.map fun c=>Value.int .u8 (c.toNat:Int)):=by
 induction b with
 | nil=>rfl
 | cons a l ih=>
  refine⟨[.int .u8 (a.toNat:Int)],_,rfl,rfl,rfl,fun j y v hy hv=>?_,ih⟩
  cases j with
  | zero=>simp[cellsOf] at hy hv;subst hy;subst hv;exact .int _ _
  | succ j=>simp at hv
section
variable {E:Env}{P:Program}{base:Nat}{w0:World}{w:World}
theorem zIK {g:Gh}{s s':Sto}{x:AV}{x':Value}{ys:List AV}{es:Nat}(hr:Rel base w0 g s w)(h:zHQ s x=some (ys,s'))(hx:VR g x x')(hn:top x≤s.n)
  (hes:∀y∈ys,(cellsOf y).length=es) :
  ∃g' cs,SealR base w0 g g' s s' w∧RowL g' es ys cs∧(Builtin.lenOf x').run P w=.ok ys.length w∧(∀w':World,w'.heap=w.heap→(Builtin.firstCells es ys.length x').run P w'=.ok cs.toArray w')∧tops ys≤s.n:=by
 unfold zHQ at h
 split at h
 ·cases h
  obtain⟨cs,h1,h2,h3,h4,_⟩:=zPA (P:=P) hr hx hes
  exact⟨g,cs,.refl hr,h1,h2,h3,Nat.le_trans h4 hn⟩
 ·split at h
  ·rename_i t xs o s1 h1
   cases h
   obtain⟨g',hS,hv,ht,_⟩:=zG7 hr h1 hx hn
   obtain⟨cs,h1,h2,h3,h4,_⟩:=zPA (P:=P) hS.rel hv hes
   exact⟨g',cs,hS,h1,h2,h3,Nat.le_trans h4 ht⟩
  ·cases h
 ·rename_i b
  cases h
  cases hx with
  | str sb=>
   have hlen:(byteVs sb.data.toList).length=sb.size:=by rw[zNV,Array.length_toList];rfl
   refine⟨g,sb.data.toList.map fun c=>Value.int .u8 (c.toNat:Int),.refl hr,?_,?_,?_,by rw[zMI];exact Nat.zero_le _⟩
   ·cases hb:sb.data.toList with
    | nil=>exact rfl
    | cons a l=>
     have:es=1:=by rw[hb] at hes;exact(hes (.int .u8 (.ofNat a.toNat)) (by simp[byteVs])).symm
     subst this
     rw[← hb];exact zNU g _
   ·rw[hlen];rfl
   ·intro w' _
    rw[hlen]
    simp only[Builtin.firstCells,Sem.run_pure]
    congr 1
    rw[show sb.extract 0 sb.size=sb from ByteArray.extract_zero_size]
    apply Array.ext'
    rw[Array.toList_map]
 ·cases h
theorem zSG {t u e:TypeId}{ty:TypeId}{i:TypeInfo}{d:TypeDesc}(ht:P.underlying t=some (.slice e))(hi:P.info? e=some i)(hd:P.underlying u=some d)(hz:∀k,d≠.int k)
  {b:Option Addr} {n cap m:Nat} {xv:Value} {news:List Value} (hl:(Builtin.lenOf xv).run P w=.ok m w) (hf:(Builtin.firstCells i.size m xv).run P w=.ok news.toArray w) (hroom:n+m≤cap) :
  (Builtin.append_ #[t,u] ty #[.slice b n cap,xv]).run P w=((match b with|some a=>storeCells (a.add (n*i.size)) news|none=>pure ()).run P w).andThen fun _ w=>.ok (.slice b (n+m) cap) w:=by
 have hm:∀(f:Bool→Sem Value),(match d with|.int _=>f true|_=>f false)=f false:=by intro f;cases d<;>first|rfl|exact absurd rfl (hz _)
 cases b<;>simp[Builtin.append_,run_underlying ht,run_underlying hd,sizeOf,typeInfo,hi,hl,hf,hroom]
theorem zQI {t u e:TypeId}{ty:TypeId}{i:TypeInfo}{z:Value}{k kk:IntKind}(ht:P.underlying t=some (.slice e))(hi:P.info? e=some i)(hzz:i.zero=some z)(hd:P.underlying u=some (.int k))
  {b:Option Addr} {n cap m:Nat} (h48:m*i.bytes≤140737488355328) (hm:m≤140737488355328) (hs:z.cells.size=i.size) (hroom:n+m≤cap) :
  (Builtin.append_ #[t,u] ty #[.slice b n cap,.int kk (m:Int)]).run P w=((match b with|some a=>storeCells (a.add (n*i.size)) (Builtin.zeroCells z.cells m).toList|none=>pure ()).run P w).andThen fun _ w=>.ok (.slice b (n+m) cap) w:=by
 have h1:=wrap64 hm
 have h2:¬ ((m:Int)<0):=by omega
 have h3:¬ (281474976710656<(m:Int)*(i.bytes:Int)):=by
  have:(m:Int)*(i.bytes:Int)=((m*i.bytes:Nat):Int):=by push_cast;rfl
  rw[this];omega
 by_cases h0:m*i.size=0
 ·have he:(Builtin.zeroCells z.cells m).toList=[]:=by
   apply List.eq_nil_of_length_eq_zero;rw[Array.length_toList,zBV,hs];exact h0
  cases b<;>simp[Builtin.append_,run_underlying ht,run_underlying hd,sizeOf,typeInfo,hi,hroom,asInt,asIntOf,h1,h2,h3,h0,he]
 ·cases b<;>simp[Builtin.append_,run_underlying ht,run_underlying hd,sizeOf,typeInfo,hi,hroom,asInt,asIntOf,h1,h2,h3,h0,zeroValue,hzz]
theorem zSH {t u e:TypeId}{ty:TypeId}{i:TypeInfo}{z:Value}{d:TypeDesc}(ht:P.underlying t=some (.slice e))(hi:P.info? e=some i)(hzz:i.zero=some z)(hd:P.underlying u=some d)(hz:∀k,d≠.int k)
  {b:Option Addr} {n cap m:Nat} {xv:Value} {olds news:List Value} (hl:(Builtin.lenOf xv).run P w=.ok m w) (hf:(Builtin.firstCells i.size m xv).run P w.drew=.ok news.toArray w.drew)
  (hfo:(Builtin.firstCells i.size n (.slice b n cap)).run P w.drew=.ok olds.toArray w.drew) (hroom:cap<n+m) (hfit:(n+m)*i.bytes≤140737488355328) (hsm:n+m≤9223372036854775807) :
  (Builtin.append_ #[t,u] ty #[.slice b n cap,xv]).run P w =
   .ok (.slice (some ⟨w.heap.size,0,none⟩) (n+m) (grownCap w (n+m) cap e)) (push w.drew (.cells (olds++news++(Builtin.zeroCells z.cells (grownCap w (n+m) cap e-(n+m))).toList).toArray e)):=by
 have hn:¬ (n+m≤cap):=by omega
 have h63':¬ (9223372036854775807<((n:Int)+(m:Int))):=by omega
 have h48:=growslice_fits hroom hfit
 have h48':¬ (281474976710656<Builtin.nextslicecap (n+m) cap*i.bytes):=by omega
 have hm:∀(f:Bool→Sem Value),(match d with|.int _=>f true|_=>f false)=f false:=by intro f;cases d<;>first|rfl|exact absurd rfl (hz _)
 simp[Builtin.append_,run_underlying ht,run_underlying hd,sizeOf,typeInfo,zeroValue,hi,hzz,hl,hn,h63',h48',Question.forced,hf,hfo,newRow,grownCap]
 show push _ _=push _ _
 congr 2
 apply Array.ext'
 simp
end
structure AppIn (P:Program) (w:World) (t u e:TypeId) (i:TypeInfo) (z:Value) (xv:Value) (m:Nat) (news:List Value):Prop where
 room:∀ty b n cap,n+m≤cap→(Builtin.append_ #[t,u] ty #[.slice b n cap,xv]).run P w =
  ((match b with|some a=>storeCells (a.add (n*i.size)) news|none=>pure ()).run P w).andThen fun _ w=>.ok (.slice b (n+m) cap) w
 more:∀ty b n cap (olds:List Value),(Builtin.firstCells i.size n (.slice b n cap)).run P w.drew=.ok olds.toArray w.drew→cap<n+m→(n+m)*i.bytes≤140737488355328→n+m≤9223372036854775807→
  (Builtin.append_ #[t,u] ty #[.slice b n cap,xv]).run P w =
   .ok (.slice (some ⟨w.heap.size,0,none⟩) (n+m) (grownCap w (n+m) cap e)) (push w.drew (.cells (olds++news++(Builtin.zeroCells z.cells (grownCap w (n+m) cap e-(n+m))).toList).toArray e))
section
variable {E:Env}{P:Program}{base:Nat}{w0:World}{w:World}
theorem zQJ {t u e:TypeId}{ty:TypeId}{i:TypeInfo}{z:Value}{k kk:IntKind}(ht:P.underlying t=some (.slice e))(hi:P.info? e=some i)(hzz:i.zero=some z)(hd:P.underlying u=some (.int k))
  {b:Option Addr} {n cap m:Nat} {olds:List Value} (h48:m*i.bytes≤140737488355328) (hm:m≤140737488355328) (hs:z.cells.size=i.size)
  (hfo:(Builtin.firstCells i.size n (.slice b n cap)).run P w.drew=.ok olds.toArray w.drew) (hroom:cap<n+m) (hfit:(n+m)*i.bytes≤140737488355328) (hsm:n+m≤9223372036854775807) :
  (Builtin.append_ #[t,u] ty #[.slice b n cap,.int kk (m:Int)]).run P w =
   .ok (.slice (some ⟨w.heap.size,0,none⟩) (n+m) (grownCap w (n+m) cap e)) (push w.drew (.cells (olds++(Builtin.zeroCells z.cells m).toList++(Builtin.zeroCells z.cells (grownCap w (n+m) cap e-(n+m))).toList).toArray e)):=by
 have h1:=wrap64 hm
 have h2:¬ ((m:Int)<0):=by omega
 have h3:¬ (281474976710656<(m:Int)*(i.bytes:Int)):=by
  have:(m:Int)*(i.bytes:Int)=((m*i.bytes:Nat):Int):=by push_cast;rfl
  rw[this];omega
 have hn:¬ (n+m≤cap):=by omega
 have h63':¬ (9223372036854775807<((n:Int)+(m:Int))):=by omega
 have h48:=growslice_fits hroom hfit
 have h48':¬ (281474976710656<Builtin.nextslicecap (n+m) cap*i.bytes):=by omega
 by_cases h0:m*i.size=0
 ·have he:(Builtin.zeroCells z.cells m).toList=[]:=by
   apply List.eq_nil_of_length_eq_zero;rw[Array.length_toList,zBV,hs];exact h0
  simp[Builtin.append_,run_underlying ht,run_underlying hd,sizeOf,typeInfo,zeroValue,hi,hzz,hn,asInt,asIntOf,h1,h2,h3,h63',h48',Question.forced,h0,he,hfo,newRow,grownCap]
  show push _ _=push _ _
  congr 2
  apply Array.ext'
  simp
 ·simp[Builtin.append_,run_underlying ht,run_underlying hd,sizeOf,typeInfo,zeroValue,hi,hzz,hn,asInt,asIntOf,h1,h2,h3,h63',h48',Question.forced,h0,hfo,newRow,grownCap]
  show push _ _=push _ _
  congr 2
  apply Array.ext'
  simp
theorem zVW {t u e:TypeId}{i:TypeInfo}{z:Value}{k kk:IntKind}{m:Nat}(ht:P.underlying t=some (.slice e))(hi:P.info? e=some i)(hzz:i.zero=some z)(hd:P.underlying u=some (.int k))
  (h48:m*i.bytes≤140737488355328) (hm:m≤140737488355328) (hs:z.cells.size=i.size):AppIn P w t u e i z (.int kk (m:Int)) m (Builtin.zeroCells z.cells m).toList:=
 ⟨fun _ _ _ _ hroom=>zQI ht hi hzz hd h48 hm hs hroom,fun _ _ _ _ _ hfo hroom hfit hsm=>zQJ ht hi hzz hd h48 hm hs hfo hroom hfit hsm⟩
theorem zSJ {t u e:TypeId}{i:TypeInfo}{z:Value}{d:TypeDesc}{xv:Value}{m:Nat}{news:List Value}(ht:P.underlying t=some (.slice e))(hi:P.info? e=some i)(hzz:i.zero=some z)
  (hd:P.underlying u=some d) (hz:∀k,d≠.int k) (hl:(Builtin.lenOf xv).run P w=.ok m w) (hf:∀w':World,w'.heap=w.heap→(Builtin.firstCells i.size m xv).run P w'=.ok news.toArray w') :
  AppIn P w t u e i z xv m news:=
 ⟨fun _ _ _ _ hroom=>zSG ht hi hd hz hl (hf w rfl) hroom,fun _ _ _ _ _ hfo hroom hfit hsm=>zSH ht hi hzz hd hz hl (hf w.drew rfl) hfo hroom hfit hsm⟩
theorem zYJ {g:Gh}{s:Sto}{es:Nat}{zs:List AV}{cells:List Value}{z:Array Value}{cap:Nat}(e:TypeId)(hr:Rel base w0 g s w)(hes:0<es)(hz:z.size=es)(hrow:RowL g es zs cells)(ht:tops zs≤s.n)(hcap:zs.length≤cap)(sl:Bool) :
  ∃g',Rel base w0 g' (s.alloc (.row e es zs sl)) (push w.drew (.cells (cells++(Builtin.zeroCells z (cap-zs.length)).toList).toArray e))∧Grows s.n g g'∧
   VR g' (.osl s.n 0 zs.length) (.slice (some ⟨w.heap.size,0,none⟩) zs.length cap):=by
 have hr':Rel base w0 g s w.drew:=hr.same rfl
 have hR:=hr'.pushRow e hes (hrow.rowR (r:=(Builtin.zeroCells z (cap-zs.length)).toList)) ht sl
 refine⟨_,hR,Gh.with_grows ..,?_⟩
 have hl:(cells++(Builtin.zeroCells z (cap-zs.length)).toList).length=cap*es:=by
  rw[List.length_append,Array.length_toList (xs:=Builtin.zeroCells z _),zBV,hz,hrow.len,← Nat.add_mul]
  congr 1;omega
 have hsz:(cells++(Builtin.zeroCells z (cap-zs.length)).toList).toArray.size=cap*es:=hl
 have:=VR.osl (g:=g.with s.n w.heap.size es zs.length (cap*es)) s.n 0 zs.length cap hcap (by rw[zFL,zJM,Nat.zero_add];exact Nat.le_refl _) (by rw[zJL];omega)
 rw[zBS,zFL,Nat.zero_mul] at this
 rw[hsz]
 exact this
theorem zNK {ty:TypeId}{es bytes:Nat}{zs:List AV}{sl:Bool}{off len:Nat}{s s':Sto}{v:AV}(h:zHJ ty es bytes zs sl off len s=some (v,s'))(ht:tops zs≤s.n+1) :
  v=.osl s.n off len∧s'=s.alloc (.row ty es zs sl)∧zs.length*bytes≤140737488355328∧zs.length≤140737488355328:=by
 unfold zHJ at h
 rw[cond_eq_ite] at h
 split at h
 ·rename_i hc
  simp only[Bool.and_eq_true,zAH,limit] at hc
  cases h
  exact⟨rfl,zFQ ht,Nat.le_of_ble_eq_true hc.1,Nat.le_of_ble_eq_true hc.2⟩
 ·cases h
end
section
variable {E:Env}{P:Program}{base:Nat}{w0:World}{w:World}
theorem zKY {es:Nat}{xs:List AV}(h:zBK es xs=true):∀x∈xs,(cellsOf x).length=es:=fun x hx=>(zGQ h x hx).1
theorem zAV {xs ys:List AV}{n:Nat}(h1:tops xs≤n)(h2:tops ys≤n):tops (xs++ys)≤n:=by
 refine zAP.2 fun x hx=>?_
 rcases List.mem_append.1 hx with h|h
 ·exact zAP.1 h1 x h
 ·exact zAP.1 h2 x h
theorem zK0 {xs:List AV}{n m:Nat}(h1:tops xs≤n):tops (xs.take m)≤n:=zAP.2 fun x hx=>zAP.1 h1 x (List.mem_of_mem_take hx)
theorem zN8 {g:Gh}{es a:Nat}{xs ys:List AV}{arr:Array Value}{us:List Value}(h:RowR g es xs arr)(hy:RowL g es ys us)(ha:a≤xs.length)(hfit:(a+ys.length)*es≤arr.size) :
  RowR g es (splice xs a ys) (blit arr (a*es) us):=by
 have hus:=hy.len
 have hfit':a*es+us.length≤arr.size:=by rw[hus,← Nat.add_mul];exact hfit
 have hget:∀i,(splice xs a ys)[i]?=if a≤i∧i<a+ys.length then ys[i-a]? else xs[i]?:=by
  intro i
  rw[zE0]
  by_cases h1:i<a
  ·rw[if_neg (by omega),List.getElem?_append_left (by rw[List.length_take];omega),List.getElem?_take,if_pos h1]
  ·rw[List.getElem?_append_right (by rw[List.length_take];omega),List.length_take,Nat.min_eq_left ha]
   by_cases h2:i<a+ys.length
   ·rw[if_pos ⟨by omega,h2⟩,List.getElem?_append_left (by omega)]
   ·rw[if_neg (by omega),List.getElem?_append_right (by omega),List.getElem?_drop]
    congr 1;omega
 refine⟨?_,?_,?_⟩
 ·rw[zEM,zE0,List.length_append,List.length_append,List.length_take,List.length_drop,Nat.min_eq_left ha]
  by_cases hb:a+ys.length≤xs.length
  ·rw[show a+(ys.length+(xs.length-(a+ys.length)))=xs.length by omega];exact h.1
  ·rw[show a+(ys.length+(xs.length-(a+ys.length)))=a+ys.length by omega];exact hfit
 ·intro i x hi
  rw[hget] at hi
  split at hi
  ·exact hy.wid hi
  ·exact h.2.1 i x hi
 ·intro i x j c hi hj
  rw[hget] at hi
  rw[zH3 _ _ _ _ hfit',hus]
  split at hi
  ·rename_i hc
   have hjs:j<es:=by rw[← hy.wid hi];exact(List.getElem?_eq_some_iff.1 hj).1
   have h1:a*es≤i*es:=Nat.mul_le_mul_right _ hc.1
   have h2:(i+1)*es≤(a+ys.length)*es:=Nat.mul_le_mul_right _ hc.2
   rw[Nat.add_mul,Nat.add_mul,Nat.one_mul] at h2
   rw[if_pos (by omega)]
   obtain⟨v,hv,hr⟩:=hy.get hi hj
   refine⟨v,?_,hr⟩
   rw[← hv]
   congr 1
   rw[Nat.sub_mul];omega
  ·rename_i hc
   have hjs:j<es:=by rw[← h.2.1 i x hi];exact(List.getElem?_eq_some_iff.1 hj).1
   rw[if_neg ?_]
   ·exact h.2.2 i x j c hi hj
   ·intro ⟨h1,h2⟩
    apply hc
    refine⟨?_,?_⟩
    ·rcases Nat.lt_or_ge i a with h|h
     ·have:(i+1)*es≤a*es:=Nat.mul_le_mul_right _ h
      rw[Nat.add_mul,Nat.one_mul] at this;omega
     ·exact h
    ·rcases Nat.lt_or_ge i (a+ys.length) with h|h
     ·exact h
     ·have:(a+ys.length)*es≤i*es:=Nat.mul_le_mul_right _ h
      rw[Nat.add_mul] at this;omega
theorem RowR.firstL {g:Gh}{es:Nat}{xs:List AV}{arr:Array Value}(h:RowR g es xs arr)(n:Nat)(hn:n≤xs.length):RowL g es (xs.take n) (arr.toList.take (n*es)):=by
 have hsz:n*es≤arr.size:=Nat.le_trans (Nat.mul_le_mul_right _ hn) h.1
 refine .of ?_ ?_ ?_
 ·rw[List.length_take,List.length_take,Array.length_toList]
  rw[Nat.min_eq_left hsz,Nat.min_eq_left hn]
 ·intro i x hi
  rw[List.getElem?_take] at hi
  split at hi
  ·exact h.2.1 i x hi
  ·cases hi
 ·intro i x j c hi hj
  rw[List.getElem?_take] at hi
  split at hi
  ·rename_i hlt
   obtain⟨v,hv,hr⟩:=h.2.2 i x j c hi hj
   refine⟨v,?_,hr⟩
   have hjs:j<es:=by rw[← h.2.1 i x hi];exact(List.getElem?_eq_some_iff.1 hj).1
   have h2:(i+1)*es≤n*es:=Nat.mul_le_mul_right _ hlt
   rw[Nat.add_mul,Nat.one_mul] at h2
   rw[List.getElem?_take,if_pos (by omega),Array.getElem?_toList];exact hv
  ·cases hi
theorem Rel.rowBlock {ty:TypeId}{g:Gh}{s:Sto}(hr:Rel base w0 g s w){k es:Nat}{xs:List AV}{sl:Bool}(hk:s.get k=.row ty es xs sl) :
  k<s.n∧∃arr,w.heap[g.mu k]?=some (.cells arr ty (0,0))∧0<es∧g.es k=es∧g.rl k=xs.length∧g.bs k=arr.size∧RowR g es xs arr∧tops xs≤s.n∧
   ∀o v,g.C (g.mu k) o=some v→sl=true∧o<xs.length*es:=by
 have hlt:=zEQ hk (by simp)
 have hb:=hr.box k hlt
 have htop:=hr.top k hlt
 rw[hk] at hb htop
 obtain⟨arr,hh,hes,hges,hrl,hbs,hsz,hw,hv,hC⟩:=hb
 exact⟨hlt,arr,hh,hes,hges,hrl,hbs,⟨hsz,hw,hv⟩,htop,hC⟩
theorem zN9 {ty:TypeId}{g:Gh}{s:Sto}(hr:Rel base w0 g s w){k es a:Nat}{xs ys:List AV}{us:List Value}(hk:s.get k=.row ty es xs false)(hy:RowL g es ys us)(hf:∀x∈ys,flatC (cellsOf x)=true)
  (ha:a+ys.length≤xs.length) (ht:tops ys≤s.n) :
  ∃w',(storeCells ⟨g.mu k,a*es,none⟩ us).run P w=.ok () w'∧Rel base w0 g ((s.put k (.row ty es (splice xs a ys) false)).note k (tops ys)) w':=by
 obtain⟨hlt,arr,hh,hes,hges,hrl,hbs,hR,htop,hC⟩:=hr.rowBlock hk
 have hfit:(a+ys.length)*es≤arr.size:=Nat.le_trans (Nat.mul_le_mul_right _ ha) hR.1
 have hfit':a*es+0+us.length≤arr.size:=by rw[hy.len,Nat.add_zero,← Nat.add_mul];exact hfit
 obtain⟨w',hw',hs1,hs2,hs3,hs4⟩:=zBH P (g.mu k) (a*es) ty us 0 w arr hh hfit' (hy.flat hf)
 rw[Nat.add_zero] at hs2
 have hb':boxTop (Box.row ty es (splice xs a ys) false)≤Nat.max (boxTop (s.get k)) (tops ys):=by rw[hk];exact zIB
 have hbl:=zN8 hR hy (by omega) hfit
 refine⟨w',hw',hr.update hlt _ (.refl _ _) (by rw[hk];rfl) (fun b o u hu=>?_) (fun _ _ _=>rfl) hs3 hs1 ?_ (Nat.le_trans hb' (Nat.max_le.2 ⟨by rw[hk];exact htop,ht⟩)) _ (hr.upsOr hlt hb') hs4.2⟩
 ·have hne:b≠g.mu k:=fun e=>by subst e;have:=hC o u hu;simp at this
  rw[zGC (hs3 b hne)];exact hr.C b o u hu
 ·refine⟨_,hs2,hes,hges,by rw[zFZ ha];exact hrl,by rw[zEM];exact hbs,hbl.1,hbl.2.1,hbl.2.2,fun o u hu=>?_⟩
  have:=hC o u hu;simp at this
theorem rowGrow {ty:TypeId}{g:Gh}{s:Sto}(hr:Rel base w0 g s w){k es len cap:Nat}{xs ys:List AV}{us:List Value}{sl:Bool}(hk:s.get k=.row ty es xs sl)(hy:RowL g es ys us)(hf:∀x∈ys,flatC (cellsOf x)=true)
  (hle:len≤xs.length) (hlt':xs.length<len+ys.length) (hsl:sl=true→len=xs.length) (hroom:len+ys.length≤cap) (hb:cap*es≤g.bs k) (ht:tops ys≤s.n) :
  ∃w' g',(storeCells ⟨g.mu k,len*es,none⟩ us).run P w=.ok () w'∧Rel base w0 g' ((s.put k .dead).alloc (.row ty es (xs.take len++ys) sl)) w'∧Grows s.n g g'∧
   VR g' (.osl s.n 0 (len+ys.length)) (.slice (some ⟨g.mu k,0,none⟩) (len+ys.length) cap):=by
 obtain⟨hlt,arr,hh,hes,hges,hrl,hbs,hR,htop,hC⟩:=hr.rowBlock hk
 have hfit:(len+ys.length)*es≤arr.size:=by rw[← hbs];exact Nat.le_trans (Nat.mul_le_mul_right _ hroom) hb
 have hfit':len*es+0+us.length≤arr.size:=by rw[hy.len,Nat.add_zero,← Nat.add_mul];exact hfit
 obtain⟨w',hw',hs1,hs2,hs3,hs4⟩:=zBH P (g.mu k) (len*es) ty us 0 w arr hh hfit' (hy.flat hf)
 rw[Nat.add_zero] at hs2
 have hbl:=zN8 hR hy hle hfit
 have hspl:splice xs len ys=xs.take len++ys:=by rw[zE0,List.drop_eq_nil_of_le (by omega),List.append_nil]
 have hlen:(xs.take len++ys).length=len+ys.length:=by rw[List.length_append,List.length_take];omega
 rw[hspl] at hbl
 have hlive:liveBox (s.get k)=true:=by rw[hk];rfl
 have hkill:=hr.kill hlt hlive
 have htz:tops (xs.take len++ys)≤s.n:=zAV (zK0 htop) ht
 have hg:=Gh.with_grows g s.n (g.mu k) es (len+ys.length) arr.size
 have hat:=hr.at_ k hlt hlive
 refine⟨w',g.with s.n (g.mu k) es (len+ys.length) arr.size,hw',?_,hg,?_⟩
 ·refine hkill.alloc (g.mu k) es (len+ys.length) arr.size _ (fun b hb _=>hs3 b hb) (by omega) (fun j hj hl he=>?_) ?_ ⟨hat.1,by omega⟩ (fun b o u hu=>?_) ?_ ?_ hs4.2
  ·rw[zLE hr.len hlt] at hl
   rw[zFP] at hj
   by_cases e:j=k
   ·rw[if_pos e] at hl;simp[liveBox] at hl
   ·rw[if_neg e] at hl
    exact e (hr.inj j k hj hlt hl hlive he)
  ·cases hz:g.Z (g.mu k) with
   | none=>rfl
   | some o=>exact absurd rfl ((hr.Z _ _ hz).2.1 k hlt hlive)
  ·by_cases e:b=g.mu k
   ·subst e
    obtain⟨h1,h2⟩:=hC o u hu
    have:=hr.C _ o u hu
    rw[zD0 hh] at this
    rw[zD0 hs2,zH3 _ _ _ _ (by simpa using hfit'),if_neg (by rw[hsl h1];omega)]
    exact this
   ·rw[zGC (hs3 b e)];exact hr.C b o u hu
  ·have hm:(g.with (s.put k .dead).n (g.mu k) es (len+ys.length) arr.size).mu (s.put k .dead).n=g.mu k:=zBS ..
   refine⟨_,by rw[hm];exact hs2,hes,zFL ..,by rw[zJL,hlen],by rw[zJM,zEM],hbl.1,hbl.2.1,fun i x j c hi hj=>?_,fun o u hu=>?_⟩
   ·obtain⟨v,hv,hr'⟩:=hbl.2.2 i x j c hi hj
    exact⟨v,hv,hr'.grows hg (zGI htz hi hj)⟩
   ·rw[hm] at hu
    obtain⟨h1,h2⟩:=hC o u hu
    refine⟨h1,Nat.lt_of_lt_of_le h2 (Nat.mul_le_mul_right _ ?_)⟩
    rw[hlen];omega
  ·show tops _≤_
   rw[zFP];omega
 ·have:=VR.osl (g:=g.with s.n (g.mu k) es (len+ys.length) arr.size) s.n 0 (len+ys.length) cap hroom (by rw[zFL,zJM,Nat.zero_add,← hbs];exact hb) (by rw[zJL];omega)
  rw[zBS,zFL,Nat.zero_mul] at this
  exact this
end
section
variable {E:Env}{P:Program}{base:Nat}{w0:World}{w:World}
theorem zY6 (w:World):w.drew.heap=w.heap:=rfl
theorem zML {t u e ty:TypeId}{i:TypeInfo}{z xv:Value}{news:List Value}{g:Gh}{s s':Sto}{a v:AV}{a':Value}{ys:List AV}
  (hi1:i.size=(E.types e).size) (hi2:i.bytes=(E.types e).bytes) (hz:z.cells.size=(E.types e).size) (hes:0<(E.types e).size)
  (hr:Rel base w0 g s w) (h:zAR e (E.types e).size (E.types e).bytes a ys s=some (v,s')) (ha:VR g a a') (hta:top a≤s.n) (hy:RowL g (E.types e).size ys news) (hty:tops ys≤s.n)
  (hin:AppIn P w t u e i z xv ys.length news):StR P base w0 g s w (Builtin.append_ #[t,u] ty #[a',xv]) v s':=by
 unfold zAR at h
 split at h
 ·have hnews:news=[]:=hy
  subst hnews
  have hzero:∀b n cap,n≤cap→(Builtin.append_ #[t,u] ty #[.slice b n cap,xv]).run P w=.ok (.slice b n cap) w:=by
   intro b n cap hn
   rw[hin.room ty b n cap (by simpa using hn)]
   cases b<;>simp[storeCells]
  split at h
  ·cases h
   refine⟨a',w,g,?_,hr,.refl _ _,ha,hta,Nat.le_refl _⟩
   cases ha with
   | sl _ _ _ b off cap es vs hl hc hv ht hcap hown hnil=>exact hzero _ _ _ hcap
   | slnil=>exact hzero _ _ _ (Nat.le_refl _)
   | slany=>exact hzero _ _ _ (Nat.le_refl _)
  ·cases h
   refine⟨a',w,g,?_,hr,.refl _ _,ha,hta,Nat.le_refl _⟩
   cases ha with
   | osl _ _ _ cap h1 _ _=>exact hzero _ _ _ h1
   | oslE=>exact hzero _ _ _ (Nat.le_refl _)
  ·cases h
 ·rename_i hne
  rw[cond_eq_ite] at h
  split at h
  ·rename_i hfit
   have hf:∀x∈ys,flatC (cellsOf x)=true:=fun x hx=>(zGQ hfit x hx).2
   have hm:0<ys.length:=by
    cases ys with
    | nil=>exact absurd rfl hne
    | cons _ _=>simp
   split at h
   ·cases h
   ·rename_i tp xs own hown0
    rw[cond_eq_ite] at h
    split at h
    ·rename_i hfx
     have htx:tops xs≤tp:=(zPA (P:=P) hr ha (zKY hfx)).choose_spec.2.2.2.1
     obtain⟨cs,hcs,_,hfc,_,hform⟩:=zPA (P:=P) hr ha (zKY hfx)
     have htx':tops xs≤s.n:=Nat.le_trans htx hta
     rw[zBP,zAH,zAH] at h
     obtain⟨rfl,rfl,hb,hl⟩:=zNK h (Nat.le_trans (zAV htx' hty) (by omega))
     rw[List.length_append] at hb hl
     have hzl:(xs++ys).length=xs.length+ys.length:=List.length_append
     have hown:own≠.shut:=fun e=>by subst e;exact hown0 rfl
     have hcase:∃b cap,a'=.slice b xs.length cap∧cap=xs.length:=by
      rcases hform with⟨h1,h2⟩|⟨b,cap,h1,h2,h3⟩
      ·subst h2;exact⟨none,0,h1,rfl⟩
      ·exact⟨_,cap,h1,h3 hown⟩
     obtain⟨b,cap,rfl,hcap⟩:=hcase
     subst hcap
     have hgc:=grownCap_ge w (xs.length+ys.length) xs.length e
     obtain⟨g',hR,hg,hv⟩:=zYJ (z:=z.cells) (cap:=grownCap w (xs.length+ys.length) xs.length e) e hr hes hz (hcs.app hy) (zAV htx' hty) (by rw[hzl];exact hgc) false
     rw[hzl] at hR hv
     exact⟨_,_,g',hin.more ty b _ _ cs (by rw[hi1];exact hfc _ rfl) (by omega) (by rw[hi2];exact hb) (by omega),hR,hg,hv,Nat.le_refl _,by rw[zB8];omega⟩
    ·cases h
   ·rename_i k off len
    unfold zHS at h
    split at h
    ·rename_i ty' es xs sl hk
     rw[cond_eq_ite] at h
     split at h
     ·rename_i hc
      simp only[Bool.and_eq_true,zAH] at hc
      have hty':=Nat.eq_of_beq_eq_true hc.1
      have he:=Nat.eq_of_beq_eq_true hc.2.1
      have hle:=Nat.le_of_ble_eq_true hc.2.2
      subst he
      subst hty'
      obtain⟨hklt,arr,hh,_,hges,hrl,hbs,hR,htop,hC⟩:=hr.rowBlock hk
      rw[cond_eq_ite] at h
      split at h
      ·rename_i hin2
       have hin2:=Nat.le_of_ble_eq_true hin2
       rw[zAH,zAH] at hin2
       rw[cond_eq_ite] at h
       split at h
       ·cases h
       ·rename_i hsl
        have hsl:sl=false:=by simpa using hsl
        subst hsl
        cases h
        obtain⟨w',hw',hR'⟩:=zN9 (P:=P) hr hk hy hf hin2 hty
        simp only[zAH]
        cases ha with
        | osl _ _ _ cap h1 h2 h3=>
         have hroom:len+ys.length≤cap:=by rw[hrl] at h3;omega
         refine⟨_,w',g,?_,hR',.refl _ _,.osl k off (len+ys.length) cap hroom h2 h3,?_,?_⟩
         ·rw[hin.room ty _ _ _ hroom]
          simp only[zD3,hges,hi1,← Nat.add_mul,hw',Result.andThen_ok]
         ·rw[zFI,zFP];exact hta
         ·rw[zFI,zFP];exact Nat.le_refl _
        | oslE _ _ b o h3=>rw[hrl] at h3;omega
      ·rename_i hnin
       have hnin:¬ (off+len+ys.length≤xs.length):=fun h=>hnin (by rw[zAH,zAH];exact Nat.ble_eq_true_of_le h)
       rw[cond_eq_ite] at h
       split at h
       ·rename_i hcc
        simp only[Bool.and_eq_true,zAH] at hcc
        have hoff:=Nat.eq_of_beq_eq_true hcc.1
        subst hoff
        rw[Nat.zero_add] at hle hnin
        have hsl:sl=true→len=xs.length:=by
         intro e;subst e
         have:=hcc.2;rw[cond_true] at this
         exact Nat.eq_of_beq_eq_true this
        have hlive:liveBox (s.get k)=true:=by rw[hk];rfl
        have hzt:tops (xs.take len++ys)≤s.n:=zAV (zK0 htop) hty
        rw[zBP,zCA] at h
        obtain⟨rfl,rfl,hb,hl⟩:=zNK h (by rw[zFP];omega)
        have hzl:(xs.take len++ys).length=len+ys.length:=by rw[List.length_append,List.length_take];omega
        rw[hzl] at hb hl
        simp only[zAH]
        have hnew:∀(b:Addr) (cap:Nat),a'=.slice (some b) len cap→cap<len+ys.length→(Builtin.firstCells i.size len (.slice (some b) len cap)).run P w.drew=.ok (arr.toList.take (len*(E.types e).size)).toArray w.drew→
          StR P base w0 g s w (Builtin.append_ #[t,u] ty #[a',xv]) (.osl (s.put k .dead).n 0 (len+ys.length)) ((s.put k .dead).alloc (.row e (E.types e).size (xs.take len++ys) sl)):=by
         intro b cap e1 hcap hfc
         subst e1
         have hgc:=grownCap_ge w (len+ys.length) cap e
         obtain⟨g',hR',hg,hv⟩:=zYJ (z:=z.cells) (cap:=grownCap w (len+ys.length) cap e) e (hr.kill hklt hlive) hes hz ((hR.firstL len hle).app hy) (by rw[zFP];exact hzt) (by rw[hzl];exact hgc) sl
         rw[hzl] at hR' hv
         exact⟨_,_,g',hin.more ty _ _ _ _ hfc hcap (by rw[hi2];exact hb) (by omega),hR',by rw[zFP] at hg;exact hg,hv,by rw[zB8];exact Nat.le_refl _,by rw[zB8,zFP];omega⟩
        cases ha with
        | osl _ _ _ cap h1 h2 h3=>
         rw[hges,Nat.zero_add] at h2
         by_cases hroom:len+ys.length≤cap
         ·obtain⟨w',g',hw',hR',hg,hv⟩:=rowGrow (P:=P) hr hk hy hf hle (by omega) hsl hroom h2 hty
          refine⟨_,w',g',?_,hR',hg,hv,by rw[zB8];exact Nat.le_refl _,by rw[zB8,zFP];omega⟩
          rw[hin.room ty _ _ _ hroom]
          simp only[zD3,Nat.zero_mul,Nat.zero_add,hi1,hw',Result.andThen_ok]
         ·rw[hges,Nat.zero_mul] at hnew ⊢
          refine hnew _ cap rfl (by omega) ?_
          simp only[Builtin.firstCells]
          have hlen:(arr.toList.take (len*(E.types e).size)).length=len*i.size:=by
           rw[(hR.firstL len hle).len,hi1,List.length_take,Nat.min_eq_left hle]
          rw[← hlen]
          refine run_loadCells_list w.drew ⟨g.mu k,0,none⟩ _ fun j u hu=>?_
          rw[zD3,Nat.zero_add,zH2 (zY6 w),zD0 hh]
          rw[List.getElem?_take] at hu
          split at hu
          ·rw[Array.getElem?_toList] at hu;exact hu
          ·cases hu
        | oslE _ _ b o h3=>
         refine hnew _ 0 rfl (by omega) ?_
         simp[Builtin.firstCells,loadCells,loadCellsFrom]
       ·cases h
     ·cases h
    ·cases h
   ·cases h
  ·cases h
end
end Go.Ab
end
