/- A part. -/
import Derived.Test.YtodldpffhfgicaaGreatDoorK1
import Derived.Test.YtodldpffhfgicaaGreatDoorP1
set_option linter.all false
noncomputable section
namespace Go.Ab.X
open Go Go.Ab Go.Proofs Pl
set_option maxRecDepth 100000
theorem c204 {e:X}{i:Int}{s:Sto}(hl:e.l.length<4611686018427387904){Q:CR→Sto→Prop}(h:Q (.ret (.int .i64 (binds e.kind e.n i e.l.length))) s):C E1 204 [encX e,.int .i64 i] s Q:=by
 refine ci Tryz.f204 30 [.tmp 4] ?_
 repeat' (first|refine wkW ?_|refine fkW ?_ ?_<;>intro _|exact⟨⟩|fail)
 all_goals (simp only[decide_eq_true_eq,decide_eq_false_iff_not,Bool.not_eq_true',Bool.not_eq_false'] at *;refine leaf h ?_;simp[binds, *])
def IX (f T sz:Nat):Prop:=∀{α σ:Type} {h:α→AV} {l:List α} {fv:AV} {G:σ→Nat→Box} {m:Nat} {u:List (Nat×Nat)} (I J:Nat→σ→Prop) (a:σ),l.length<4611686018427387904→zAQ m u=true→zAJ m u=u→
 (∀x,llen (cellsOf (h x))=sz)→(∀x,pick1 (E1.types T) (cellsOf (h x)) 0=some (h x))→zBC (S m (G a) u) fv=some (fv,S m (G a) u)→
 (∀i x a,l[i]?=some x→I i a→∀Q:CR→Sto→Prop,(∀a,I (i+1) a→Q (.ret (.bool false)) (S m (G a) u))→(∀a,J i a→Q (.ret (.bool true)) (S m (G a) u))→CV E1 fv [h x] (S m (G a) u) Q)→I 0 a→∀{Q:CR→Sto→Prop},
 (∀a,I l.length a→Q (.ret (.int .i64 (-1))) (S m (G a) u))→(∀i a,J i a→Q (.ret (.int .i64 (i:Nat))) (S m (G a) u))→C E1 f [.sl 0 (l.map h) .shut,fv] (S m (G a) u) Q
def CX (f T sz:Nat):Prop:=∀{α σ:Type} {h:α→AV} {l:List α} {fv:AV} {G:σ→Nat→Box} {m:Nat} {u:List (Nat×Nat)} (I J:Nat→σ→Prop) (a:σ),l.length<4611686018427387904→zAQ m u=true→zAJ m u=u→
 (∀x,llen (cellsOf (h x))=sz)→(∀x,pick1 (E1.types T) (cellsOf (h x)) 0=some (h x))→zBC (S m (G a) u) fv=some (fv,S m (G a) u)→
 (∀i x a,l[i]?=some x→I i a→∀Q:CR→Sto→Prop,(∀a,I (i+1) a→Q (.ret (.bool false)) (S m (G a) u))→(∀a,J i a→Q (.ret (.bool true)) (S m (G a) u))→CV E1 fv [h x] (S m (G a) u) Q)→I 0 a→∀{Q:CR→Sto→Prop},
 (∀a,I l.length a→Q (.ret (.bool false)) (S m (G a) u))→(∀i a,J i a→Q (.ret (.bool true)) (S m (G a) u))→C E1 f [.sl 0 (l.map h) .shut,fv] (S m (G a) u) Q
theorem mkI {f T sz:Nat}(H:IX f T sz:=by
  intro α σ h l fv G m u I J a hl hu hu2 hsz hld hfv hp hI Q h1 h2
  refine cn ⟨false,false,false,false⟩ _ 19 [.tmp 4] ?_
  repeat' (first|refine wk ?_|refine fk ?_ ?_<;>intro hs|exact⟨⟩|fail)
  refine zAF (ι:=Nat×σ) (fun i=>[(8,.int .i64 i.1),(7,.int .i64 l.length),(1,fv),(0,.sl 0 (l.map h) .shut)]) (fun i=>S m (G i.2) u) (fun i=>i.1≤l.length∧I i.1 i.2) (fun i=>l.length-i.1) ?_ (0,a) ⟨Nat.zero_le _,hI⟩ ⟨rfl,rfl,rfl,rfl,trivial⟩ rfl
  rintro⟨i,a1⟩ b ⟨hi,hI1⟩ hrec
  dsimp only at hi hI1 hrec ⊢
  rcases Nat.lt_or_ge i l.length with hlt|hge
  ·have hx:l[i]?=some l[i]:=List.getElem?_eq_getElem hlt
   have hc:decide ((i:Int)<l.length)=true:=decide_eq_true (by omega)
   have hp:=hp i _ a1 hx hI1
   clear h1
   repeat' (first|refine sv_CV ?_|refine hp _ ?_ ?_|refine wk ?_|refine fk ?_ ?_<;>intro hs|exact⟨⟩|fail)
   ·intro a2 ha
    clear h2 hp
    repeat' (first|refine wk ?_|refine fk ?_ ?_<;>intro hs|exact⟨⟩|fail)
    exact hrec (i+1,a2) _ _ _ ⟨hlt,ha⟩ (by dsimp only;omega) ⟨rfl,rfl,rfl,rfl,trivial⟩ rfl
   ·intro a2 ha
    have h2:=h2 i a2 ha
    clear hrec hp
    repeat' (first|refine wk ?_|refine fk ?_ ?_<;>intro hs|exact⟨⟩|fail)
  ·have hc:decide ((i:Int)<l.length)=false:=decide_eq_false (by omega)
   have e:i=l.length:=by omega
   subst e
   have h1:=h1 a1 hI1
   clear hrec hp h2
   repeat' (first|refine wk ?_|refine fk ?_ ?_<;>intro hs|exact⟨⟩|fail)):IX f T sz:=H
theorem mkC {f i T sz:Nat}(hx:IX i T sz)(H:IX i T sz→CX f T sz:=by
  intro hx α σ h l fv G m u I J a hl hu hu2 hsz hld hfv hp hI Q h1 h2
  refine cn ⟨false,false,false,false⟩ _ 9 [.tmp 4] ?_
  repeat' (first|refine hx I J a hl hu hu2 hsz hld hfv hp hI ?_ ?_|refine wk ?_|refine fk ?_ ?_<;>intro hs|exact⟨⟩|fail)
  ·intro a2 ha
   have h1:=h1 a2 ha
   clear h2 hp
   repeat' (first|refine wk ?_|refine fk ?_ ?_<;>intro hs|exact⟨⟩|fail)
  ·intro i a2 ha
   have h2:=h2 i a2 ha
   have hi:decide ((0:Int)≤i)=true:=decide_eq_true (by omega)
   clear h1 hp
   repeat' (first|refine wk ?_|refine fk ?_ ?_<;>intro hs|exact⟨⟩|fail)):CX f T sz:=H hx
theorem zQN {α σ:Type}{p:σ→α→Bool×σ}{a b:σ}{l:List α}{i:Nat}{x:α}(hx:l[i]?=some x)(h:anyS p b (l.drop i)=anyS p a l):(if(p b x).1=true then(true,(p b x).2) else anyS p (p b x).2 (l.drop (i+1)))=anyS p a l:=by
 obtain⟨hlt,he⟩:=List.getElem?_eq_some_iff.1 hx
 rw[List.drop_eq_getElem_cons hlt,he,anyS] at h
 exact h
theorem CX.anyI {f T sz:Nat}(H:CX f T sz){α σ:Type}{h:α→AV}{l:List α}{fv:AV}{p:σ→α→Bool×σ}{G:σ→Nat→Box}{a:σ}{m:Nat}{u:List (Nat×Nat)}(I:σ→Prop)(hI:∀x∈l,∀a,I a→(p a x).1=false→I (p a x).2)(hIa:I a)(hl:l.length<4611686018427387904)(hu:zAQ m u=true)(hu2:zAJ m u=u)
  (hsz:∀x,llen (cellsOf (h x))=sz) (hld:∀x,pick1 (E1.types T) (cellsOf (h x)) 0=some (h x)) (hfv:∀a,zBC (S m (G a) u) fv=some (fv,S m (G a) u))
  (hp:∀x∈l,∀a,I a→∀Q:CR→Sto→Prop,Q (.ret (.bool (p a x).1)) (S m (G (p a x).2) u)→CV E1 fv [h x] (S m (G a) u) Q) {Q:CR→Sto→Prop}
  (hq:Q (.ret (.bool (anyS p a l).1)) (S m (G (anyS p a l).2) u)):C E1 f [.sl 0 (l.map h) .shut,fv] (S m (G a) u) Q:=
 H (fun i b=>anyS p b (l.drop i)=anyS p a l∧I b) (fun _ b=>anyS p a l=(true,b)) a hl hu hu2 hsz hld (hfv a)
  (fun i x b hx hb Q h1 h2=>hp x (List.mem_of_getElem? hx) b hb.2 Q (by
   have e:=zQN hx hb.1
   cases hc:(p b x).1 with
   | true=>rw[hc,if_pos rfl] at e;exact h2 _ e.symm
   | false=>rw[hc,if_neg (fun h=>nomatch h)] at e;exact h1 _ ⟨e,hI x (List.mem_of_getElem? hx) b hb.2 hc⟩)) ⟨rfl,hIa⟩
  (fun b hb=>by
   have e:=hb.1
   rw[List.drop_length,anyS] at e
   rw[← e] at hq
   exact hq) (fun _ b e=>by rw[e] at hq;exact hq)
theorem CX.any {f T sz:Nat}(H:CX f T sz){α σ:Type}{h:α→AV}{l:List α}{fv:AV}{p:σ→α→Bool×σ}{G:σ→Nat→Box}{a:σ}{m:Nat}{u:List (Nat×Nat)}(hl:l.length<4611686018427387904)(hu:zAQ m u=true)(hu2:zAJ m u=u)
  (hsz:∀x,llen (cellsOf (h x))=sz) (hld:∀x,pick1 (E1.types T) (cellsOf (h x)) 0=some (h x)) (hfv:zBC (S m (G a) u) fv=some (fv,S m (G a) u))
  (hp:∀x∈l,∀a Q,Q (.ret (.bool (p a x).1)) (S m (G (p a x).2) u)→CV E1 fv [h x] (S m (G a) u) Q) {Q:CR→Sto→Prop}
  (hq:Q (.ret (.bool (anyS p a l).1)) (S m (G (anyS p a l).2) u)):C E1 f [.sl 0 (l.map h) .shut,fv] (S m (G a) u) Q:=
 H (fun i b=>anyS p b (l.drop i)=anyS p a l) (fun _ b=>anyS p a l=(true,b)) a hl hu hu2 hsz hld hfv
  (fun i x b hx hb Q h1 h2=>hp x (List.mem_of_getElem? hx) b Q (by
   have e:=zQN hx hb
   cases hc:(p b x).1 with
   | true=>rw[hc,if_pos rfl] at e;exact h2 _ e.symm
   | false=>rw[hc,if_neg (fun h=>nomatch h)] at e;exact h1 _ e)) rfl
  (fun b e=>by
   rw[List.drop_length,anyS] at e
   rw[← e] at hq
   exact hq) (fun _ b e=>by rw[e] at hq;exact hq)
theorem CX.pure {f T sz:Nat}(H:CX f T sz){α:Type}{h:α→AV}{l:List α}{fv:AV}{q:α→Bool}{g:Nat→Box}{m:Nat}{u:List (Nat×Nat)}(hl:l.length<4611686018427387904)(hu:zAQ m u=true)(hu2:zAJ m u=u)
  (hsz:∀x,llen (cellsOf (h x))=sz) (hld:∀x,pick1 (E1.types T) (cellsOf (h x)) 0=some (h x)) (hfv:zBC (S m g u) fv=some (fv,S m g u))
  (hp:∀x∈l,∀Q,Q (.ret (.bool (q x))) (S m g u)→CV E1 fv [h x] (S m g u) Q) {Q:CR→Sto→Prop} (hq:Q (.ret (.bool (l.any q))) (S m g u)):C E1 f [.sl 0 (l.map h) .shut,fv] (S m g u) Q:=
 H.any (σ:=Unit) (p:=fun a x=>(q x,a)) (G:=fun _=>g) (a:=()) hl hu hu2 hsz hld hfv (fun x hx _ Q hQ=>hp x hx Q hQ) (by rw[zQM];exact hq)
theorem cx55:CX 55 32 7:=mkC (mkI (f:=105))
def c55p:=@CX.pure _ _ _ cx55
theorem cx146:CX 146 126 8:=mkC (mkI (f:=189))
def c146p:=@CX.pure _ _ _ cx146
theorem cx89:CX 89 34 11:=mkC (mkI (f:=135))
theorem cx136:CX 136 9 1:=mkC (mkI (f:=186))
def c136p:=@CX.pure _ _ _ cx136
theorem cx192:CX 192 3 1:=mkC (mkI (f:=244))
def c192p:=@CX.pure _ _ _ cx192
theorem cx194:CX 194 5 1:=mkC (mkI (f:=245))
def c194p:=@CX.pure _ _ _ cx194
theorem cx196:CX 196 128 14:=mkC (mkI (f:=246))
def c196p:=@CX.pure _ _ _ cx196
theorem c242 {l:List Str}{x:Str}{s:Sto}(hl:l.length<4611686018427387904){Q:CR→Sto→Prop}
  (hq:∀i:Int,(0≤i↔x∈l)→Q (.ret (.int .i64 i)) s):C E1 242 [.sl 0 (l.map AV.str) .shut,.str x] s Q:=by
 refine ci Tryz.f242 19 [.tmp 4] ?_
 repeat' (first|refine wkW ?_|refine fkW ?_ ?_<;>intro _|exact⟨⟩|fail)
 refine zAF (ι:=Nat) (fun i=>[(8,.int .i64 i),(7,.int .i64 l.length),(1,.str x),(0,.sl 0 (l.map AV.str) .shut)]) (fun _=>S 0 g0 []) (fun i=>i≤l.length∧(x∈l↔x∈l.drop i)) (fun i=>l.length-i) ?_ 0 ⟨Nat.zero_le _,Iff.rfl⟩ ⟨rfl,rfl,rfl,rfl,trivial⟩ rfl
 rintro i b ⟨hi,he⟩ hrec
 rcases Nat.lt_or_ge i l.length with hlt|hge
 ·have hx:l[i]?=some l[i]:=List.getElem?_eq_getElem hlt
  rw[List.drop_eq_getElem_cons hlt] at he
  have hc:decide ((i:Int)<l.length)=true:=by simpa using hlt
  repeat' (first|refine wkW ?_|refine fkW ?_ ?_<;>intro _|exact⟨⟩|fail)
  ·rename_i hpt
   exact hq i (by rw[he];simp at hpt;simp[← hpt])
  ·rename_i hpf
   exact hrec (i+1) _ _ _ ⟨hlt,by simp at hpf;exact he.trans (by rw[List.mem_cons];simp[hpf])⟩ (by omega) ⟨rfl,rfl,rfl,rfl,trivial⟩ rfl
 ·have hc:decide ((i:Int)<l.length)=false:=by simpa using hge
  rw[List.drop_eq_nil_of_le hge] at he
  repeat' (first|refine wkW ?_|refine fkW ?_ ?_<;>intro _|exact⟨⟩|fail)
  exact hq (-1) (by rw[he];simp)
theorem c188 {l:List Str}{x:Str}{s:Sto}(hl:l.length<4611686018427387904){Q:CR→Sto→Prop}
  (hq:Q (.ret (.bool (decide (x∈l)))) s):C E1 188 [.sl 0 (l.map AV.str) .shut,.str x] s Q:=by
 refine ci Tryz.f188 9 [.tmp 4] ?_
 repeat' (first|refine wkW ?_|refine fkW ?_ ?_<;>intro _|exact⟨⟩|fail)
 refine c242 hl (fun i hi=>?_)
 repeat' (first|refine wkW ?_|refine fkW ?_ ?_<;>intro _|exact⟨⟩|fail)
theorem c254 {l:List Str}{x:Str}{s:Sto}(hl:l.length<4611686018427387904){Q:CR→Sto→Prop}(h:Q (.ret (.bool (decide (x∈l)))) s):C E1 254 [.sl 0 (l.map AV.str) .shut,.str x] s Q:=by
 refine ci Tryz.f254 18 [.tmp 4] ?_
 repeat' (first|refine wkW ?_|refine fkW ?_ ?_<;>intro _|exact⟨⟩|fail)
 refine zAF (ι:=Nat) (fun i=>[(0,.sl 0 (l.map AV.str) .shut),(1,.str x),(5,.int .i64 i)]) (fun _=>S 0 g0 []) (fun i=>i≤(l).length∧(x∈l↔x∈l.drop i)) (fun i=>(l).length-i) ?_ 0 ⟨Nat.zero_le _,by first|rfl|trivial|simp⟩ ⟨rfl,rfl,rfl,trivial⟩ rfl;rintro i b ⟨hi,he⟩ hrec;rcases Nat.lt_or_ge i (l).length with hlt|hge
 ·obtain⟨hx,hmem,hcnd⟩:=zF3 hlt;rw[List.drop_eq_getElem_cons hlt] at he
  repeat' (first|refine wkW ?_|refine fkW ?_ ?_<;>intro _|exact⟨⟩|fail)
  ·rename_i hp
   refine leaf h ?_
   simp only[decide_eq_true_eq] at hp
   rw[decide_eq_true (he.2 (by rw[hp];exact List.mem_cons_self ..))]
  ·rename_i hp
   simp only[decide_eq_false_iff_not] at hp
   rw[List.mem_cons] at he
   exact hrec (i+1) _ _ _ ⟨hlt,he.trans ⟨fun h=>h.resolve_left fun e=>hp e.symm,fun h=>.inr h⟩⟩ (by omega) ⟨rfl,rfl,rfl,trivial⟩ rfl
 ·have hcnd:=zDN hge;rw[List.drop_eq_nil_of_le hge] at he
  have hx:¬ x∈l:=fun h=>nomatch he.1 h
  repeat' (first|refine wkW ?_|refine fkW ?_ ?_<;>intro _|exact⟨⟩|fail)
  exact leaf h (by rw[decide_eq_false hx])
theorem c253 {x:Str}{s:Sto}(hl:x.length<4611686018427387904){Q:CR→Sto→Prop}(h:Q (.ret (.bool (zC7 x))) s):C E1 253 [.str x] s Q:=by
 rw[zP0] at h
 refine ci Tryz.f253 63 [.tmp 2] ?_
 repeat' (first|refine wkW ?_|refine fkW ?_ ?_<;>intro _|exact⟨⟩|fail)
 ·rename_i hp
  exact leaf h (congrArg AV.bool (by clear h;grind))
 rename_i h0
 refine zAF (ι:=Nat) (fun i=>[(0,.str x),(3,.int .i64 i)]) (fun _=>S 0 g0 []) (fun i=>i≤(x).length∧nameT 0 x=nameT i (x.drop i)) (fun i=>(x).length-i) ?_ 0 ⟨Nat.zero_le _,by first|rfl|trivial|simp⟩ ⟨rfl,rfl,trivial⟩ rfl;rintro i b ⟨hi,he⟩ hrec;rcases Nat.lt_or_ge i (x).length with hlt|hge
 ·obtain⟨hx,hmem,hcnd⟩:=zF3 hlt;rw[List.drop_eq_getElem_cons hlt] at he
  rw[nameT] at he
  repeat' (first|refine wkW ?_|refine fkW ?_ ?_<;>intro _|exact⟨⟩|fail)
  ·rename_i hp
   exact leaf h (congrArg AV.bool (by rw[he];clear h hrec;simp only[inside,letter];grind))
  ·rename_i hp
   exact hrec (i+1) _ _ _ ⟨hlt,by rw[he];clear h hrec;simp only[inside,letter];grind⟩ (by omega) ⟨rfl,rfl,trivial⟩ rfl
 ·have hcnd:=zDN hge;rw[List.drop_eq_nil_of_le hge] at he
  rw[nameT] at he
  repeat' (first|refine wkW ?_|refine fkW ?_ ?_<;>intro _|exact⟨⟩|fail)
  exact leaf h (congrArg AV.bool (by rw[he];clear h hrec;grind))
theorem c378 {v:V}{s:Sto}(hl:szV v<4611686018427387904){Q:CR→Sto→Prop}(h:Q (.ret (.bool (zF4 v))) s):C E1 378 [encV v] s Q:=by
 refine ci Tryz.f378 41 [.tmp 2] ?_
 repeat' (first|refine wkW ?_|refine fkW ?_ ?_<;>intro _|exact⟨⟩|fail)
 exact zAX h (by(try clear hrec);(try clear h);simp only[zF4];grind)
theorem c247 {v:V}{s:Sto}(hl:szV v<4611686018427387904){Q:CR→Sto→Prop}(h:Q (.ret (.bool (zF4 v))) s):C E1 247 [encV v] s Q:=by
 rw[zD2] at hl
 have h1:=szVs_len v.l
 have h2:=szVs_len v.m
 refine ci Tryz.f247 39 [.tmp 2] ?_
 repeat' (first|refine wkW ?_|refine fkW ?_ ?_<;>intro _|exact⟨⟩|fail)
 exact zAX h (by(try clear hrec);(try clear h);simp only[zF4];grind)
theorem c324 {n:Int}{s:Sto}{Q:CR→Sto→Prop}(h:Q (.ret (.int .i64 (prims n))) s):C E1 324 [.int .i64 n] s Q:=by
 refine ci Tryz.f324 12 [.tmp 2] ?_
 repeat' (first|refine wkW ?_|refine fkW ?_ ?_<;>intro _|exact⟨⟩|fail)
 all_goals exact zFS h (by(try clear hrec);(try clear h);simp only[prims];grind)
theorem c262 {a:V}{s:Sto}{Q:CR→Sto→Prop}(h:Q (.ret (.bool (zEP a.neg a.d))) s):C E1 262 [.agg [.bool a.neg,.sl 0 (a.d.map iv) .shut]] s Q:=by
 refine ci Tryz.f262 12 [.tmp 2] ?_
 repeat' (first|refine wkW ?_|refine fkW ?_ ?_<;>intro _|exact⟨⟩|fail)
 exact zAX h (by(try clear hrec);(try clear h);simp only[zEP];grind)
theorem c264 {x:Str}{s:Sto}(hl:x.length<4611686018427387904){Q:CR→Sto→Prop}(h:Q (.ret (.bool (zLX x))) s):C E1 264 [.str x] s Q:=by
 refine ci Tryz.f264 23 [.tmp 2] ?_
 repeat' (first|refine wkW ?_|refine fkW ?_ ?_<;>intro _|exact⟨⟩|fail)
 ·rename_i hp
  exact zAX h (by(try clear hrec);(try clear h);simp only[zLX];grind)
 ·rename_i h0
  refine zAF (ι:=Nat) (fun i=>[(0,.str x),(3,.int .i64 i)]) (fun _=>S 0 g0 []) (fun i=>i≤(x).length∧(x.all fun c=>decide ((32:Int)≤c.toNat)&&decide ((c.toNat:Int)≤126))=((x.drop i).all fun c=>decide ((32:Int)≤c.toNat)&&decide ((c.toNat:Int)≤126))) (fun i=>(x).length-i) ?_ 0 ⟨Nat.zero_le _,by first|rfl|trivial|simp⟩ ⟨rfl,rfl,trivial⟩ rfl;rintro i b ⟨hi,he⟩ hrec;rcases Nat.lt_or_ge i (x).length with hlt|hge
  ·obtain⟨hx,hmem,hcnd⟩:=zF3 hlt;rw[List.drop_eq_getElem_cons hlt] at he
   rw[List.all_cons] at he
   repeat' (first|refine wkW ?_|refine fkW ?_ ?_<;>intro _|exact⟨⟩|fail)
   ·rename_i hp
    exact zAX h (by(try clear hrec);(try clear h);simp only[zLX,he];grind)
   ·rename_i hp
    exact hrec (i+1) _ _ _ ⟨hlt,by rw[he];clear h hrec;grind⟩ (by omega) ⟨rfl,rfl,trivial⟩ rfl
  ·have hcnd:=zDN hge;rw[List.drop_eq_nil_of_le hge] at he
   repeat' (first|refine wkW ?_|refine fkW ?_ ?_<;>intro _|exact⟨⟩|fail)
   exact zAX h (by(try clear hrec);(try clear h);simp only[zLX,he];grind)
theorem c265 {x:Str}{s:Sto}(hl:x.length<4611686018427387904){Q:CR→Sto→Prop}(h:Q (.ret (.bool (zC7 x))) s):C E1 265 [.str x] s Q:=by
 rw[zP0] at h
 refine ci Tryz.f265 66 [.tmp 2] ?_
 repeat' (first|refine wkW ?_|refine fkW ?_ ?_<;>intro _|exact⟨⟩|fail)
 ·rename_i hp
  exact zAX h (by(try clear hrec);(try clear h);grind)
 rename_i h0
 refine zAF (ι:=Nat) (fun i=>[(0,.str x),(3,.int .i64 i)]) (fun _=>S 0 g0 []) (fun i=>i≤(x).length∧nameT 0 x=nameT i (x.drop i)) (fun i=>(x).length-i) ?_ 0 ⟨Nat.zero_le _,by first|rfl|trivial|simp⟩ ⟨rfl,rfl,trivial⟩ rfl;rintro i b ⟨hi,he⟩ hrec;rcases Nat.lt_or_ge i (x).length with hlt|hge
 ·obtain⟨hx,hmem,hcnd⟩:=zF3 hlt;rw[List.drop_eq_getElem_cons hlt] at he
  rw[nameT] at he
  repeat' (first|refine wkW ?_|refine fkW ?_ ?_<;>intro _|exact⟨⟩|fail)
  ·rename_i hp
   exact zAX h (by(try clear hrec);(try clear h);rw[he];simp only[inside,letter];grind)
  ·rename_i hp
   exact hrec (i+1) _ _ _ ⟨hlt,by rw[he];clear h hrec;simp only[inside,letter];grind⟩ (by omega) ⟨rfl,rfl,trivial⟩ rfl
 ·have hcnd:=zDN hge;rw[List.drop_eq_nil_of_le hge] at he
  rw[nameT] at he
  repeat' (first|refine wkW ?_|refine fkW ?_ ?_<;>intro _|exact⟨⟩|fail)
  exact zAX h (by(try clear hrec);(try clear h);rw[he];grind)
theorem c228 {a b:Int}{s:Sto}{Q:CR→Sto→Prop}(h:Q (.ret (.int .i64 (cmp a b))) s):C E1 228 [.int .i64 a,.int .i64 b] s Q:=by
 refine ci Tryz.f228 11 [.tmp 4] ?_
 repeat' (first|refine wkW ?_|refine fkW ?_ ?_<;>intro _|exact⟨⟩|fail)
 all_goals exact zFS h (by(try clear hrec);(try clear h);simp only[cmp];grind)
theorem cmpS_eq:∀a b:Str,(bif bytesLt a b then(-1:Int) else bif bytesEq a b then 0 else 1)=cmpS a b
 | [],[]=>rfl
 | [],_ :: _=>rfl
 | _ :: _,[]=>rfl
 | a :: x,b :: y=>by
  have ih:=cmpS_eq x y
  simp only[bytesLt,bytesEq,cmpS,zGV,zSD]
  by_cases h1:a.toNat<b.toNat
  ·simp[h1]
  ·by_cases h2:b.toNat<a.toNat
   ·have:¬ a.toNat=b.toNat:=by omega
    simp[h1,h2,this]
   ·have:a.toNat=b.toNat:=by omega
    simp only[this,decide_true,cond_true,Nat.lt_irrefl,decide_false,cond_false,if_false]
    exact ih
theorem c327 {a b:Str}{s:Sto}{Q:CR→Sto→Prop}(h:Q (.ret (.int .i64 (cmpS a b))) s):C E1 327 [.str a,.str b] s Q:=by
 rw[← cmpS_eq] at h
 exact yAL rfl h
theorem c271 {a b:Str}{s:Sto}{Q:CR→Sto→Prop}(h:Q (.ret (.int .i64 (cmpS a b))) s):C E1 271 [.str a,.str b] s Q:=by
 refine ci Tryz.f271 8 [.tmp 4] ?_
 repeat' (first|refine c327 ?_|refine wkW ?_|refine fkW ?_ ?_<;>intro _|exact⟨⟩|fail)
theorem c230 {a b:Str}{m:Nat}{g:Nat→Box}{u:List (Nat×Nat)}(hu:zAQ m u=true)(hu2:zAJ m u=u){Q:CR→Sto→Prop}(h:Q (.ret (.int .i64 (cmpS a b))) (S m g u)):C E1 230 [.str a,.str b] (S m g u) Q:=by
 refine cn ⟨false,false,false,false⟩ Tryz.f230 8 [.tmp 4] ?_
 repeat' (first|refine c271 ?_|refine wkW ?_|refine fkW ?_ ?_<;>intro _|exact⟨⟩|fail)
theorem c270 {a b:List Int}{s:Sto}(ha:a.length<4611686018427387904)(hb:b.length<4611686018427387904){Q:CR→Sto→Prop}(h:Q (.ret (.int .i64 (if a.length≠b.length then cmp a.length b.length else cmpD a.reverse b.reverse))) s):C E1 270 [.sl 0 (a.map iv) .shut,.sl 0 (b.map iv) .shut] s Q:=by
 refine ci Tryz.f270 41 [.tmp 4] ?_
 repeat' (first|refine c228 ?_|refine wkW ?_|refine fkW ?_ ?_<;>intro _|exact⟨⟩|fail)
 ·rename_i hp
  exact zFS h (by(try clear hrec);(try clear h);grind)
 ·rename_i hp
  have hab:a.length=b.length:=by have:=of_decide_eq_true hp;omega
  refine zAF (ι:=Nat) (fun k=>[(0,.sl 0 (a.map iv) .shut),(1,.sl 0 (b.map iv) .shut),(5,.int .i64 ((k:Int)-1))]) (fun _=>S 0 g0 []) (fun k=>k≤a.length∧cmpD a.reverse b.reverse=cmpD (a.take k).reverse (b.take k).reverse) (fun k=>k) ?_ a.length ⟨Nat.le_refl _,by rw[List.take_length,hab,List.take_length]⟩ ⟨rfl,rfl,rfl,trivial⟩ rfl
  rintro k b0 ⟨hk,he⟩ hrec
  cases k with
  | zero=>
   have hc:decide ((0:Int)≤((0:Nat):Int)-1)=false:=rfl
   repeat' (first|refine wkW ?_|refine fkW ?_ ?_<;>intro _|exact⟨⟩|fail)
   exact zFS h (by(try clear hrec);(try clear h);rw[if_neg (by omega),he];rfl)
  | succ k=>
   have hz:((k+1:Nat):Int)-1=k:=by omega
   have hc:decide ((0:Int)≤k)=true:=by simp
   have hkb:k<b.length:=by omega
   have hx:a[k]?=some a[k]:=List.getElem?_eq_getElem hk
   have hy:b[k]?=some b[k]:=List.getElem?_eq_getElem hkb
   rw[List.take_succ_eq_append_getElem hk,List.take_succ_eq_append_getElem hkb,List.reverse_append,List.reverse_append,List.reverse_singleton,List.reverse_singleton,List.singleton_append,List.singleton_append,cmpD] at he
   repeat' (first|refine c228 ?_|refine wkW ?_|refine fkW ?_ ?_<;>intro _|exact⟨⟩|fail)
   ·rename_i hp
    have hne:¬ a[k]=b[k]:=by simpa using hp
    have hc0:¬ cmp a[k] b[k]=0:=by simp only[cmp];grind
    exact zFS h (by(try clear hrec);(try clear h);rw[if_neg (by omega),he,if_neg hc0])
   ·rename_i hp
    have heq:a[k]=b[k]:=by simpa using hp
    have hc0:cmp a[k] b[k]=0:=by simp only[cmp];grind
    exact hrec k _ _ _ ⟨by omega,by rw[he,if_pos hc0]⟩ (by omega) ⟨rfl,rfl,rfl,trivial⟩ rfl
theorem c229 {a b:V}{s:Sto}(ha:szV a<4611686018427387904)(hb:szV b<4611686018427387904){Q:CR→Sto→Prop}(h:Q (.ret (.int .i64 (cmpI a.neg a.d b.neg b.d))) s):C E1 229 [.agg [.bool a.neg,.sl 0 (a.d.map iv) .shut],.agg [.bool b.neg,.sl 0 (b.d.map iv) .shut]] s Q:=by
 rw[zD2] at ha hb
 have ha1:a.d.length<4611686018427387904:=by omega
 have hb1:b.d.length<4611686018427387904:=by omega
 refine ci Tryz.f229 24 [.tmp 4] ?_
 repeat' (first|refine c270 ha1 hb1 ?_|refine c270 hb1 ha1 ?_|refine wkW ?_|refine fkW ?_ ?_<;>intro _|exact⟨⟩|fail)
 ·exact zFS h (by(try clear hrec);(try clear h);simp only[cmpI];grind)
 ·exact zFS h (by(try clear hrec);(try clear h);simp only[cmpI];grind)
 ·rename_i h1 h2
  have h1:=of_decide_eq_true h1
  exact leaf h (congrArg (AV.int .i64) (by
   clear h
   rw[cmpI,if_neg (by simp[h1]),if_pos h2]
   by_cases hl:a.d.length=b.d.length
   ·simp only[hl,ne_eq,not_true_eq_false,if_false];rw[cmpD_neg b.d.reverse,Int.neg_neg]
   ·simp only[ne_eq,hl,not_false_eq_true,if_true];rw[if_pos (fun e=>hl e.symm),zZD b.d.length,Int.neg_neg]))
 ·rename_i h1 h2
  have h1:=of_decide_eq_true h1
  exact leaf h (congrArg (AV.int .i64) (by
   clear h
   rw[cmpI,if_neg (by simp[h1]),if_neg (by simp[h2])]))
theorem c231 {l r:List V}{s:Sto}(hl:szVs l<4611686018427387904)(hr:szVs r<4611686018427387904)
  (hc:∀a∈l,∀b∈r,∀s Q,Q (.ret (.int .i64 (cmpV a b))) s→C E1 171 [encV a,encV b] s Q) {Q:CR→Sto→Prop} (h:Q (.ret (.int .i64 (zKN l r))) s):C E1 231 [.sl 0 (l.map encV) .shut,.sl 0 (r.map encV) .shut] s Q:=by
 have h1:=szVs_len l
 have h2:=szVs_len r
 refine ci Tryz.f231 35 [.tmp 4] ?_
 repeat' (first|refine c228 ?_|refine wkW ?_|refine fkW ?_ ?_<;>intro _|exact⟨⟩|fail)
 ·rename_i hp
  exact zFS h (by(try clear hrec);(try clear h);simp only[zKN];grind)
 ·rename_i hp
  have hab:r.length=l.length:=by have:=of_decide_eq_true hp;omega
  refine zAF (ι:=Nat) (fun i=>[(0,.sl 0 (l.map encV) .shut),(1,.sl 0 (r.map encV) .shut),(5,.int .i64 i)]) (fun _=>S 0 g0 []) (fun i=>i≤(l).length∧cmpL l r=cmpL (l.drop i) (r.drop i)) (fun i=>(l).length-i) ?_ 0 ⟨Nat.zero_le _,by first|rfl|trivial|simp⟩ ⟨rfl,rfl,rfl,trivial⟩ rfl;rintro i b ⟨hi,he⟩ hrec;rcases Nat.lt_or_ge i (l).length with hlt|hge
  ·have hlr:i<r.length:=by omega
   have hy:r[i]?=some r[i]:=List.getElem?_eq_getElem hlr
   have hm2:r[i]∈r:=List.getElem_mem hlr
   rw[List.drop_eq_getElem_cons hlr] at he
   obtain⟨hx,hmem,hcnd⟩:=zF3 hlt;rw[List.drop_eq_getElem_cons hlt] at he
   rw[cmpL] at he
   repeat' (first|refine hc _ hmem _ hm2 _ _ ?_|refine wkW ?_|refine fkW ?_ ?_<;>intro _|exact⟨⟩|fail)
   ·rename_i hp2
    have hp2:=of_decide_eq_false hp2
    exact zFS h (by(try clear hrec);(try clear h);rw[zKN,if_neg (by omega),he,if_pos hp2])
   ·rename_i hp2
    have hp2:=of_decide_eq_true hp2
    exact hrec (i+1) _ _ _ ⟨hlt,by rw[he,if_neg (by omega)]⟩ (by omega) ⟨rfl,rfl,rfl,trivial⟩ rfl
  ·have hcnd:=zDN hge;rw[List.drop_eq_nil_of_le hge] at he
   repeat' (first|refine wkW ?_|refine fkW ?_ ?_<;>intro _|exact⟨⟩|fail)
   exact zFS h (by(try clear hrec);(try clear h);rw[zKN,if_neg (by omega),he,cmpL];intro _ _ _ _ h;cases h)
theorem c171:∀(N:Nat) {a b:V} {s:Sto},szV a<N→szV a<4611686018427387904→szV b<4611686018427387904→∀{Q:CR→Sto→Prop},Q (.ret (.int .i64 (cmpV a b))) s→C E1 171 [encV a,encV b] s Q:=by
 intro N
 induction N with
 | zero=>intro a b s h;exact absurd h (Nat.not_lt_zero _)
 | succ N ih=>
  intro a b s hN ha hb Q h
  have ea:=zD2 a
  have eb:=zD2 b
  have k1:∀x∈a.l,∀y∈b.l,∀s Q,Q (.ret (.int .i64 (cmpV x y))) s→C E1 171 [encV x,encV y] s Q:=fun x hx y hy s Q h=>ih (by have:=szVs_mem hx;omega) (by have:=szVs_mem hx;omega) (by have:=szVs_mem hy;omega) h
  have k2:∀x∈a.m,∀y∈b.m,∀s Q,Q (.ret (.int .i64 (cmpV x y))) s→C E1 171 [encV x,encV y] s Q:=fun x hx y hy s Q h=>ih (by have:=szVs_mem hx;omega) (by have:=szVs_mem hx;omega) (by have:=szVs_mem hy;omega) h
  have k3:szVs a.l<4611686018427387904:=by omega
  have k4:szVs b.l<4611686018427387904:=by omega
  have k5:szVs a.m<4611686018427387904:=by omega
  have k6:szVs b.m<4611686018427387904:=by omega
  have hu:zAQ 2 []=true:=rfl
  have hu2:zAJ 2 []=[]:=rfl
  rw[zZF] at h
  clear ih
  refine ci Tryz.f171 53 [.tmp 4] ?_
  repeat' (first|refine c228 ?_|refine c229 ha hb ?_|refine c230 hu hu2 ?_|refine c231 k3 k4 k1 ?_|refine c231 k5 k6 k2 ?_|refine wkW ?_|refine fkW ?_ ?_<;>intro _|exact⟨⟩|fail)
  all_goals exact leaf h (congrArg (AV.int .i64) (by clear h k1 k2;grind))
theorem c216 {l:List V}{s:Sto}(hl:szVs l<4611686018427387904){Q:CR→Sto→Prop}(h:Q (.ret (.bool (rising l))) s):C E1 216 [.sl 0 (l.map encV) .shut] s Q:=by
 have h1:=szVs_len l
 have hsz:∀x∈l,szV x<4611686018427387904:=fun x hx=>by have:=szVs_mem hx;omega
 refine ci Tryz.f216 21 [.tmp 2] ?_
 repeat' (first|refine wkW ?_|refine fkW ?_ ?_<;>intro _|exact⟨⟩|fail)
 refine zAF (ι:=Nat) (fun j=>[(0,.sl 0 (l.map encV) .shut),(3,.int .i64 ((j:Int)+1))]) (fun _=>S 0 g0 []) (fun j=>rising l=rising (l.drop j)) (fun j=>l.length-j) ?_ 0 rfl ⟨rfl,rfl,trivial⟩ rfl
 rintro j b he hrec
 rcases Nat.lt_or_ge (j+1) l.length with hlt|hge
 ·have hj:j<l.length:=by omega
  have hx:l[j]?=some l[j]:=List.getElem?_eq_getElem hj
  have hy:l[j+1]?=some l[j+1]:=List.getElem?_eq_getElem hlt
  have hm1:l[j]∈l:=List.getElem_mem hj
  have hm2:l[j+1]∈l:=List.getElem_mem hlt
  rw[List.drop_eq_getElem_cons hj,List.drop_eq_getElem_cons hlt,rising,← List.drop_eq_getElem_cons hlt] at he
  have hc:decide ((j:Int)+1<l.length)=true:=by simp;omega
  have hz:((j:Int)+1-1)=j:=by omega
  have hz2:((j:Int)+1).toNat=j+1:=by omega
  repeat' (first|refine c171 _ (Nat.lt_succ_self _) (hsz _ hm1) (hsz _ hm2) ?_|refine wkW ?_|refine fkW ?_ ?_<;>intro _|exact⟨⟩|fail)
  ·rename_i hp
   exact zAX h (by(try clear hrec);(try clear h);rw[he];simp at hp;simp;omega)
  ·rename_i hp
   exact hrec (j+1) _ _ _ (by rw[he];simp at hp;simp;intro;omega) (by omega) ⟨rfl,rfl,trivial⟩ rfl
 ·have hc:decide ((j:Int)+1<l.length)=false:=by simp;omega
  repeat' (first|refine wkW ?_|refine fkW ?_ ?_<;>intro _|exact⟨⟩|fail)
  exact zAX h (by(try clear hrec);(try clear h);rw[he];rcases hd:l.drop j with _|⟨a,_|⟨b,r⟩⟩<;>first|rfl|(exfalso;have:=congrArg List.length hd;simp at this;omega))
theorem c263 {a:V}{s:Sto}(hl:szV a<4611686018427387904){Q:CR→Sto→Prop}(h:Q (.ret (.bool (zKK a.neg a.d))) s):C E1 263 [.agg [.bool a.neg,.sl 0 (a.d.map iv) .shut]] s Q:=by
 rw[zD2] at hl
 have hz:((a.d.length:Int)-1).toNat=a.d.length-1:=by omega
 have hx0:a.d[a.d.length-1]?=a.d.getLast?:=by rw[List.getLast?_eq_getElem?]
 rcases hd:a.d.getLast? with _|y
 ·have h0:a.d=[]:=by simpa using hd
  have h1:decide ((a.d.length:Int)=0)=true:=by rw[h0];rfl
  have h2:decide ((0:Int)<a.d.length)=false:=by rw[h0];rfl
  have h3:decide ((40:Int)<a.d.length)=false:=by rw[h0];rfl
  have h5:zKK a.neg a.d=!a.neg:=by rw[h0];cases a.neg<;>rfl
  clear h0 hx0 hz
  cases hng:a.neg
  ·refine ci Tryz.f263 50 [.tmp 2] ?_
   repeat' (first|refine wk ?_|refine fk ?_ ?_<;>intro hs|exact⟨⟩|fail)
   refine zAF (ι:=Unit) (fun _=>[(1,.ptr 0 0),(3,.int .i64 a.d.length),(4,.int .i64 0)]) (fun _=>S 1 (updB g0 0 (.cells 29 [.bool false,.sl 0 (a.d.map iv) .shut])) []) (fun _=>True) (fun _=>0) ?_ () trivial ⟨rfl,rfl,rfl,trivial⟩ rfl
   intro _ b _ hrec
   repeat' (first|refine wk ?_|refine fk ?_ ?_<;>intro hs|exact⟨⟩|fail)
   exact zAX h (by(try clear hrec);(try clear h);rw[h5,hng];rfl)
  ·refine ci Tryz.f263 50 [.tmp 2] ?_
   repeat' (first|refine wk ?_|refine fk ?_ ?_<;>intro hs|exact⟨⟩|fail)
   exact zAX h (by(try clear hrec);(try clear h);rw[h5,hng];rfl)
 ·have hn:0<a.d.length:=by cases hh:a.d with
   | nil=>rw[hh] at hd;cases hd
   | cons=>simp
  rw[hd] at hx0
  have h1:decide ((a.d.length:Int)=0)=false:=decide_eq_false (by omega)
  have h2:decide ((0:Int)<a.d.length)=true:=decide_eq_true (by omega)
  have h4:(0:Int)≤a.d.length-1:=by omega
  have h5:zKK a.neg a.d=(decide (a.d.length≤40)&&!decide (y=0)&&a.d.all fun x=>decide (0≤x)&&decide (x≤999999999)):=by
   rw[zKK,hd];rw[show decide (a.d.length=0)=false from decide_eq_false (by omega)];simp
  refine ci Tryz.f263 50 [.tmp 2] ?_
  repeat' (first|refine wk ?_|refine fk ?_ ?_<;>intro hs|exact⟨⟩|fail)
  ·exact zAX h (by(try clear hrec);(try clear h);rw[h5];grind)
  ·refine zAF (ι:=Nat) (fun i=>[(1,.ptr 0 0),(3,.int .i64 a.d.length),(4,.int .i64 i)]) (fun _=>S 1 (updB g0 0 (.cells 29 [.bool a.neg,.sl 0 (a.d.map iv) .shut])) []) (fun i=>i≤(a.d).length∧(a.d.all fun x=>decide (0≤x)&&decide (x≤999999999))=((a.d.drop i).all fun x=>decide (0≤x)&&decide (x≤999999999))) (fun i=>(a.d).length-i) ?_ 0 ⟨Nat.zero_le _,by first|rfl|trivial|simp⟩ ⟨rfl,rfl,rfl,trivial⟩ rfl;rintro i b ⟨hi,he⟩ hrec;rcases Nat.lt_or_ge i (a.d).length with hlt|hge
   ·obtain⟨hx,hmem,hcnd⟩:=zF3 hlt;rw[List.drop_eq_getElem_cons hlt] at he
    rw[List.all_cons] at he
    repeat' (first|refine wk ?_|refine fk ?_ ?_<;>intro hs|exact⟨⟩|fail)
    ·rename_i hp
     exact zAX h (by(try clear hrec);(try clear h);rw[h5,he];grind)
    ·rename_i hp
     exact hrec (i+1) _ _ _ ⟨hlt,by rw[he];clear h hrec;grind⟩ (by omega) ⟨rfl,rfl,rfl,trivial⟩ rfl
   ·have hcnd:=zDN hge;rw[List.drop_eq_nil_of_le hge] at he
    repeat' (first|refine wk ?_|refine fk ?_ ?_<;>intro hs|exact⟨⟩|fail)
    exact zAX h (by(try clear hrec);(try clear h);rw[h5,he];grind)
theorem c215 {v:V}{s:Sto}(hl:szV v<4611686018427387904){Q:CR→Sto→Prop}(h:Q (.ret (.bool (zMY v))) s):C E1 215 [encV v] s Q:=by
 have hl2:=hl
 rw[zD2] at hl2
 have hls:v.s.length<4611686018427387904:=by omega
 refine ci Tryz.f215 86 [.tmp 2] ?_
 repeat' (first|refine c262 ?_|refine c263 hl ?_|refine c264 hls ?_|refine c265 hls ?_|refine wk ?_|refine fk ?_ ?_<;>intro hs|exact⟨⟩|fail)
 all_goals exact zAX h (by(try clear hrec);(try clear h);simp only[zMY];grind)
theorem zL3 (l:List V):formedL l=l.all formed:=by induction l with
 | nil=>rfl
 | cons a r ih=>simp only[formedL,List.all_cons,ih]
theorem c161:∀(N:Nat) {v:V} {s:Sto},szV v<N→szV v<4611686018427387904→∀{Q:CR→Sto→Prop},Q (.ret (.bool (formed v))) s→C E1 161 [encV v] s Q:=by
 intro N
 induction N with
 | zero=>intro v s h;exact absurd h (Nat.not_lt_zero _)
 | succ N ih=>
  intro v s hN hl Q h
  have ev:=zD2 v
  have k1:∀x∈v.l,∀s Q,Q (.ret (.bool (formed x))) s→C E1 161 [encV x] s Q:=fun x hx s Q h=>ih (by have:=szVs_mem hx;omega) (by have:=szVs_mem hx;omega) h
  have k2:∀x∈v.m,∀s Q,Q (.ret (.bool (formed x))) s→C E1 161 [encV x] s Q:=fun x hx s Q h=>ih (by have:=szVs_mem hx;omega) (by have:=szVs_mem hx;omega) h
  have k3:szVs v.l<4611686018427387904:=by omega
  have k4:=szVs_len v.l
  have k5:=szVs_len v.m
  rw[formed_R,zL3,zL3] at h
  clear ih
  refine ci Tryz.f161 86 [.tmp 2] ?_
  repeat' (first|refine c215 hl ?_|refine wk ?_|refine fk ?_ ?_<;>intro hs|exact⟨⟩|fail)
  ·exact zAX h (by(try clear hrec);(try clear h);rw[hs];rfl)
  ·rename_i hlf
   exact zAX h (by(try clear hrec);(try clear h);rw[hlf,if_pos hs];simp)
  ·rename_i hlf hkd
   have hnk:¬ (v.kind≠5∧v.kind≠6):=by clear h;grind
   have hok2:(decide (4000<v.l.length)||decide (v.kind=5)&&decide (v.m.length≠0)||decide (v.kind=6)&&decide (v.m.length≠v.l.length))=true:=by clear h;grind
   exact zAX h (by(try clear hrec);(try clear h);rw[if_neg hnk,hok2];simp)
  rename_i hlf hkd
  have hok:=hs
  clear hs
  have hnk:¬ (v.kind≠5∧v.kind≠6):=by clear h;grind
  have hok2:(decide (4000<v.l.length)||decide (v.kind=5)&&decide (v.m.length≠0)||decide (v.kind=6)&&decide (v.m.length≠v.l.length))=false:=by clear h;grind
  rw[if_neg hnk,hok2,hlf] at h
  clear hok hok2 hkd hnk hlf
  refine zAF (ι:=Nat) (fun i=>[(1,.ptr 0 0),(3,.int .i64 i)]) (fun _=>S 1 (updB g0 0 (.cells 32 (zAW v))) []) (fun i=>i≤(v.l).length∧v.l.all formed=(v.l.drop i).all formed) (fun i=>(v.l).length-i) ?_ 0 ⟨Nat.zero_le _,by first|rfl|trivial|simp⟩ ⟨rfl,rfl,trivial⟩ rfl;rintro i b ⟨hi,he⟩ hrec;rcases Nat.lt_or_ge i (v.l).length with hlt|hge
  ·obtain⟨hx,hmem,hcnd⟩:=zF3 hlt;rw[List.drop_eq_getElem_cons hlt] at he
   rw[List.all_cons] at he
   repeat' (first|refine k1 _ hmem _ _ ?_|refine wk ?_|refine fk ?_ ?_<;>intro hs|exact⟨⟩|fail)
   ·skip
    exact zAX h (by(try clear hrec);(try clear h);rw[he,hs];simp)
   ·skip
    exact hrec (i+1) _ _ _ ⟨hlt,by rw[he,hs];rfl⟩ (by omega) ⟨rfl,rfl,trivial⟩ rfl
  ·have hcnd:=zDN hge;rw[List.drop_eq_nil_of_le hge] at he
   rw[he] at h
   clear he hrec hi k1
   repeat' (first|refine wk ?_|refine fk ?_ ?_<;>intro hs|exact⟨⟩|fail)
   clear hcnd hge
   refine zAF (ι:=Nat) (fun i=>[(1,.ptr 0 0),(4,.int .i64 i)]) (fun _=>S 1 (updB g0 0 (.cells 32 (zAW v))) []) (fun i=>i≤(v.m).length∧v.m.all formed=(v.m.drop i).all formed) (fun i=>(v.m).length-i) ?_ 0 ⟨Nat.zero_le _,by first|rfl|trivial|simp⟩ ⟨rfl,rfl,trivial⟩ rfl;rintro i b ⟨hi,he⟩ hrec;rcases Nat.lt_or_ge i (v.m).length with hlt|hge
   ·obtain⟨hx,hmem,hcnd⟩:=zF3 hlt;rw[List.drop_eq_getElem_cons hlt] at he
    rw[List.all_cons] at he
    repeat' (first|refine k2 _ hmem _ _ ?_|refine wk ?_|refine fk ?_ ?_<;>intro hs|exact⟨⟩|fail)
    ·skip
     exact zAX h (by(try clear hrec);(try clear h);rw[he,hs];simp)
    ·skip
     exact hrec (i+1) _ _ _ ⟨hlt,by rw[he,hs];rfl⟩ (by omega) ⟨rfl,rfl,trivial⟩ rfl
   ·have hcnd:=zDN hge;rw[List.drop_eq_nil_of_le hge] at he
    repeat' (first|refine c216 k3 ?_|refine wk ?_|refine fk ?_ ?_<;>intro hs|exact⟨⟩|fail)
    exact zAX h (by(try clear hrec);(try clear h);rw[he];simp)
theorem c160:∀(N:Nat) {v:V} {s:Sto},szV v<N→szV v<4611686018427387904→∀{Q:CR→Sto→Prop},Q (.ret (.tuple [.int .i64 (cntV v),.int .i64 (depV v)])) s→C E1 160 [encV v] s Q:=by
 intro N
 induction N with
 | zero=>intro v s h;exact absurd h (Nat.not_lt_zero _)
 | succ N ih=>
  intro v s hN hl Q h
  have ev:=zD2 v
  have k1:∀x∈v.l,∀s Q,Q (.ret (.tuple [.int .i64 (cntV x),.int .i64 (depV x)])) s→C E1 160 [encV x] s Q:=fun x hx s Q h=>ih (by have:=szVs_mem hx;omega) (by have:=szVs_mem hx;omega) h
  have k2:∀x∈v.m,∀s Q,Q (.ret (.tuple [.int .i64 (cntV x),.int .i64 (depV x)])) s→C E1 160 [encV x] s Q:=fun x hx s Q h=>ih (by have:=szVs_mem hx;omega) (by have:=szVs_mem hx;omega) h
  have k4:=szVs_len v.l
  have k5:=szVs_len v.m
  have j1:=cntV_le v
  have j2:=depV_le v
  rw[zZC,zY9] at h;rw[zZC] at j1;rw[zY9] at j2
  clear ih
  have b1:∀i,(hi:i<v.l.length)→cntVs (v.l.take (i+1))=cntVs (v.l.take i)+cntV v.l[i]∧depVs (v.l.take (i+1))=max (depVs (v.l.take i)) (depV v.l[i])∧cntVs (v.l.take (i+1))≤cntVs v.l:=fun i hi=>by
   have e:=List.take_succ_eq_append_getElem hi
   refine⟨by rw[e,cntVs_append];simp[cntVs],by rw[e,depVs_append];simp[depVs],?_⟩
   have:=cntVs_append (v.l.take (i+1)) (v.l.drop (i+1));rw[List.take_append_drop] at this;omega
  have b2:∀i,(hi:i<v.m.length)→cntVs (v.m.take (i+1))=cntVs (v.m.take i)+cntV v.m[i]∧depVs (v.m.take (i+1))=max (depVs (v.m.take i)) (depV v.m[i])∧cntVs (v.m.take (i+1))≤cntVs v.m:=fun i hi=>by
   have e:=List.take_succ_eq_append_getElem hi
   refine⟨by rw[e,cntVs_append];simp[cntVs],by rw[e,depVs_append];simp[depVs],?_⟩
   have:=cntVs_append (v.m.take (i+1)) (v.m.drop (i+1));rw[List.take_append_drop] at this;omega
  refine ci Tryz.f160 59 [.tmp 2,.tmp 3] ?_
  repeat' (first|refine wk ?_|refine fk ?_ ?_<;>intro hs|exact⟨⟩|fail)
  refine zAF (ι:=Nat) (fun i=>[(1,.ptr 0 0),(4,.int .i64 ((1+cntVs (v.l.take i):Nat):Int)),(5,.int .i64 (depVs (v.l.take i))),(6,.int .i64 i)]) (fun _=>S 1 (updB g0 0 (.cells 32 (zAW v))) []) (fun i=>i≤v.l.length) (fun i=>v.l.length-i) ?_ 0 (Nat.zero_le _) ⟨rfl,rfl,rfl,rfl,trivial⟩ rfl
  rintro i b hi hrec
  rcases Nat.lt_or_ge i v.l.length with hlt|hge
  ·have hx:v.l[i]?=some v.l[i]:=List.getElem?_eq_getElem hlt
   have hmem:v.l[i]∈v.l:=List.getElem_mem hlt
   have hcnd:decide ((i:Int)<v.l.length)=true:=by simpa using hlt
   obtain⟨c9991,c9992,c9999993⟩:=b1 i hlt
   have w1:(-9223372036854775808:Int)≤((1+cntVs (v.l.take i):Nat):Int)+(cntV v.l[i]:Int)∧((1+cntVs (v.l.take i):Nat):Int)+(cntV v.l[i]:Int)<9223372036854775808:=by omega
   repeat' (first|refine k1 _ hmem _ _ ?_|refine wk ?_|refine fk ?_ ?_<;>intro hs|exact⟨⟩|fail)
   exact hrec (i+1) _ _ _ hlt (by omega) ⟨rfl,congrArg (fun z=>some (AV.int .i64 z)) (by omega),congrArg (fun z=>some (AV.int .i64 z)) (by omega),rfl,trivial⟩ rfl
  ·have hcnd:decide ((i:Int)<v.l.length)=false:=by simpa using hge
   rw[List.take_of_length_le hge]
   clear hrec k1 b1
   repeat' (first|refine wk ?_|refine fk ?_ ?_<;>intro hs|exact⟨⟩|fail)
   clear hcnd
   refine zAF (ι:=Nat) (fun i=>[(1,.ptr 0 0),(4,.int .i64 ((1+cntVs v.l+cntVs (v.m.take i):Nat):Int)),(5,.int .i64 ((max (depVs v.l) (depVs (v.m.take i)):Nat):Int)),(9,.int .i64 i)]) (fun _=>S 1 (updB g0 0 (.cells 32 (zAW v))) []) (fun i=>i≤v.m.length) (fun i=>v.m.length-i) ?_ 0 (Nat.zero_le _) ⟨rfl,rfl,congrArg (fun z=>some (AV.int .i64 z)) (by simp[depVs]),rfl,trivial⟩ rfl
   clear hge hi i
   rintro i b hi hrec
   rcases Nat.lt_or_ge i v.m.length with hlt|hge
   ·have hx:v.m[i]?=some v.m[i]:=List.getElem?_eq_getElem hlt
    have hmem:v.m[i]∈v.m:=List.getElem_mem hlt
    have hcnd:decide ((i:Int)<v.m.length)=true:=by simpa using hlt
    obtain⟨c9991,c9992,c9999993⟩:=b2 i hlt
    have w1:(-9223372036854775808:Int)≤((1+cntVs v.l+cntVs (v.m.take i):Nat):Int)+(cntV v.m[i]:Int)∧((1+cntVs v.l+cntVs (v.m.take i):Nat):Int)+(cntV v.m[i]:Int)<9223372036854775808:=by omega
    repeat' (first|refine k2 _ hmem _ _ ?_|refine wk ?_|refine fk ?_ ?_<;>intro hs|exact⟨⟩|fail)
    exact hrec (i+1) _ _ _ hlt (by omega) ⟨rfl,congrArg (fun z=>some (AV.int .i64 z)) (by omega),congrArg (fun z=>some (AV.int .i64 z)) (by omega),rfl,trivial⟩ rfl
   ·have hcnd:decide ((i:Int)<v.m.length)=false:=by simpa using hge
    rw[List.take_of_length_le hge]
    have w1:(-9223372036854775808:Int)≤((max (depVs v.l) (depVs v.m):Nat):Int)+1∧((max (depVs v.l) (depVs v.m):Nat):Int)+1<9223372036854775808:=by omega
    clear hrec
    repeat' (first|refine wk ?_|refine fk ?_ ?_<;>intro hs|exact⟨⟩|fail)
    exact h
theorem c102 {v:V}{s:Sto}(hl:szV v<4611686018427387904){Q:CR→Sto→Prop}(h:Q (.ret (.bool (zBD v))) s):C E1 102 [encV v] s Q:=by
 refine ci Tryz.f102 20 [.tmp 2] ?_
 repeat' (first|refine c160 _ (Nat.lt_succ_self _) hl ?_|refine c161 _ (Nat.lt_succ_self _) hl ?_|refine wk ?_|refine fk ?_ ?_<;>intro hs|exact⟨⟩|fail)
 all_goals exact zAX h (by(try clear hrec);(try clear h);simp only[zBD];grind)
theorem c255:∀(N:Nat) {v:V} {ms:List Str} {s:Sto},szV v<N→szV v<4611686018427387904→ms.length<4611686018427387904→∀{Q:CR→Sto→Prop},Q (.ret (.bool (known ms v))) s→C E1 255 [encV v,.sl 0 (ms.map AV.str) .shut] s Q:=by
 intro N
 induction N with
 | zero=>intro v ms s h;exact absurd h (Nat.not_lt_zero _)
 | succ N ih=>
  intro v ms s hN hl hms Q h
  have ev:=zD2 v
  have k1:∀x∈v.l,∀s Q,Q (.ret (.bool (known ms x))) s→C E1 255 [encV x,.sl 0 (ms.map AV.str) .shut] s Q:=fun x hx s Q h=>ih (by have:=szVs_mem hx;omega) (by have:=szVs_mem hx;omega) hms h
  have k2:∀x∈v.m,∀s Q,Q (.ret (.bool (known ms x))) s→C E1 255 [encV x,.sl 0 (ms.map AV.str) .shut] s Q:=fun x hx s Q h=>ih (by have:=szVs_mem hx;omega) (by have:=szVs_mem hx;omega) hms h
  have k4:=szVs_len v.l
  have k5:=szVs_len v.m
  have hkn:known ms v=((decide (v.kind≠4)||decide (v.s∈ms))&&v.l.all (known ms)&&v.m.all (known ms)):=by
   have hL:∀l:List V,zDM ms l=l.all (known ms):=fun l=>by induction l with
    | nil=>rfl
    | cons a r ih=>simp only[zDM,List.all_cons,ih]
   cases v;simp only[known,hL];rfl
  rw[hkn] at h
  clear ih hkn
  refine ci Tryz.f255 47 [.tmp 4] ?_
  repeat' (first|refine c254 hms ?_|refine wk ?_|refine fk ?_ ?_<;>intro hs|exact⟨⟩|fail)
  ·exact zAX h (by(try clear hrec);(try clear h);grind)
  all_goals
   have hh:(decide (v.kind≠4)||decide (v.s∈ms))=true:=by clear h;grind
   rw[hh] at h
   clear hs hh
   refine zAF (ι:=Nat) (fun i=>[(1,.sl 0 (ms.map AV.str) .shut),(2,.ptr 0 0),(5,.int .i64 i)]) (fun _=>S 1 (updB g0 0 (.cells 32 (zAW v))) []) (fun i=>i≤(v.l).length∧v.l.all (known ms)=(v.l.drop i).all (known ms)) (fun i=>(v.l).length-i) ?_ 0 ⟨Nat.zero_le _,by first|rfl|trivial|simp⟩ ⟨rfl,rfl,rfl,trivial⟩ rfl;rintro i b ⟨hi,he⟩ hrec;rcases Nat.lt_or_ge i (v.l).length with hlt|hge
   ·obtain⟨hx,hmem,hcnd⟩:=zF3 hlt;rw[List.drop_eq_getElem_cons hlt] at he
    rw[List.all_cons] at he
    repeat' (first|refine k1 _ hmem _ _ ?_|refine wk ?_|refine fk ?_ ?_<;>intro hs|exact⟨⟩|fail)
    ·exact zAX h (by(try clear hrec);(try clear h);rw[he,hs];simp)
    ·exact hrec (i+1) _ _ _ ⟨hlt,by rw[he,hs];rfl⟩ (by omega) ⟨rfl,rfl,rfl,trivial⟩ rfl
   ·have hcnd:=zDN hge;rw[List.drop_eq_nil_of_le hge] at he
    rw[he] at h
    clear he hrec hi k1
    repeat' (first|refine wk ?_|refine fk ?_ ?_<;>intro hs|exact⟨⟩|fail)
    clear hcnd hge
    refine zAF (ι:=Nat) (fun i=>[(1,.sl 0 (ms.map AV.str) .shut),(2,.ptr 0 0),(6,.int .i64 i)]) (fun _=>S 1 (updB g0 0 (.cells 32 (zAW v))) []) (fun i=>i≤(v.m).length∧v.m.all (known ms)=(v.m.drop i).all (known ms)) (fun i=>(v.m).length-i) ?_ 0 ⟨Nat.zero_le _,by first|rfl|trivial|simp⟩ ⟨rfl,rfl,rfl,trivial⟩ rfl;rintro i b ⟨hi,he⟩ hrec;rcases Nat.lt_or_ge i (v.m).length with hlt|hge
    ·obtain⟨hx,hmem,hcnd⟩:=zF3 hlt;rw[List.drop_eq_getElem_cons hlt] at he
     rw[List.all_cons] at he
     repeat' (first|refine k2 _ hmem _ _ ?_|refine wk ?_|refine fk ?_ ?_<;>intro hs|exact⟨⟩|fail)
     ·exact zAX h (by(try clear hrec);(try clear h);rw[he,hs];simp)
     ·exact hrec (i+1) _ _ _ ⟨hlt,by rw[he,hs];rfl⟩ (by omega) ⟨rfl,rfl,rfl,trivial⟩ rfl
    ·have hcnd:=zDN hge;rw[List.drop_eq_nil_of_le hge] at he
     repeat' (first|refine wk ?_|refine fk ?_ ?_<;>intro hs|exact⟨⟩|fail)
     exact zAX h (by(try clear hrec);(try clear h);rw[he];simp)
theorem zLP (l:List X):litsL l=l.all lits:=by induction l with
 | nil=>rfl
 | cons a r ih=>simp only[litsL,List.all_cons,ih]
theorem c100:∀(N:Nat) {e:X} {s:Sto},szX e<N→szX e<4611686018427387904→∀{Q:CR→Sto→Prop},Q (.ret (.bool (lits e))) s→C E1 100 [encX e] s Q:=by
 intro N
 induction N with
 | zero=>intro e s h;exact absurd h (Nat.not_lt_zero _)
 | succ N ih=>
  intro e s hN hl Q h
  have ev:=zGY e
  have k1:∀x∈e.l,∀s Q,Q (.ret (.bool (lits x))) s→C E1 100 [encX x] s Q:=fun x hx s Q h=>ih (by have:=szXs_mem hx;omega) (by have:=szXs_mem hx;omega) h
  have k4:=szXs_len e.l
  have k5:szV e.v<4611686018427387904:=by omega
  have hkn:lits e=((decide (e.kind≠1)||zBD e.v)&&e.l.all lits):=by cases e;simp only[lits,zLP];rfl
  rw[hkn] at h
  clear ih hkn
  refine ci Tryz.f100 27 [.tmp 2] ?_
  repeat' (first|refine c102 k5 ?_|refine wk ?_|refine fk ?_ ?_<;>intro hs|exact⟨⟩|fail)
  ·exact zAX h (by(try clear hrec);(try clear h);grind)
  all_goals
   have hh:(decide (e.kind≠1)||zBD e.v)=true:=by clear h;grind
   rw[hh] at h
   clear hs hh
   refine zAF (ι:=Nat) (fun i=>[(1,.ptr 0 0),(3,.int .i64 i)]) (fun _=>S 1 (updB g0 0 (.cells 34 (zAL e))) []) (fun i=>i≤(e.l).length∧e.l.all lits=(e.l.drop i).all lits) (fun i=>(e.l).length-i) ?_ 0 ⟨Nat.zero_le _,by first|rfl|trivial|simp⟩ ⟨rfl,rfl,trivial⟩ rfl;rintro i b ⟨hi,he⟩ hrec;rcases Nat.lt_or_ge i (e.l).length with hlt|hge
   ·obtain⟨hx,hmem,hcnd⟩:=zF3 hlt;rw[List.drop_eq_getElem_cons hlt] at he
    rw[List.all_cons] at he
    repeat' (first|refine k1 _ hmem _ _ ?_|refine wk ?_|refine fk ?_ ?_<;>intro hs|exact⟨⟩|fail)
    ·exact zAX h (by(try clear hrec);(try clear h);rw[he,hs];simp)
    ·exact hrec (i+1) _ _ _ ⟨hlt,by rw[he,hs];rfl⟩ (by omega) ⟨rfl,rfl,trivial⟩ rfl
   ·have hcnd:=zDN hge;rw[List.drop_eq_nil_of_le hge] at he
    repeat' (first|refine wk ?_|refine fk ?_ ?_<;>intro hs|exact⟨⟩|fail)
    exact zAX h (by(try clear hrec);(try clear h);rw[he];simp)
theorem c101 {l:List X}{s:Sto}(hl:szXs l<4611686018427387904){Q:CR→Sto→Prop}(h:Q (.ret (.bool (l.all lits))) s):C E1 101 [.sl 0 (l.map encX) .shut] s Q:=by
 have k4:=szXs_len l
 have k1:∀x∈l,∀s Q,Q (.ret (.bool (lits x))) s→C E1 100 [encX x] s Q:=fun x hx s Q h=>c100 _ (Nat.lt_succ_self _) (by have:=szXs_mem hx;omega) h
 refine ci Tryz.f101 16 [.tmp 2] ?_
 repeat' (first|refine wk ?_|refine fk ?_ ?_<;>intro hs|exact⟨⟩|fail)
 refine zAF (ι:=Nat) (fun i=>[(0,.sl 0 (l.map encX) .shut),(3,.int .i64 i)]) (fun _=>S 0 g0 []) (fun i=>i≤(l).length∧l.all lits=(l.drop i).all lits) (fun i=>(l).length-i) ?_ 0 ⟨Nat.zero_le _,by first|rfl|trivial|simp⟩ ⟨rfl,rfl,trivial⟩ rfl;rintro i b ⟨hi,he⟩ hrec;rcases Nat.lt_or_ge i (l).length with hlt|hge
 ·obtain⟨hx,hmem,hcnd⟩:=zF3 hlt;rw[List.drop_eq_getElem_cons hlt] at he
  rw[List.all_cons] at he
  repeat' (first|refine k1 _ hmem _ _ ?_|refine wk ?_|refine fk ?_ ?_<;>intro hs|exact⟨⟩|fail)
  ·exact zAX h (by(try clear hrec);(try clear h);rw[he,hs];simp)
  ·exact hrec (i+1) _ _ _ ⟨hlt,by rw[he,hs];rfl⟩ (by omega) ⟨rfl,rfl,trivial⟩ rfl
 ·have hcnd:=zDN hge;rw[List.drop_eq_nil_of_le hge] at he
  repeat' (first|refine wk ?_|refine fk ?_ ?_<;>intro hs|exact⟨⟩|fail)
  exact zAX h (by(try clear hrec);(try clear h);rw[he];simp)
theorem c260 {e:X}{i:Nat}{s:Sto}{Q:CR→Sto→Prop}(h:Q (.ret (.int .i64 (sees e.kind e.n i))) s):C E1 260 [encX e,.int .i64 i] s Q:=by
 refine ci Tryz.f260 33 [.tmp 4] ?_
 repeat' (first|refine wk ?_|refine fk ?_ ?_<;>intro hs|exact⟨⟩|fail)
 all_goals exact zFS h (by(try clear hrec);(try clear h);simp only[sees];grind)
theorem c322 {e:X}{s:Sto}(hl:szX e<1073741824){Q:CR→Sto→Prop}(h:Q (.ret (.bool (zLF e))) s):C E1 322 [encX e] s Q:=by
 have ev:=zGY e
 have hv:szV e.v<4611686018427387904:=by omega
 refine ci Tryz.f322 67 [.tmp 2] ?_
 repeat' (first|refine c378 hv ?_|refine wk ?_|refine fk ?_ ?_<;>intro hs|exact⟨⟩|fail)
 all_goals exact zAX h (by(try clear hrec);(try clear h);simp only[zLF];grind)
theorem c325 {sp:Pl.Spec}{d n:Int}{sc:List Int}{s:Sto}(hd:d<sp.defs.length)(hl:sp.defs.length<1073741824){Q:CR→Sto→Prop}(h:Q (.ret (.bool (callable sp d n))) s):C E1 325 [zF9 sp d sc,.int .i64 n] s Q:=by
 by_cases hn:0≤n∧n<sp.defs.length
 ·obtain⟨n0,hn1⟩:=hn
  have hx:sp.defs[n.toNat]?=some (sp.defs.getD n.toNat default):=by rw[List.getD_eq_getElem?_getD,List.getElem?_eq_getElem (by omega)];rfl
  by_cases hd0:d<0
  ·refine ci Tryz.f325 41 [.tmp 4] ?_
   repeat' (first|refine wk ?_|refine fk ?_ ?_<;>intro hs|exact⟨⟩|fail)
   ·exfalso;clear h;grind
   ·exact zAX h (by(try clear hrec);(try clear h);simp only[callable];grind)
  ·have hy:sp.defs[d.toNat]?=some (sp.defs.getD d.toNat default):=by rw[List.getD_eq_getElem?_getD,List.getElem?_eq_getElem (by omega)];rfl
   have hd1:0≤d:=by omega
   refine ci Tryz.f325 41 [.tmp 4] ?_
   repeat' (first|refine wk ?_|refine fk ?_ ?_<;>intro hs|exact⟨⟩|fail)
   all_goals first|(exfalso;clear h;grind)|exact zAX h (by(try clear hrec);(try clear h);simp only[callable];grind)
 ·refine ci Tryz.f325 41 [.tmp 4] ?_
  repeat' (first|refine wk ?_|refine fk ?_ ?_<;>intro hs|exact⟨⟩|fail)
  all_goals first|(exfalso;clear h;omega)|exact zAX h (by(try clear hrec);(try clear h);simp only[callable];grind)
theorem c261 {sp:Pl.Spec}{d:Int}{sc:List Int}{e:X}{i:Nat}{s:Sto}(hk:e.kind=6→0≤e.n∧e.n<sp.defs.length∧i<(params sp e.n).length){Q:CR→Sto→Prop}(h:Q (.ret (.int .i64 (arity sp e.kind e.n i))) s):C E1 261 [zF9 sp d sc,encX e,.int .i64 i] s Q:=by
 by_cases h6:e.kind=6
 ·obtain⟨n0,n1,n2⟩:=hk h6
  have hx:sp.defs[e.n.toNat]?=some (sp.defs.getD e.n.toNat default):=by rw[List.getD_eq_getElem?_getD,List.getElem?_eq_getElem (by omega)];rfl
  have hy:(sp.defs.getD e.n.toNat default).params[i]?=some ((params sp e.n).getD i 0):=by show(params sp e.n)[i]?=_;rw[List.getD_eq_getElem?_getD,List.getElem?_eq_getElem n2];rfl
  have hc:decide (e.kind=6)=true:=by simp[h6]
  clear hk
  refine ci Tryz.f261 21 [.tmp 6] ?_
  repeat' (first|refine wk ?_|refine fk ?_ ?_<;>intro hs|exact⟨⟩|fail)
  exact zFS h (by(try clear hrec);(try clear h);simp only[arity,h6];grind)
 ·clear hk
  refine ci Tryz.f261 21 [.tmp 6] ?_
  repeat' (first|refine wk ?_|refine fk ?_ ?_<;>intro hs|exact⟨⟩|fail)
  exact zFS h (by(try clear hrec);(try clear h);simp only[arity];grind)
theorem c256:∀(N:Nat) {e:X} {s:Sto},szX e<N→szX e<1073741824→∀{Q:CR→Sto→Prop},Q (.ret (.tuple [.int .i64 (cntX e),.int .i64 (depX e)])) s→C E1 256 [encX e] s Q:=by
 intro N
 induction N with
 | zero=>intro e s h;exact absurd h (Nat.not_lt_zero _)
 | succ N ih=>
  intro e s hN hl Q h
  have ev:=zGY e
  have k1:∀x∈e.l,∀s Q,Q (.ret (.tuple [.int .i64 (cntX x),.int .i64 (depX x)])) s→C E1 256 [encX x] s Q:=fun x hx s Q h=>ih (by have:=szXs_mem hx;omega) (by have:=szXs_mem hx;omega) h
  have k4:=szXs_len e.l
  have j1:=cntX_le e
  have j2:=depX_le e
  rw[zOU,zY8] at h;rw[zOU] at j1;rw[zY8] at j2
  clear ih
  have b1:∀i,(hi:i<e.l.length)→cntXs (e.l.take (i+1))=cntXs (e.l.take i)+cntX e.l[i]∧depXs (e.l.take (i+1))=max (depXs (e.l.take i)) (depX e.l[i])∧cntXs (e.l.take (i+1))≤cntXs e.l:=fun i hi=>by
   have e1:=List.take_succ_eq_append_getElem hi
   refine⟨by rw[e1,cntXs_append];simp[cntXs],by rw[e1,depXs_append];simp[depXs],?_⟩
   have:=cntXs_append (e.l.take (i+1)) (e.l.drop (i+1));rw[List.take_append_drop] at this;omega
  refine ci Tryz.f256 35 [.tmp 2,.tmp 3] ?_
  repeat' (first|refine wk ?_|refine fk ?_ ?_<;>intro hs|exact⟨⟩|fail)
  refine zAF (ι:=Nat) (fun i=>[(1,.ptr 0 0),(4,.int .i64 ((1+cntXs (e.l.take i):Nat):Int)),(5,.int .i64 (depXs (e.l.take i))),(6,.int .i64 i)]) (fun _=>S 1 (updB g0 0 (.cells 34 (zAL e))) []) (fun i=>i≤e.l.length) (fun i=>e.l.length-i) ?_ 0 (Nat.zero_le _) ⟨rfl,rfl,rfl,rfl,trivial⟩ rfl
  rintro i b hi hrec
  rcases Nat.lt_or_ge i e.l.length with hlt|hge
  ·have hx:e.l[i]?=some e.l[i]:=List.getElem?_eq_getElem hlt
   have hmem:e.l[i]∈e.l:=List.getElem_mem hlt
   have hcnd:decide ((i:Int)<e.l.length)=true:=by simpa using hlt
   obtain⟨c9991,c9992,c9999993⟩:=b1 i hlt
   have w1:(-9223372036854775808:Int)≤((1+cntXs (e.l.take i):Nat):Int)+(cntX e.l[i]:Int)∧((1+cntXs (e.l.take i):Nat):Int)+(cntX e.l[i]:Int)<9223372036854775808:=by omega
   repeat' (first|refine k1 _ hmem _ _ ?_|refine wk ?_|refine fk ?_ ?_<;>intro hs|exact⟨⟩|fail)
   ·exact hrec (i+1) _ _ _ hlt (by omega) ⟨rfl,congrArg (fun z=>some (AV.int .i64 z)) (by omega),congrArg (fun z=>some (AV.int .i64 z)) (by omega),rfl,trivial⟩ rfl
   ·exact hrec (i+1) _ _ _ hlt (by omega) ⟨rfl,congrArg (fun z=>some (AV.int .i64 z)) (by omega),congrArg (fun z=>some (AV.int .i64 z)) (by omega),rfl,trivial⟩ rfl
  ·have hcnd:decide ((i:Int)<e.l.length)=false:=by simpa using hge
   rw[List.take_of_length_le hge]
   have w1:(-9223372036854775808:Int)≤((depXs e.l:Nat):Int)+1∧((depXs e.l:Nat):Int)+1<9223372036854775808:=by omega
   clear hrec
   repeat' (first|refine wk ?_|refine fk ?_ ?_<;>intro hs|exact⟨⟩|fail)
   exact h
theorem c212 {a:Nat}{e:X}{s:Sto}(ha:a<1073741824)(hl:szX e<1073741824){Q:CR→Sto→Prop}(h:Q (.ret (.tuple [.int .i64 ((a+cntX e:Nat):Int),.bool (decide ((depX e:Int)≤100))])) s):C E1 212 [.int .i64 a,encX e] s Q:=by
 have j1:=cntX_le e
 refine ci Tryz.f212 18 [.tmp 4,.tmp 5] ?_
 repeat' (first|refine c256 _ (Nat.lt_succ_self _) hl ?_|refine wk ?_|refine fk ?_ ?_<;>intro hs|exact⟨⟩|fail)
 exact h
theorem c208 {l:List Str}{s:Sto}(hl:lens l<1073741824){Q:CR→Sto→Prop}(h:Q (.ret (.bool (Pl.distinct [] l))) s):C E1 208 [.sl 0 (l.map AV.str) .shut] s Q:=by
 have h1:=lens_len l
 have hsz:∀x∈l,x.length<4611686018427387904:=fun x hx=>by have:=lens_mem hx;omega
 refine ci Tryz.f208 26 [.tmp 2] ?_
 repeat' (first|refine wk ?_|refine fk ?_ ?_<;>intro hs|exact⟨⟩|fail)
 refine zAF (ι:=Nat) (fun i=>[(0,.sl 0 (l.map AV.str) .shut),(3,.int .i64 i)]) (fun _=>S 0 g0 []) (fun i=>i≤(l).length∧Pl.distinct [] l=Pl.distinct (l.take i) (l.drop i)) (fun i=>(l).length-i) ?_ 0 ⟨Nat.zero_le _,by first|rfl|trivial|simp⟩ ⟨rfl,rfl,trivial⟩ rfl;rintro i b ⟨hi,he⟩ hrec;rcases Nat.lt_or_ge i (l).length with hlt|hge
 ·have htk:(l.take i).length<4611686018427387904:=by rw[List.length_take];omega
  have hi2:i≤l.length:=hi
  obtain⟨hx,hmem,hcnd⟩:=zF3 hlt;rw[List.drop_eq_getElem_cons hlt] at he
  rw[Pl.distinct,← List.take_succ_eq_append_getElem hlt] at he
  repeat' (first|refine c253 (hsz _ hmem) ?_|refine c254 htk ?_|refine wk ?_|refine fk ?_ ?_<;>intro hs|exact⟨⟩|fail)
  all_goals first|exact zAX h (by(try clear hrec);(try clear h);rw[he];grind)|exact hrec (i+1) _ _ _ ⟨hlt,by rw[he];clear h hrec;grind⟩ (by omega) ⟨rfl,rfl,trivial⟩ rfl
 ·have hcnd:=zDN hge;rw[List.drop_eq_nil_of_le hge] at he
  rw[Pl.distinct] at he
  repeat' (first|refine wk ?_|refine fk ?_ ?_<;>intro hs|exact⟨⟩|fail)
  exact zAX h (by(try clear hrec);(try clear h);rw[he])
theorem zGD (a b:Str):bytesLt a b=ltS a b:=by
 unfold ltS;rw[← cmpS_eq]
 cases bytesLt a b with
 | true=>rfl
 | false=>cases bytesEq a b<;>rfl
theorem b_sge {E:Env}{t:TypeId}{c:Bool}{s:Sto}{x y:Str}:binA E .geq t c (.str x) (.str y) s=some (.bool (!ltS x y)):=by simp only[binA,zO3,zGD]
attribute [go_sem] b_sge
theorem c323 {l:List Str}{s:Sto}(hl:lens l<1073741824){Q:CR→Sto→Prop}(h:Q (.ret (.bool (fields l))) s):C E1 323 [.sl 0 (l.map AV.str) .shut] s Q:=by
 have h1:=lens_len l
 have hsz:∀x∈l,x.length<4611686018427387904:=fun x hx=>by have:=lens_mem hx;omega
 refine ci Tryz.f323 35 [.tmp 2] ?_
 repeat' (first|refine wk ?_|refine fk ?_ ?_<;>intro hs|exact⟨⟩|fail)
 refine zAF (ι:=Nat) (fun i=>[(0,.sl 0 (l.map AV.str) .shut),(3,.int .i64 i)]) (fun _=>S 0 g0 []) (fun i=>i≤l.length∧rise l=riseT (if i=0 then none else l[i-1]?) (l.drop i)) (fun i=>l.length-i) ?_ 0 ⟨Nat.zero_le _,rise_T l⟩ ⟨rfl,rfl,trivial⟩ rfl
 rintro i b ⟨hi,he⟩ hrec
 rcases Nat.lt_or_ge i l.length with hlt|hge
 ·obtain⟨hx,hmem,hcnd⟩:=zF3 hlt;rw[List.drop_eq_getElem_cons hlt] at he
  simp only[riseT] at he
  cases i with
  | zero=>
   have hz0:decide ((0:Int)<((0:Nat):Int))=false:=rfl
   repeat' (first|refine c253 (hsz _ hmem) ?_|refine wk ?_|refine fk ?_ ?_<;>intro hs|exact⟨⟩|fail)
   all_goals first|exact zAX h (by(try clear hrec);(try clear h);rw[fields,he];grind)|exact hrec 1 _ _ _ ⟨hlt,by rw[he];clear h hrec;simp_all⟩ (by omega) ⟨rfl,rfl,trivial⟩ rfl
  | succ i=>
   have hy:l[i]?=some l[i]:=List.getElem?_eq_getElem (by omega)
   have hz:((i+1:Nat):Int)-1=i:=by omega
   have hz0:decide ((0:Int)<((i+1:Nat):Int))=true:=decide_eq_true (by omega)
   have hif:(if i+1=0 then none else l[i+1-1]?)=some l[i]:=by rw[if_neg (by omega)];exact hy
   rw[hif] at he
   repeat' (first|refine c253 (hsz _ hmem) ?_|refine wk ?_|refine fk ?_ ?_<;>intro hs|exact⟨⟩|fail)
   all_goals first|exact zAX h (by(try clear hrec);(try clear h);rw[fields,he];grind)|exact hrec (i+2) _ _ _ ⟨hlt,by rw[he,if_neg (by omega),show i+2-1=i+1 by omega,hx];clear h hrec;simp_all⟩ (by omega) ⟨rfl,rfl,trivial⟩ rfl
 ·have hcnd:=zDN hge;rw[List.drop_eq_nil_of_le hge] at he
  simp only[riseT] at he
  repeat' (first|refine wk ?_|refine fk ?_ ?_<;>intro hs|exact⟨⟩|fail)
  exact zAX h (by(try clear hrec);(try clear h);rw[fields,he];simp)
end Go.Ab.X
namespace Go.Ab.X
open Go Go.Ab Go.Proofs Pl
set_option maxRecDepth 100000
set_option maxHeartbeats 4000000
theorem zMK {sp:Pl.Spec}{n:Int}(h0:0≤n)(h1:n<sp.defs.length):sp.defs[n.toNat]?=some (sp.defs.getD n.toNat default):=by rw[List.getD_eq_getElem?_getD,List.getElem?_eq_getElem (by omega)];rfl
theorem at_sc {sc:List Int}{n:Int}(h0:0≤n)(h1:n<sc.length):sc[n.toNat]?=some (sc.getD n.toNat 0):=by rw[List.getD_eq_getElem?_getD,List.getElem?_eq_getElem (by omega)];rfl
theorem zDI {sp:Pl.Spec}{d n:Int}(h:callable sp d n=true):0≤n∧n<sp.defs.length:=by
 simp only[callable,Bool.and_eq_true,decide_eq_true_eq] at h;exact h.1
theorem c257 {sp:Pl.Spec}{d:Int}{sc:List Int}{e:X}{s:Sto}(hd:d<sp.defs.length)(hdl:sp.defs.length<1073741824)(hml:sp.models.length<1073741824)(hvl:sp.vars.length<1073741824)(hcl:sp.consts.length<1073741824)(hsl:sc.length<1073741824)(hpl:(params sp e.n).length<1073741824)(hl:szX e<1073741824)
  {Q:CR→Sto→Prop} (h:Q (.ret (.bool (own sp d sc e))) s):C E1 257 [zF9 sp d sc,encX e] s Q:=by
 have ev:=zGY e
 have k1:szV e.v<4611686018427387904:=by omega
 have k2:sp.models.length<4611686018427387904:=by omega
 have k3:lens e.s<1073741824:=by omega
 have k4:=szXs_len e.l
 have k5:=lens_len e.s
 have hx:=@zMK sp e.n
 have hy:=@at_sc sc e.n
 have hx2:callable sp d e.n=true→sp.defs[e.n.toNat]?=some (sp.defs.getD e.n.toNat default):=fun hc=>zMK (zDI hc).1 (zDI hc).2
 have hx3:callable sp d e.n=true→asNat (.int .i64 e.n)=some e.n.toNat:=fun hc=>zGF (zDI hc).1
 have hpl2:(sp.defs.getD e.n.toNat default).params.length<1073741824:=hpl
 refine ci Tryz.f257 321 [.tmp 4] ?_
 repeat' (first|refine c322 hl ?_|refine c255 _ (Nat.lt_succ_self _) k1 k2 ?_|refine c323 k3 ?_|refine c324 ?_|refine c325 hd hdl ?_|refine wk ?_|refine fk ?_ ?_<;>intro hs|exact⟨⟩|fail)
 all_goals try exact zAX h (by(try clear hrec);(try clear h);simp only[own,params];grind)
theorem c258 {sp:Pl.Spec}{d ar:Int}{sc:List Int}{e:X}{s:Sto}(hd:d<sp.defs.length)(hdl:sp.defs.length<1073741824)(hsl:sc.length<1073741824)(hpl:(params sp e.n).length<1073741824)(hl:szX e<1073741824)
  {Q:CR→Sto→Prop} (h:Q (.ret (.bool (oper sp d sc e ar))) s):C E1 258 [zF9 sp d sc,encX e,.int .i64 ar] s Q:=by
 have ev:=zGY e
 have k4:=szXs_len e.l
 have hy:=@at_sc sc e.n
 have hx2:callable sp d e.n=true→sp.defs[e.n.toNat]?=some (sp.defs.getD e.n.toNat default):=fun hc=>zMK (zDI hc).1 (zDI hc).2
 have hx3:callable sp d e.n=true→asNat (.int .i64 e.n)=some e.n.toNat:=fun hc=>zGF (zDI hc).1
 have hpl2:(sp.defs.getD e.n.toNat default).params.length<1073741824:=hpl
 refine ci Tryz.f258 113 [.tmp 6] ?_
 repeat' (first|refine c322 hl ?_|refine c325 hd hdl ?_|refine wk ?_|refine fk ?_ ?_<;>intro hs|exact⟨⟩|fail)
 all_goals try exact zAX h (by(try clear hrec);(try clear h);simp only[oper,params];grind)
 rename_i hpx hk8 hl0
 obtain⟨hcal,hlen⟩:=hs
 obtain⟨⟨hpl3,har1⟩,har8⟩:=hpx
 subst hlen
 have hop:oper sp d sc e ((sp.defs.getD e.n.toNat default).params.length:Int)=(sp.defs.getD e.n.toNat default).params.all fun p=>decide (p=0):=by
  simp only[oper,params,hpl3,hk8,hcal];clear h;grind
 rw[hop] at h
 clear hop har1 har8 hl0 hpl3
 refine zAF (ι:=Nat) (fun i=>[(2,.int .i64 ((sp.defs.getD e.n.toNat default).params.length:Int)),(3,.ptr 0 0),(4,.ptr 1 0),(7,.int .i64 i)]) (fun _=>S 2 (updB (updB g0 0 (Box.cells 249 (zBA sp d sc))) 1 (Box.cells 34 (zAL e))) []) (fun i=>i≤((sp.defs.getD e.n.toNat default).params).length∧((sp.defs.getD e.n.toNat default).params.all fun p=>decide (p=0))=(((sp.defs.getD e.n.toNat default).params.drop i).all fun p=>decide (p=0))) (fun i=>((sp.defs.getD e.n.toNat default).params).length-i) ?_ 0 ⟨Nat.zero_le _,by first|rfl|trivial|simp⟩ ⟨rfl,rfl,rfl,rfl,trivial⟩ rfl;rintro i b ⟨hi,he⟩ hrec;rcases Nat.lt_or_ge i ((sp.defs.getD e.n.toNat default).params).length with hlt|hge
 ·obtain⟨hx,hmem,hcnd⟩:=zF3 hlt;rw[List.drop_eq_getElem_cons hlt] at he
  rw[List.all_cons] at he
  repeat' (first|refine wk ?_|refine fk ?_ ?_<;>intro hs|exact⟨⟩|fail)
  ·exact zAX h (by(try clear hrec);(try clear h);rw[he];grind)
  ·exact hrec (i+1) _ _ _ ⟨hlt,by rw[he];clear h hrec;grind⟩ (by omega) ⟨rfl,rfl,rfl,rfl,trivial⟩ rfl
 ·have hcnd:=zDN hge;rw[List.drop_eq_nil_of_le hge] at he
  repeat' (first|refine wk ?_|refine fk ?_ ?_<;>intro hs|exact⟨⟩|fail)
  exact zAX h (by(try clear hrec);(try clear h);rw[he];rfl)
end Go.Ab.X
namespace Go.Ab.X
open Go Go.Ab Go.Proofs Pl
set_option maxRecDepth 100000
theorem b_slt {E:Env}{t:TypeId}{c:Bool}{s:Sto}{x y:Str}:binA E .lss t c (.str x) (.str y) s=some (.bool (ltS x y)):=by simp only[binA,zO3,zGD]
theorem b_sgt {E:Env}{t:TypeId}{c:Bool}{s:Sto}{x y:Str}:binA E .gtr t c (.str x) (.str y) s=some (.bool (ltS y x)):=by simp only[binA,zO3,zGD]
attribute [go_sem] b_slt b_sgt
theorem c238 {a:Int}{s:Sto}{Q:CR→Sto→Prop}(h:Q (.ret (.bool false)) s):C E1 238 [.int .i64 a] s Q:=by
 refine ci Tryz.f238 6 [.tmp 2] ?_
 repeat' (first|refine wk ?_|refine fk ?_ ?_<;>intro hs|exact⟨⟩|fail)
theorem c239 {a:Str}{s:Sto}{Q:CR→Sto→Prop}(h:Q (.ret (.bool false)) s):C E1 239 [.str a] s Q:=by
 refine ci Tryz.f239 6 [.tmp 2] ?_
 repeat' (first|refine wk ?_|refine fk ?_ ?_<;>intro hs|exact⟨⟩|fail)
theorem c178 {a b:Int}{s:Sto}{Q:CR→Sto→Prop}(h:Q (.ret (.int .i64 (cmp a b))) s):C E1 178 [.int .i64 a,.int .i64 b] s Q:=by
 refine ci Tryz.f178 20 [.tmp 4] ?_
 repeat' (first|refine c238 ?_|refine wk ?_|refine fk ?_ ?_<;>intro hs|exact⟨⟩|fail)
 all_goals exact zFS h (by(try clear hrec);(try clear h);simp only[cmp];grind)
theorem c180 {a b:Str}{s:Sto}{Q:CR→Sto→Prop}(h:Q (.ret (.int .i64 (cmpS a b))) s):C E1 180 [.str a,.str b] s Q:=by
 have h1:=cmpS_neg a b
 have h2:=cmpS_rng a b
 refine ci Tryz.f180 20 [.tmp 4] ?_
 repeat' (first|refine c239 ?_|refine wk ?_|refine fk ?_ ?_<;>intro hs|exact⟨⟩|fail)
 all_goals exact zFS h (by(try clear hrec);(try clear h);simp only[ltS] at *;grind)
theorem c177 {a b:Int}{s:Sto}{o:Own}{Q:CR→Sto→Prop}(h:Q (.ret (.int .i64 (if a≠0 then a else b))) s):C E1 177 [.sl 0 [.int .i64 a,.int .i64 b] o] s Q:=by
 refine ci Tryz.f177 18 [.tmp 2] ?_
 repeat' (first|refine yAG ?_|refine wk ?_|refine fk ?_ ?_<;>intro hs|exact⟨⟩|fail)
 all_goals exact zFS h (by(try clear hrec);(try clear h);grind)
theorem c179 {a b:V}{s:Sto}(ha:szV a<1073741824)(hb:szV b<1073741824){Q:CR→Sto→Prop}(h:Q (.ret (.int .i64 (cmpI a.neg a.d b.neg b.d))) s):C E1 179 [.agg [.bool a.neg,.sl 0 (a.d.map iv) .shut],.agg [.bool b.neg,.sl 0 (b.d.map iv) .shut]] s Q:=by
 rw[zD2] at ha hb
 have ha1:a.d.length<1073741824:=by omega
 have hb1:b.d.length<1073741824:=by omega
 clear ha hb
 refine ci Tryz.f179 49 [.tmp 4] ?_
 repeat' (first|refine c178 ?_|refine wk ?_|refine fk ?_ ?_<;>intro hs|exact⟨⟩|fail)
 ·exact zFS h (by(try clear hrec);(try clear h);simp only[cmpI];grind)
 ·exact zFS h (by(try clear hrec);(try clear h);simp only[cmpI];grind)
 have hI:cmpI a.neg a.d b.neg b.d=(if b.neg=true then -(if a.d.length≠b.d.length then cmp a.d.length b.d.length else cmpD a.d.reverse b.d.reverse) else(if a.d.length≠b.d.length then cmp a.d.length b.d.length else cmpD a.d.reverse b.d.reverse)):=by
  simp only[cmpI];rw[if_neg (by simp[hs]),hs]
 rw[hI] at h
 clear hI hs
 refine zAF (ι:=Nat×Int) (fun x=>[(2,.ptr 0 0),(3,.ptr 1 0),(5,.int .i64 x.2),(6,.int .i64 ((x.1:Int)-1))]) (fun _=>S 2 (updB (updB g0 0 (Box.cells 29 [AV.bool b.neg,AV.sl 0 (List.map iv a.d) Own.shut])) 1 (Box.cells 29 [AV.bool b.neg,AV.sl 0 (List.map iv b.d) Own.shut])) [])
  (fun x=>(-1≤x.2∧x.2≤1)∧x.1≤a.d.length∧(x.2=0→b.d.length=a.d.length)∧(if a.d.length≠b.d.length then cmp a.d.length b.d.length else cmpD a.d.reverse b.d.reverse)=(if x.2=0 then cmpD (a.d.take x.1).reverse (b.d.take x.1).reverse else x.2)) (fun x=>x.1) ?_ (a.d.length,cmp a.d.length b.d.length)
  ⟨zR4 _ _,Nat.le_refl _,fun e=>by have:=(zGR _ _).1 e;omega,by
   simp only
   by_cases e:a.d.length=b.d.length
   ·rw[if_neg (by simp[e]),if_pos ((zGR _ _).2 (by omega)),List.take_length,e,List.take_length]
   ·rw[if_pos e,if_neg (fun e2=>e (by have:=(zGR _ _).1 e2;omega))]⟩ ⟨rfl,rfl,rfl,rfl,trivial⟩ rfl
 rintro⟨k,c⟩ b0 ⟨hrg,hk,hlen,he⟩ hrec
 simp only at hrg hk hlen he
 obtain⟨hr1,hr2⟩:=hrg
 rw[he] at h
 by_cases hc:c=0
 ·subst hc
  rw[if_pos rfl] at h he
  have hlen:=hlen rfl
  cases k with
  | zero=>
   have hz:decide ((0:Int)≤((0:Nat):Int)-1)=false:=rfl
   cases hbn:b.neg with
   | true=>
    rw[hbn] at hrec
    repeat' (first|refine wk ?_|refine fk ?_ ?_<;>intro hs|exact⟨⟩|fail)
    rw[if_pos hbn] at h
    exact h
   | false=>
    rw[hbn] at hrec
    repeat' (first|refine wk ?_|refine fk ?_ ?_<;>intro hs|exact⟨⟩|fail)
    rw[if_neg (by simp[hbn])] at h
    exact h
  | succ k=>
   have hz:((k+1:Nat):Int)-1=k:=by omega
   have hcn:decide ((0:Int)≤k)=true:=by simp
   have hkb:k<b.d.length:=by omega
   have hx:a.d[k]?=some a.d[k]:=List.getElem?_eq_getElem hk
   have hy:b.d[k]?=some b.d[k]:=List.getElem?_eq_getElem hkb
   have hrg2:=zR4 a.d[k] b.d[k]
   rw[List.take_succ_eq_append_getElem hk,List.take_succ_eq_append_getElem hkb,List.reverse_append,List.reverse_append,List.reverse_singleton,List.reverse_singleton,List.singleton_append,List.singleton_append,cmpD] at he
   clear hlen
   have hlen:b.d.length=a.d.length∨True:=.inr trivial
   repeat' (first|refine c178 ?_|refine wk ?_|refine fk ?_ ?_<;>intro hs|exact⟨⟩|fail)
   exact hrec (k,cmp a.d[k] b.d[k]) _ _ _ ⟨hrg2,by omega,fun _=>by omega,he⟩ (by simp) ⟨rfl,rfl,rfl,rfl,trivial⟩ rfl
 ·have hcc:decide (c=0)=false:=decide_eq_false hc
  rw[if_neg hc] at h he
  clear hc
  cases hbn:b.neg with
  | true=>
   rw[hbn] at hrec
   repeat' (first|refine wk ?_|refine fk ?_ ?_<;>intro hs|exact⟨⟩|fail)
   rw[if_pos hbn] at h
   exact leaf h (congrArg (AV.int .i64) (by omega))
  | false=>
   rw[hbn] at hrec
   repeat' (first|refine wk ?_|refine fk ?_ ?_<;>intro hs|exact⟨⟩|fail)
   rw[if_neg (by simp[hbn])] at h
   exact h
end Go.Ab.X
end
