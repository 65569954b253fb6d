/- A part. -/
import Derived.Test.YtfjmlhpdcaeabaaGreatDoorK1
set_option linter.all false
noncomputable section
namespace Go.Ab.X
open Go Go.Ab Go.Proofs Pl
set_option maxRecDepth 100000
theorem c173 {e:X}{i:Int}{s:Sto}(hl:e.l.length<4611686018427387904){Q:CR→Sto→Prop}(h:Q (.ret (.int .i64 (binds e.kind e.n i e.l.length))) s):C E1 173 [encX e,.int .i64 i] s Q:=by
 refine zAF (md:=⟨true,false,false,false⟩) (fn:=Tryz.f173) (n:=30) (rs:=[.tmp 4]) rfl rfl rfl rfl rfl rfl rfl (by simp only[go_sem, *];try rfl) (by rfl) (by simp only[go_sem]) ?_
 repeat' (first|simp (disch:=first|assumption|omega) only[go_sem, *]|((first|apply gw_m|apply gw_q);focus (intro hb;(try simp only[nbw] at hb);simp (disch:=first|assumption|omega) only[go_sem, *];rfl))|((first|refine zAB ?_ ?_|refine zAA ?_ ?_|refine sp_C ?_ ?_|refine sp_G ?_ ?_)<;>intro _))
 all_goals (simp only[decide_eq_true_eq,decide_eq_false_iff_not,Bool.not_eq_true',Bool.not_eq_false'] at *;refine leaf h ?_;simp[binds, *])
theorem c151 {α σ:Type}{h:α→AV}{l:List α}{fv:AV}{p:σ→α→Bool×σ}{G:σ→Nat→Box}{a:σ}{m:Nat}{u:List (Nat×Nat)}(hl:l.length<4611686018427387904)(hu:zAS m u=true)(hu2:zAK m u=u)
  (hsz:∀x,llen (cellsOf (h x))=7) (hld:∀x,pick1 (E1.types 32) (cellsOf (h x)) 0=some (h x)) (hfv:zA0 (S m (G a) u) fv=some (fv,S m (G a) u))
  (hp:∀x∈l,∀a Q,Q (.ret (.bool (p a x).1)) (S m (G (p a x).2) u)→CV E1 fv [h x] (S m (G a) u) Q) {Q:CR→Sto→Prop}
  (hq:∀i:Int,(0≤i↔(anyS p a l).1=true)→Q (.ret (.int .i64 i)) (S m (G (anyS p a l).2) u)):C E1 151 [.sl 0 (l.map h) .shut,fv] (S m (G a) u) Q:=by
 refine zAG (md:=⟨false,false,false,false⟩) (fn:=Tryz.f151) (n:=19) (rs:=[.tmp 4]) rfl rfl rfl rfl rfl rfl rfl (by simp only[go_sem, *];try rfl) (by rfl) ?_
 repeat' (first|simp (disch:=first|assumption|omega) only[go_sem, *]|((first|apply gw_m|apply gw_q);focus (intro hb;(try simp only[nbw] at hb);simp (disch:=first|assumption|omega) only[go_sem, *];rfl))|((first|refine zAB ?_ ?_|refine zAA ?_ ?_|refine sp_C ?_ ?_|refine sp_G ?_ ?_)<;>intro _))
 refine zAL (ι:=Nat×σ) (fun i=>[(8,.int .i64 i.1),(7,.int .i64 l.length),(1,fv),(0,.sl 0 (l.map h) .shut)]) (fun i=>S m (G i.2) u) (fun i=>i.1≤l.length∧anyS p i.2 (l.drop i.1)=anyS p a l) (fun i=>l.length-i.1) ?_ (0,a) ⟨Nat.zero_le _,rfl⟩ ⟨rfl,rfl,rfl,rfl,trivial⟩ rfl
 rintro⟨i,a1⟩ b ⟨hi,he⟩ hrec
 simp only at hi he
 rcases Nat.lt_or_ge i l.length with hlt|hge
 ·have hx:l[i]?=some l[i]:=List.getElem?_eq_getElem hlt
  have hmem:l[i]∈l:=List.getElem_mem hlt
  rw[List.drop_eq_getElem_cons hlt,anyS] at he
  have hc:decide ((i:Int)<l.length)=true:=by simpa using hlt
  repeat' (first|refine zJ4 ?_|refine hp _ hmem _ _ ?_|simp (disch:=first|assumption|omega) only[go_sem, *]|((first|apply gw_m|apply gw_q);focus (intro hb;(try simp only[nbw] at hb);simp (disch:=first|assumption|omega) only[go_sem, *];rfl))|((first|refine zAB ?_ ?_|refine zAA ?_ ?_|refine sp_C ?_ ?_|refine sp_G ?_ ?_)<;>intro _))
  ·rename_i hpt
   rw[if_pos hpt] at he
   have:=hq i (by rw[← he];simp)
   rw[← he] at this
   exact this
  ·rename_i hpf
   rw[if_neg (by rw[hpf];simp)] at he
   exact hrec (i+1,(p a1 l[i]).2) _ _ _ ⟨hlt,he⟩ (by simp only;omega) ⟨rfl,rfl,rfl,rfl,trivial⟩ rfl
 ·have hc:decide ((i:Int)<l.length)=false:=by simpa using hge
  rw[List.drop_eq_nil_of_le hge,anyS] at he
  repeat' (first|simp (disch:=first|assumption|omega) only[go_sem, *]|((first|apply gw_m|apply gw_q);focus (intro hb;(try simp only[nbw] at hb);simp (disch:=first|assumption|omega) only[go_sem, *];rfl))|((first|refine zAB ?_ ?_|refine zAA ?_ ?_|refine sp_C ?_ ?_|refine sp_G ?_ ?_)<;>intro _))
  have:=hq (-1) (by rw[← he];simp)
  rw[← he] at this
  exact this
theorem c60 {α σ:Type}{h:α→AV}{l:List α}{fv:AV}{p:σ→α→Bool×σ}{G:σ→Nat→Box}{a:σ}{m:Nat}{u:List (Nat×Nat)}(hl:l.length<4611686018427387904)(hu:zAS m u=true)(hu2:zAK m u=u)
  (hsz:∀x,llen (cellsOf (h x))=7) (hld:∀x,pick1 (E1.types 32) (cellsOf (h x)) 0=some (h x)) (hfv:zA0 (S m (G a) u) fv=some (fv,S m (G a) u))
  (hp:∀x∈l,∀a Q,Q (.ret (.bool (p a x).1)) (S m (G (p a x).2) u)→CV E1 fv [h x] (S m (G a) u) Q) {Q:CR→Sto→Prop}
  (hq:Q (.ret (.bool (anyS p a l).1)) (S m (G (anyS p a l).2) u)):C E1 60 [.sl 0 (l.map h) .shut,fv] (S m (G a) u) Q:=by
 refine zAG (md:=⟨false,false,false,false⟩) (fn:=Tryz.f60) (n:=9) (rs:=[.tmp 4]) rfl rfl rfl rfl rfl rfl rfl (by simp only[go_sem, *];try rfl) (by rfl) ?_
 repeat' (first|simp (disch:=first|assumption|omega) only[go_sem, *]|((first|apply gw_m|apply gw_q);focus (intro hb;(try simp only[nbw] at hb);simp (disch:=first|assumption|omega) only[go_sem, *];rfl))|((first|refine zAB ?_ ?_|refine zAA ?_ ?_|refine sp_C ?_ ?_|refine sp_G ?_ ?_)<;>intro _))
 refine c151 (p:=p) (G:=G) (a:=a) hl hu hu2 hsz hld hfv hp (fun i hi=>?_)
 repeat' (first|simp (disch:=first|assumption|omega) only[go_sem, *]|((first|apply gw_m|apply gw_q);focus (intro hb;(try simp only[nbw] at hb);simp (disch:=first|assumption|omega) only[go_sem, *];rfl))|((first|refine zAB ?_ ?_|refine zAA ?_ ?_|refine sp_C ?_ ?_|refine sp_G ?_ ?_)<;>intro _))
 exact leaf hq (by simp)
theorem c154 {α σ:Type}{h:α→AV}{l:List α}{fv:AV}{p:σ→α→Bool×σ}{G:σ→Nat→Box}{a:σ}{m:Nat}{u:List (Nat×Nat)}(hl:l.length<4611686018427387904)(hu:zAS m u=true)(hu2:zAK m u=u)
  (hsz:∀x,llen (cellsOf (h x))=8) (hld:∀x,pick1 (E1.types 107) (cellsOf (h x)) 0=some (h x)) (hfv:zA0 (S m (G a) u) fv=some (fv,S m (G a) u))
  (hp:∀x∈l,∀a Q,Q (.ret (.bool (p a x).1)) (S m (G (p a x).2) u)→CV E1 fv [h x] (S m (G a) u) Q) {Q:CR→Sto→Prop}
  (hq:∀i:Int,(0≤i↔(anyS p a l).1=true)→Q (.ret (.int .i64 i)) (S m (G (anyS p a l).2) u)):C E1 154 [.sl 0 (l.map h) .shut,fv] (S m (G a) u) Q:=by
 refine zAG (md:=⟨false,false,false,false⟩) (fn:=Tryz.f154) (n:=19) (rs:=[.tmp 4]) rfl rfl rfl rfl rfl rfl rfl (by simp only[go_sem, *];try rfl) (by rfl) ?_
 repeat' (first|simp (disch:=first|assumption|omega) only[go_sem, *]|((first|apply gw_m|apply gw_q);focus (intro hb;(try simp only[nbw] at hb);simp (disch:=first|assumption|omega) only[go_sem, *];rfl))|((first|refine zAB ?_ ?_|refine zAA ?_ ?_|refine sp_C ?_ ?_|refine sp_G ?_ ?_)<;>intro _))
 refine zAL (ι:=Nat×σ) (fun i=>[(8,.int .i64 i.1),(7,.int .i64 l.length),(1,fv),(0,.sl 0 (l.map h) .shut)]) (fun i=>S m (G i.2) u) (fun i=>i.1≤l.length∧anyS p i.2 (l.drop i.1)=anyS p a l) (fun i=>l.length-i.1) ?_ (0,a) ⟨Nat.zero_le _,rfl⟩ ⟨rfl,rfl,rfl,rfl,trivial⟩ rfl
 rintro⟨i,a1⟩ b ⟨hi,he⟩ hrec
 simp only at hi he
 rcases Nat.lt_or_ge i l.length with hlt|hge
 ·have hx:l[i]?=some l[i]:=List.getElem?_eq_getElem hlt
  have hmem:l[i]∈l:=List.getElem_mem hlt
  rw[List.drop_eq_getElem_cons hlt,anyS] at he
  have hc:decide ((i:Int)<l.length)=true:=by simpa using hlt
  repeat' (first|refine zJ4 ?_|refine hp _ hmem _ _ ?_|simp (disch:=first|assumption|omega) only[go_sem, *]|((first|apply gw_m|apply gw_q);focus (intro hb;(try simp only[nbw] at hb);simp (disch:=first|assumption|omega) only[go_sem, *];rfl))|((first|refine zAB ?_ ?_|refine zAA ?_ ?_|refine sp_C ?_ ?_|refine sp_G ?_ ?_)<;>intro _))
  ·rename_i hpt
   rw[if_pos hpt] at he
   have:=hq i (by rw[← he];simp)
   rw[← he] at this
   exact this
  ·rename_i hpf
   rw[if_neg (by rw[hpf];simp)] at he
   exact hrec (i+1,(p a1 l[i]).2) _ _ _ ⟨hlt,he⟩ (by simp only;omega) ⟨rfl,rfl,rfl,rfl,trivial⟩ rfl
 ·have hc:decide ((i:Int)<l.length)=false:=by simpa using hge
  rw[List.drop_eq_nil_of_le hge,anyS] at he
  repeat' (first|simp (disch:=first|assumption|omega) only[go_sem, *]|((first|apply gw_m|apply gw_q);focus (intro hb;(try simp only[nbw] at hb);simp (disch:=first|assumption|omega) only[go_sem, *];rfl))|((first|refine zAB ?_ ?_|refine zAA ?_ ?_|refine sp_C ?_ ?_|refine sp_G ?_ ?_)<;>intro _))
  have:=hq (-1) (by rw[← he];simp)
  rw[← he] at this
  exact this
theorem c69 {α σ:Type}{h:α→AV}{l:List α}{fv:AV}{p:σ→α→Bool×σ}{G:σ→Nat→Box}{a:σ}{m:Nat}{u:List (Nat×Nat)}(hl:l.length<4611686018427387904)(hu:zAS m u=true)(hu2:zAK m u=u)
  (hsz:∀x,llen (cellsOf (h x))=8) (hld:∀x,pick1 (E1.types 107) (cellsOf (h x)) 0=some (h x)) (hfv:zA0 (S m (G a) u) fv=some (fv,S m (G a) u))
  (hp:∀x∈l,∀a Q,Q (.ret (.bool (p a x).1)) (S m (G (p a x).2) u)→CV E1 fv [h x] (S m (G a) u) Q) {Q:CR→Sto→Prop}
  (hq:Q (.ret (.bool (anyS p a l).1)) (S m (G (anyS p a l).2) u)):C E1 69 [.sl 0 (l.map h) .shut,fv] (S m (G a) u) Q:=by
 refine zAG (md:=⟨false,false,false,false⟩) (fn:=Tryz.f69) (n:=9) (rs:=[.tmp 4]) rfl rfl rfl rfl rfl rfl rfl (by simp only[go_sem, *];try rfl) (by rfl) ?_
 repeat' (first|simp (disch:=first|assumption|omega) only[go_sem, *]|((first|apply gw_m|apply gw_q);focus (intro hb;(try simp only[nbw] at hb);simp (disch:=first|assumption|omega) only[go_sem, *];rfl))|((first|refine zAB ?_ ?_|refine zAA ?_ ?_|refine sp_C ?_ ?_|refine sp_G ?_ ?_)<;>intro _))
 refine c154 (p:=p) (G:=G) (a:=a) hl hu hu2 hsz hld hfv hp (fun i hi=>?_)
 repeat' (first|simp (disch:=first|assumption|omega) only[go_sem, *]|((first|apply gw_m|apply gw_q);focus (intro hb;(try simp only[nbw] at hb);simp (disch:=first|assumption|omega) only[go_sem, *];rfl))|((first|refine zAB ?_ ?_|refine zAA ?_ ?_|refine sp_C ?_ ?_|refine sp_G ?_ ?_)<;>intro _))
 exact leaf hq (by simp)
theorem c168 {α σ:Type}{h:α→AV}{l:List α}{fv:AV}{p:σ→α→Bool×σ}{G:σ→Nat→Box}{a:σ}{m:Nat}{u:List (Nat×Nat)}(hl:l.length<4611686018427387904)(hu:zAS m u=true)(hu2:zAK m u=u)
  (hsz:∀x,llen (cellsOf (h x))=11) (hld:∀x,pick1 (E1.types 34) (cellsOf (h x)) 0=some (h x)) (hfv:zA0 (S m (G a) u) fv=some (fv,S m (G a) u))
  (hp:∀x∈l,∀a Q,Q (.ret (.bool (p a x).1)) (S m (G (p a x).2) u)→CV E1 fv [h x] (S m (G a) u) Q) {Q:CR→Sto→Prop}
  (hq:∀i:Int,(0≤i↔(anyS p a l).1=true)→Q (.ret (.int .i64 i)) (S m (G (anyS p a l).2) u)):C E1 168 [.sl 0 (l.map h) .shut,fv] (S m (G a) u) Q:=by
 refine zAG (md:=⟨false,false,false,false⟩) (fn:=Tryz.f168) (n:=19) (rs:=[.tmp 4]) rfl rfl rfl rfl rfl rfl rfl (by simp only[go_sem, *];try rfl) (by rfl) ?_
 repeat' (first|simp (disch:=first|assumption|omega) only[go_sem, *]|((first|apply gw_m|apply gw_q);focus (intro hb;(try simp only[nbw] at hb);simp (disch:=first|assumption|omega) only[go_sem, *];rfl))|((first|refine zAB ?_ ?_|refine zAA ?_ ?_|refine sp_C ?_ ?_|refine sp_G ?_ ?_)<;>intro _))
 refine zAL (ι:=Nat×σ) (fun i=>[(8,.int .i64 i.1),(7,.int .i64 l.length),(1,fv),(0,.sl 0 (l.map h) .shut)]) (fun i=>S m (G i.2) u) (fun i=>i.1≤l.length∧anyS p i.2 (l.drop i.1)=anyS p a l) (fun i=>l.length-i.1) ?_ (0,a) ⟨Nat.zero_le _,rfl⟩ ⟨rfl,rfl,rfl,rfl,trivial⟩ rfl
 rintro⟨i,a1⟩ b ⟨hi,he⟩ hrec
 simp only at hi he
 rcases Nat.lt_or_ge i l.length with hlt|hge
 ·have hx:l[i]?=some l[i]:=List.getElem?_eq_getElem hlt
  have hmem:l[i]∈l:=List.getElem_mem hlt
  rw[List.drop_eq_getElem_cons hlt,anyS] at he
  have hc:decide ((i:Int)<l.length)=true:=by simpa using hlt
  repeat' (first|refine zJ4 ?_|refine hp _ hmem _ _ ?_|simp (disch:=first|assumption|omega) only[go_sem, *]|((first|apply gw_m|apply gw_q);focus (intro hb;(try simp only[nbw] at hb);simp (disch:=first|assumption|omega) only[go_sem, *];rfl))|((first|refine zAB ?_ ?_|refine zAA ?_ ?_|refine sp_C ?_ ?_|refine sp_G ?_ ?_)<;>intro _))
  ·rename_i hpt
   rw[if_pos hpt] at he
   have:=hq i (by rw[← he];simp)
   rw[← he] at this
   exact this
  ·rename_i hpf
   rw[if_neg (by rw[hpf];simp)] at he
   exact hrec (i+1,(p a1 l[i]).2) _ _ _ ⟨hlt,he⟩ (by simp only;omega) ⟨rfl,rfl,rfl,rfl,trivial⟩ rfl
 ·have hc:decide ((i:Int)<l.length)=false:=by simpa using hge
  rw[List.drop_eq_nil_of_le hge,anyS] at he
  repeat' (first|simp (disch:=first|assumption|omega) only[go_sem, *]|((first|apply gw_m|apply gw_q);focus (intro hb;(try simp only[nbw] at hb);simp (disch:=first|assumption|omega) only[go_sem, *];rfl))|((first|refine zAB ?_ ?_|refine zAA ?_ ?_|refine sp_C ?_ ?_|refine sp_G ?_ ?_)<;>intro _))
  have:=hq (-1) (by rw[← he];simp)
  rw[← he] at this
  exact this
theorem c241 {α σ:Type}{h:α→AV}{l:List α}{fv:AV}{p:σ→α→Bool×σ}{G:σ→Nat→Box}{a:σ}{m:Nat}{u:List (Nat×Nat)}(hl:l.length<4611686018427387904)(hu:zAS m u=true)(hu2:zAK m u=u)
  (hsz:∀x,llen (cellsOf (h x))=1) (hld:∀x,pick1 (E1.types 9) (cellsOf (h x)) 0=some (h x)) (hfv:zA0 (S m (G a) u) fv=some (fv,S m (G a) u))
  (hp:∀x∈l,∀a Q,Q (.ret (.bool (p a x).1)) (S m (G (p a x).2) u)→CV E1 fv [h x] (S m (G a) u) Q) {Q:CR→Sto→Prop}
  (hq:∀i:Int,(0≤i↔(anyS p a l).1=true)→Q (.ret (.int .i64 i)) (S m (G (anyS p a l).2) u)):C E1 241 [.sl 0 (l.map h) .shut,fv] (S m (G a) u) Q:=by
 refine zAG (md:=⟨false,false,false,false⟩) (fn:=Tryz.f241) (n:=19) (rs:=[.tmp 4]) rfl rfl rfl rfl rfl rfl rfl (by simp only[go_sem, *];try rfl) (by rfl) ?_
 repeat' (first|simp (disch:=first|assumption|omega) only[go_sem, *]|((first|apply gw_m|apply gw_q);focus (intro hb;(try simp only[nbw] at hb);simp (disch:=first|assumption|omega) only[go_sem, *];rfl))|((first|refine zAB ?_ ?_|refine zAA ?_ ?_|refine sp_C ?_ ?_|refine sp_G ?_ ?_)<;>intro _))
 refine zAL (ι:=Nat×σ) (fun i=>[(8,.int .i64 i.1),(7,.int .i64 l.length),(1,fv),(0,.sl 0 (l.map h) .shut)]) (fun i=>S m (G i.2) u) (fun i=>i.1≤l.length∧anyS p i.2 (l.drop i.1)=anyS p a l) (fun i=>l.length-i.1) ?_ (0,a) ⟨Nat.zero_le _,rfl⟩ ⟨rfl,rfl,rfl,rfl,trivial⟩ rfl
 rintro⟨i,a1⟩ b ⟨hi,he⟩ hrec
 simp only at hi he
 rcases Nat.lt_or_ge i l.length with hlt|hge
 ·have hx:l[i]?=some l[i]:=List.getElem?_eq_getElem hlt
  have hmem:l[i]∈l:=List.getElem_mem hlt
  rw[List.drop_eq_getElem_cons hlt,anyS] at he
  have hc:decide ((i:Int)<l.length)=true:=by simpa using hlt
  repeat' (first|refine zJ4 ?_|refine hp _ hmem _ _ ?_|simp (disch:=first|assumption|omega) only[go_sem, *]|((first|apply gw_m|apply gw_q);focus (intro hb;(try simp only[nbw] at hb);simp (disch:=first|assumption|omega) only[go_sem, *];rfl))|((first|refine zAB ?_ ?_|refine zAA ?_ ?_|refine sp_C ?_ ?_|refine sp_G ?_ ?_)<;>intro _))
  ·rename_i hpt
   rw[if_pos hpt] at he
   have:=hq i (by rw[← he];simp)
   rw[← he] at this
   exact this
  ·rename_i hpf
   rw[if_neg (by rw[hpf];simp)] at he
   exact hrec (i+1,(p a1 l[i]).2) _ _ _ ⟨hlt,he⟩ (by simp only;omega) ⟨rfl,rfl,rfl,rfl,trivial⟩ rfl
 ·have hc:decide ((i:Int)<l.length)=false:=by simpa using hge
  rw[List.drop_eq_nil_of_le hge,anyS] at he
  repeat' (first|simp (disch:=first|assumption|omega) only[go_sem, *]|((first|apply gw_m|apply gw_q);focus (intro hb;(try simp only[nbw] at hb);simp (disch:=first|assumption|omega) only[go_sem, *];rfl))|((first|refine zAB ?_ ?_|refine zAA ?_ ?_|refine sp_C ?_ ?_|refine sp_G ?_ ?_)<;>intro _))
  have:=hq (-1) (by rw[← he];simp)
  rw[← he] at this
  exact this
theorem c157 {α σ:Type}{h:α→AV}{l:List α}{fv:AV}{p:σ→α→Bool×σ}{G:σ→Nat→Box}{a:σ}{m:Nat}{u:List (Nat×Nat)}(hl:l.length<4611686018427387904)(hu:zAS m u=true)(hu2:zAK m u=u)
  (hsz:∀x,llen (cellsOf (h x))=1) (hld:∀x,pick1 (E1.types 9) (cellsOf (h x)) 0=some (h x)) (hfv:zA0 (S m (G a) u) fv=some (fv,S m (G a) u))
  (hp:∀x∈l,∀a Q,Q (.ret (.bool (p a x).1)) (S m (G (p a x).2) u)→CV E1 fv [h x] (S m (G a) u) Q) {Q:CR→Sto→Prop}
  (hq:Q (.ret (.bool (anyS p a l).1)) (S m (G (anyS p a l).2) u)):C E1 157 [.sl 0 (l.map h) .shut,fv] (S m (G a) u) Q:=by
 refine zAG (md:=⟨false,false,false,false⟩) (fn:=Tryz.f157) (n:=9) (rs:=[.tmp 4]) rfl rfl rfl rfl rfl rfl rfl (by simp only[go_sem, *];try rfl) (by rfl) ?_
 repeat' (first|simp (disch:=first|assumption|omega) only[go_sem, *]|((first|apply gw_m|apply gw_q);focus (intro hb;(try simp only[nbw] at hb);simp (disch:=first|assumption|omega) only[go_sem, *];rfl))|((first|refine zAB ?_ ?_|refine zAA ?_ ?_|refine sp_C ?_ ?_|refine sp_G ?_ ?_)<;>intro _))
 refine c241 (p:=p) (G:=G) (a:=a) hl hu hu2 hsz hld hfv hp (fun i hi=>?_)
 repeat' (first|simp (disch:=first|assumption|omega) only[go_sem, *]|((first|apply gw_m|apply gw_q);focus (intro hb;(try simp only[nbw] at hb);simp (disch:=first|assumption|omega) only[go_sem, *];rfl))|((first|refine zAB ?_ ?_|refine zAA ?_ ?_|refine sp_C ?_ ?_|refine sp_G ?_ ?_)<;>intro _))
 exact leaf hq (by simp)
theorem c242 {α σ:Type}{h:α→AV}{l:List α}{fv:AV}{p:σ→α→Bool×σ}{G:σ→Nat→Box}{a:σ}{m:Nat}{u:List (Nat×Nat)}(hl:l.length<4611686018427387904)(hu:zAS m u=true)(hu2:zAK m u=u)
  (hsz:∀x,llen (cellsOf (h x))=1) (hld:∀x,pick1 (E1.types 3) (cellsOf (h x)) 0=some (h x)) (hfv:zA0 (S m (G a) u) fv=some (fv,S m (G a) u))
  (hp:∀x∈l,∀a Q,Q (.ret (.bool (p a x).1)) (S m (G (p a x).2) u)→CV E1 fv [h x] (S m (G a) u) Q) {Q:CR→Sto→Prop}
  (hq:∀i:Int,(0≤i↔(anyS p a l).1=true)→Q (.ret (.int .i64 i)) (S m (G (anyS p a l).2) u)):C E1 242 [.sl 0 (l.map h) .shut,fv] (S m (G a) u) Q:=by
 refine zAG (md:=⟨false,false,false,false⟩) (fn:=Tryz.f242) (n:=19) (rs:=[.tmp 4]) rfl rfl rfl rfl rfl rfl rfl (by simp only[go_sem, *];try rfl) (by rfl) ?_
 repeat' (first|simp (disch:=first|assumption|omega) only[go_sem, *]|((first|apply gw_m|apply gw_q);focus (intro hb;(try simp only[nbw] at hb);simp (disch:=first|assumption|omega) only[go_sem, *];rfl))|((first|refine zAB ?_ ?_|refine zAA ?_ ?_|refine sp_C ?_ ?_|refine sp_G ?_ ?_)<;>intro _))
 refine zAL (ι:=Nat×σ) (fun i=>[(8,.int .i64 i.1),(7,.int .i64 l.length),(1,fv),(0,.sl 0 (l.map h) .shut)]) (fun i=>S m (G i.2) u) (fun i=>i.1≤l.length∧anyS p i.2 (l.drop i.1)=anyS p a l) (fun i=>l.length-i.1) ?_ (0,a) ⟨Nat.zero_le _,rfl⟩ ⟨rfl,rfl,rfl,rfl,trivial⟩ rfl
 rintro⟨i,a1⟩ b ⟨hi,he⟩ hrec
 simp only at hi he
 rcases Nat.lt_or_ge i l.length with hlt|hge
 ·have hx:l[i]?=some l[i]:=List.getElem?_eq_getElem hlt
  have hmem:l[i]∈l:=List.getElem_mem hlt
  rw[List.drop_eq_getElem_cons hlt,anyS] at he
  have hc:decide ((i:Int)<l.length)=true:=by simpa using hlt
  repeat' (first|refine zJ4 ?_|refine hp _ hmem _ _ ?_|simp (disch:=first|assumption|omega) only[go_sem, *]|((first|apply gw_m|apply gw_q);focus (intro hb;(try simp only[nbw] at hb);simp (disch:=first|assumption|omega) only[go_sem, *];rfl))|((first|refine zAB ?_ ?_|refine zAA ?_ ?_|refine sp_C ?_ ?_|refine sp_G ?_ ?_)<;>intro _))
  ·rename_i hpt
   rw[if_pos hpt] at he
   have:=hq i (by rw[← he];simp)
   rw[← he] at this
   exact this
  ·rename_i hpf
   rw[if_neg (by rw[hpf];simp)] at he
   exact hrec (i+1,(p a1 l[i]).2) _ _ _ ⟨hlt,he⟩ (by simp only;omega) ⟨rfl,rfl,rfl,rfl,trivial⟩ rfl
 ·have hc:decide ((i:Int)<l.length)=false:=by simpa using hge
  rw[List.drop_eq_nil_of_le hge,anyS] at he
  repeat' (first|simp (disch:=first|assumption|omega) only[go_sem, *]|((first|apply gw_m|apply gw_q);focus (intro hb;(try simp only[nbw] at hb);simp (disch:=first|assumption|omega) only[go_sem, *];rfl))|((first|refine zAB ?_ ?_|refine zAA ?_ ?_|refine sp_C ?_ ?_|refine sp_G ?_ ?_)<;>intro _))
  have:=hq (-1) (by rw[← he];simp)
  rw[← he] at this
  exact this
theorem c159 {α σ:Type}{h:α→AV}{l:List α}{fv:AV}{p:σ→α→Bool×σ}{G:σ→Nat→Box}{a:σ}{m:Nat}{u:List (Nat×Nat)}(hl:l.length<4611686018427387904)(hu:zAS m u=true)(hu2:zAK m u=u)
  (hsz:∀x,llen (cellsOf (h x))=1) (hld:∀x,pick1 (E1.types 3) (cellsOf (h x)) 0=some (h x)) (hfv:zA0 (S m (G a) u) fv=some (fv,S m (G a) u))
  (hp:∀x∈l,∀a Q,Q (.ret (.bool (p a x).1)) (S m (G (p a x).2) u)→CV E1 fv [h x] (S m (G a) u) Q) {Q:CR→Sto→Prop}
  (hq:Q (.ret (.bool (anyS p a l).1)) (S m (G (anyS p a l).2) u)):C E1 159 [.sl 0 (l.map h) .shut,fv] (S m (G a) u) Q:=by
 refine zAG (md:=⟨false,false,false,false⟩) (fn:=Tryz.f159) (n:=9) (rs:=[.tmp 4]) rfl rfl rfl rfl rfl rfl rfl (by simp only[go_sem, *];try rfl) (by rfl) ?_
 repeat' (first|simp (disch:=first|assumption|omega) only[go_sem, *]|((first|apply gw_m|apply gw_q);focus (intro hb;(try simp only[nbw] at hb);simp (disch:=first|assumption|omega) only[go_sem, *];rfl))|((first|refine zAB ?_ ?_|refine zAA ?_ ?_|refine sp_C ?_ ?_|refine sp_G ?_ ?_)<;>intro _))
 refine c242 (p:=p) (G:=G) (a:=a) hl hu hu2 hsz hld hfv hp (fun i hi=>?_)
 repeat' (first|simp (disch:=first|assumption|omega) only[go_sem, *]|((first|apply gw_m|apply gw_q);focus (intro hb;(try simp only[nbw] at hb);simp (disch:=first|assumption|omega) only[go_sem, *];rfl))|((first|refine zAB ?_ ?_|refine zAA ?_ ?_|refine sp_C ?_ ?_|refine sp_G ?_ ?_)<;>intro _))
 exact leaf hq (by simp)
theorem c243 {α σ:Type}{h:α→AV}{l:List α}{fv:AV}{p:σ→α→Bool×σ}{G:σ→Nat→Box}{a:σ}{m:Nat}{u:List (Nat×Nat)}(hl:l.length<4611686018427387904)(hu:zAS m u=true)(hu2:zAK m u=u)
  (hsz:∀x,llen (cellsOf (h x))=1) (hld:∀x,pick1 (E1.types 5) (cellsOf (h x)) 0=some (h x)) (hfv:zA0 (S m (G a) u) fv=some (fv,S m (G a) u))
  (hp:∀x∈l,∀a Q,Q (.ret (.bool (p a x).1)) (S m (G (p a x).2) u)→CV E1 fv [h x] (S m (G a) u) Q) {Q:CR→Sto→Prop}
  (hq:∀i:Int,(0≤i↔(anyS p a l).1=true)→Q (.ret (.int .i64 i)) (S m (G (anyS p a l).2) u)):C E1 243 [.sl 0 (l.map h) .shut,fv] (S m (G a) u) Q:=by
 refine zAG (md:=⟨false,false,false,false⟩) (fn:=Tryz.f243) (n:=19) (rs:=[.tmp 4]) rfl rfl rfl rfl rfl rfl rfl (by simp only[go_sem, *];try rfl) (by rfl) ?_
 repeat' (first|simp (disch:=first|assumption|omega) only[go_sem, *]|((first|apply gw_m|apply gw_q);focus (intro hb;(try simp only[nbw] at hb);simp (disch:=first|assumption|omega) only[go_sem, *];rfl))|((first|refine zAB ?_ ?_|refine zAA ?_ ?_|refine sp_C ?_ ?_|refine sp_G ?_ ?_)<;>intro _))
 refine zAL (ι:=Nat×σ) (fun i=>[(8,.int .i64 i.1),(7,.int .i64 l.length),(1,fv),(0,.sl 0 (l.map h) .shut)]) (fun i=>S m (G i.2) u) (fun i=>i.1≤l.length∧anyS p i.2 (l.drop i.1)=anyS p a l) (fun i=>l.length-i.1) ?_ (0,a) ⟨Nat.zero_le _,rfl⟩ ⟨rfl,rfl,rfl,rfl,trivial⟩ rfl
 rintro⟨i,a1⟩ b ⟨hi,he⟩ hrec
 simp only at hi he
 rcases Nat.lt_or_ge i l.length with hlt|hge
 ·have hx:l[i]?=some l[i]:=List.getElem?_eq_getElem hlt
  have hmem:l[i]∈l:=List.getElem_mem hlt
  rw[List.drop_eq_getElem_cons hlt,anyS] at he
  have hc:decide ((i:Int)<l.length)=true:=by simpa using hlt
  repeat' (first|refine zJ4 ?_|refine hp _ hmem _ _ ?_|simp (disch:=first|assumption|omega) only[go_sem, *]|((first|apply gw_m|apply gw_q);focus (intro hb;(try simp only[nbw] at hb);simp (disch:=first|assumption|omega) only[go_sem, *];rfl))|((first|refine zAB ?_ ?_|refine zAA ?_ ?_|refine sp_C ?_ ?_|refine sp_G ?_ ?_)<;>intro _))
  ·rename_i hpt
   rw[if_pos hpt] at he
   have:=hq i (by rw[← he];simp)
   rw[← he] at this
   exact this
  ·rename_i hpf
   rw[if_neg (by rw[hpf];simp)] at he
   exact hrec (i+1,(p a1 l[i]).2) _ _ _ ⟨hlt,he⟩ (by simp only;omega) ⟨rfl,rfl,rfl,rfl,trivial⟩ rfl
 ·have hc:decide ((i:Int)<l.length)=false:=by simpa using hge
  rw[List.drop_eq_nil_of_le hge,anyS] at he
  repeat' (first|simp (disch:=first|assumption|omega) only[go_sem, *]|((first|apply gw_m|apply gw_q);focus (intro hb;(try simp only[nbw] at hb);simp (disch:=first|assumption|omega) only[go_sem, *];rfl))|((first|refine zAB ?_ ?_|refine zAA ?_ ?_|refine sp_C ?_ ?_|refine sp_G ?_ ?_)<;>intro _))
  have:=hq (-1) (by rw[← he];simp)
  rw[← he] at this
  exact this
theorem c161 {α σ:Type}{h:α→AV}{l:List α}{fv:AV}{p:σ→α→Bool×σ}{G:σ→Nat→Box}{a:σ}{m:Nat}{u:List (Nat×Nat)}(hl:l.length<4611686018427387904)(hu:zAS m u=true)(hu2:zAK m u=u)
  (hsz:∀x,llen (cellsOf (h x))=1) (hld:∀x,pick1 (E1.types 5) (cellsOf (h x)) 0=some (h x)) (hfv:zA0 (S m (G a) u) fv=some (fv,S m (G a) u))
  (hp:∀x∈l,∀a Q,Q (.ret (.bool (p a x).1)) (S m (G (p a x).2) u)→CV E1 fv [h x] (S m (G a) u) Q) {Q:CR→Sto→Prop}
  (hq:Q (.ret (.bool (anyS p a l).1)) (S m (G (anyS p a l).2) u)):C E1 161 [.sl 0 (l.map h) .shut,fv] (S m (G a) u) Q:=by
 refine zAG (md:=⟨false,false,false,false⟩) (fn:=Tryz.f161) (n:=9) (rs:=[.tmp 4]) rfl rfl rfl rfl rfl rfl rfl (by simp only[go_sem, *];try rfl) (by rfl) ?_
 repeat' (first|simp (disch:=first|assumption|omega) only[go_sem, *]|((first|apply gw_m|apply gw_q);focus (intro hb;(try simp only[nbw] at hb);simp (disch:=first|assumption|omega) only[go_sem, *];rfl))|((first|refine zAB ?_ ?_|refine zAA ?_ ?_|refine sp_C ?_ ?_|refine sp_G ?_ ?_)<;>intro _))
 refine c243 (p:=p) (G:=G) (a:=a) hl hu hu2 hsz hld hfv hp (fun i hi=>?_)
 repeat' (first|simp (disch:=first|assumption|omega) only[go_sem, *]|((first|apply gw_m|apply gw_q);focus (intro hb;(try simp only[nbw] at hb);simp (disch:=first|assumption|omega) only[go_sem, *];rfl))|((first|refine zAB ?_ ?_|refine zAA ?_ ?_|refine sp_C ?_ ?_|refine sp_G ?_ ?_)<;>intro _))
 exact leaf hq (by simp)
theorem c244 {α σ:Type}{h:α→AV}{l:List α}{fv:AV}{p:σ→α→Bool×σ}{G:σ→Nat→Box}{a:σ}{m:Nat}{u:List (Nat×Nat)}(hl:l.length<4611686018427387904)(hu:zAS m u=true)(hu2:zAK m u=u)
  (hsz:∀x,llen (cellsOf (h x))=14) (hld:∀x,pick1 (E1.types 110) (cellsOf (h x)) 0=some (h x)) (hfv:zA0 (S m (G a) u) fv=some (fv,S m (G a) u))
  (hp:∀x∈l,∀a Q,Q (.ret (.bool (p a x).1)) (S m (G (p a x).2) u)→CV E1 fv [h x] (S m (G a) u) Q) {Q:CR→Sto→Prop}
  (hq:∀i:Int,(0≤i↔(anyS p a l).1=true)→Q (.ret (.int .i64 i)) (S m (G (anyS p a l).2) u)):C E1 244 [.sl 0 (l.map h) .shut,fv] (S m (G a) u) Q:=by
 refine zAG (md:=⟨false,false,false,false⟩) (fn:=Tryz.f244) (n:=19) (rs:=[.tmp 4]) rfl rfl rfl rfl rfl rfl rfl (by simp only[go_sem, *];try rfl) (by rfl) ?_
 repeat' (first|simp (disch:=first|assumption|omega) only[go_sem, *]|((first|apply gw_m|apply gw_q);focus (intro hb;(try simp only[nbw] at hb);simp (disch:=first|assumption|omega) only[go_sem, *];rfl))|((first|refine zAB ?_ ?_|refine zAA ?_ ?_|refine sp_C ?_ ?_|refine sp_G ?_ ?_)<;>intro _))
 refine zAL (ι:=Nat×σ) (fun i=>[(8,.int .i64 i.1),(7,.int .i64 l.length),(1,fv),(0,.sl 0 (l.map h) .shut)]) (fun i=>S m (G i.2) u) (fun i=>i.1≤l.length∧anyS p i.2 (l.drop i.1)=anyS p a l) (fun i=>l.length-i.1) ?_ (0,a) ⟨Nat.zero_le _,rfl⟩ ⟨rfl,rfl,rfl,rfl,trivial⟩ rfl
 rintro⟨i,a1⟩ b ⟨hi,he⟩ hrec
 simp only at hi he
 rcases Nat.lt_or_ge i l.length with hlt|hge
 ·have hx:l[i]?=some l[i]:=List.getElem?_eq_getElem hlt
  have hmem:l[i]∈l:=List.getElem_mem hlt
  rw[List.drop_eq_getElem_cons hlt,anyS] at he
  have hc:decide ((i:Int)<l.length)=true:=by simpa using hlt
  repeat' (first|refine zJ4 ?_|refine hp _ hmem _ _ ?_|simp (disch:=first|assumption|omega) only[go_sem, *]|((first|apply gw_m|apply gw_q);focus (intro hb;(try simp only[nbw] at hb);simp (disch:=first|assumption|omega) only[go_sem, *];rfl))|((first|refine zAB ?_ ?_|refine zAA ?_ ?_|refine sp_C ?_ ?_|refine sp_G ?_ ?_)<;>intro _))
  ·rename_i hpt
   rw[if_pos hpt] at he
   have:=hq i (by rw[← he];simp)
   rw[← he] at this
   exact this
  ·rename_i hpf
   rw[if_neg (by rw[hpf];simp)] at he
   exact hrec (i+1,(p a1 l[i]).2) _ _ _ ⟨hlt,he⟩ (by simp only;omega) ⟨rfl,rfl,rfl,rfl,trivial⟩ rfl
 ·have hc:decide ((i:Int)<l.length)=false:=by simpa using hge
  rw[List.drop_eq_nil_of_le hge,anyS] at he
  repeat' (first|simp (disch:=first|assumption|omega) only[go_sem, *]|((first|apply gw_m|apply gw_q);focus (intro hb;(try simp only[nbw] at hb);simp (disch:=first|assumption|omega) only[go_sem, *];rfl))|((first|refine zAB ?_ ?_|refine zAA ?_ ?_|refine sp_C ?_ ?_|refine sp_G ?_ ?_)<;>intro _))
  have:=hq (-1) (by rw[← he];simp)
  rw[← he] at this
  exact this
theorem c163 {α σ:Type}{h:α→AV}{l:List α}{fv:AV}{p:σ→α→Bool×σ}{G:σ→Nat→Box}{a:σ}{m:Nat}{u:List (Nat×Nat)}(hl:l.length<4611686018427387904)(hu:zAS m u=true)(hu2:zAK m u=u)
  (hsz:∀x,llen (cellsOf (h x))=14) (hld:∀x,pick1 (E1.types 110) (cellsOf (h x)) 0=some (h x)) (hfv:zA0 (S m (G a) u) fv=some (fv,S m (G a) u))
  (hp:∀x∈l,∀a Q,Q (.ret (.bool (p a x).1)) (S m (G (p a x).2) u)→CV E1 fv [h x] (S m (G a) u) Q) {Q:CR→Sto→Prop}
  (hq:Q (.ret (.bool (anyS p a l).1)) (S m (G (anyS p a l).2) u)):C E1 163 [.sl 0 (l.map h) .shut,fv] (S m (G a) u) Q:=by
 refine zAG (md:=⟨false,false,false,false⟩) (fn:=Tryz.f163) (n:=9) (rs:=[.tmp 4]) rfl rfl rfl rfl rfl rfl rfl (by simp only[go_sem, *];try rfl) (by rfl) ?_
 repeat' (first|simp (disch:=first|assumption|omega) only[go_sem, *]|((first|apply gw_m|apply gw_q);focus (intro hb;(try simp only[nbw] at hb);simp (disch:=first|assumption|omega) only[go_sem, *];rfl))|((first|refine zAB ?_ ?_|refine zAA ?_ ?_|refine sp_C ?_ ?_|refine sp_G ?_ ?_)<;>intro _))
 refine c244 (p:=p) (G:=G) (a:=a) hl hu hu2 hsz hld hfv hp (fun i hi=>?_)
 repeat' (first|simp (disch:=first|assumption|omega) only[go_sem, *]|((first|apply gw_m|apply gw_q);focus (intro hb;(try simp only[nbw] at hb);simp (disch:=first|assumption|omega) only[go_sem, *];rfl))|((first|refine zAB ?_ ?_|refine zAA ?_ ?_|refine sp_C ?_ ?_|refine sp_G ?_ ?_)<;>intro _))
 exact leaf hq (by simp)
theorem c238 {l:List Str}{x:Str}{s:Sto}(hl:l.length<4611686018427387904){Q:CR→Sto→Prop}
  (hq:∀i:Int,(0≤i↔x∈l)→Q (.ret (.int .i64 i)) s):C E1 238 [.sl 0 (l.map AV.str) .shut,.str x] s Q:=by
 refine zAF (md:=⟨true,false,false,false⟩) (fn:=Tryz.f238) (n:=19) (rs:=[.tmp 4]) rfl rfl rfl rfl rfl rfl rfl (by simp only[go_sem, *];try rfl) (by rfl) (by simp only[go_sem]) ?_
 repeat' (first|simp (disch:=first|assumption|omega) only[go_sem, *]|((first|apply gw_m|apply gw_q);focus (intro hb;(try simp only[nbw] at hb);simp (disch:=first|assumption|omega) only[go_sem, *];rfl))|((first|refine zAB ?_ ?_|refine zAA ?_ ?_|refine sp_C ?_ ?_|refine sp_G ?_ ?_)<;>intro _))
 refine zAL (ι:=Nat) (fun i=>[(8,.int .i64 i),(7,.int .i64 l.length),(1,.str x),(0,.sl 0 (l.map AV.str) .shut)]) (fun _=>S 0 g0 []) (fun i=>i≤l.length∧(x∈l↔x∈l.drop i)) (fun i=>l.length-i) ?_ 0 ⟨Nat.zero_le _,Iff.rfl⟩ ⟨rfl,rfl,rfl,rfl,trivial⟩ rfl
 rintro i b ⟨hi,he⟩ hrec
 rcases Nat.lt_or_ge i l.length with hlt|hge
 ·have hx:l[i]?=some l[i]:=List.getElem?_eq_getElem hlt
  rw[List.drop_eq_getElem_cons hlt] at he
  have hc:decide ((i:Int)<l.length)=true:=by simpa using hlt
  repeat' (first|simp (disch:=first|assumption|omega) only[go_sem, *]|((first|apply gw_m|apply gw_q);focus (intro hb;(try simp only[nbw] at hb);simp (disch:=first|assumption|omega) only[go_sem, *];rfl))|((first|refine zAB ?_ ?_|refine zAA ?_ ?_|refine sp_C ?_ ?_|refine sp_G ?_ ?_)<;>intro _))
  ·rename_i hpt
   exact hq i (by rw[he];simp at hpt;simp[← hpt])
  ·rename_i hpf
   exact hrec (i+1) _ _ _ ⟨hlt,by simp at hpf;exact he.trans (by rw[List.mem_cons];simp[hpf])⟩ (by omega) ⟨rfl,rfl,rfl,rfl,trivial⟩ rfl
 ·have hc:decide ((i:Int)<l.length)=false:=by simpa using hge
  rw[List.drop_eq_nil_of_le hge] at he
  repeat' (first|simp (disch:=first|assumption|omega) only[go_sem, *]|((first|apply gw_m|apply gw_q);focus (intro hb;(try simp only[nbw] at hb);simp (disch:=first|assumption|omega) only[go_sem, *];rfl))|((first|refine zAB ?_ ?_|refine zAA ?_ ?_|refine sp_C ?_ ?_|refine sp_G ?_ ?_)<;>intro _))
  exact hq (-1) (by rw[he];simp)
theorem c153 {l:List Str}{x:Str}{s:Sto}(hl:l.length<4611686018427387904){Q:CR→Sto→Prop}
  (hq:Q (.ret (.bool (decide (x∈l)))) s):C E1 153 [.sl 0 (l.map AV.str) .shut,.str x] s Q:=by
 refine zAF (md:=⟨true,false,false,false⟩) (fn:=Tryz.f153) (n:=9) (rs:=[.tmp 4]) rfl rfl rfl rfl rfl rfl rfl (by simp only[go_sem, *];try rfl) (by rfl) (by simp only[go_sem]) ?_
 repeat' (first|simp (disch:=first|assumption|omega) only[go_sem, *]|((first|apply gw_m|apply gw_q);focus (intro hb;(try simp only[nbw] at hb);simp (disch:=first|assumption|omega) only[go_sem, *];rfl))|((first|refine zAB ?_ ?_|refine zAA ?_ ?_|refine sp_C ?_ ?_|refine sp_G ?_ ?_)<;>intro _))
 refine c238 hl (fun i hi=>?_)
 repeat' (first|simp (disch:=first|assumption|omega) only[go_sem, *]|((first|apply gw_m|apply gw_q);focus (intro hb;(try simp only[nbw] at hb);simp (disch:=first|assumption|omega) only[go_sem, *];rfl))|((first|refine zAB ?_ ?_|refine zAA ?_ ?_|refine sp_C ?_ ?_|refine sp_G ?_ ?_)<;>intro _))
theorem c313 {l:List Str}{x:Str}{s:Sto}(hl:l.length<4611686018427387904){Q:CR→Sto→Prop}(h:Q (.ret (.bool (decide (x∈l)))) s):C E1 313 [.sl 0 (l.map AV.str) .shut,.str x] s Q:=by
 refine zAF (md:=⟨true,false,false,false⟩) (fn:=Tryz.f313) (n:=18) (rs:=[.tmp 4]) rfl rfl rfl rfl rfl rfl rfl (by simp only[go_sem, *];try rfl) (by rfl) (by simp only[go_sem]) ?_
 repeat' (first|simp (disch:=first|assumption|omega) only[go_sem, *]|((first|apply gw_m|apply gw_q);focus (intro hb;(try simp only[nbw] at hb);simp (disch:=first|assumption|omega) only[go_sem, *];rfl))|((first|refine zAB ?_ ?_|refine zAA ?_ ?_|refine sp_C ?_ ?_|refine sp_G ?_ ?_)<;>intro _))
 refine zAL (ι:=Nat) (fun i=>[(0,.sl 0 (l.map AV.str) .shut),(1,.str x),(5,.int .i64 i)]) (fun _=>S 0 g0 []) (fun i=>i≤(l).length∧(x∈l↔x∈l.drop i)) (fun i=>(l).length-i) ?_ 0 ⟨Nat.zero_le _,by first|rfl|trivial|simp⟩ ⟨rfl,rfl,rfl,trivial⟩ rfl;rintro i b ⟨hi,he⟩ hrec;rcases Nat.lt_or_ge i (l).length with hlt|hge
 ·obtain⟨hx,hmem,hcnd⟩:=zFR hlt;rw[List.drop_eq_getElem_cons hlt] at he
  repeat' (first|simp (disch:=first|assumption|omega) only[go_sem, *]|((first|apply gw_m|apply gw_q);focus (intro hb;(try simp only[nbw] at hb);simp (disch:=first|assumption|omega) only[go_sem, *];rfl))|((first|refine zAB ?_ ?_|refine zAA ?_ ?_|refine sp_C ?_ ?_|refine sp_G ?_ ?_)<;>intro _))
  ·rename_i hp
   refine leaf h ?_
   simp only[decide_eq_true_eq] at hp
   rw[decide_eq_true (he.2 (by rw[hp];exact List.mem_cons_self ..))]
  ·rename_i hp
   simp only[decide_eq_false_iff_not] at hp
   rw[List.mem_cons] at he
   exact hrec (i+1) _ _ _ ⟨hlt,he.trans ⟨fun h=>h.resolve_left fun e=>hp e.symm,fun h=>.inr h⟩⟩ (by omega) ⟨rfl,rfl,rfl,trivial⟩ rfl
 ·have hcnd:=zDB hge;rw[List.drop_eq_nil_of_le hge] at he
  have hx:¬ x∈l:=fun h=>nomatch he.1 h
  repeat' (first|simp (disch:=first|assumption|omega) only[go_sem, *]|((first|apply gw_m|apply gw_q);focus (intro hb;(try simp only[nbw] at hb);simp (disch:=first|assumption|omega) only[go_sem, *];rfl))|((first|refine zAB ?_ ?_|refine zAA ?_ ?_|refine sp_C ?_ ?_|refine sp_G ?_ ?_)<;>intro _))
  exact leaf h (by rw[decide_eq_false hx])
theorem c312 {x:Str}{s:Sto}(hl:x.length<4611686018427387904){Q:CR→Sto→Prop}(h:Q (.ret (.bool (zCW x))) s):C E1 312 [.str x] s Q:=by
 rw[zPO] at h
 refine zAF (md:=⟨true,false,false,false⟩) (fn:=Tryz.f312) (n:=63) (rs:=[.tmp 2]) rfl rfl rfl rfl rfl rfl rfl (by simp only[go_sem, *];try rfl) (by rfl) (by simp only[go_sem]) ?_
 repeat' (first|simp (disch:=first|assumption|omega) only[go_sem, *]|((first|apply gw_m|apply gw_q);focus (intro hb;(try simp only[nbw] at hb);simp (disch:=first|assumption|omega) only[go_sem, *];rfl))|((first|refine zAB ?_ ?_|refine zAA ?_ ?_|refine sp_C ?_ ?_|refine sp_G ?_ ?_)<;>intro _))
 ·rename_i hp
  exact leaf h (congrArg AV.bool (by clear h;grind))
 rename_i h0
 refine zAL (ι:=Nat) (fun i=>[(0,.str x),(3,.int .i64 i)]) (fun _=>S 0 g0 []) (fun i=>i≤(x).length∧nameT 0 x=nameT i (x.drop i)) (fun i=>(x).length-i) ?_ 0 ⟨Nat.zero_le _,by first|rfl|trivial|simp⟩ ⟨rfl,rfl,trivial⟩ rfl;rintro i b ⟨hi,he⟩ hrec;rcases Nat.lt_or_ge i (x).length with hlt|hge
 ·obtain⟨hx,hmem,hcnd⟩:=zFR hlt;rw[List.drop_eq_getElem_cons hlt] at he
  rw[nameT] at he
  repeat' (first|simp (disch:=first|assumption|omega) only[go_sem, *]|((first|apply gw_m|apply gw_q);focus (intro hb;(try simp only[nbw] at hb);simp (disch:=first|assumption|omega) only[go_sem, *];rfl))|((first|refine zAB ?_ ?_|refine zAA ?_ ?_|refine sp_C ?_ ?_|refine sp_G ?_ ?_)<;>intro _))
  ·rename_i hp
   exact leaf h (congrArg AV.bool (by rw[he];clear h hrec;simp only[inside,letter];grind))
  ·rename_i hp
   exact hrec (i+1) _ _ _ ⟨hlt,by rw[he];clear h hrec;simp only[inside,letter];grind⟩ (by omega) ⟨rfl,rfl,trivial⟩ rfl
 ·have hcnd:=zDB hge;rw[List.drop_eq_nil_of_le hge] at he
  rw[nameT] at he
  repeat' (first|simp (disch:=first|assumption|omega) only[go_sem, *]|((first|apply gw_m|apply gw_q);focus (intro hb;(try simp only[nbw] at hb);simp (disch:=first|assumption|omega) only[go_sem, *];rfl))|((first|refine zAB ?_ ?_|refine zAA ?_ ?_|refine sp_C ?_ ?_|refine sp_G ?_ ?_)<;>intro _))
  exact leaf h (congrArg AV.bool (by rw[he];clear h hrec;grind))
theorem c383 {v:V}{s:Sto}(hl:szV v<4611686018427387904){Q:CR→Sto→Prop}(h:Q (.ret (.bool (zFS v))) s):C E1 383 [encV v] s Q:=by
 refine zAF (md:=⟨true,false,false,false⟩) (fn:=Tryz.f383) (n:=41) (rs:=[.tmp 2]) rfl rfl rfl rfl rfl rfl rfl (by simp only[go_sem, *];try rfl) (by rfl) (by simp only[go_sem]) ?_
 repeat' (first|simp (disch:=first|assumption|omega) only[go_sem, *]|((first|apply gw_m|apply gw_q);focus (intro hb;(try simp only[nbw] at hb);simp (disch:=first|assumption|omega) only[go_sem, *];rfl))|((first|refine zAB ?_ ?_|refine zAA ?_ ?_|refine sp_C ?_ ?_|refine sp_G ?_ ?_)<;>intro _))
 exact zA1 h (by(try clear hrec);(try clear h);simp only[zFS];grind)
theorem c245 {v:V}{s:Sto}(hl:szV v<4611686018427387904){Q:CR→Sto→Prop}(h:Q (.ret (.bool (zFS v))) s):C E1 245 [encV v] s Q:=by
 rw[zD3] at hl
 have h1:=szVs_len v.l
 have h2:=szVs_len v.m
 refine zAF (md:=⟨true,false,false,false⟩) (fn:=Tryz.f245) (n:=39) (rs:=[.tmp 2]) rfl rfl rfl rfl rfl rfl rfl (by simp only[go_sem, *];try rfl) (by rfl) (by simp only[go_sem]) ?_
 repeat' (first|simp (disch:=first|assumption|omega) only[go_sem, *]|((first|apply gw_m|apply gw_q);focus (intro hb;(try simp only[nbw] at hb);simp (disch:=first|assumption|omega) only[go_sem, *];rfl))|((first|refine zAB ?_ ?_|refine zAA ?_ ?_|refine sp_C ?_ ?_|refine sp_G ?_ ?_)<;>intro _))
 exact zA1 h (by(try clear hrec);(try clear h);simp only[zFS];grind)
theorem c360 {n:Int}{s:Sto}{Q:CR→Sto→Prop}(h:Q (.ret (.int .i64 (prims n))) s):C E1 360 [.int .i64 n] s Q:=by
 refine zAF (md:=⟨true,false,false,false⟩) (fn:=Tryz.f360) (n:=12) (rs:=[.tmp 2]) rfl rfl rfl rfl rfl rfl rfl (by simp only[go_sem, *];try rfl) (by rfl) (by simp only[go_sem]) ?_
 repeat' (first|simp (disch:=first|assumption|omega) only[go_sem, *]|((first|apply gw_m|apply gw_q);focus (intro hb;(try simp only[nbw] at hb);simp (disch:=first|assumption|omega) only[go_sem, *];rfl))|((first|refine zAB ?_ ?_|refine zAA ?_ ?_|refine sp_C ?_ ?_|refine sp_G ?_ ?_)<;>intro _))
 all_goals exact zFH h (by(try clear hrec);(try clear h);simp only[prims];grind)
theorem c320 {a:V}{s:Sto}{Q:CR→Sto→Prop}(h:Q (.ret (.bool (zEG a.neg a.d))) s):C E1 320 [.agg [.bool a.neg,.sl 0 (a.d.map iv) .shut]] s Q:=by
 refine zAF (md:=⟨true,false,false,false⟩) (fn:=Tryz.f320) (n:=12) (rs:=[.tmp 2]) rfl rfl rfl rfl rfl rfl rfl (by simp only[go_sem, *];try rfl) (by rfl) (by simp only[go_sem]) ?_
 repeat' (first|simp (disch:=first|assumption|omega) only[go_sem, *]|((first|apply gw_m|apply gw_q);focus (intro hb;(try simp only[nbw] at hb);simp (disch:=first|assumption|omega) only[go_sem, *];rfl))|((first|refine zAB ?_ ?_|refine zAA ?_ ?_|refine sp_C ?_ ?_|refine sp_G ?_ ?_)<;>intro _))
 exact zA1 h (by(try clear hrec);(try clear h);simp only[zEG];grind)
theorem c322 {x:Str}{s:Sto}(hl:x.length<4611686018427387904){Q:CR→Sto→Prop}(h:Q (.ret (.bool (zLM x))) s):C E1 322 [.str x] s Q:=by
 refine zAF (md:=⟨true,false,false,false⟩) (fn:=Tryz.f322) (n:=23) (rs:=[.tmp 2]) rfl rfl rfl rfl rfl rfl rfl (by simp only[go_sem, *];try rfl) (by rfl) (by simp only[go_sem]) ?_
 repeat' (first|simp (disch:=first|assumption|omega) only[go_sem, *]|((first|apply gw_m|apply gw_q);focus (intro hb;(try simp only[nbw] at hb);simp (disch:=first|assumption|omega) only[go_sem, *];rfl))|((first|refine zAB ?_ ?_|refine zAA ?_ ?_|refine sp_C ?_ ?_|refine sp_G ?_ ?_)<;>intro _))
 ·rename_i hp
  exact zA1 h (by(try clear hrec);(try clear h);simp only[zLM];grind)
 ·rename_i h0
  refine zAL (ι:=Nat) (fun i=>[(0,.str x),(3,.int .i64 i)]) (fun _=>S 0 g0 []) (fun i=>i≤(x).length∧(x.all fun c=>decide ((32:Int)≤c.toNat)&&decide ((c.toNat:Int)≤126))=((x.drop i).all fun c=>decide ((32:Int)≤c.toNat)&&decide ((c.toNat:Int)≤126))) (fun i=>(x).length-i) ?_ 0 ⟨Nat.zero_le _,by first|rfl|trivial|simp⟩ ⟨rfl,rfl,trivial⟩ rfl;rintro i b ⟨hi,he⟩ hrec;rcases Nat.lt_or_ge i (x).length with hlt|hge
  ·obtain⟨hx,hmem,hcnd⟩:=zFR hlt;rw[List.drop_eq_getElem_cons hlt] at he
   rw[List.all_cons] at he
   repeat' (first|simp (disch:=first|assumption|omega) only[go_sem, *]|((first|apply gw_m|apply gw_q);focus (intro hb;(try simp only[nbw] at hb);simp (disch:=first|assumption|omega) only[go_sem, *];rfl))|((first|refine zAB ?_ ?_|refine zAA ?_ ?_|refine sp_C ?_ ?_|refine sp_G ?_ ?_)<;>intro _))
   ·rename_i hp
    exact zA1 h (by(try clear hrec);(try clear h);simp only[zLM,he];grind)
   ·rename_i hp
    exact hrec (i+1) _ _ _ ⟨hlt,by rw[he];clear h hrec;grind⟩ (by omega) ⟨rfl,rfl,trivial⟩ rfl
  ·have hcnd:=zDB hge;rw[List.drop_eq_nil_of_le hge] at he
   repeat' (first|simp (disch:=first|assumption|omega) only[go_sem, *]|((first|apply gw_m|apply gw_q);focus (intro hb;(try simp only[nbw] at hb);simp (disch:=first|assumption|omega) only[go_sem, *];rfl))|((first|refine zAB ?_ ?_|refine zAA ?_ ?_|refine sp_C ?_ ?_|refine sp_G ?_ ?_)<;>intro _))
   exact zA1 h (by(try clear hrec);(try clear h);simp only[zLM,he];grind)
theorem c323 {x:Str}{s:Sto}(hl:x.length<4611686018427387904){Q:CR→Sto→Prop}(h:Q (.ret (.bool (zCW x))) s):C E1 323 [.str x] s Q:=by
 rw[zPO] at h
 refine zAF (md:=⟨true,false,false,false⟩) (fn:=Tryz.f323) (n:=66) (rs:=[.tmp 2]) rfl rfl rfl rfl rfl rfl rfl (by simp only[go_sem, *];try rfl) (by rfl) (by simp only[go_sem]) ?_
 repeat' (first|simp (disch:=first|assumption|omega) only[go_sem, *]|((first|apply gw_m|apply gw_q);focus (intro hb;(try simp only[nbw] at hb);simp (disch:=first|assumption|omega) only[go_sem, *];rfl))|((first|refine zAB ?_ ?_|refine zAA ?_ ?_|refine sp_C ?_ ?_|refine sp_G ?_ ?_)<;>intro _))
 ·rename_i hp
  exact zA1 h (by(try clear hrec);(try clear h);grind)
 rename_i h0
 refine zAL (ι:=Nat) (fun i=>[(0,.str x),(3,.int .i64 i)]) (fun _=>S 0 g0 []) (fun i=>i≤(x).length∧nameT 0 x=nameT i (x.drop i)) (fun i=>(x).length-i) ?_ 0 ⟨Nat.zero_le _,by first|rfl|trivial|simp⟩ ⟨rfl,rfl,trivial⟩ rfl;rintro i b ⟨hi,he⟩ hrec;rcases Nat.lt_or_ge i (x).length with hlt|hge
 ·obtain⟨hx,hmem,hcnd⟩:=zFR hlt;rw[List.drop_eq_getElem_cons hlt] at he
  rw[nameT] at he
  repeat' (first|simp (disch:=first|assumption|omega) only[go_sem, *]|((first|apply gw_m|apply gw_q);focus (intro hb;(try simp only[nbw] at hb);simp (disch:=first|assumption|omega) only[go_sem, *];rfl))|((first|refine zAB ?_ ?_|refine zAA ?_ ?_|refine sp_C ?_ ?_|refine sp_G ?_ ?_)<;>intro _))
  ·rename_i hp
   exact zA1 h (by(try clear hrec);(try clear h);rw[he];simp only[inside,letter];grind)
  ·rename_i hp
   exact hrec (i+1) _ _ _ ⟨hlt,by rw[he];clear h hrec;simp only[inside,letter];grind⟩ (by omega) ⟨rfl,rfl,trivial⟩ rfl
 ·have hcnd:=zDB hge;rw[List.drop_eq_nil_of_le hge] at he
  rw[nameT] at he
  repeat' (first|simp (disch:=first|assumption|omega) only[go_sem, *]|((first|apply gw_m|apply gw_q);focus (intro hb;(try simp only[nbw] at hb);simp (disch:=first|assumption|omega) only[go_sem, *];rfl))|((first|refine zAB ?_ ?_|refine zAA ?_ ?_|refine sp_C ?_ ?_|refine sp_G ?_ ?_)<;>intro _))
  exact zA1 h (by(try clear hrec);(try clear h);rw[he];grind)
theorem c271 {a b:Int}{s:Sto}{Q:CR→Sto→Prop}(h:Q (.ret (.int .i64 (cmp a b))) s):C E1 271 [.int .i64 a,.int .i64 b] s Q:=by
 refine zAF (md:=⟨true,false,false,false⟩) (fn:=Tryz.f271) (n:=11) (rs:=[.tmp 4]) rfl rfl rfl rfl rfl rfl rfl (by simp only[go_sem, *];try rfl) (by rfl) (by simp only[go_sem]) ?_
 repeat' (first|simp (disch:=first|assumption|omega) only[go_sem, *]|((first|apply gw_m|apply gw_q);focus (intro hb;(try simp only[nbw] at hb);simp (disch:=first|assumption|omega) only[go_sem, *];rfl))|((first|refine zAB ?_ ?_|refine zAA ?_ ?_|refine sp_C ?_ ?_|refine sp_G ?_ ?_)<;>intro _))
 all_goals exact zFH h (by(try clear hrec);(try clear h);simp only[cmp];grind)
theorem cmpS_eq:∀a b:Str,(bif bytesLt a b then(-1:Int) else bif bytesEq a b then 0 else 1)=cmpS a b
 | [],[]=>rfl
 | [],_ :: _=>rfl
 | _ :: _,[]=>rfl
 | a :: x,b :: y=>by
  have ih:=cmpS_eq x y
  simp only[bytesLt,bytesEq,cmpS,zGI,zRY]
  by_cases h1:a.toNat<b.toNat
  ·simp[h1]
  ·by_cases h2:b.toNat<a.toNat
   ·have:¬ a.toNat=b.toNat:=by omega
    simp[h1,h2,this]
   ·have:a.toNat=b.toNat:=by omega
    simp only[this,decide_true,cond_true,Nat.lt_irrefl,decide_false,cond_false,if_false]
    exact ih
theorem c363 {a b:Str}{s:Sto}{Q:CR→Sto→Prop}(h:Q (.ret (.int .i64 (cmpS a b))) s):C E1 363 [.str a,.str b] s Q:=by
 rw[← cmpS_eq] at h
 exact zZX rfl h
theorem c328 {a b:Str}{s:Sto}{Q:CR→Sto→Prop}(h:Q (.ret (.int .i64 (cmpS a b))) s):C E1 328 [.str a,.str b] s Q:=by
 refine zAF (md:=⟨true,false,false,false⟩) (fn:=Tryz.f328) (n:=8) (rs:=[.tmp 4]) rfl rfl rfl rfl rfl rfl rfl (by simp only[go_sem, *];try rfl) (by rfl) (by simp only[go_sem]) ?_
 repeat' (first|refine c363 ?_|simp (disch:=first|assumption|omega) only[go_sem, *]|((first|apply gw_m|apply gw_q);focus (intro hb;(try simp only[nbw] at hb);simp (disch:=first|assumption|omega) only[go_sem, *];rfl))|((first|refine zAB ?_ ?_|refine zAA ?_ ?_|refine sp_C ?_ ?_|refine sp_G ?_ ?_)<;>intro _))
theorem c273 {a b:Str}{m:Nat}{g:Nat→Box}{u:List (Nat×Nat)}(hu:zAS m u=true)(hu2:zAK m u=u){Q:CR→Sto→Prop}(h:Q (.ret (.int .i64 (cmpS a b))) (S m g u)):C E1 273 [.str a,.str b] (S m g u) Q:=by
 refine zAG (md:=⟨false,false,false,false⟩) (fn:=Tryz.f273) (n:=8) (rs:=[.tmp 4]) rfl rfl rfl rfl rfl rfl rfl (by simp only[go_sem, *];try rfl) (by rfl) ?_
 repeat' (first|refine c328 ?_|simp (disch:=first|assumption|omega) only[go_sem, *]|((first|apply gw_m|apply gw_q);focus (intro hb;(try simp only[nbw] at hb);simp (disch:=first|assumption|omega) only[go_sem, *];rfl))|((first|refine zAB ?_ ?_|refine zAA ?_ ?_|refine sp_C ?_ ?_|refine sp_G ?_ ?_)<;>intro _))
theorem c327 {a b:List Int}{s:Sto}(ha:a.length<4611686018427387904)(hb:b.length<4611686018427387904){Q:CR→Sto→Prop}(h:Q (.ret (.int .i64 (if a.length≠b.length then cmp a.length b.length else cmpD a.reverse b.reverse))) s):C E1 327 [.sl 0 (a.map iv) .shut,.sl 0 (b.map iv) .shut] s Q:=by
 refine zAF (md:=⟨true,false,false,false⟩) (fn:=Tryz.f327) (n:=41) (rs:=[.tmp 4]) rfl rfl rfl rfl rfl rfl rfl (by simp only[go_sem, *];try rfl) (by rfl) (by simp only[go_sem]) ?_
 repeat' (first|refine c271 ?_|simp (disch:=first|assumption|omega) only[go_sem, *]|((first|apply gw_m|apply gw_q);focus (intro hb;(try simp only[nbw] at hb);simp (disch:=first|assumption|omega) only[go_sem, *];rfl))|((first|refine zAB ?_ ?_|refine zAA ?_ ?_|refine sp_C ?_ ?_|refine sp_G ?_ ?_)<;>intro _))
 ·rename_i hp
  exact zFH h (by(try clear hrec);(try clear h);grind)
 ·rename_i hp
  have hab:a.length=b.length:=by have:=of_decide_eq_true hp;omega
  refine zAL (ι:=Nat) (fun k=>[(0,.sl 0 (a.map iv) .shut),(1,.sl 0 (b.map iv) .shut),(5,.int .i64 ((k:Int)-1))]) (fun _=>S 0 g0 []) (fun k=>k≤a.length∧cmpD a.reverse b.reverse=cmpD (a.take k).reverse (b.take k).reverse) (fun k=>k) ?_ a.length ⟨Nat.le_refl _,by rw[List.take_length,hab,List.take_length]⟩ ⟨rfl,rfl,rfl,trivial⟩ rfl
  rintro k b0 ⟨hk,he⟩ hrec
  cases k with
  | zero=>
   have hc:decide ((0:Int)≤((0:Nat):Int)-1)=false:=rfl
   repeat' (first|simp (disch:=first|assumption|omega) only[go_sem, *]|((first|apply gw_m|apply gw_q);focus (intro hb;(try simp only[nbw] at hb);simp (disch:=first|assumption|omega) only[go_sem, *];rfl))|((first|refine zAB ?_ ?_|refine zAA ?_ ?_|refine sp_C ?_ ?_|refine sp_G ?_ ?_)<;>intro _))
   exact zFH h (by(try clear hrec);(try clear h);rw[if_neg (by omega),he];rfl)
  | succ k=>
   have hz:((k+1:Nat):Int)-1=k:=by omega
   have hc:decide ((0:Int)≤k)=true:=by simp
   have hkb:k<b.length:=by omega
   have hx:a[k]?=some a[k]:=List.getElem?_eq_getElem hk
   have hy:b[k]?=some b[k]:=List.getElem?_eq_getElem hkb
   rw[List.take_succ_eq_append_getElem hk,List.take_succ_eq_append_getElem hkb,List.reverse_append,List.reverse_append,List.reverse_singleton,List.reverse_singleton,List.singleton_append,List.singleton_append,cmpD] at he
   repeat' (first|refine c271 ?_|simp (disch:=first|assumption|omega) only[go_sem, *]|((first|apply gw_m|apply gw_q);focus (intro hb;(try simp only[nbw] at hb);simp (disch:=first|assumption|omega) only[go_sem, *];rfl))|((first|refine zAB ?_ ?_|refine zAA ?_ ?_|refine sp_C ?_ ?_|refine sp_G ?_ ?_)<;>intro _))
   ·rename_i hp
    have hne:¬ a[k]=b[k]:=by simpa using hp
    have hc0:¬ cmp a[k] b[k]=0:=by simp only[cmp];grind
    exact zFH h (by(try clear hrec);(try clear h);rw[if_neg (by omega),he,if_neg hc0])
   ·rename_i hp
    have heq:a[k]=b[k]:=by simpa using hp
    have hc0:cmp a[k] b[k]=0:=by simp only[cmp];grind
    exact hrec k _ _ _ ⟨by omega,by rw[he,if_pos hc0]⟩ (by omega) ⟨rfl,rfl,rfl,trivial⟩ rfl
theorem c272 {a b:V}{s:Sto}(ha:szV a<4611686018427387904)(hb:szV b<4611686018427387904){Q:CR→Sto→Prop}(h:Q (.ret (.int .i64 (cmpI a.neg a.d b.neg b.d))) s):C E1 272 [.agg [.bool a.neg,.sl 0 (a.d.map iv) .shut],.agg [.bool b.neg,.sl 0 (b.d.map iv) .shut]] s Q:=by
 rw[zD3] at ha hb
 have ha1:a.d.length<4611686018427387904:=by omega
 have hb1:b.d.length<4611686018427387904:=by omega
 refine zAF (md:=⟨true,false,false,false⟩) (fn:=Tryz.f272) (n:=24) (rs:=[.tmp 4]) rfl rfl rfl rfl rfl rfl rfl (by simp only[go_sem, *];try rfl) (by rfl) (by simp only[go_sem]) ?_
 repeat' (first|refine c327 ha1 hb1 ?_|refine c327 hb1 ha1 ?_|simp (disch:=first|assumption|omega) only[go_sem, *]|((first|apply gw_m|apply gw_q);focus (intro hb;(try simp only[nbw] at hb);simp (disch:=first|assumption|omega) only[go_sem, *];rfl))|((first|refine zAB ?_ ?_|refine zAA ?_ ?_|refine sp_C ?_ ?_|refine sp_G ?_ ?_)<;>intro _))
 ·exact zFH h (by(try clear hrec);(try clear h);simp only[cmpI];grind)
 ·exact zFH h (by(try clear hrec);(try clear h);simp only[cmpI];grind)
 ·rename_i h1 h2
  have h1:=of_decide_eq_true h1
  exact leaf h (congrArg (AV.int .i64) (by
   clear h
   rw[cmpI,if_neg (by simp[h1]),if_pos h2]
   by_cases hl:a.d.length=b.d.length
   ·simp only[hl,ne_eq,not_true_eq_false,if_false];rw[cmpD_neg b.d.reverse,Int.neg_neg]
   ·simp only[ne_eq,hl,not_false_eq_true,if_true];rw[if_pos (fun e=>hl e.symm),zYU b.d.length,Int.neg_neg]))
 ·rename_i h1 h2
  have h1:=of_decide_eq_true h1
  exact leaf h (congrArg (AV.int .i64) (by
   clear h
   rw[cmpI,if_neg (by simp[h1]),if_neg (by simp[h2])]))
theorem c274 {l r:List V}{s:Sto}(hl:szVs l<4611686018427387904)(hr:szVs r<4611686018427387904)
  (hc:∀a∈l,∀b∈r,∀s Q,Q (.ret (.int .i64 (cmpV a b))) s→C E1 192 [encV a,encV b] s Q) {Q:CR→Sto→Prop} (h:Q (.ret (.int .i64 (zJ9 l r))) s):C E1 274 [.sl 0 (l.map encV) .shut,.sl 0 (r.map encV) .shut] s Q:=by
 have h1:=szVs_len l
 have h2:=szVs_len r
 refine zAF (md:=⟨true,false,false,false⟩) (fn:=Tryz.f274) (n:=35) (rs:=[.tmp 4]) rfl rfl rfl rfl rfl rfl rfl (by simp only[go_sem, *];try rfl) (by rfl) (by simp only[go_sem]) ?_
 repeat' (first|refine c271 ?_|simp (disch:=first|assumption|omega) only[go_sem, *]|((first|apply gw_m|apply gw_q);focus (intro hb;(try simp only[nbw] at hb);simp (disch:=first|assumption|omega) only[go_sem, *];rfl))|((first|refine zAB ?_ ?_|refine zAA ?_ ?_|refine sp_C ?_ ?_|refine sp_G ?_ ?_)<;>intro _))
 ·rename_i hp
  exact zFH h (by(try clear hrec);(try clear h);simp only[zJ9];grind)
 ·rename_i hp
  have hab:r.length=l.length:=by have:=of_decide_eq_true hp;omega
  refine zAL (ι:=Nat) (fun i=>[(0,.sl 0 (l.map encV) .shut),(1,.sl 0 (r.map encV) .shut),(5,.int .i64 i)]) (fun _=>S 0 g0 []) (fun i=>i≤(l).length∧cmpL l r=cmpL (l.drop i) (r.drop i)) (fun i=>(l).length-i) ?_ 0 ⟨Nat.zero_le _,by first|rfl|trivial|simp⟩ ⟨rfl,rfl,rfl,trivial⟩ rfl;rintro i b ⟨hi,he⟩ hrec;rcases Nat.lt_or_ge i (l).length with hlt|hge
  ·have hlr:i<r.length:=by omega
   have hy:r[i]?=some r[i]:=List.getElem?_eq_getElem hlr
   have hm2:r[i]∈r:=List.getElem_mem hlr
   rw[List.drop_eq_getElem_cons hlr] at he
   obtain⟨hx,hmem,hcnd⟩:=zFR hlt;rw[List.drop_eq_getElem_cons hlt] at he
   rw[cmpL] at he
   repeat' (first|refine hc _ hmem _ hm2 _ _ ?_|simp (disch:=first|assumption|omega) only[go_sem, *]|((first|apply gw_m|apply gw_q);focus (intro hb;(try simp only[nbw] at hb);simp (disch:=first|assumption|omega) only[go_sem, *];rfl))|((first|refine zAB ?_ ?_|refine zAA ?_ ?_|refine sp_C ?_ ?_|refine sp_G ?_ ?_)<;>intro _))
   ·rename_i hp2
    have hp2:=of_decide_eq_false hp2
    exact zFH h (by(try clear hrec);(try clear h);rw[zJ9,if_neg (by omega),he,if_pos hp2])
   ·rename_i hp2
    have hp2:=of_decide_eq_true hp2
    exact hrec (i+1) _ _ _ ⟨hlt,by rw[he,if_neg (by omega)]⟩ (by omega) ⟨rfl,rfl,rfl,trivial⟩ rfl
  ·have hcnd:=zDB hge;rw[List.drop_eq_nil_of_le hge] at he
   repeat' (first|simp (disch:=first|assumption|omega) only[go_sem, *]|((first|apply gw_m|apply gw_q);focus (intro hb;(try simp only[nbw] at hb);simp (disch:=first|assumption|omega) only[go_sem, *];rfl))|((first|refine zAB ?_ ?_|refine zAA ?_ ?_|refine sp_C ?_ ?_|refine sp_G ?_ ?_)<;>intro _))
   exact zFH h (by(try clear hrec);(try clear h);rw[zJ9,if_neg (by omega),he,cmpL];intro _ _ _ _ h;cases h)
theorem c192:∀(N:Nat) {a b:V} {s:Sto},szV a<N→szV a<4611686018427387904→szV b<4611686018427387904→∀{Q:CR→Sto→Prop},Q (.ret (.int .i64 (cmpV a b))) s→C E1 192 [encV a,encV b] s Q:=by
 intro N
 induction N with
 | zero=>intro a b s h;exact absurd h (Nat.not_lt_zero _)
 | succ N ih=>
  intro a b s hN ha hb Q h
  have ea:=zD3 a
  have eb:=zD3 b
  have k1:∀x∈a.l,∀y∈b.l,∀s Q,Q (.ret (.int .i64 (cmpV x y))) s→C E1 192 [encV x,encV y] s Q:=fun x hx y hy s Q h=>ih (by have:=szVs_mem hx;omega) (by have:=szVs_mem hx;omega) (by have:=szVs_mem hy;omega) h
  have k2:∀x∈a.m,∀y∈b.m,∀s Q,Q (.ret (.int .i64 (cmpV x y))) s→C E1 192 [encV x,encV y] s Q:=fun x hx y hy s Q h=>ih (by have:=szVs_mem hx;omega) (by have:=szVs_mem hx;omega) (by have:=szVs_mem hy;omega) h
  have k3:szVs a.l<4611686018427387904:=by omega
  have k4:szVs b.l<4611686018427387904:=by omega
  have k5:szVs a.m<4611686018427387904:=by omega
  have k6:szVs b.m<4611686018427387904:=by omega
  have hu:zAS 2 []=true:=rfl
  have hu2:zAK 2 []=[]:=rfl
  rw[zYW] at h
  clear ih
  refine zAF (md:=⟨true,false,false,false⟩) (fn:=Tryz.f192) (n:=53) (rs:=[.tmp 4]) rfl rfl rfl rfl rfl rfl rfl (by simp only[go_sem, *];try rfl) (by rfl) (by simp only[go_sem]) ?_
  repeat' (first|refine c271 ?_|refine c272 ha hb ?_|refine c273 hu hu2 ?_|refine c274 k3 k4 k1 ?_|refine c274 k5 k6 k2 ?_|simp (disch:=first|assumption|omega) only[go_sem, *]|((first|apply gw_m|apply gw_q);focus (intro hb;(try simp only[nbw] at hb);simp (disch:=first|assumption|omega) only[go_sem, *];rfl))|((first|refine zAB ?_ ?_|refine zAA ?_ ?_|refine sp_C ?_ ?_|refine sp_G ?_ ?_)<;>intro _))
  all_goals exact leaf h (congrArg (AV.int .i64) (by clear h k1 k2;grind))
theorem c258 {l:List V}{s:Sto}(hl:szVs l<4611686018427387904){Q:CR→Sto→Prop}(h:Q (.ret (.bool (rising l))) s):C E1 258 [.sl 0 (l.map encV) .shut] s Q:=by
 have h1:=szVs_len l
 have hsz:∀x∈l,szV x<4611686018427387904:=fun x hx=>by have:=szVs_mem hx;omega
 refine zAF (md:=⟨true,false,false,false⟩) (fn:=Tryz.f258) (n:=21) (rs:=[.tmp 2]) rfl rfl rfl rfl rfl rfl rfl (by simp only[go_sem, *];try rfl) (by rfl) (by simp only[go_sem]) ?_
 repeat' (first|simp (disch:=first|assumption|omega) only[go_sem, *]|((first|apply gw_m|apply gw_q);focus (intro hb;(try simp only[nbw] at hb);simp (disch:=first|assumption|omega) only[go_sem, *];rfl))|((first|refine zAB ?_ ?_|refine zAA ?_ ?_|refine sp_C ?_ ?_|refine sp_G ?_ ?_)<;>intro _))
 refine zAL (ι:=Nat) (fun j=>[(0,.sl 0 (l.map encV) .shut),(3,.int .i64 ((j:Int)+1))]) (fun _=>S 0 g0 []) (fun j=>rising l=rising (l.drop j)) (fun j=>l.length-j) ?_ 0 rfl ⟨rfl,rfl,trivial⟩ rfl
 rintro j b he hrec
 rcases Nat.lt_or_ge (j+1) l.length with hlt|hge
 ·have hj:j<l.length:=by omega
  have hx:l[j]?=some l[j]:=List.getElem?_eq_getElem hj
  have hy:l[j+1]?=some l[j+1]:=List.getElem?_eq_getElem hlt
  have hm1:l[j]∈l:=List.getElem_mem hj
  have hm2:l[j+1]∈l:=List.getElem_mem hlt
  rw[List.drop_eq_getElem_cons hj,List.drop_eq_getElem_cons hlt,rising,← List.drop_eq_getElem_cons hlt] at he
  have hc:decide ((j:Int)+1<l.length)=true:=by simp;omega
  have hz:((j:Int)+1-1)=j:=by omega
  have hz2:((j:Int)+1).toNat=j+1:=by omega
  repeat' (first|refine c192 _ (Nat.lt_succ_self _) (hsz _ hm1) (hsz _ hm2) ?_|simp (disch:=first|assumption|omega) only[go_sem, *]|((first|apply gw_m|apply gw_q);focus (intro hb;(try simp only[nbw] at hb);simp (disch:=first|assumption|omega) only[go_sem, *];rfl))|((first|refine zAB ?_ ?_|refine zAA ?_ ?_|refine sp_C ?_ ?_|refine sp_G ?_ ?_)<;>intro _))
  ·rename_i hp
   exact zA1 h (by(try clear hrec);(try clear h);rw[he];simp at hp;simp;omega)
  ·rename_i hp
   exact hrec (j+1) _ _ _ (by rw[he];simp at hp;simp;intro;omega) (by omega) ⟨rfl,rfl,trivial⟩ rfl
 ·have hc:decide ((j:Int)+1<l.length)=false:=by simp;omega
  repeat' (first|simp (disch:=first|assumption|omega) only[go_sem, *]|((first|apply gw_m|apply gw_q);focus (intro hb;(try simp only[nbw] at hb);simp (disch:=first|assumption|omega) only[go_sem, *];rfl))|((first|refine zAB ?_ ?_|refine zAA ?_ ?_|refine sp_C ?_ ?_|refine sp_G ?_ ?_)<;>intro _))
  exact zA1 h (by(try clear hrec);(try clear h);rw[he];rcases hd:l.drop j with _|⟨a,_|⟨b,r⟩⟩<;>first|rfl|(exfalso;have:=congrArg List.length hd;simp at this;omega))
theorem c321 {a:V}{s:Sto}(hl:szV a<4611686018427387904){Q:CR→Sto→Prop}(h:Q (.ret (.bool (zJ6 a.neg a.d))) s):C E1 321 [.agg [.bool a.neg,.sl 0 (a.d.map iv) .shut]] s Q:=by
 rw[zD3] at hl
 have hz:((a.d.length:Int)-1).toNat=a.d.length-1:=by omega
 have hx0:a.d[a.d.length-1]?=a.d.getLast?:=by rw[List.getLast?_eq_getElem?]
 rcases hd:a.d.getLast? with _|y
 ·have h0:a.d=[]:=by simpa using hd
  have h1:decide ((a.d.length:Int)=0)=true:=by rw[h0];rfl
  have h2:decide ((0:Int)<a.d.length)=false:=by rw[h0];rfl
  have h3:decide ((40:Int)<a.d.length)=false:=by rw[h0];rfl
  have h5:zJ6 a.neg a.d=!a.neg:=by rw[h0];cases a.neg<;>rfl
  clear h0 hx0 hz
  cases hng:a.neg
  ·refine zAF (md:=⟨true,false,false,false⟩) (fn:=Tryz.f321) (n:=50) (rs:=[.tmp 2]) rfl rfl rfl rfl rfl rfl rfl (by simp only[go_sem, *];try rfl) (by rfl) (by simp only[go_sem]) ?_
   repeat' (first|simp (disch:=first|assumption|omega) only[go_sem, *]|((first|apply gw_m|apply gw_q);focus (intro hs;(try simp only[nbs] at hs);simp (disch:=first|assumption|omega) only[go_sem, *];rfl))|((first|refine zAB ?_ ?_|refine zAA ?_ ?_|refine sp_C ?_ ?_|refine sp_G ?_ ?_)<;>(intro hs;try simp only[nbs] at hs)))
   refine zAL (ι:=Unit) (fun _=>[(1,.ptr 0 0),(3,.int .i64 a.d.length),(4,.int .i64 0)]) (fun _=>S 1 (updB g0 0 (.cells 29 [.bool false,.sl 0 (a.d.map iv) .shut])) []) (fun _=>True) (fun _=>0) ?_ () trivial ⟨rfl,rfl,rfl,trivial⟩ rfl
   intro _ b _ hrec
   repeat' (first|simp (disch:=first|assumption|omega) only[go_sem, *]|((first|apply gw_m|apply gw_q);focus (intro hs;(try simp only[nbs] at hs);simp (disch:=first|assumption|omega) only[go_sem, *];rfl))|((first|refine zAB ?_ ?_|refine zAA ?_ ?_|refine sp_C ?_ ?_|refine sp_G ?_ ?_)<;>(intro hs;try simp only[nbs] at hs)))
   exact zA1 h (by(try clear hrec);(try clear h);rw[h5,hng];rfl)
  ·refine zAF (md:=⟨true,false,false,false⟩) (fn:=Tryz.f321) (n:=50) (rs:=[.tmp 2]) rfl rfl rfl rfl rfl rfl rfl (by simp only[go_sem, *];try rfl) (by rfl) (by simp only[go_sem]) ?_
   repeat' (first|simp (disch:=first|assumption|omega) only[go_sem, *]|((first|apply gw_m|apply gw_q);focus (intro hs;(try simp only[nbs] at hs);simp (disch:=first|assumption|omega) only[go_sem, *];rfl))|((first|refine zAB ?_ ?_|refine zAA ?_ ?_|refine sp_C ?_ ?_|refine sp_G ?_ ?_)<;>(intro hs;try simp only[nbs] at hs)))
   exact zA1 h (by(try clear hrec);(try clear h);rw[h5,hng];rfl)
 ·have hn:0<a.d.length:=by cases hh:a.d with
   | nil=>rw[hh] at hd;cases hd
   | cons=>simp
  rw[hd] at hx0
  have h1:decide ((a.d.length:Int)=0)=false:=decide_eq_false (by omega)
  have h2:decide ((0:Int)<a.d.length)=true:=decide_eq_true (by omega)
  have h4:(0:Int)≤a.d.length-1:=by omega
  have h5:zJ6 a.neg a.d=(decide (a.d.length≤40)&&!decide (y=0)&&a.d.all fun x=>decide (0≤x)&&decide (x≤999999999)):=by
   rw[zJ6,hd];rw[show decide (a.d.length=0)=false from decide_eq_false (by omega)];simp
  refine zAF (md:=⟨true,false,false,false⟩) (fn:=Tryz.f321) (n:=50) (rs:=[.tmp 2]) rfl rfl rfl rfl rfl rfl rfl (by simp only[go_sem, *];try rfl) (by rfl) (by simp only[go_sem]) ?_
  repeat' (first|simp (disch:=first|assumption|omega) only[go_sem, *]|((first|apply gw_m|apply gw_q);focus (intro hs;(try simp only[nbs] at hs);simp (disch:=first|assumption|omega) only[go_sem, *];rfl))|((first|refine zAB ?_ ?_|refine zAA ?_ ?_|refine sp_C ?_ ?_|refine sp_G ?_ ?_)<;>(intro hs;try simp only[nbs] at hs)))
  ·exact zA1 h (by(try clear hrec);(try clear h);rw[h5];grind)
  ·refine zAL (ι:=Nat) (fun i=>[(1,.ptr 0 0),(3,.int .i64 a.d.length),(4,.int .i64 i)]) (fun _=>S 1 (updB g0 0 (.cells 29 [.bool a.neg,.sl 0 (a.d.map iv) .shut])) []) (fun i=>i≤(a.d).length∧(a.d.all fun x=>decide (0≤x)&&decide (x≤999999999))=((a.d.drop i).all fun x=>decide (0≤x)&&decide (x≤999999999))) (fun i=>(a.d).length-i) ?_ 0 ⟨Nat.zero_le _,by first|rfl|trivial|simp⟩ ⟨rfl,rfl,rfl,trivial⟩ rfl;rintro i b ⟨hi,he⟩ hrec;rcases Nat.lt_or_ge i (a.d).length with hlt|hge
   ·obtain⟨hx,hmem,hcnd⟩:=zFR hlt;rw[List.drop_eq_getElem_cons hlt] at he
    rw[List.all_cons] at he
    repeat' (first|simp (disch:=first|assumption|omega) only[go_sem, *]|((first|apply gw_m|apply gw_q);focus (intro hs;(try simp only[nbs] at hs);simp (disch:=first|assumption|omega) only[go_sem, *];rfl))|((first|refine zAB ?_ ?_|refine zAA ?_ ?_|refine sp_C ?_ ?_|refine sp_G ?_ ?_)<;>(intro hs;try simp only[nbs] at hs)))
    ·rename_i hp
     exact zA1 h (by(try clear hrec);(try clear h);rw[h5,he];grind)
    ·rename_i hp
     exact hrec (i+1) _ _ _ ⟨hlt,by rw[he];clear h hrec;grind⟩ (by omega) ⟨rfl,rfl,rfl,trivial⟩ rfl
   ·have hcnd:=zDB hge;rw[List.drop_eq_nil_of_le hge] at he
    repeat' (first|simp (disch:=first|assumption|omega) only[go_sem, *]|((first|apply gw_m|apply gw_q);focus (intro hs;(try simp only[nbs] at hs);simp (disch:=first|assumption|omega) only[go_sem, *];rfl))|((first|refine zAB ?_ ?_|refine zAA ?_ ?_|refine sp_C ?_ ?_|refine sp_G ?_ ?_)<;>(intro hs;try simp only[nbs] at hs)))
    exact zA1 h (by(try clear hrec);(try clear h);rw[h5,he];grind)
theorem c257 {v:V}{s:Sto}(hl:szV v<4611686018427387904){Q:CR→Sto→Prop}(h:Q (.ret (.bool (zMK v))) s):C E1 257 [encV v] s Q:=by
 have hl2:=hl
 rw[zD3] at hl2
 have hls:v.s.length<4611686018427387904:=by omega
 refine zAF (md:=⟨true,false,false,false⟩) (fn:=Tryz.f257) (n:=86) (rs:=[.tmp 2]) rfl rfl rfl rfl rfl rfl rfl (by simp only[go_sem, *];try rfl) (by rfl) (by simp only[go_sem]) ?_
 repeat' (first|refine c320 ?_|refine c321 hl ?_|refine c322 hls ?_|refine c323 hls ?_|simp (disch:=first|assumption|omega) only[go_sem, *]|((first|apply gw_m|apply gw_q);focus (intro hs;(try simp only[nbs] at hs);simp (disch:=first|assumption|omega) only[go_sem, *];rfl))|((first|refine zAB ?_ ?_|refine zAA ?_ ?_|refine sp_C ?_ ?_|refine sp_G ?_ ?_)<;>(intro hs;try simp only[nbs] at hs)))
 all_goals exact zA1 h (by(try clear hrec);(try clear h);simp only[zMK];grind)
theorem zLS (l:List V):formedL l=l.all formed:=by induction l with
 | nil=>rfl
 | cons a r ih=>simp only[formedL,List.all_cons,ih]
theorem c176:∀(N:Nat) {v:V} {s:Sto},szV v<N→szV v<4611686018427387904→∀{Q:CR→Sto→Prop},Q (.ret (.bool (formed v))) s→C E1 176 [encV v] s Q:=by
 intro N
 induction N with
 | zero=>intro v s h;exact absurd h (Nat.not_lt_zero _)
 | succ N ih=>
  intro v s hN hl Q h
  have ev:=zD3 v
  have k1:∀x∈v.l,∀s Q,Q (.ret (.bool (formed x))) s→C E1 176 [encV x] s Q:=fun x hx s Q h=>ih (by have:=szVs_mem hx;omega) (by have:=szVs_mem hx;omega) h
  have k2:∀x∈v.m,∀s Q,Q (.ret (.bool (formed x))) s→C E1 176 [encV x] s Q:=fun x hx s Q h=>ih (by have:=szVs_mem hx;omega) (by have:=szVs_mem hx;omega) h
  have k3:szVs v.l<4611686018427387904:=by omega
  have k4:=szVs_len v.l
  have k5:=szVs_len v.m
  rw[formed_R,zLS,zLS] at h
  clear ih
  refine zAF (md:=⟨true,false,false,false⟩) (fn:=Tryz.f176) (n:=86) (rs:=[.tmp 2]) rfl rfl rfl rfl rfl rfl rfl (by simp only[go_sem, *];try rfl) (by rfl) (by simp only[go_sem]) ?_
  repeat' (first|refine c257 hl ?_|simp (disch:=first|assumption|omega) only[go_sem, *]|((first|apply gw_m|apply gw_q);focus (intro hs;(try simp only[nbs] at hs);simp (disch:=first|assumption|omega) only[go_sem, *];rfl))|((first|refine zAB ?_ ?_|refine zAA ?_ ?_|refine sp_C ?_ ?_|refine sp_G ?_ ?_)<;>(intro hs;try simp only[nbs] at hs)))
  ·exact zA1 h (by(try clear hrec);(try clear h);rw[hs];rfl)
  ·rename_i hlf
   exact zA1 h (by(try clear hrec);(try clear h);rw[hlf,if_pos hs];simp)
  ·rename_i hlf hkd
   have hnk:¬ (v.kind≠5∧v.kind≠6):=by clear h;grind
   have hok2:(decide (4000<v.l.length)||decide (v.kind=5)&&decide (v.m.length≠0)||decide (v.kind=6)&&decide (v.m.length≠v.l.length))=true:=by clear h;grind
   exact zA1 h (by(try clear hrec);(try clear h);rw[if_neg hnk,hok2];simp)
  rename_i hlf hkd
  have hok:=hs
  clear hs
  have hnk:¬ (v.kind≠5∧v.kind≠6):=by clear h;grind
  have hok2:(decide (4000<v.l.length)||decide (v.kind=5)&&decide (v.m.length≠0)||decide (v.kind=6)&&decide (v.m.length≠v.l.length))=false:=by clear h;grind
  rw[if_neg hnk,hok2,hlf] at h
  clear hok hok2 hkd hnk hlf
  refine zAL (ι:=Nat) (fun i=>[(1,.ptr 0 0),(3,.int .i64 i)]) (fun _=>S 1 (updB g0 0 (.cells 32 (zAZ v))) []) (fun i=>i≤(v.l).length∧v.l.all formed=(v.l.drop i).all formed) (fun i=>(v.l).length-i) ?_ 0 ⟨Nat.zero_le _,by first|rfl|trivial|simp⟩ ⟨rfl,rfl,trivial⟩ rfl;rintro i b ⟨hi,he⟩ hrec;rcases Nat.lt_or_ge i (v.l).length with hlt|hge
  ·obtain⟨hx,hmem,hcnd⟩:=zFR hlt;rw[List.drop_eq_getElem_cons hlt] at he
   rw[List.all_cons] at he
   repeat' (first|refine k1 _ hmem _ _ ?_|simp (disch:=first|assumption|omega) only[go_sem, *]|((first|apply gw_m|apply gw_q);focus (intro hs;(try simp only[nbs] at hs);simp (disch:=first|assumption|omega) only[go_sem, *];rfl))|((first|refine zAB ?_ ?_|refine zAA ?_ ?_|refine sp_C ?_ ?_|refine sp_G ?_ ?_)<;>(intro hs;try simp only[nbs] at hs)))
   ·skip
    exact zA1 h (by(try clear hrec);(try clear h);rw[he,hs];simp)
   ·skip
    exact hrec (i+1) _ _ _ ⟨hlt,by rw[he,hs];rfl⟩ (by omega) ⟨rfl,rfl,trivial⟩ rfl
  ·have hcnd:=zDB hge;rw[List.drop_eq_nil_of_le hge] at he
   rw[he] at h
   clear he hrec hi k1
   repeat' (first|simp (disch:=first|assumption|omega) only[go_sem, *]|((first|apply gw_m|apply gw_q);focus (intro hs;(try simp only[nbs] at hs);simp (disch:=first|assumption|omega) only[go_sem, *];rfl))|((first|refine zAB ?_ ?_|refine zAA ?_ ?_|refine sp_C ?_ ?_|refine sp_G ?_ ?_)<;>(intro hs;try simp only[nbs] at hs)))
   clear hcnd hge
   refine zAL (ι:=Nat) (fun i=>[(1,.ptr 0 0),(4,.int .i64 i)]) (fun _=>S 1 (updB g0 0 (.cells 32 (zAZ v))) []) (fun i=>i≤(v.m).length∧v.m.all formed=(v.m.drop i).all formed) (fun i=>(v.m).length-i) ?_ 0 ⟨Nat.zero_le _,by first|rfl|trivial|simp⟩ ⟨rfl,rfl,trivial⟩ rfl;rintro i b ⟨hi,he⟩ hrec;rcases Nat.lt_or_ge i (v.m).length with hlt|hge
   ·obtain⟨hx,hmem,hcnd⟩:=zFR hlt;rw[List.drop_eq_getElem_cons hlt] at he
    rw[List.all_cons] at he
    repeat' (first|refine k2 _ hmem _ _ ?_|simp (disch:=first|assumption|omega) only[go_sem, *]|((first|apply gw_m|apply gw_q);focus (intro hs;(try simp only[nbs] at hs);simp (disch:=first|assumption|omega) only[go_sem, *];rfl))|((first|refine zAB ?_ ?_|refine zAA ?_ ?_|refine sp_C ?_ ?_|refine sp_G ?_ ?_)<;>(intro hs;try simp only[nbs] at hs)))
    ·skip
     exact zA1 h (by(try clear hrec);(try clear h);rw[he,hs];simp)
    ·skip
     exact hrec (i+1) _ _ _ ⟨hlt,by rw[he,hs];rfl⟩ (by omega) ⟨rfl,rfl,trivial⟩ rfl
   ·have hcnd:=zDB hge;rw[List.drop_eq_nil_of_le hge] at he
    repeat' (first|refine c258 k3 ?_|simp (disch:=first|assumption|omega) only[go_sem, *]|((first|apply gw_m|apply gw_q);focus (intro hs;(try simp only[nbs] at hs);simp (disch:=first|assumption|omega) only[go_sem, *];rfl))|((first|refine zAB ?_ ?_|refine zAA ?_ ?_|refine sp_C ?_ ?_|refine sp_G ?_ ?_)<;>(intro hs;try simp only[nbs] at hs)))
    exact zA1 h (by(try clear hrec);(try clear h);rw[he];simp)
end Go.Ab.X
end
