/- A part. -/
import Derived.Test.YtoolminfelljcaaGreatDoorK5
set_option linter.all false
noncomputable section
namespace Lf
variable {α:Type}[DecidableEq α]
theorem mem_dl {l:List α}{x:α}(h:x∈l.dropLast):x∈l:=by rw[List.dropLast_eq_take] at h;exact List.mem_of_mem_take h
theorem shift_mem:∀(L S:List α) {x:α},(x∈(shift S L).1∨x∈(shift S L).2)→x∈S∨x∈L
 | [],S,x,h=>by
  rw[show shift S []=(S,[]) from rfl] at h;exact h
 | [a],S,x,h=>by
  rw[show shift S [a]=(S,[a]) from rfl] at h;exact h
 | a :: b :: r,S,x,h=>by
  rw[shift] at h
  split at h
  ·rcases shift_mem (b :: r) (S++[a]) h with h|h
   ·rcases List.mem_append.1 h with h|h
    ·exact .inl h
    ·exact .inr (by rw[List.mem_singleton.1 h];exact List.mem_cons_self ..)
   ·exact .inr (List.mem_cons_of_mem _ h)
  ·exact h
theorem pull_mem:∀(r L:List α) {x:α},(x∈(pull r L).1∨x∈(pull r L).2)→x∈r∨x∈L
 | [],L,x,h=>by
  rw[show pull [] L=([],L) from rfl] at h;exact h
 | a :: r,L,x,h=>by
  rw[zDC] at h
  split at h
  ·rcases pull_mem r (a :: L.dropLast) h with h|h
   ·exact .inl (List.mem_cons_of_mem _ h)
   ·rcases List.mem_cons.1 h with rfl|h
    ·exact .inl (List.mem_cons_self ..)
    ·exact .inr (mem_dl h)
  ·exact h
theorem normP_mem {S:List α}{b:Nat}{x:α}(h:x∈(normP S b).1∨x∈(normP S b).2):x∈S:=by
 unfold normP at h
 have h1:∀x,x∈(shift (dd (S.take b)) (dd (S.drop b))).1∨x∈(shift (dd (S.take b)) (dd (S.drop b))).2→x∈S:=fun x hx=>by
  rcases shift_mem _ _ hx with h|h
  ·exact List.mem_of_mem_take (ddp_mem _ _ h)
  ·exact List.mem_of_mem_drop (ddp_mem _ _ h)
 generalize shift (dd (S.take b)) (dd (S.drop b))=y at h h1
 dsimp only at h
 rcases pull_mem _ _ h with h|h
 ·rw[List.mem_reverse] at h
  unfold cut at h
  split at h
  ·exact h1 x (.inl (ddp_mem _ _ (mem_dl h)))
  ·exact h1 x (.inl (ddp_mem _ _ h))
 ·exact h1 x (.inr (List.mem_of_mem_take h))
end Lf
namespace Pl
theorem zGA (st:List (List V))(j:Nat):(zD3 st j).st.length≤st.length:=by
 unfold zD3
 rw[List.length_append,List.length_reverse]
 exact Lf.norm_len st j
theorem zNA {st:List (List V)}{j:Nat}(h:okS st):okS (zD3 st j).st:=fun x hx=>by
 unfold zD3 at hx
 rw[List.mem_append,List.mem_reverse] at hx
 exact h x (Lf.normP_mem hx)
theorem zSO {st:List (List V)}{j:Nat}(h:j<st.length):zXL st j=zD3 st j:=by unfold zXL zD3;rw[Lf.norm_eq st j h]
theorem zDE {a:Las}(h:isL a=true):∃j:Nat,a.back=j∧1≤a.st.length∧a.st.length≤1000∧j<a.st.length:=by
 unfold isL at h
 simp only[Bool.and_eq_true,decide_eq_true_eq] at h
 obtain⟨j,hj⟩:=Int.eq_ofNat_of_zero_le h.2.2.1
 exact⟨j,hj,by omega,by omega,by omega⟩
theorem zL7 (a:Las):zF9 a=zAU a:=by
 unfold zF9 zAU
 by_cases h:isL a=false
 ·rw[if_pos h,if_pos h]
 ·rw[if_neg h,if_neg h]
  obtain⟨j,hj,_,_,h3⟩:=zDE (by simpa using h)
  rw[zSO (by rw[hj];exact h3)]
theorem zHA (a:Las)(h:a.st.length≤1048576):(zAU a).1.st.length≤1048576:=by
 unfold zAU
 split
 ·exact Nat.zero_le _
 ·exact Nat.le_trans (zGA _ _) h
theorem zIV {a:Las}(h:okS a.st):okS (zAU a).1.st:=by
 unfold zAU
 split
 ·intro x hx;cases hx
 ·exact zNA h
def zHW (a b:Las):Bool:=(isL a&&isL b)&&eqL (zAU a).1 (zAU b).1
end Pl
namespace Go.Ab.X
open Go Go.Ab Go.Proofs Pl
set_option maxRecDepth 100000
set_option maxHeartbeats 8000000
theorem c18 {a b:Las}{s:Sto}(hl:a.st.length≤1048576)(hl2:b.st.length≤1048576)(hk:okS a.st)(hk2:okS b.st){Q:CR→Sto→Prop}(h:Q (.ret (.bool (zHW a b))) s):C E1 18 [zAK a,zAK b] s Q:=by
 have hA:a.st.length<1073741824:=by omega
 have hB:b.st.length<1073741824:=by omega
 unfold zHW at h
 cases ha:isL a with
 | false=>
  rw[ha] at h
  have h:Q (.ret (.bool false)) s:=h
  refine zAF (md:=⟨true,false,false,false⟩) (fn:=Tryz.f18) (n:=31) (rs:=[.tmp 4]) rfl rfl rfl rfl rfl rfl rfl rfl (by simp only[go_sem, *];try rfl) (by rfl) (by simp only[go_sem]) ?_
  repeat' (first|refine c49 hA ?_|refine c49 hB ?_|simp (disch:=first|assumption|omega) only[go_sem, *]|((first|apply gw_m|apply gw_q);focus (intro hs;(try simp only[nbs] at hs);simp (disch:=first|assumption|omega) only[go_sem, *];rfl))|((first|refine zAC ?_ ?_|refine zAB ?_ ?_|refine sp_C ?_ ?_|refine sp_G ?_ ?_)<;>(intro hs;try simp only[nbs] at hs)))
 | true=>
  cases hb:isL b with
  | false=>
   rw[ha,hb] at h
   have h:Q (.ret (.bool false)) s:=h
   refine zAF (md:=⟨true,false,false,false⟩) (fn:=Tryz.f18) (n:=31) (rs:=[.tmp 4]) rfl rfl rfl rfl rfl rfl rfl rfl (by simp only[go_sem, *];try rfl) (by rfl) (by simp only[go_sem]) ?_
   repeat' (first|refine c49 hA ?_|refine c49 hB ?_|simp (disch:=first|assumption|omega) only[go_sem, *]|((first|apply gw_m|apply gw_q);focus (intro hs;(try simp only[nbs] at hs);simp (disch:=first|assumption|omega) only[go_sem, *];rfl))|((first|refine zAC ?_ ?_|refine zAB ?_ ?_|refine sp_C ?_ ?_|refine sp_G ?_ ?_)<;>(intro hs;try simp only[nbs] at hs)))
  | true=>
   rw[ha,hb] at h
   obtain⟨j,hj,h1,h2,h3⟩:=zDE ha
   obtain⟨i,hi,g1,g2,g3⟩:=zDE hb
   obtain⟨st,ba⟩:=a
   obtain⟨st2,bb⟩:=b
   dsimp only at hj hi
   subst hj
   subst hi
   rw[zKQ ha,zKQ hb] at h
   have h:Q (.ret (.bool (eqL (zD3 st j) (zD3 st2 i)))) s:=h
   have n1:=zGA st j
   have n2:=zGA st2 i
   have o1:=zNA (j:=j) hk
   have o2:=zNA (j:=i) hk2
   have hcA:=fun s Q hq=>@c50 st j s h1 h2 h3 hk Q hq
   have hcB:=fun s Q hq=>@c50 st2 i s g1 g2 g3 hk2 Q hq
   dsimp only at h1 h2 h3 g1 g2 g3 n1 n2
   generalize zD3 st j=x at h n1 o1 hcA
   generalize zD3 st2 i=y at h n2 o2 hcB
   obtain⟨sx,bx⟩:=x
   obtain⟨sy,by'⟩:=y
   dsimp only at n1 n2 o1 o2
   have hce:=fun m g Q hq=>@c54 sx sy m g [] rfl rfl (by omega) (by omega) o1 o2 Q hq
   have h:Q (.ret (.bool (decide (bx=by')&&decide (sx=sy)))) s:=h
   clear hl hl2 h1 h2 h3 g1 g2 g3 hk hk2
   cases hd:decide (bx=by') with
   | true=>
    rw[hd,Bool.true_and] at h
    refine zAF (md:=⟨true,false,false,false⟩) (fn:=Tryz.f18) (n:=31) (rs:=[.tmp 4]) rfl rfl rfl rfl rfl rfl rfl rfl (by simp only[go_sem, *];try rfl) (by rfl) (by simp only[go_sem]) ?_
    repeat' (first|refine c49 hA ?_|refine c49 hB ?_|refine hcA _ _ ?_|refine hcB _ _ ?_|refine hce _ _ _ ?_|simp (disch:=first|assumption|omega) only[go_sem, *]|((first|apply gw_m|apply gw_q);focus (intro hs;(try simp only[nbs] at hs);simp (disch:=first|assumption|omega) only[go_sem, *];rfl))|((first|refine zAC ?_ ?_|refine zAB ?_ ?_|refine sp_C ?_ ?_|refine sp_G ?_ ?_)<;>(intro hs;try simp only[nbs] at hs)))
   | false=>
    rw[hd,Bool.false_and] at h
    refine zAF (md:=⟨true,false,false,false⟩) (fn:=Tryz.f18) (n:=31) (rs:=[.tmp 4]) rfl rfl rfl rfl rfl rfl rfl rfl (by simp only[go_sem, *];try rfl) (by rfl) (by simp only[go_sem]) ?_
    repeat' (first|refine c49 hA ?_|refine c49 hB ?_|refine hcA _ _ ?_|refine hcB _ _ ?_|refine hce _ _ _ ?_|simp (disch:=first|assumption|omega) only[go_sem, *]|((first|apply gw_m|apply gw_q);focus (intro hs;(try simp only[nbs] at hs);simp (disch:=first|assumption|omega) only[go_sem, *];rfl))|((first|refine zAC ?_ ?_|refine zAB ?_ ?_|refine sp_C ?_ ?_|refine sp_G ?_ ?_)<;>(intro hs;try simp only[nbs] at hs)))
theorem c19 {a b:Las}{s:Sto}(hl:a.st.length≤1048576)(hl2:b.st.length≤1048576)(hk:okS a.st)(hk2:okS b.st){Q:CR→Sto→Prop}(h:Q (.ret (.bool ((decide ((zAU a).2=0)&&decide ((zAU b).2=0))&&eqL (zAU a).1 (zAU b).1))) s):C E1 19 [zAK a,zAK b] s Q:=by
 have hcA:=fun s Q hq=>@c17 a s (by omega) hk Q hq
 have hcB:=fun s Q hq=>@c17 b s (by omega) hk2 Q hq
 rw[zL7] at hcA hcB
 have n1:=zHA a hl
 have n2:=zHA b hl2
 have o1:=zIV hk
 have o2:=zIV hk2
 generalize zAU a=x at h hcA n1 o1
 generalize zAU b=y at h hcB n2 o2
 obtain⟨x,e⟩:=x
 obtain⟨y,f⟩:=y
 dsimp only at h n1 n2 o1 o2 hcA hcB
 have hce:=fun s Q hq=>@c36 x y s (by omega) (by omega) o1 o2 Q hq
 cases he:decide (e=0) with
 | false=>
  rw[he] at h
  have h:Q (.ret (.bool false)) s:=h
  refine zAF (md:=⟨true,false,false,false⟩) (fn:=Tryz.f19) (n:=30) (rs:=[.tmp 4]) rfl rfl rfl rfl rfl rfl rfl rfl (by simp only[go_sem, *];try rfl) (by rfl) (by simp only[go_sem]) ?_
  repeat' (first|refine hcA _ _ ?_|refine hcB _ _ ?_|simp (disch:=first|assumption|omega) only[go_sem, *]|((first|apply gw_m|apply gw_q);focus (intro hs;(try simp only[nbs] at hs);simp (disch:=first|assumption|omega) only[go_sem, *];rfl))|((first|refine zAC ?_ ?_|refine zAB ?_ ?_|refine sp_C ?_ ?_|refine sp_G ?_ ?_)<;>(intro hs;try simp only[nbs] at hs)))
 | true=>
  cases hf:decide (f=0) with
  | false=>
   rw[he,hf] at h
   have h:Q (.ret (.bool false)) s:=h
   refine zAF (md:=⟨true,false,false,false⟩) (fn:=Tryz.f19) (n:=30) (rs:=[.tmp 4]) rfl rfl rfl rfl rfl rfl rfl rfl (by simp only[go_sem, *];try rfl) (by rfl) (by simp only[go_sem]) ?_
   repeat' (first|refine hcA _ _ ?_|refine hcB _ _ ?_|simp (disch:=first|assumption|omega) only[go_sem, *]|((first|apply gw_m|apply gw_q);focus (intro hs;(try simp only[nbs] at hs);simp (disch:=first|assumption|omega) only[go_sem, *];rfl))|((first|refine zAC ?_ ?_|refine zAB ?_ ?_|refine sp_C ?_ ?_|refine sp_G ?_ ?_)<;>(intro hs;try simp only[nbs] at hs)))
  | true=>
   rw[he,hf] at h
   have h:Q (.ret (.bool (eqL x y))) s:=h
   refine zAF (md:=⟨true,false,false,false⟩) (fn:=Tryz.f19) (n:=30) (rs:=[.tmp 4]) rfl rfl rfl rfl rfl rfl rfl rfl (by simp only[go_sem, *];try rfl) (by rfl) (by simp only[go_sem]) ?_
   repeat' (first|refine hcA _ _ ?_|refine hcB _ _ ?_|refine hce _ _ ?_|simp (disch:=first|assumption|omega) only[go_sem, *]|((first|apply gw_m|apply gw_q);focus (intro hs;(try simp only[nbs] at hs);simp (disch:=first|assumption|omega) only[go_sem, *];rfl))|((first|refine zAC ?_ ?_|refine zAB ?_ ?_|refine sp_C ?_ ?_|refine sp_G ?_ ?_)<;>(intro hs;try simp only[nbs] at hs)))
end Go.Ab.X
namespace Go.Ab.X
open Go Go.Ab Go.Proofs Pl
set_option maxRecDepth 100000
set_option maxHeartbeats 4000000
theorem zJB {m m':Nat}{u:List (Nat×Nat)}(hu:zBS m u=true)(hu2:zAW m u=u)(h:m≤m'):zBS m' u=true∧zAW m' u=u:=by
 induction u with
 | nil=>exact⟨rfl,rfl⟩
 | cons e r ih=>
  have hc:∀(n:Nat) (l:List (Nat×Nat)),(zAW n l).length≤l.length:=fun n l=>by
   induction l with
   | nil=>exact Nat.le_refl _
   | cons a l ih=>simp only[zAW,cond_eq_ite];split<;>simp only[List.length_cons]<;>omega
  have h1:e.1<m:=by
   by_cases hlt:e.1<m
   ·exact hlt
   ·simp only[zAW,zHM,decide_eq_false hlt,cond_false] at hu2
    have:=hc m r;rw[hu2] at this;simp at this;omega
  simp only[zAW,zHM,decide_eq_true h1,cond_true,List.cons.injEq,true_and] at hu2
  simp only[zBS,zHM,decide_eq_true h1,cond_true,zA8,cond_eq_ite,decide_eq_true_eq] at hu
  have h2:e.1<m':=by omega
  by_cases h3:e.2≤m
  ·rw[if_pos h3] at hu
   obtain⟨i1,i2⟩:=ih hu hu2
   have h4:e.2≤m':=by omega
   exact⟨by simp only[zBS,zHM,decide_eq_true h2,cond_true,zA8,decide_eq_true h4];exact i1,by simp only[zAW,zHM,decide_eq_true h2,cond_true];rw[i2]⟩
  ·rw[if_neg h3] at hu;cases hu
theorem zFL {m k:Nat}{g G:Nat→Box}{u:List (Nat×Nat)}{b:Box}(hk:G k=b)(h:∀i,i<m→i≠k→G i=g i):S m G u=S m (updB g k b) u:=S_ext fun i hi=>by
 by_cases e:i=k
 ·rw[e,zAE];exact hk
 ·rw[zAA e];exact h i hi e
abbrev mt (n:Int):Box:=.cells 79 [.int .i64 n]
theorem c71 {k m:Nat}{g:Nat→Box}{u:List (Nat×Nat)}{left n:Int}(hu:zBS m u=true)(hu2:zAW m u=u)(hk:k<m)(hg:g k=mt left)(hl:0≤left∧left≤1500)(hn:0≤n∧n<1099511627776)
  {Q:CR→Sto→Prop} (h1:∀a,0≤a→a≤1500→Q (.ret (.bool true)) (S m (updB g k (mt a)) u)) (h2:∀a,Q (.ret (.bool false)) (S m (updB g k (mt a)) u)):C E1 71 [.ptr k 0,.int .i64 n] (S m g u) Q:=by
 by_cases h:0≤left-n
 ·have h:=h1 (left-n) h (by omega)
  have hc:decide (0≤left-n)=true:=decide_eq_true (by omega)
  clear h1 h2
  refine zAM (md:=⟨false,false,false,false⟩) (fn:=Tryz.f71) (n:=18) (rs:=[.tmp 4]) rfl rfl rfl rfl rfl rfl rfl rfl (by simp only[go_sem, *];try rfl) (by rfl) ?_
  repeat' (first|simp (disch:=first|assumption|omega) only[go_sem, *]|((first|apply gw_m|apply gw_q);focus (intro hs;(try simp only[nbs] at hs);simp (disch:=first|assumption|omega) only[go_sem, *];rfl))|((first|refine zAC ?_ ?_|refine zAB ?_ ?_|refine sp_C ?_ ?_|refine sp_G ?_ ?_)<;>(intro hs;try simp only[nbs] at hs)))
 ·have h:=h2 (left-n)
  have hc:decide (0≤left-n)=false:=decide_eq_false (by omega)
  clear h1 h2
  refine zAM (md:=⟨false,false,false,false⟩) (fn:=Tryz.f71) (n:=18) (rs:=[.tmp 4]) rfl rfl rfl rfl rfl rfl rfl rfl (by simp only[go_sem, *];try rfl) (by rfl) ?_
  repeat' (first|simp (disch:=first|assumption|omega) only[go_sem, *]|((first|apply gw_m|apply gw_q);focus (intro hs;(try simp only[nbs] at hs);simp (disch:=first|assumption|omega) only[go_sem, *];rfl))|((first|refine zAC ?_ ?_|refine zAB ?_ ?_|refine sp_C ?_ ?_|refine sp_G ?_ ?_)<;>(intro hs;try simp only[nbs] at hs)))
theorem c71d {k m:Nat}{g:Nat→Box}{u:List (Nat×Nat)}{left n:Int}(hu:zBS m u=true)(hu2:zAW m u=u)(hk:k<m)(hg:g k=mt left)(hl:0≤left∧left≤1500)(hn:0≤n∧n<1099511627776)
  {Q:CR→Sto→Prop} (h:Q (.ret (.bool (decide (0≤left-n)))) (S m (updB g k (mt (left-n))) u)):C E1 71 [.ptr k 0,.int .i64 n] (S m g u) Q:=by
 refine zAM (md:=⟨false,false,false,false⟩) (fn:=Tryz.f71) (n:=18) (rs:=[.tmp 4]) rfl rfl rfl rfl rfl rfl rfl rfl (by simp only[go_sem, *];try rfl) (by rfl) ?_
 repeat' (first|simp (disch:=first|assumption|omega) only[go_sem, *]|((first|apply gw_m|apply gw_q);focus (intro hs;(try simp only[nbs] at hs);simp (disch:=first|assumption|omega) only[go_sem, *];rfl))|((first|refine zAC ?_ ?_|refine zAB ?_ ?_|refine sp_C ?_ ?_|refine sp_G ?_ ?_)<;>(intro hs;try simp only[nbs] at hs)))
theorem c115 {α:Type}{h:α→AV}{l:List α}{fv:AV}{k m:Nat}{g:Nat→Box}{u:List (Nat×Nat)}(hl:l.length<4611686018427387904)(hu:zBS m u=true)(hu2:zAW m u=u)
  (hsz:∀x,llen (cellsOf (h x))=7) (hld:∀x,pick1 (E1.types 37) (cellsOf (h x)) 0=some (h x)) (hfv:∀a,zBA (S m (updB g k (mt a)) u) fv=some (fv,S m (updB g k (mt a)) u))
  (hp:∀x∈l,∀a,0≤a→a≤1500→∀Q:CR→Sto→Prop,(∀a,0≤a→a≤1500→Q (.ret (.bool false)) (S m (updB g k (mt a)) u))→(∀a,Q (.ret (.bool true)) (S m (updB g k (mt a)) u))→CV E1 fv [h x] (S m (updB g k (mt a)) u) Q)
  {left:Int} (hl0:0≤left∧left≤1500) {Q:CR→Sto→Prop} (h1:∀a,0≤a→a≤1500→Q (.ret (.int .i64 (-1))) (S m (updB g k (mt a)) u)) (h2:∀a (i:Nat),Q (.ret (.int .i64 i)) (S m (updB g k (mt a)) u)):C E1 115 [.sl 0 (l.map h) .shut,fv] (S m (updB g k (mt left)) u) Q:=by
 have hfv0:=hfv left
 refine zAM (md:=⟨false,false,false,false⟩) (fn:=Tryz.f115) (n:=19) (rs:=[.tmp 4]) rfl rfl rfl rfl rfl rfl rfl rfl (by simp only[go_sem, *];try rfl) (by rfl) ?_
 repeat' (first|simp (disch:=first|assumption|omega) only[go_sem, *]|((first|apply gw_m|apply gw_q);focus (intro hs;(try simp only[nbs] at hs);simp (disch:=first|assumption|omega) only[go_sem, *];rfl))|((first|refine zAC ?_ ?_|refine zAB ?_ ?_|refine sp_C ?_ ?_|refine sp_G ?_ ?_)<;>(intro hs;try simp only[nbs] at hs)))
 refine zA0 (ι:=Nat×Int) (fun i=>[(8,.int .i64 i.1),(7,.int .i64 l.length),(1,fv),(0,.sl 0 (l.map h) .shut)]) (fun i=>S m (updB g k (mt i.2)) u) (fun i=>i.1≤l.length∧0≤i.2∧i.2≤1500) (fun i=>l.length-i.1) ?_ (0,left) ⟨Nat.zero_le _,hl0⟩ ⟨rfl,rfl,rfl,rfl,trivial⟩ rfl
 rintro⟨i,a1⟩ b ⟨hi,hI1,hI2⟩ hrec
 simp only at hi hI1 hI2
 have hfv:=hfv a1
 rcases Nat.lt_or_ge i l.length with hlt|hge
 ·have hx:l[i]?=some l[i]:=List.getElem?_eq_getElem hlt
  have hmem:l[i]∈l:=List.getElem_mem hlt
  have hc:decide ((i:Int)<l.length)=true:=by simpa using hlt
  have hp:=hp _ hmem a1 hI1 hI2
  repeat' (first|refine sv_CV ?_|simp (disch:=first|assumption|omega) only[go_sem, *]|((first|apply gw_m|apply gw_q);focus (intro hs;(try simp only[nbs] at hs);simp (disch:=first|assumption|omega) only[go_sem, *];rfl))|((first|refine zAC ?_ ?_|refine zAB ?_ ?_|refine sp_C ?_ ?_|refine sp_G ?_ ?_)<;>(intro hs;try simp only[nbs] at hs)))
  refine hp _ (fun a h0 h9=>?_) (fun a=>?_)
  ·clear h1 h2
   repeat' (first|simp (disch:=first|assumption|omega) only[go_sem, *]|((first|apply gw_m|apply gw_q);focus (intro hs;(try simp only[nbs] at hs);simp (disch:=first|assumption|omega) only[go_sem, *];rfl))|((first|refine zAC ?_ ?_|refine zAB ?_ ?_|refine sp_C ?_ ?_|refine sp_G ?_ ?_)<;>(intro hs;try simp only[nbs] at hs)))
   exact hrec (i+1,a) _ _ _ ⟨hlt,h0,h9⟩ (by simp only;omega) ⟨rfl,rfl,rfl,rfl,trivial⟩ rfl
  ·have h2:=h2 a i
   clear h1 hrec
   repeat' (first|simp (disch:=first|assumption|omega) only[go_sem, *]|((first|apply gw_m|apply gw_q);focus (intro hs;(try simp only[nbs] at hs);simp (disch:=first|assumption|omega) only[go_sem, *];rfl))|((first|refine zAC ?_ ?_|refine zAB ?_ ?_|refine sp_C ?_ ?_|refine sp_G ?_ ?_)<;>(intro hs;try simp only[nbs] at hs)))
 ·have hc:decide ((i:Int)<l.length)=false:=by simpa using hge
  have h1:=h1 a1 hI1 hI2
  clear h2 hrec
  repeat' (first|simp (disch:=first|assumption|omega) only[go_sem, *]|((first|apply gw_m|apply gw_q);focus (intro hs;(try simp only[nbs] at hs);simp (disch:=first|assumption|omega) only[go_sem, *];rfl))|((first|refine zAC ?_ ?_|refine zAB ?_ ?_|refine sp_C ?_ ?_|refine sp_G ?_ ?_)<;>(intro hs;try simp only[nbs] at hs)))
theorem c72 {α:Type}{h:α→AV}{l:List α}{fv:AV}{k m:Nat}{g:Nat→Box}{u:List (Nat×Nat)}(hl:l.length<4611686018427387904)(hu:zBS m u=true)(hu2:zAW m u=u)
  (hsz:∀x,llen (cellsOf (h x))=7) (hld:∀x,pick1 (E1.types 37) (cellsOf (h x)) 0=some (h x)) (hfv:∀a,zBA (S m (updB g k (mt a)) u) fv=some (fv,S m (updB g k (mt a)) u))
  (hp:∀x∈l,∀a,0≤a→a≤1500→∀Q:CR→Sto→Prop,(∀a,0≤a→a≤1500→Q (.ret (.bool false)) (S m (updB g k (mt a)) u))→(∀a,Q (.ret (.bool true)) (S m (updB g k (mt a)) u))→CV E1 fv [h x] (S m (updB g k (mt a)) u) Q)
  {left:Int} (hl0:0≤left∧left≤1500) {Q:CR→Sto→Prop} (h1:∀a,0≤a→a≤1500→Q (.ret (.bool false)) (S m (updB g k (mt a)) u)) (h2:∀a,Q (.ret (.bool true)) (S m (updB g k (mt a)) u)):C E1 72 [.sl 0 (l.map h) .shut,fv] (S m (updB g k (mt left)) u) Q:=by
 have hfv0:=hfv left
 refine zAM (md:=⟨false,false,false,false⟩) (fn:=Tryz.f72) (n:=9) (rs:=[.tmp 4]) rfl rfl rfl rfl rfl rfl rfl rfl (by simp only[go_sem, *];try rfl) (by rfl) ?_
 repeat' (first|simp (disch:=first|assumption|omega) only[go_sem, *]|((first|apply gw_m|apply gw_q);focus (intro hs;(try simp only[nbs] at hs);simp (disch:=first|assumption|omega) only[go_sem, *];rfl))|((first|refine zAC ?_ ?_|refine zAB ?_ ?_|refine sp_C ?_ ?_|refine sp_G ?_ ?_)<;>(intro hs;try simp only[nbs] at hs)))
 refine c115 hl hu hu2 hsz hld hfv hp hl0 (fun a h0 h9=>?_) (fun a i=>?_)
 ·have h1:=h1 a h0 h9
  clear h2
  repeat' (first|simp (disch:=first|assumption|omega) only[go_sem, *]|((first|apply gw_m|apply gw_q);focus (intro hs;(try simp only[nbs] at hs);simp (disch:=first|assumption|omega) only[go_sem, *];rfl))|((first|refine zAC ?_ ?_|refine zAB ?_ ?_|refine sp_C ?_ ?_|refine sp_G ?_ ?_)<;>(intro hs;try simp only[nbs] at hs)))
 ·have h2:=h2 a
  have hc:decide ((0:Int)≤i)=true:=decide_eq_true (by omega)
  clear h1
  repeat' (first|simp (disch:=first|assumption|omega) only[go_sem, *]|((first|apply gw_m|apply gw_q);focus (intro hs;(try simp only[nbs] at hs);simp (disch:=first|assumption|omega) only[go_sem, *];rfl))|((first|refine zAC ?_ ?_|refine zAB ?_ ?_|refine sp_C ?_ ?_|refine sp_G ?_ ?_)<;>(intro hs;try simp only[nbs] at hs)))
theorem c74 {k:Nat}:∀(N:Nat) (v:V),szV v<N→szV v<1073741824→∀(deep left:Int) (m:Nat) (g:Nat→Box) (u:List (Nat×Nat)),zBS m u=true→zAW m u=u→k<m→g k=mt left→1≤deep→deep≤61→0≤left→left≤1500→
  ∀Q:CR→Sto→Prop,(∀a,0≤a→a≤1500→Q (.ret (.bool true)) (S m (updB g k (mt a)) u))→(∀a,Q (.ret (.bool false)) (S m (updB g k (mt a)) u))→C E1 74 [.ptr k 0,encV v,.int .i64 deep] (S m g u) Q:=by
 intro N
 induction N with
 | zero=>intro v h;exact absurd h (Nat.not_lt_zero _)
 | succ N ih=>
  intro v hN hsz deep left m g u hu hu2 hk hg hd0 hd1 hl0 hl1 Q h1 h2
  have hlv:=zJC v
  have hU:=zJB hu hu2 (Nat.le_succ m)
  have hU1:=hU.1
  have hU2:=hU.2
  have hkm:k<m+1:=by omega
  have hg1:(updB g m (.cells 37 (zBY v))) k=mt left:=by rw[zAA (by omega)];exact hg
  have hback:∀(M:Nat) (G:Nat→Box) (a:Int),(∀i,i<m→i≠k→G i=g i)→G k=mt a→S m G u=S m (updB g k (mt a)) u:=fun _ G a h1 h2=>zFL h2 h1
  obtain⟨G0,hG0⟩:∃G0,updB g m (.cells 37 (zBY v))=G0:=⟨_,rfl⟩
  have hmv:G0 m=.cells 37 (zBY v):=by rw[← hG0];exact zAE
  have hlow:∀i,i<m→i≠k→G0 i=g i:=fun i hi _=>by rw[← hG0];exact zAA (by omega)
  rw[hG0] at hg1
  have ht1:=fun Q=>@c71d k (m+1) G0 u left 1 hU1 hU2 hkm hg1 ⟨hl0,hl1⟩ (by omega) Q
  have hmv1:∀a,(updB G0 k (mt a)) m=.cells 37 (zBY v):=fun a=>by rw[zAA (by omega)];exact hmv
  have ht2:=fun(h:0≤left-1) Q=>@c71d k (m+1) (updB G0 k (mt (left-1))) u (left-1) v.d.length hU1 hU2 hkm zAE (by omega) (by omega) Q
  have hf:∀a,Q (.ret (.bool false)) (S m (updB G0 k (mt a)) u):=fun a=>by
   rw[hback 0 (updB G0 k (mt a)) a (fun i h1 h2=>by rw[zAA h2];exact hlow i h1 h2) zAE];exact h2 a
  have hf2:∀a b,Q (.ret (.bool false)) (S m (updB (updB G0 k (mt b)) k (mt a)) u):=fun a b=>by
   rw[hback 0 (updB (updB G0 k (mt b)) k (mt a)) a (fun i h1 h2=>by rw[zAA h2,zAA h2];exact hlow i h1 h2) zAE];exact h2 a
  have h2':=h2
  clear h2
  by_cases hc1:0≤left-1
  ·have hd1:decide (0≤left-1)=true:=decide_eq_true hc1
   have ht2:=ht2 hc1
   by_cases hc2:60<deep
   ·have hd2:decide (60<deep)=true:=decide_eq_true hc2
    have hf:=hf (left-1)
    clear hf2 h1 ih hback
    refine zAM (md:=⟨false,false,false,false⟩) (fn:=Tryz.f74) (n:=57) (rs:=[.tmp 6]) rfl rfl rfl rfl rfl rfl rfl rfl (by simp only[go_sem, *];try rfl) (by rfl) ?_
    repeat' (first|refine ht1 _ ?_|simp (disch:=first|assumption|omega) only[go_sem, *]|((first|apply gw_m|apply gw_q);focus (intro hs;(try simp only[nbs] at hs);simp (disch:=first|assumption|omega) only[go_sem, *];rfl))|((first|refine zAC ?_ ?_|refine zAB ?_ ?_|refine sp_C ?_ ?_|refine sp_G ?_ ?_)<;>(intro hs;try simp only[nbs] at hs)))
   ·have hd2:decide (60<deep)=false:=decide_eq_false hc2
    by_cases hc3:300<(v.s.length:Int)
    ·have hd3:decide (300<(v.s.length:Int))=true:=decide_eq_true hc3
     have hf:=hf (left-1)
     clear hf2 h1 ih hback
     refine zAM (md:=⟨false,false,false,false⟩) (fn:=Tryz.f74) (n:=57) (rs:=[.tmp 6]) rfl rfl rfl rfl rfl rfl rfl rfl (by simp only[go_sem, *];try rfl) (by rfl) ?_
     repeat' (first|refine ht1 _ ?_|simp (disch:=first|assumption|omega) only[go_sem, *]|((first|apply gw_m|apply gw_q);focus (intro hs;(try simp only[nbs] at hs);simp (disch:=first|assumption|omega) only[go_sem, *];rfl))|((first|refine zAC ?_ ?_|refine zAB ?_ ?_|refine sp_C ?_ ?_|refine sp_G ?_ ?_)<;>(intro hs;try simp only[nbs] at hs)))
    ·have hd3:decide (300<(v.s.length:Int))=false:=decide_eq_false hc3
     by_cases hc4:0≤left-1-v.d.length
     ·have hd4:decide (0≤left-1-(v.d.length:Int))=true:=decide_eq_true hc4
      clear hf hf2
      refine zAM (md:=⟨false,false,false,false⟩) (fn:=Tryz.f74) (n:=57) (rs:=[.tmp 6]) rfl rfl rfl rfl rfl rfl rfl rfl (by simp only[go_sem, *];try rfl) (by rfl) ?_
      repeat' (first|refine ht1 _ ?_|refine ht2 _ ?_|simp (disch:=first|assumption|omega) only[go_sem, *]|((first|apply gw_m|apply gw_q);focus (intro hs;(try simp only[nbs] at hs);simp (disch:=first|assumption|omega) only[go_sem, *];rfl))|((first|refine zAC ?_ ?_|refine zAB ?_ ?_|refine sp_C ?_ ?_|refine sp_G ?_ ?_)<;>(intro hs;try simp only[nbs] at hs)))
      have hP:∀x∈([v.l,v.m]:List (List V)),szVs x<N∧szVs x<1073741824:=fun x hx=>by
       rcases List.mem_cons.1 hx with rfl|hx
       ·omega
       ·rw[List.mem_singleton.1 hx];omega
      have hPl:([v.l,v.m]:List (List V)).length=2:=rfl
      have hlow2:∀i,i<m→i≠k→(updB (updB G0 k (mt (left-1))) k (mt (left-1-v.d.length))) i=g i:=fun i h1 h2=>by rw[zAA h2,zAA h2];exact hlow i h1 h2
      have hk2:(updB (updB G0 k (mt (left-1))) k (mt (left-1-v.d.length))) k=mt (left-1-v.d.length):=zAE
      refine zA0 (ι:=Nat×Int×Nat×(Nat→Box)) (fun p=>[(0,.ptr k 0),(2,.int .i64 deep),(37,.sl 0 (([v.l,v.m]:List (List V)).map zAD) .clip),(38,.int .i64 2),(39,.int .i64 p.1)]) (fun p=>S p.2.2.1 p.2.2.2 u)
       (fun p=>p.1≤2∧(0≤p.2.1∧p.2.1≤1500)∧m+1≤p.2.2.1∧p.2.2.2 k=mt p.2.1∧∀i,i<m→i≠k→p.2.2.2 i=g i) (fun p=>2-p.1) ?_ (0,left-1-v.d.length,m+1,_) ⟨Nat.zero_le _,by dsimp only;omega,Nat.le_refl _,hk2,hlow2⟩ ⟨rfl,rfl,rfl,rfl,rfl,trivial⟩ rfl
      clear ht1 ht2 hlow2 hk2 hd1 hd2 hd3 hd4 hc1 hc3 hc4 hmv1
      rintro⟨j,a,M,G⟩ b ⟨hj,ha,hM,hGk,hGl⟩ hrec
      dsimp only at hj ha hM hGk hGl hrec ⊢
      generalize ([v.l,v.m]:List (List V))=P at hP hPl hrec ⊢
      have hUM:=zJB hu hu2 (show m≤M by omega)
      have hUM1:=hUM.1
      have hUM2:=hUM.2
      rcases Nat.lt_or_ge j 2 with hlt|hge
      ·have hc:decide ((j:Int)<2)=true:=decide_eq_true (by omega)
       have hx:P[j]?=some P[j]:=List.getElem?_eq_getElem (by omega)
       have hxN:=hP P[j] (List.getElem_mem (by omega))
       generalize P[j]=x at hx hxN
       have hdj:decide (j<P.length)=true:=decide_eq_true (by omega)
       have hxl:=szVs_len x
       have hes:zAD x=.sl 0 (x.map encV) .shut:=rfl
       repeat' (first|simp (disch:=first|assumption|omega) only[go_sem, *]|((first|apply gw_m|apply gw_q);focus (intro hs;(try simp only[nbs] at hs);simp (disch:=first|assumption|omega) only[go_sem, *];rfl))|((first|refine zAC ?_ ?_|refine zAB ?_ ?_|refine sp_C ?_ ?_|refine sp_G ?_ ?_)<;>(intro hs;try simp only[nbs] at hs)))
       clear hes
       refine zA0 (ι:=Nat×Int×Nat×(Nat→Box)) (fun p=>[(0,.ptr k 0),(2,.int .i64 deep),(37,.sl 0 (P.map zAD) .clip),(38,.int .i64 2),(39,.int .i64 j),(43,.sl 0 (x.map encV) .shut),(44,.int .i64 x.length),(45,.int .i64 p.1)]) (fun p=>S p.2.2.1 p.2.2.2 u)
        (fun p=>p.1≤x.length∧(0≤p.2.1∧p.2.1≤1500)∧m+1≤p.2.2.1∧p.2.2.2 k=mt p.2.1∧∀i,i<m→i≠k→p.2.2.2 i=g i) (fun p=>x.length-p.1) ?_ (0,a,M,G) ⟨Nat.zero_le _,ha,hM,hGk,hGl⟩ ⟨rfl,rfl,rfl,rfl,rfl,rfl,rfl,rfl,trivial⟩ rfl
       clear ha hM hGk hGl hUM hUM1 hUM2
       clear a M G
       rintro⟨i,a,M,G⟩ b ⟨hi,ha,hM,hGk,hGl⟩ hrec2
       dsimp only at hi ha hM hGk hGl hrec2 ⊢
       rcases Nat.lt_or_ge i x.length with hil|hig
       ·have hc:decide ((i:Int)<x.length)=true:=decide_eq_true (by omega)
        have hdi:decide (i<x.length)=true:=decide_eq_true hil
        have hy:x[i]?=some x[i]:=List.getElem?_eq_getElem hil
        have hys:=szVs_mem (List.getElem_mem hil)
        generalize x[i]=y at hy hys
        have hUM:=zJB hu hu2 (show m≤M+1 by omega)
        have hUM1:=hUM.1
        have hUM2:=hUM.2
        have hcl:=fun(G':Nat→Box) (h':G' k=mt a)=>ih y (by omega) (by omega) (deep+1) a (M+1) G' u hUM1 hUM2 (by omega) h' (by omega) (by omega) ha.1 ha.2
        clear hUM
        repeat' (first|simp (disch:=first|assumption|omega) only[go_sem, *]|((first|apply gw_m|apply gw_q);focus (intro hs;(try simp only[nbs] at hs);simp (disch:=first|assumption|omega) only[go_sem, *];rfl))|((first|refine zAC ?_ ?_|refine zAB ?_ ?_|refine sp_C ?_ ?_|refine sp_G ?_ ?_)<;>(intro hs;try simp only[nbs] at hs)))
        refine hcl _ (by rw[zAA (by omega),zAA (by omega)];exact hGk) _ (fun a' h0 h9=>?_) (fun a'=>?_)
        ·repeat' (first|simp (disch:=first|assumption|omega) only[go_sem, *]|((first|apply gw_m|apply gw_q);focus (intro hs;(try simp only[nbs] at hs);simp (disch:=first|assumption|omega) only[go_sem, *];rfl))|((first|refine zAC ?_ ?_|refine zAB ?_ ?_|refine sp_C ?_ ?_|refine sp_G ?_ ?_)<;>(intro hs;try simp only[nbs] at hs)))
         exact hrec2 (i+1,a',M+1,_) _ _ _ ⟨hil,⟨h0,h9⟩,by dsimp only;omega,zAE,fun t h1 h2=>(zAA h2).trans ((zAA (by omega)).trans ((zAA (by omega)).trans (hGl t h1 h2)))⟩ (by dsimp only;omega) ⟨rfl,rfl,rfl,rfl,rfl,rfl,rfl,rfl,trivial⟩ rfl
        ·generalize hG2:updB (updB (updB G M _) M _) k (mt a')=G2
         have hfin:=h2' a'
         rw[← hback 0 G2 a' (fun t h1 h2=>by rw[← hG2,zAA h2,zAA (by omega),zAA (by omega)];exact hGl t h1 h2) (by rw[← hG2];exact zAE)] at hfin
         clear hback hG2
         repeat' (first|simp (disch:=first|assumption|omega) only[go_sem, *]|((first|apply gw_m|apply gw_q);focus (intro hs;(try simp only[nbs] at hs);simp (disch:=first|assumption|omega) only[go_sem, *];rfl))|((first|refine zAC ?_ ?_|refine zAB ?_ ?_|refine sp_C ?_ ?_|refine sp_G ?_ ?_)<;>(intro hs;try simp only[nbs] at hs)))
       ·have hc:decide ((i:Int)<x.length)=false:=decide_eq_false (by omega)
        repeat' (first|simp (disch:=first|assumption|omega) only[go_sem, *]|((first|apply gw_m|apply gw_q);focus (intro hs;(try simp only[nbs] at hs);simp (disch:=first|assumption|omega) only[go_sem, *];rfl))|((first|refine zAC ?_ ?_|refine zAB ?_ ?_|refine sp_C ?_ ?_|refine sp_G ?_ ?_)<;>(intro hs;try simp only[nbs] at hs)))
        exact hrec (j+1,a,M,G) _ _ _ ⟨hlt,ha,hM,hGk,hGl⟩ (by dsimp only;omega) ⟨rfl,rfl,rfl,rfl,rfl,trivial⟩ rfl
      ·have hc:decide ((j:Int)<2)=false:=decide_eq_false (by omega)
       have hfin:=h1 a ha.1 ha.2
       rw[← hback 0 G a hGl hGk] at hfin
       clear hback
       repeat' (first|simp (disch:=first|assumption|omega) only[go_sem, *]|((first|apply gw_m|apply gw_q);focus (intro hs;(try simp only[nbs] at hs);simp (disch:=first|assumption|omega) only[go_sem, *];rfl))|((first|refine zAC ?_ ?_|refine zAB ?_ ?_|refine sp_C ?_ ?_|refine sp_G ?_ ?_)<;>(intro hs;try simp only[nbs] at hs)))
     ·have hd4:decide (0≤left-1-(v.d.length:Int))=false:=decide_eq_false hc4
      have hf:=hf2 (left-1-v.d.length) (left-1)
      clear hf2 h1 ih hback
      refine zAM (md:=⟨false,false,false,false⟩) (fn:=Tryz.f74) (n:=57) (rs:=[.tmp 6]) rfl rfl rfl rfl rfl rfl rfl rfl (by simp only[go_sem, *];try rfl) (by rfl) ?_
      repeat' (first|refine ht1 _ ?_|refine ht2 _ ?_|simp (disch:=first|assumption|omega) only[go_sem, *]|((first|apply gw_m|apply gw_q);focus (intro hs;(try simp only[nbs] at hs);simp (disch:=first|assumption|omega) only[go_sem, *];rfl))|((first|refine zAC ?_ ?_|refine zAB ?_ ?_|refine sp_C ?_ ?_|refine sp_G ?_ ?_)<;>(intro hs;try simp only[nbs] at hs)))
  ·have hd1:decide (0≤left-1)=false:=decide_eq_false hc1
   have hf:=hf (left-1)
   clear hf2 h1 ih hback ht2
   refine zAM (md:=⟨false,false,false,false⟩) (fn:=Tryz.f74) (n:=57) (rs:=[.tmp 6]) rfl rfl rfl rfl rfl rfl rfl rfl (by simp only[go_sem, *];try rfl) (by rfl) ?_
   repeat' (first|refine ht1 _ ?_|simp (disch:=first|assumption|omega) only[go_sem, *]|((first|apply gw_m|apply gw_q);focus (intro hs;(try simp only[nbs] at hs);simp (disch:=first|assumption|omega) only[go_sem, *];rfl))|((first|refine zAC ?_ ?_|refine zAB ?_ ?_|refine sp_C ?_ ?_|refine sp_G ?_ ?_)<;>(intro hs;try simp only[nbs] at hs)))
theorem c114 {α:Type}{h:α→AV}{l:List α}{fv:AV}{k m:Nat}{g:Nat→Box}{u:List (Nat×Nat)}(hl:l.length<4611686018427387904)(hu:zBS m u=true)(hu2:zAW m u=u)
  (hsz:∀x,llen (cellsOf (h x))=1) (hld:∀x,pick1 (E1.types 35) (cellsOf (h x)) 0=some (h x)) (hfv:∀a,zBA (S m (updB g k (mt a)) u) fv=some (fv,S m (updB g k (mt a)) u))
  (hp:∀x∈l,∀a,0≤a→a≤1500→∀Q:CR→Sto→Prop,(∀a,0≤a→a≤1500→Q (.ret (.bool false)) (S m (updB g k (mt a)) u))→(∀a,Q (.ret (.bool true)) (S m (updB g k (mt a)) u))→CV E1 fv [h x] (S m (updB g k (mt a)) u) Q)
  {left:Int} (hl0:0≤left∧left≤1500) {Q:CR→Sto→Prop} (h1:∀a,0≤a→a≤1500→Q (.ret (.int .i64 (-1))) (S m (updB g k (mt a)) u)) (h2:∀a (i:Nat),Q (.ret (.int .i64 i)) (S m (updB g k (mt a)) u)):C E1 114 [.sl 0 (l.map h) .shut,fv] (S m (updB g k (mt left)) u) Q:=by
 have hfv0:=hfv left
 refine zAM (md:=⟨false,false,false,false⟩) (fn:=Tryz.f114) (n:=19) (rs:=[.tmp 4]) rfl rfl rfl rfl rfl rfl rfl rfl (by simp only[go_sem, *];try rfl) (by rfl) ?_
 repeat' (first|simp (disch:=first|assumption|omega) only[go_sem, *]|((first|apply gw_m|apply gw_q);focus (intro hs;(try simp only[nbs] at hs);simp (disch:=first|assumption|omega) only[go_sem, *];rfl))|((first|refine zAC ?_ ?_|refine zAB ?_ ?_|refine sp_C ?_ ?_|refine sp_G ?_ ?_)<;>(intro hs;try simp only[nbs] at hs)))
 refine zA0 (ι:=Nat×Int) (fun i=>[(8,.int .i64 i.1),(7,.int .i64 l.length),(1,fv),(0,.sl 0 (l.map h) .shut)]) (fun i=>S m (updB g k (mt i.2)) u) (fun i=>i.1≤l.length∧0≤i.2∧i.2≤1500) (fun i=>l.length-i.1) ?_ (0,left) ⟨Nat.zero_le _,hl0⟩ ⟨rfl,rfl,rfl,rfl,trivial⟩ rfl
 rintro⟨i,a1⟩ b ⟨hi,hI1,hI2⟩ hrec
 simp only at hi hI1 hI2
 have hfv:=hfv a1
 rcases Nat.lt_or_ge i l.length with hlt|hge
 ·have hx:l[i]?=some l[i]:=List.getElem?_eq_getElem hlt
  have hmem:l[i]∈l:=List.getElem_mem hlt
  have hc:decide ((i:Int)<l.length)=true:=by simpa using hlt
  have hp:=hp _ hmem a1 hI1 hI2
  repeat' (first|refine sv_CV ?_|simp (disch:=first|assumption|omega) only[go_sem, *]|((first|apply gw_m|apply gw_q);focus (intro hs;(try simp only[nbs] at hs);simp (disch:=first|assumption|omega) only[go_sem, *];rfl))|((first|refine zAC ?_ ?_|refine zAB ?_ ?_|refine sp_C ?_ ?_|refine sp_G ?_ ?_)<;>(intro hs;try simp only[nbs] at hs)))
  refine hp _ (fun a h0 h9=>?_) (fun a=>?_)
  ·clear h1 h2
   repeat' (first|simp (disch:=first|assumption|omega) only[go_sem, *]|((first|apply gw_m|apply gw_q);focus (intro hs;(try simp only[nbs] at hs);simp (disch:=first|assumption|omega) only[go_sem, *];rfl))|((first|refine zAC ?_ ?_|refine zAB ?_ ?_|refine sp_C ?_ ?_|refine sp_G ?_ ?_)<;>(intro hs;try simp only[nbs] at hs)))
   exact hrec (i+1,a) _ _ _ ⟨hlt,h0,h9⟩ (by simp only;omega) ⟨rfl,rfl,rfl,rfl,trivial⟩ rfl
  ·have h2:=h2 a i
   clear h1 hrec
   repeat' (first|simp (disch:=first|assumption|omega) only[go_sem, *]|((first|apply gw_m|apply gw_q);focus (intro hs;(try simp only[nbs] at hs);simp (disch:=first|assumption|omega) only[go_sem, *];rfl))|((first|refine zAC ?_ ?_|refine zAB ?_ ?_|refine sp_C ?_ ?_|refine sp_G ?_ ?_)<;>(intro hs;try simp only[nbs] at hs)))
 ·have hc:decide ((i:Int)<l.length)=false:=by simpa using hge
  have h1:=h1 a1 hI1 hI2
  clear h2 hrec
  repeat' (first|simp (disch:=first|assumption|omega) only[go_sem, *]|((first|apply gw_m|apply gw_q);focus (intro hs;(try simp only[nbs] at hs);simp (disch:=first|assumption|omega) only[go_sem, *];rfl))|((first|refine zAC ?_ ?_|refine zAB ?_ ?_|refine sp_C ?_ ?_|refine sp_G ?_ ?_)<;>(intro hs;try simp only[nbs] at hs)))
theorem c69 {α:Type}{h:α→AV}{l:List α}{fv:AV}{k m:Nat}{g:Nat→Box}{u:List (Nat×Nat)}(hl:l.length<4611686018427387904)(hu:zBS m u=true)(hu2:zAW m u=u)
  (hsz:∀x,llen (cellsOf (h x))=1) (hld:∀x,pick1 (E1.types 35) (cellsOf (h x)) 0=some (h x)) (hfv:∀a,zBA (S m (updB g k (mt a)) u) fv=some (fv,S m (updB g k (mt a)) u))
  (hp:∀x∈l,∀a,0≤a→a≤1500→∀Q:CR→Sto→Prop,(∀a,0≤a→a≤1500→Q (.ret (.bool false)) (S m (updB g k (mt a)) u))→(∀a,Q (.ret (.bool true)) (S m (updB g k (mt a)) u))→CV E1 fv [h x] (S m (updB g k (mt a)) u) Q)
  {left:Int} (hl0:0≤left∧left≤1500) {Q:CR→Sto→Prop} (h1:∀a,0≤a→a≤1500→Q (.ret (.bool false)) (S m (updB g k (mt a)) u)) (h2:∀a,Q (.ret (.bool true)) (S m (updB g k (mt a)) u)):C E1 69 [.sl 0 (l.map h) .shut,fv] (S m (updB g k (mt left)) u) Q:=by
 have hfv0:=hfv left
 refine zAM (md:=⟨false,false,false,false⟩) (fn:=Tryz.f69) (n:=9) (rs:=[.tmp 4]) rfl rfl rfl rfl rfl rfl rfl rfl (by simp only[go_sem, *];try rfl) (by rfl) ?_
 repeat' (first|simp (disch:=first|assumption|omega) only[go_sem, *]|((first|apply gw_m|apply gw_q);focus (intro hs;(try simp only[nbs] at hs);simp (disch:=first|assumption|omega) only[go_sem, *];rfl))|((first|refine zAC ?_ ?_|refine zAB ?_ ?_|refine sp_C ?_ ?_|refine sp_G ?_ ?_)<;>(intro hs;try simp only[nbs] at hs)))
 refine c114 hl hu hu2 hsz hld hfv hp hl0 (fun a h0 h9=>?_) (fun a i=>?_)
 ·have h1:=h1 a h0 h9
  clear h2
  repeat' (first|simp (disch:=first|assumption|omega) only[go_sem, *]|((first|apply gw_m|apply gw_q);focus (intro hs;(try simp only[nbs] at hs);simp (disch:=first|assumption|omega) only[go_sem, *];rfl))|((first|refine zAC ?_ ?_|refine zAB ?_ ?_|refine sp_C ?_ ?_|refine sp_G ?_ ?_)<;>(intro hs;try simp only[nbs] at hs)))
 ·have h2:=h2 a
  have hc:decide ((0:Int)≤i)=true:=decide_eq_true (by omega)
  clear h1
  repeat' (first|simp (disch:=first|assumption|omega) only[go_sem, *]|((first|apply gw_m|apply gw_q);focus (intro hs;(try simp only[nbs] at hs);simp (disch:=first|assumption|omega) only[go_sem, *];rfl))|((first|refine zAC ?_ ?_|refine zAB ?_ ?_|refine sp_C ?_ ?_|refine sp_G ?_ ?_)<;>(intro hs;try simp only[nbs] at hs)))
theorem c73 {v:V}(hv:szV v<1073741824){k b m:Nat}{g:Nat→Box}{u:List (Nat×Nat)}(hu:zBS m u=true)(hu2:zAW m u=u)(hk:k<m)(hb:b<m)(hkb:b≠k){left:Int}(hg:g k=mt left)(hgb:g b=.cells 77 [.ptr k 0])(hl:0≤left∧left≤1500)
  {Q:CR→Sto→Prop} (h1:∀a,0≤a→a≤1500→Q (.ret (.bool false)) (S m (updB g k (mt a)) u)) (h2:∀a,Q (.ret (.bool true)) (S m (updB g k (mt a)) u)):C E1 73 [encV v,.ptr b 0] (S m g u) Q:=by
 have hU:=zJB hu hu2 (Nat.le_succ m)
 have hU1:=hU.1
 have hU2:=hU.2
 have hbm:b≠m:=by omega
 have hcl:=fun(G':Nat→Box) (h':G' k=mt left)=>c74 (szV v+1) v (Nat.lt_succ_self _) hv 1 left (m+1) G' u hU1 hU2 (by omega) h' (by omega) (by omega) hl.1 hl.2
 refine zAM (md:=⟨false,false,false,false⟩) (fn:=Tryz.f73) (n:=8) (rs:=[.tmp 3]) rfl rfl rfl rfl rfl rfl rfl rfl (by simp only[go_sem, *];try rfl) (by rfl) ?_
 repeat' (first|simp (disch:=first|assumption|omega) only[go_sem, *]|((first|apply gw_m|apply gw_q);focus (intro hs;(try simp only[nbs] at hs);simp (disch:=first|assumption|omega) only[go_sem, *];rfl))|((first|refine zAC ?_ ?_|refine zAB ?_ ?_|refine sp_C ?_ ?_|refine sp_G ?_ ?_)<;>(intro hs;try simp only[nbs] at hs)))
 refine hcl _ (by rw[zAA (by omega)];exact hg) _ (fun a h0 h9=>?_) (fun a=>?_)
 ·have h1:=h1 a h0 h9
  rw[← zFL (G:=updB (updB g m (.cells 37 (zBY v))) k (mt a)) (b:=mt a) zAE (fun t h1 h2=>by rw[zAA h2,zAA (by omega)])] at h1
  clear h2
  repeat' (first|simp (disch:=first|assumption|omega) only[go_sem, *]|((first|apply gw_m|apply gw_q);focus (intro hs;(try simp only[nbs] at hs);simp (disch:=first|assumption|omega) only[go_sem, *];rfl))|((first|refine zAC ?_ ?_|refine zAB ?_ ?_|refine sp_C ?_ ?_|refine sp_G ?_ ?_)<;>(intro hs;try simp only[nbs] at hs)))
 ·have h2:=h2 a
  rw[← zFL (G:=updB (updB g m (.cells 37 (zBY v))) k (mt a)) (b:=mt a) zAE (fun t h1 h2=>by rw[zAA h2,zAA (by omega)])] at h2
  clear h1
  repeat' (first|simp (disch:=first|assumption|omega) only[go_sem, *]|((first|apply gw_m|apply gw_q);focus (intro hs;(try simp only[nbs] at hs);simp (disch:=first|assumption|omega) only[go_sem, *];rfl))|((first|refine zAC ?_ ?_|refine zAB ?_ ?_|refine sp_C ?_ ?_|refine sp_G ?_ ?_)<;>(intro hs;try simp only[nbs] at hs)))
theorem c70 {x:List V}(hx:szVs x<1073741824){k b m:Nat}{g:Nat→Box}{u:List (Nat×Nat)}(hu:zBS m u=true)(hu2:zAW m u=u)(hk:k<m)(hb:b<m)(hkb:b≠k){left:Int}(hg:g k=mt left)(hgb:g b=.cells 77 [.ptr k 0])(hl:0≤left∧left≤1500)
  {Q:CR→Sto→Prop} (h1:∀a,0≤a→a≤1500→Q (.ret (.bool false)) (S m (updB g k (mt a)) u)) (h2:∀a,Q (.ret (.bool true)) (S m (updB g k (mt a)) u)):C E1 70 [zAD x,.ptr b 0] (S m g u) Q:=by
 have hxl:=szVs_len x
 have ht:=fun Q=>@c71d k m g u left 1 hu hu2 hk hg hl (by omega) Q
 have hes:zAD x=.sl 0 (x.map encV) .shut:=rfl
 by_cases hc1:0≤left-1
 ·have hd1:decide (0≤left-1)=true:=decide_eq_true hc1
  have hupd:∀a,updB (updB g k (mt (left-1))) k (mt a)=updB g k (mt a):=fun a=>by
   funext i
   by_cases e:i=k
   ·rw[e,zAE,zAE]
   ·rw[zAA e,zAA e,zAA e]
  have hcf:=fun Q=>@c72 V encV x (.func (b+1) (.func 73) [] [.ptr b 0]) k m g u (by omega) hu hu2 (fun x=>by rw[zDF];rfl) (fun x=>by rw[zDF];exact pk_V) (fun a=>rfl) (fun y hy a h0 h9 Q h1 h2=>zQ8 rfl (c73 (by have:=szVs_mem hy;omega) hu hu2 hk hb hkb (g:=updB g k (mt a)) zAE (by rw[zAA hkb];exact hgb) ⟨h0,h9⟩ (fun a' h0 h9=>by
   have:=h1 a' h0 h9
   rw[zFL (g:=g) (b:=mt a') zAE (fun t h1 h2=>by rw[zAA h2,zAA h2])]
   exact this) (fun a'=>by
   have:=h2 a'
   rw[zFL (g:=g) (b:=mt a') zAE (fun t h1 h2=>by rw[zAA h2,zAA h2])]
   exact this))) (left-1) (by omega) Q
  clear hupd
  refine zAM (md:=⟨false,false,false,false⟩) (fn:=Tryz.f70) (n:=12) (rs:=[.tmp 3]) rfl rfl rfl rfl rfl rfl rfl rfl (by simp only[go_sem, *];try rfl) (by rfl) ?_
  repeat' (first|refine ht _ ?_|simp (disch:=first|assumption|omega) only[go_sem, *]|((first|apply gw_m|apply gw_q);focus (intro hs;(try simp only[nbs] at hs);simp (disch:=first|assumption|omega) only[go_sem, *];rfl))|((first|refine zAC ?_ ?_|refine zAB ?_ ?_|refine sp_C ?_ ?_|refine sp_G ?_ ?_)<;>(intro hs;try simp only[nbs] at hs)))
  refine hcf _ (fun a h0 h9=>?_) (fun a=>?_)
  ·have h1:=h1 a h0 h9
   clear h2 hcf ht
   repeat' (first|simp (disch:=first|assumption|omega) only[go_sem, *]|((first|apply gw_m|apply gw_q);focus (intro hs;(try simp only[nbs] at hs);simp (disch:=first|assumption|omega) only[go_sem, *];rfl))|((first|refine zAC ?_ ?_|refine zAB ?_ ?_|refine sp_C ?_ ?_|refine sp_G ?_ ?_)<;>(intro hs;try simp only[nbs] at hs)))
  ·have h2:=h2 a
   clear h1 hcf ht
   repeat' (first|simp (disch:=first|assumption|omega) only[go_sem, *]|((first|apply gw_m|apply gw_q);focus (intro hs;(try simp only[nbs] at hs);simp (disch:=first|assumption|omega) only[go_sem, *];rfl))|((first|refine zAC ?_ ?_|refine zAB ?_ ?_|refine sp_C ?_ ?_|refine sp_G ?_ ?_)<;>(intro hs;try simp only[nbs] at hs)))
 ·have hd1:decide (0≤left-1)=false:=decide_eq_false hc1
  have h2:=h2 (left-1)
  clear h1
  refine zAM (md:=⟨false,false,false,false⟩) (fn:=Tryz.f70) (n:=12) (rs:=[.tmp 3]) rfl rfl rfl rfl rfl rfl rfl rfl (by simp only[go_sem, *];try rfl) (by rfl) ?_
  repeat' (first|refine ht _ ?_|simp (disch:=first|assumption|omega) only[go_sem, *]|((first|apply gw_m|apply gw_q);focus (intro hs;(try simp only[nbs] at hs);simp (disch:=first|assumption|omega) only[go_sem, *];rfl))|((first|refine zAC ?_ ?_|refine zAB ?_ ?_|refine sp_C ?_ ?_|refine sp_G ?_ ?_)<;>(intro hs;try simp only[nbs] at hs)))
theorem c38 {st:List (List V)}(hl:st.length≤1048576)(hst:okS st){k m:Nat}{g:Nat→Box}{u:List (Nat×Nat)}(hu:zBS m u=true)(hu2:zAW m u=u)(hk:k<m){left:Int}(hg:g k=mt left)(hle:0≤left∧left≤1500)
  {Q:CR→Sto→Prop} (h1:∀a,0≤a→a≤1500→Q (.ret (.bool true)) (S m (updB g k (mt a)) u)) (h2:∀a,Q (.ret (.bool false)) (S m (updB g k (mt a)) u)):C E1 38 [.ptr k 0,.sl 0 (st.map zAD) .shut] (S m g u) Q:=by
 have hU:=zJB hu hu2 (Nat.le_succ m)
 have hU1:=hU.1
 have hU2:=hU.2
 have hkm:m≠k:=by omega
 obtain⟨G,hG⟩:∃G,updB g m (.cells 77 [.ptr k 0])=G:=⟨_,rfl⟩
 have hGk:G k=mt left:=by rw[← hG,zAA (by omega)];exact hg
 have hGm:G m=.cells 77 [.ptr k 0]:=by rw[← hG,zAE]
 have hself:S (m+1) (updB G k (mt left)) u=S (m+1) G u:=(zFL hGk fun _ _ _=>rfl).symm
 have hcf:=fun Q=>@c69 (List V) zAD st (.func (m+1) (.func 70) [] [.ptr m 0]) k (m+1) G u (by omega) hU1 hU2 (fun x=>rfl) (fun x=>rfl) (fun a=>rfl) (fun y hy a h0 h9 Q h1 h2=>zQ8 rfl (c70 (hst y hy) hU1 hU2 (by omega) (Nat.lt_succ_self m) hkm (g:=updB G k (mt a)) zAE (by rw[zAA hkm];exact hGm) ⟨h0,h9⟩ (fun a' h0 h9=>by
   have:=h1 a' h0 h9
   rw[zFL (g:=G) (b:=mt a') zAE (fun t h1 h2=>by rw[zAA h2,zAA h2])]
   exact this) (fun a'=>by
   have:=h2 a'
   rw[zFL (g:=G) (b:=mt a') zAE (fun t h1 h2=>by rw[zAA h2,zAA h2])]
   exact this))) left hle Q
 rw[hself] at hcf
 refine zAM (md:=⟨false,false,false,false⟩) (fn:=Tryz.f38) (n:=9) (rs:=[.tmp 4]) rfl rfl rfl rfl rfl rfl rfl rfl (by simp only[go_sem, *];try rfl) (by rfl) ?_
 repeat' (first|simp (disch:=first|assumption|omega) only[go_sem, *]|((first|apply gw_m|apply gw_q);focus (intro hs;(try simp only[nbs] at hs);simp (disch:=first|assumption|omega) only[go_sem, *];rfl))|((first|refine zAC ?_ ?_|refine zAB ?_ ?_|refine sp_C ?_ ?_|refine sp_G ?_ ?_)<;>(intro hs;try simp only[nbs] at hs)))
 refine hcf _ (fun a h0 h9=>?_) (fun a=>?_)
 ·have h1:=h1 a h0 h9
  rw[← zFL (G:=updB G k (mt a)) (b:=mt a) zAE (fun t h1 h2=>by rw[zAA h2,← hG,zAA (by omega)])] at h1
  clear h2 hcf hG
  repeat' (first|simp (disch:=first|assumption|omega) only[go_sem, *]|((first|apply gw_m|apply gw_q);focus (intro hs;(try simp only[nbs] at hs);simp (disch:=first|assumption|omega) only[go_sem, *];rfl))|((first|refine zAC ?_ ?_|refine zAB ?_ ?_|refine sp_C ?_ ?_|refine sp_G ?_ ?_)<;>(intro hs;try simp only[nbs] at hs)))
 ·have h2:=h2 a
  rw[← zFL (G:=updB G k (mt a)) (b:=mt a) zAE (fun t h1 h2=>by rw[zAA h2,← hG,zAA (by omega)])] at h2
  clear h1 hcf hG
  repeat' (first|simp (disch:=first|assumption|omega) only[go_sem, *]|((first|apply gw_m|apply gw_q);focus (intro hs;(try simp only[nbs] at hs);simp (disch:=first|assumption|omega) only[go_sem, *];rfl))|((first|refine zAC ?_ ?_|refine zAB ?_ ?_|refine sp_C ?_ ?_|refine sp_G ?_ ?_)<;>(intro hs;try simp only[nbs] at hs)))
theorem tops_X (l:List X):tops (l.map encX)=0:=zHS top_X l
def zX:AV:=zAP (E1.types 39)
theorem zX_cells:llen (cellsOf zX)=11:=rfl
theorem fits_zX (n:Nat):zAZ 11 (List.replicate n zX)=true:=by
 induction n with
 | zero=>rfl
 | succ n ih=>rw[List.replicate_succ];show(bif _ then zAZ 11 (List.replicate n zX) else false)=true;rw[ih];rfl
theorem tops_zX (n:Nat):tops (List.replicate n zX)=0:=by
 induction n with
 | zero=>rfl
 | succ n ih=>rw[List.replicate_succ];show max (top zX) (tops (List.replicate n zX))=0;rw[ih];rfl
theorem c116 {n:Nat}{m:Nat}{g:Nat→Box}{u:List (Nat×Nat)}(h0:0<n)(hn:n<10000000000){Q:CR→Sto→Prop}(h:Q (.ret (.osl m 0 0)) (S (m+1) (updB g m (.row 39 11 (List.replicate n zX) false)) u)):C E1 116 [.sl 0 [] .nil,.int .i64 n] (S m g u) Q:=by
 have hT:∀g u,(S (m+1) g u).done m (Nat.succ m)=S (m+1) g u:=fun _ _=>zHP (by omega)
 have hap:zAX 39 11 176 (.sl 0 [] .nil) (lrep (zAP (E1.types 39)) n) (S m g u)=some (.osl m 0 n,S (m+1) (updB g m (.row 39 11 (List.replicate n zX) false)) u):=by
  rw[zDD]
  show zAX 39 11 176 (.sl 0 [] .nil) (List.replicate n zX) (S m g u)=_
  rw[zHO (fits_zX n) (by rw[List.length_replicate];exact h0) (by rw[List.length_replicate];omega) (tops_zX n),List.length_replicate]
 have hl1:decide (n*176≤limit)=true:=decide_eq_true (by rw[limit_eq];omega)
 have hl2:decide (n≤limit)=true:=decide_eq_true (by rw[limit_eq];omega)
 have hp:decide ((0:Int)<n)=true:=decide_eq_true (by omega)
 have hs1:∀s,zC8 11 (.sl 0 [] .nil) none (some 0) none s=some (.sl 0 [] .nil,s):=fun s=>rfl
 have hc:∀s,bCap E1 31 [.sl 0 [] .nil] s=.val (.int .i64 0) s:=fun s=>rfl
 have hs2:zC8 11 (.osl m 0 n) none (some 0) none (S (m+1) (updB g m (.row 39 11 (List.replicate n zX) false)) u)=some (.osl m 0 0,S (m+1) (updB g m (.row 39 11 (List.replicate n zX) false)) u):=by
  show zBQ 11 m 0 n none (some 0) none _=_
  unfold zBQ
  rw[zEM (by omega),zAE]
  simp only[Nat.beq_refl,cond_true,zBO,zA8,Nat.zero_le,decide_true,Bool.and_self,Nat.sub_self,Nat.add_zero]
 have hneg:decide ((n:Int)<0)=false:=decide_eq_false (by omega)
 have hsub:(n:Int)-0=n:=Int.sub_zero _
 refine zAM (md:=⟨false,true,true,false⟩) (fn:=Tryz.f116) (n:=27) (rs:=[.tmp 4]) rfl rfl rfl rfl rfl rfl rfl rfl (by simp only[go_sem, *];try rfl) (by rfl) ?_
 repeat' (first|simp (disch:=first|assumption|omega) only[go_sem, *]|((first|apply gw_m|apply gw_q);focus (intro hs;(try simp only[nbs] at hs);simp (disch:=first|assumption|omega) only[go_sem, *];rfl))|((first|refine zAC ?_ ?_|refine zAB ?_ ?_|refine sp_C ?_ ?_|refine sp_G ?_ ?_)<;>(intro hs;try simp only[nbs] at hs)))
def slX (l:List X):AV:=.sl 0 (l.map encX) .shut
attribute [go_sem] slX
theorem c75 {ls:List (List X)}{m:Nat}{g:Nat→Box}{u:List (Nat×Nat)}(hls:ls.length<1073741824)(h0:0<ls.flatten.length)(hn:ls.flatten.length<10000000000){Q:CR→Sto→Prop}(h:∀g':Nat→Box,g' m=.row 39 11 (ls.flatten.map encX) false→(∀i,i<m→g' i=g i)→Q (.ret (.osl m 0 ls.flatten.length)) (S (m+1) g' u)):C E1 75 [.sl 0 (ls.map slX) .shut] (S m g u) Q:=by
 have hT:∀g u,(S (m+1) g u).done m (Nat.succ m)=S (m+1) g u:=fun _ _=>zHP (by omega)
 have htk:∀i,(ls.take i).flatten.length≤ls.flatten.length:=fun i=>by
  have:=congrArg (fun l=>(List.flatten l).length) (List.take_append_drop i ls)
  simp only[List.flatten_append,List.length_append] at this
  omega
 have hsn:∀i (hi:i<ls.length),(ls.take i).flatten++ls[i]=(ls.take (i+1)).flatten:=fun i hi=>by
  rw[List.take_succ_eq_append_getElem hi,List.flatten_append];simp
 refine zAM (md:=⟨false,false,true,false⟩) (fn:=Tryz.f75) (n:=36) (rs:=[.tmp 2]) rfl rfl rfl rfl rfl rfl rfl rfl (by simp only[go_sem, *];try rfl) (by rfl) ?_
 repeat' (first|simp (disch:=first|assumption|omega) only[go_sem, *]|((first|apply gw_m|apply gw_q);focus (intro hs;(try simp only[nbs] at hs);simp (disch:=first|assumption|omega) only[go_sem, *];rfl))|((first|refine zAC ?_ ?_|refine zAB ?_ ?_|refine sp_C ?_ ?_|refine sp_G ?_ ?_)<;>(intro hs;try simp only[nbs] at hs)))
 refine zA0 (ι:=Nat) (fun i=>[(0,.sl 0 (ls.map slX) .shut),(3,.int .i64 (ls.take i).flatten.length),(9,.sl 0 (ls.map slX) .shut),(10,.int .i64 ls.length),(11,.int .i64 i)]) (fun _=>S m g u) (fun i=>i≤ls.length) (fun i=>ls.length-i) ?_ 0 (Nat.zero_le _) ⟨rfl,rfl,rfl,rfl,rfl,trivial⟩ rfl
 intro i b hi hrec
 rcases Nat.lt_or_ge i ls.length with hlt|hge
 ·have hc:decide ((i:Int)<ls.length)=true:=decide_eq_true (by omega)
  have hx:ls[i]?=some ls[i]:=List.getElem?_eq_getElem hlt
  have hs1:=hsn i hlt
  have hle:=htk (i+1)
  have hlen:((ls.take i).flatten.length:Int)+ls[i].length=(ls.take (i+1)).flatten.length:=by rw[← hs1,List.length_append];omega
  have hneg:decide (((ls.take (i+1)).flatten.length:Int)<0)=false:=decide_eq_false (by omega)
  clear hsn htk hs1 h
  generalize ls[i]=l at *
  repeat' (first|simp (disch:=first|assumption|omega) only[go_sem, *]|((first|apply gw_m|apply gw_q);focus (intro hs;(try simp only[nbs] at hs);simp (disch:=first|assumption|omega) only[go_sem, *];rfl))|((first|refine zAC ?_ ?_|refine zAB ?_ ?_|refine sp_C ?_ ?_|refine sp_G ?_ ?_)<;>(intro hs;try simp only[nbs] at hs)))
  exact hrec (i+1) _ _ _ hlt (by omega) ⟨rfl,rfl,rfl,rfl,congrArg (fun z=>some (AV.int .i64 z)) (by omega),trivial⟩ rfl
 have hc:decide ((i:Int)<ls.length)=false:=decide_eq_false (by omega)
 clear hrec
 rw[List.take_of_length_le (by omega)]
 repeat' (first|refine c116 h0 hn ?_|simp (disch:=first|assumption|omega) only[go_sem, *]|((first|apply gw_m|apply gw_q);focus (intro hs;(try simp only[nbs] at hs);simp (disch:=first|assumption|omega) only[go_sem, *];rfl))|((first|refine zAC ?_ ?_|refine zAB ?_ ?_|refine sp_C ?_ ?_|refine sp_G ?_ ?_)<;>(intro hs;try simp only[nbs] at hs)))
 clear hi hge hc
 refine zA0 (ι:=Nat×(Nat→Box)) (fun p=>[(6,.osl m 0 (ls.take p.1).flatten.length),(25,.sl 0 (ls.map slX) .shut),(26,.int .i64 ls.length),(27,.int .i64 p.1)]) (fun p=>S (m+1) p.2 u) (fun p=>p.1≤ls.length∧p.2 m=.row 39 11 ((ls.take p.1).flatten.map encX++List.replicate (ls.flatten.length-(ls.take p.1).flatten.length) zX) false∧∀i,i<m→p.2 i=g i) (fun p=>ls.length-p.1) ?_ (0,_) ⟨Nat.zero_le _,zAE,fun i hi=>zAA (by omega)⟩ ⟨rfl,rfl,rfl,rfl,trivial⟩ rfl
 rintro⟨i,G⟩ b ⟨hi,hGm,hlow⟩ hrec
 dsimp only at hi hGm hlow hrec ⊢
 rcases Nat.lt_or_ge i ls.length with hlt|hge
 ·have hc:decide ((i:Int)<ls.length)=true:=decide_eq_true (by omega)
  have hx:ls[i]?=some ls[i]:=List.getElem?_eq_getElem hlt
  have hs1:=hsn i hlt
  have hle:=htk (i+1)
  have hlen:(ls.take i).flatten.length+ls[i].length=(ls.take (i+1)).flatten.length:=by rw[← hs1,List.length_append]
  obtain⟨g',ha,hg1,hg2⟩:=zZJ (b:=176) (u:=u) (n:=(ls.take i).flatten.length) (ys:=ls[i].map encX) (Nat.lt_succ_self m) hGm (fits_X _) (by rw[List.length_append,List.length_map,List.length_map,List.length_replicate];omega) (tops_X _)
  rw[List.length_map,hlen] at ha
  have hg3:g' m=.row 39 11 ((ls.take (i+1)).flatten.map encX++List.replicate (ls.flatten.length-(ls.take (i+1)).flatten.length) zX) false:=by
   rw[hg1,List.take_left' (by rw[List.length_map]),List.length_map,hlen,← hs1,List.map_append,List.append_assoc]
   congr 3
   rw[List.drop_append,List.drop_eq_nil_of_le (by rw[List.length_map,List.length_append];omega),List.nil_append,List.length_map,List.drop_replicate]
   congr 1
   rw[List.length_append];omega
  clear hsn htk hs1 h hg1 hGm
  generalize ls[i]=l at *
  repeat' (first|simp (disch:=first|assumption|omega) only[go_sem, *]|((first|apply gw_m|apply gw_q);focus (intro hs;(try simp only[nbs] at hs);simp (disch:=first|assumption|omega) only[go_sem, *];rfl))|((first|refine zAC ?_ ?_|refine zAB ?_ ?_|refine sp_C ?_ ?_|refine sp_G ?_ ?_)<;>(intro hs;try simp only[nbs] at hs)))
  exact hrec (i+1,g') _ _ _ ⟨hlt,hg3,fun i hi=>by dsimp only;rw[hg2 i (by omega)];exact hlow i hi⟩ (by dsimp only;omega) ⟨rfl,rfl,rfl,congrArg (fun z=>some (AV.int .i64 z)) (by dsimp only;omega),trivial⟩ rfl
 ·have hc:decide ((i:Int)<ls.length)=false:=decide_eq_false (by omega)
  clear hrec
  rw[List.take_of_length_le (by omega)] at hGm ⊢
  rw[Nat.sub_self,List.replicate_zero,List.append_nil] at hGm
  have hq:=h G hGm hlow
  clear h
  repeat' (first|simp (disch:=first|assumption|omega) only[go_sem, *]|((first|apply gw_m|apply gw_q);focus (intro hs;(try simp only[nbs] at hs);simp (disch:=first|assumption|omega) only[go_sem, *];rfl))|((first|refine zAC ?_ ?_|refine zAB ?_ ?_|refine sp_C ?_ ?_|refine sp_G ?_ ?_)<;>(intro hs;try simp only[nbs] at hs)))
def zV0:V:=.mk 0 0 false [] [] [] []
def zX0:X:=.mk 0 0 [] zV0 []
theorem c146n {m:Nat}{g:Nat→Box}{u:List (Nat×Nat)}(hu:zBS m u=true)(hu2:zAW m u=u){fv:AV}(hfv:zBA (S m g u) fv=some (fv,S m g u)){Q:CR→Sto→Prop}(h:Q (.ret (.int .i64 (-1))) (S m g u)):C E1 146 [.sl 0 [] .shut,fv] (S m g u) Q:=by
 have hc:decide ((0:Int)<0)=false:=rfl
 refine zAM (md:=⟨false,false,false,false⟩) (fn:=Tryz.f146) (n:=19) (rs:=[.tmp 4]) rfl rfl rfl rfl rfl rfl rfl rfl (by simp only[go_sem, *];try rfl) (by rfl) ?_
 repeat' (first|simp (disch:=first|assumption|omega) only[go_sem, *]|((first|apply gw_m|apply gw_q);focus (intro hs;(try simp only[nbs] at hs);simp (disch:=first|assumption|omega) only[go_sem, *];rfl))|((first|refine zAC ?_ ?_|refine zAB ?_ ?_|refine sp_C ?_ ?_|refine sp_G ?_ ?_)<;>(intro hs;try simp only[nbs] at hs)))
 refine zA0 (ι:=Unit) (fun _=>[(7,.int .i64 0),(8,.int .i64 0)]) (fun _=>S m g u) (fun _=>True) (fun _=>0) ?_ () trivial ⟨rfl,rfl,trivial⟩ rfl
 rintro⟨⟩ b _ _
 repeat' (first|simp (disch:=first|assumption|omega) only[go_sem, *]|((first|apply gw_m|apply gw_q);focus (intro hs;(try simp only[nbs] at hs);simp (disch:=first|assumption|omega) only[go_sem, *];rfl))|((first|refine zAC ?_ ?_|refine zAB ?_ ?_|refine sp_C ?_ ?_|refine sp_G ?_ ?_)<;>(intro hs;try simp only[nbs] at hs)))
theorem c118n {m:Nat}{g:Nat→Box}{u:List (Nat×Nat)}(hu:zBS m u=true)(hu2:zAW m u=u){fv:AV}(hfv:zBA (S m g u) fv=some (fv,S m g u)){Q:CR→Sto→Prop}(h:Q (.ret (.bool false)) (S m g u)):C E1 118 [.sl 0 [] .shut,fv] (S m g u) Q:=by
 refine zAM (md:=⟨false,false,false,false⟩) (fn:=Tryz.f118) (n:=9) (rs:=[.tmp 4]) rfl rfl rfl rfl rfl rfl rfl rfl (by simp only[go_sem, *];try rfl) (by rfl) ?_
 repeat' (first|refine c146n hu hu2 hfv ?_|simp (disch:=first|assumption|omega) only[go_sem, *]|((first|apply gw_m|apply gw_q);focus (intro hs;(try simp only[nbs] at hs);simp (disch:=first|assumption|omega) only[go_sem, *];rfl))|((first|refine zAC ?_ ?_|refine zAB ?_ ?_|refine sp_C ?_ ?_|refine sp_G ?_ ?_)<;>(intro hs;try simp only[nbs] at hs)))
theorem c121n {m:Nat}{g:Nat→Box}{u:List (Nat×Nat)}(hu:zBS m u=true)(hu2:zAW m u=u){fv:AV}(hfv:zBA (S m g u) fv=some (fv,S m g u)){Q:CR→Sto→Prop}(h:Q (.ret (.int .i64 (-1))) (S m g u)):C E1 121 [.sl 0 [] .shut,fv] (S m g u) Q:=by
 have hc:decide ((0:Int)<0)=false:=rfl
 refine zAM (md:=⟨false,false,false,false⟩) (fn:=Tryz.f121) (n:=19) (rs:=[.tmp 4]) rfl rfl rfl rfl rfl rfl rfl rfl (by simp only[go_sem, *];try rfl) (by rfl) ?_
 repeat' (first|simp (disch:=first|assumption|omega) only[go_sem, *]|((first|apply gw_m|apply gw_q);focus (intro hs;(try simp only[nbs] at hs);simp (disch:=first|assumption|omega) only[go_sem, *];rfl))|((first|refine zAC ?_ ?_|refine zAB ?_ ?_|refine sp_C ?_ ?_|refine sp_G ?_ ?_)<;>(intro hs;try simp only[nbs] at hs)))
 refine zA0 (ι:=Unit) (fun _=>[(7,.int .i64 0),(8,.int .i64 0)]) (fun _=>S m g u) (fun _=>True) (fun _=>0) ?_ () trivial ⟨rfl,rfl,trivial⟩ rfl
 rintro⟨⟩ b _ _
 repeat' (first|simp (disch:=first|assumption|omega) only[go_sem, *]|((first|apply gw_m|apply gw_q);focus (intro hs;(try simp only[nbs] at hs);simp (disch:=first|assumption|omega) only[go_sem, *];rfl))|((first|refine zAC ?_ ?_|refine zAB ?_ ?_|refine sp_C ?_ ?_|refine sp_G ?_ ?_)<;>(intro hs;try simp only[nbs] at hs)))
theorem c79n {m:Nat}{g:Nat→Box}{u:List (Nat×Nat)}(hu:zBS m u=true)(hu2:zAW m u=u){fv:AV}(hfv:zBA (S m g u) fv=some (fv,S m g u)){Q:CR→Sto→Prop}(h:Q (.ret (.bool false)) (S m g u)):C E1 79 [.sl 0 [] .shut,fv] (S m g u) Q:=by
 refine zAM (md:=⟨false,false,false,false⟩) (fn:=Tryz.f79) (n:=9) (rs:=[.tmp 4]) rfl rfl rfl rfl rfl rfl rfl rfl (by simp only[go_sem, *];try rfl) (by rfl) ?_
 repeat' (first|refine c121n hu hu2 hfv ?_|simp (disch:=first|assumption|omega) only[go_sem, *]|((first|apply gw_m|apply gw_q);focus (intro hs;(try simp only[nbs] at hs);simp (disch:=first|assumption|omega) only[go_sem, *];rfl))|((first|refine zAC ?_ ?_|refine zAB ?_ ?_|refine sp_C ?_ ?_|refine sp_G ?_ ?_)<;>(intro hs;try simp only[nbs] at hs)))
theorem c81n {m:Nat}{g:Nat→Box}{u:List (Nat×Nat)}(hu:zBS m u=true)(hu2:zAW m u=u){fv:AV}(hfv:zBA (S m g u) fv=some (fv,S m g u)){Q:CR→Sto→Prop}(h:Q (.ret (.int .i64 (-1))) (S m g u)):C E1 81 [.sl 0 [] .shut,fv] (S m g u) Q:=by
 have hc:decide ((0:Int)<0)=false:=rfl
 refine zAM (md:=⟨false,false,false,false⟩) (fn:=Tryz.f81) (n:=19) (rs:=[.tmp 4]) rfl rfl rfl rfl rfl rfl rfl rfl (by simp only[go_sem, *];try rfl) (by rfl) ?_
 repeat' (first|simp (disch:=first|assumption|omega) only[go_sem, *]|((first|apply gw_m|apply gw_q);focus (intro hs;(try simp only[nbs] at hs);simp (disch:=first|assumption|omega) only[go_sem, *];rfl))|((first|refine zAC ?_ ?_|refine zAB ?_ ?_|refine sp_C ?_ ?_|refine sp_G ?_ ?_)<;>(intro hs;try simp only[nbs] at hs)))
 refine zA0 (ι:=Unit) (fun _=>[(7,.int .i64 0),(8,.int .i64 0)]) (fun _=>S m g u) (fun _=>True) (fun _=>0) ?_ () trivial ⟨rfl,rfl,trivial⟩ rfl
 rintro⟨⟩ b _ _
 repeat' (first|simp (disch:=first|assumption|omega) only[go_sem, *]|((first|apply gw_m|apply gw_q);focus (intro hs;(try simp only[nbs] at hs);simp (disch:=first|assumption|omega) only[go_sem, *];rfl))|((first|refine zAC ?_ ?_|refine zAB ?_ ?_|refine sp_C ?_ ?_|refine sp_G ?_ ?_)<;>(intro hs;try simp only[nbs] at hs)))
theorem c40n {m:Nat}{g:Nat→Box}{u:List (Nat×Nat)}(hu:zBS m u=true)(hu2:zAW m u=u){fv:AV}(hfv:zBA (S m g u) fv=some (fv,S m g u)){Q:CR→Sto→Prop}(h:Q (.ret (.bool false)) (S m g u)):C E1 40 [.sl 0 [] .shut,fv] (S m g u) Q:=by
 refine zAM (md:=⟨false,false,false,false⟩) (fn:=Tryz.f40) (n:=9) (rs:=[.tmp 4]) rfl rfl rfl rfl rfl rfl rfl rfl (by simp only[go_sem, *];try rfl) (by rfl) ?_
 repeat' (first|refine c81n hu hu2 hfv ?_|simp (disch:=first|assumption|omega) only[go_sem, *]|((first|apply gw_m|apply gw_q);focus (intro hs;(try simp only[nbs] at hs);simp (disch:=first|assumption|omega) only[go_sem, *];rfl))|((first|refine zAC ?_ ?_|refine zAB ?_ ?_|refine sp_C ?_ ?_|refine sp_G ?_ ?_)<;>(intro hs;try simp only[nbs] at hs)))
theorem c117n {m:Nat}{g:Nat→Box}{u:List (Nat×Nat)}(hu:zBS m u=true)(hu2:zAW m u=u){fv:AV}(hfv:zBA (S m g u) fv=some (fv,S m g u)){Q:CR→Sto→Prop}(h:Q (.ret (.int .i64 (-1))) (S m g u)):C E1 117 [.sl 0 [] .shut,fv] (S m g u) Q:=by
 have hc:decide ((0:Int)<0)=false:=rfl
 refine zAM (md:=⟨false,false,false,false⟩) (fn:=Tryz.f117) (n:=19) (rs:=[.tmp 4]) rfl rfl rfl rfl rfl rfl rfl rfl (by simp only[go_sem, *];try rfl) (by rfl) ?_
 repeat' (first|simp (disch:=first|assumption|omega) only[go_sem, *]|((first|apply gw_m|apply gw_q);focus (intro hs;(try simp only[nbs] at hs);simp (disch:=first|assumption|omega) only[go_sem, *];rfl))|((first|refine zAC ?_ ?_|refine zAB ?_ ?_|refine sp_C ?_ ?_|refine sp_G ?_ ?_)<;>(intro hs;try simp only[nbs] at hs)))
 refine zA0 (ι:=Unit) (fun _=>[(7,.int .i64 0),(8,.int .i64 0)]) (fun _=>S m g u) (fun _=>True) (fun _=>0) ?_ () trivial ⟨rfl,rfl,trivial⟩ rfl
 rintro⟨⟩ b _ _
 repeat' (first|simp (disch:=first|assumption|omega) only[go_sem, *]|((first|apply gw_m|apply gw_q);focus (intro hs;(try simp only[nbs] at hs);simp (disch:=first|assumption|omega) only[go_sem, *];rfl))|((first|refine zAC ?_ ?_|refine zAB ?_ ?_|refine sp_C ?_ ?_|refine sp_G ?_ ?_)<;>(intro hs;try simp only[nbs] at hs)))
theorem c76n {m:Nat}{g:Nat→Box}{u:List (Nat×Nat)}(hu:zBS m u=true)(hu2:zAW m u=u){fv:AV}(hfv:zBA (S m g u) fv=some (fv,S m g u)){Q:CR→Sto→Prop}(h:Q (.ret (.bool false)) (S m g u)):C E1 76 [.sl 0 [] .shut,fv] (S m g u) Q:=by
 refine zAM (md:=⟨false,false,false,false⟩) (fn:=Tryz.f76) (n:=9) (rs:=[.tmp 4]) rfl rfl rfl rfl rfl rfl rfl rfl (by simp only[go_sem, *];try rfl) (by rfl) ?_
 repeat' (first|refine c117n hu hu2 hfv ?_|simp (disch:=first|assumption|omega) only[go_sem, *]|((first|apply gw_m|apply gw_q);focus (intro hs;(try simp only[nbs] at hs);simp (disch:=first|assumption|omega) only[go_sem, *];rfl))|((first|refine zAC ?_ ?_|refine zAB ?_ ?_|refine sp_C ?_ ?_|refine sp_G ?_ ?_)<;>(intro hs;try simp only[nbs] at hs)))
theorem c78 {k m:Nat}{g:Nat→Box}{u:List (Nat×Nat)}(hu:zBS m u=true)(hu2:zAW m u=u)(hk:k<m){left:Int}(hg:g k=mt left)(hl:0≤left∧left≤1500)
  {Q:CR→Sto→Prop} (h1:∀a,0≤a→a≤1500→Q (.ret (.bool true)) (S m (updB g k (mt a)) u)) (h2:∀a,Q (.ret (.bool false)) (S m (updB g k (mt a)) u)):C E1 78 [.ptr k 0,encX zX0,.int .i64 1] (S m g u) Q:=by
 have hU:=zJB hu hu2 (show m≤m+1+1+1 by omega)
 have hU1:=hU.1
 have hU2:=hU.2
 have hk3:k<m+1+1+1:=by omega
 have hes:zX0.s=[]:=rfl
 have hev:zX0.v=zV0:=rfl
 have hel:zX0.l=[]:=rfl
 obtain⟨G,hG⟩:∃G,updB (updB (updB g m (.cells 77 [.ptr k 0])) (m+1) (.cells 39 (zA1 zX0))) (m+1+1) (.cells 3 [.int .i64 1])=G:=⟨_,rfl⟩
 have hGk:G k=mt left:=by rw[← hG,zAA (by omega),zAA (by omega),zAA (by omega)];exact hg
 have hGm:∀a,(updB G k (mt a)) m=.cells 77 [.ptr k 0]:=fun a=>by rw[zAA (by omega),← hG,zAA (by omega),zAA (by omega),zAE]
 have hGm1:∀a,(updB G k (mt a)) (m+1)=.cells 39 (zA1 zX0):=fun a=>by rw[zAA (by omega),← hG,zAA (by omega),zAE]
 have hGm2:∀a,(updB G k (mt a)) (m+1+1)=.cells 3 [.int .i64 1]:=fun a=>by rw[zAA (by omega),← hG,zAE]
 have hm0:G m=.cells 77 [.ptr k 0]:=by rw[← hG,zAA (by omega),zAA (by omega),zAE]
 have hm1:G (m+1)=.cells 39 (zA1 zX0):=by rw[← hG,zAA (by omega),zAE]
 have hm2:G (m+1+1)=.cells 3 [.int .i64 1]:=by rw[← hG,zAE]
 have hGu:∀a b,updB (updB G k (mt b)) k (mt a)=updB G k (mt a):=fun a b=>by
  funext i
  by_cases e:i=k
  ·rw[e,zAE,zAE]
  ·rw[zAA e,zAA e,zAA e]
 have hlow:∀a i,i<m→i≠k→(updB G k (mt a)) i=g i:=fun a i h1 h2=>by rw[zAA h2,← hG,zAA (by omega),zAA (by omega),zAA (by omega)]
 have ht:=fun Q=>@c71d k (m+1+1+1) G u left 1 hU1 hU2 hk3 hGk hl (by omega) Q
 have hcv:=fun(h:0≤left-1)=>c74 (k:=k) (szV zV0+1) zV0 (Nat.lt_succ_self _) (by decide) 1 (left-1) (m+1+1+1) (updB G k (mt (left-1))) u hU1 hU2 hk3 zAE (by omega) (by omega) h (by omega)
 have hcs:=fun a fv hfv Q=>@c118n (m+1+1+1) (updB G k (mt a)) u hU1 hU2 fv hfv Q
 have hcx:=fun a fv hfv Q=>@c76n (m+1+1+1) (updB G k (mt a)) u hU1 hU2 fv hfv Q
 by_cases hc1:0≤left-1
 ·have hd1:decide (0≤left-1)=true:=decide_eq_true hc1
  have hcv:=hcv hc1
  refine zAM (md:=⟨false,false,false,false⟩) (fn:=Tryz.f78) (n:=35) (rs:=[.tmp 6]) rfl rfl rfl rfl rfl rfl rfl rfl (by simp only[go_sem, *];try rfl) (by rfl) ?_
  repeat' (first|refine ht _ ?_|simp (disch:=first|assumption|omega) only[go_sem, *]|((first|apply gw_m|apply gw_q);focus (intro hs;(try simp only[nbs] at hs);simp (disch:=first|assumption|omega) only[go_sem, *];rfl))|((first|refine zAC ?_ ?_|refine zAB ?_ ?_|refine sp_C ?_ ?_|refine sp_G ?_ ?_)<;>(intro hs;try simp only[nbs] at hs)))
  refine hcv _ (fun a h0 h9=>?_) (fun a=>?_)
  ·rw[hGu]
   have h1:=h1 a h0 h9
   rw[← zFL zAE (hlow a)] at h1
   clear h2 hlow hcv ht hG hGu hGk hm0 hm1 hm2
   repeat' (first|refine hcs _ _ rfl _ ?_|refine hcx _ _ rfl _ ?_|simp (disch:=first|assumption|omega) only[go_sem, *]|((first|apply gw_m|apply gw_q);focus (intro hs;(try simp only[nbs] at hs);simp (disch:=first|assumption|omega) only[go_sem, *];rfl))|((first|refine zAC ?_ ?_|refine zAB ?_ ?_|refine sp_C ?_ ?_|refine sp_G ?_ ?_)<;>(intro hs;try simp only[nbs] at hs)))
  ·rw[hGu]
   have h2:=h2 a
   rw[← zFL zAE (hlow a)] at h2
   clear h1 hlow hcv ht hG hGu hGk hm0 hm1 hm2
   repeat' (first|refine hcs _ _ rfl _ ?_|refine hcx _ _ rfl _ ?_|simp (disch:=first|assumption|omega) only[go_sem, *]|((first|apply gw_m|apply gw_q);focus (intro hs;(try simp only[nbs] at hs);simp (disch:=first|assumption|omega) only[go_sem, *];rfl))|((first|refine zAC ?_ ?_|refine zAB ?_ ?_|refine sp_C ?_ ?_|refine sp_G ?_ ?_)<;>(intro hs;try simp only[nbs] at hs)))
 ·have hd1:decide (0≤left-1)=false:=decide_eq_false hc1
  have h2:=h2 (left-1)
  rw[← zFL zAE (hlow (left-1))] at h2
  clear h1 hcv hlow hGu
  refine zAM (md:=⟨false,false,false,false⟩) (fn:=Tryz.f78) (n:=35) (rs:=[.tmp 6]) rfl rfl rfl rfl rfl rfl rfl rfl (by simp only[go_sem, *];try rfl) (by rfl) ?_
  repeat' (first|refine ht _ ?_|simp (disch:=first|assumption|omega) only[go_sem, *]|((first|apply gw_m|apply gw_q);focus (intro hs;(try simp only[nbs] at hs);simp (disch:=first|assumption|omega) only[go_sem, *];rfl))|((first|refine zAC ?_ ?_|refine zAB ?_ ?_|refine sp_C ?_ ?_|refine sp_G ?_ ?_)<;>(intro hs;try simp only[nbs] at hs)))
end Go.Ab.X
end
