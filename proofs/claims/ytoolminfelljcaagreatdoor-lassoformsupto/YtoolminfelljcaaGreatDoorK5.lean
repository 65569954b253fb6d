/- A part. -/
import Derived.Test.YtoolminfelljcaaGreatDoorK4
set_option linter.all false
noncomputable section
namespace Go.Ab.X
open Go Go.Ab Go.Proofs Pl
set_option maxRecDepth 100000
set_option maxHeartbeats 4000000
def Kp (m:Nat)(g g':Nat→Box):Prop:=∀k,k<m→(∀ty c,g k=.cells ty c→g' k=.cells ty c)∧∀R sl,g k=.row 35 1 R sl→∃sl',g' k=.row 35 1 R sl'
theorem Kp.refl (m:Nat)(g:Nat→Box):Kp m g g:=fun _ _=>⟨fun _ _ h=>h,fun _ sl h=>⟨sl,h⟩⟩
theorem Kp.trans {m m':Nat}{g g' g'':Nat→Box}(h:Kp m g g')(hm:m≤m')(h':Kp m' g' g''):Kp m g g'':=fun k hk=>
 ⟨fun ty c e=>(h' k (by omega)).1 ty c ((h k hk).1 ty c e),fun R sl e=>by
  obtain⟨sl',e'⟩:=(h k hk).2 R sl e
  exact(h' k (by omega)).2 R sl' e'⟩
theorem Kp.low {m m':Nat}{g g':Nat→Box}(h:∀i,i<m→g' i=g i):Kp m g g':=fun k hk=>by
 rw[h k hk];exact⟨fun _ _ h=>h,fun _ sl h=>⟨sl,h⟩⟩
theorem Kp.sld {m k:Nat}{g:Nat→Box}{R:List AV}{sl:Bool}(hg:g k=.row 35 1 R sl)(b:Bool):Kp m g (updB g k (.row 35 1 R b)):=fun i _=>by
 by_cases e:i=k
 ·subst e
  rw[zAE,hg]
  exact⟨fun _ _ h=>(by cases h),fun R' sl' h=>by cases h;exact⟨_,rfl⟩⟩
 ·rw[zAA e];exact⟨fun _ _ h=>h,fun _ sl h=>⟨sl,h⟩⟩
def Den (m:Nat)(g:Nat→Box)(v:AV)(xs:List (List V)):Prop:=
 (∃o,v=.sl 0 (xs.map zAD) o)∨∃k off R sl,v=.osl k off xs.length∧k<m∧g k=.row 35 1 R sl∧zEW R∧off+xs.length≤R.length∧(R.drop off).take xs.length=xs.map zAD
theorem Den.mono {m m':Nat}{g g':Nat→Box}{v:AV}{xs:List (List V)}(h:Den m g v xs)(hm:m≤m')(hk:Kp m g g'):Den m' g' v xs:=by
 rcases h with h|⟨k,off,R,sl,hv,hkm,hg,hR,hl,ht⟩
 ·exact .inl h
 ·obtain⟨sl',hg'⟩:=(hk k hkm).2 R sl hg
  exact .inr ⟨k,off,R,sl',hv,by omega,hg',hR,hl,ht⟩
theorem zR9 {m k off n:Nat}{g:Nat→Box}{u:List (Nat×Nat)}{R ys:List AV}{sl:Bool}(hk:k<m)(hg:g k=.row 35 1 R sl)(hl:off+n≤R.length)(hy:(R.drop off).take n=ys)(ht:tops ys=0) :
  zBA (S m g u) (.osl k off n)=some (.sl 0 ys .shut,S m (updB g k (.row 35 1 R true)) u):=by
 show seal1 (S m g u) (.osl k off n)=_
 simp only[seal1,zEM hk,hg,zAG,zA8,hl,decide_true,cond_true,zA6,zBI,hy,ht,zNW hk]
theorem zHU {m:Nat}{g:Nat→Box}{v:AV}{xs:List (List V)}(h:Den m g v xs):∃g',(∀u,zBA (S m g u) v=some (.sl 0 (xs.map zAD) .shut,S m g' u))∧Kp m g g':=by
 rcases h with⟨o,rfl⟩|⟨k,off,R,sl,rfl,hkm,hg,hR,hl,ht⟩
 ·exact⟨g,fun u=>rfl,Kp.refl m g⟩
 ·exact⟨_,fun u=>zR9 hkm hg hl ht (zA2 xs),Kp.sld hg true⟩
theorem c44d {a b:List (List V)}{m:Nat}{g:Nat→Box}{u:List (Nat×Nat)}{v w:AV}(hv:Den m g v a)(hw:Den m g w b)(h0:0<(a++b).length)(hlt:(a++b).length<10000000000)
  {Q:CR→Sto→Prop} (h:∀g',Kp m g g'→Q (.ret (zAK ⟨a++b,a.length⟩)) (S m g' u)):C E1 44 [v,w] (S m g u) Q:=by
 obtain⟨g1,h1,k1⟩:=zHU hv
 obtain⟨g2,h2,k2⟩:=zHU (hw.mono (Nat.le_refl m) k1)
 refine zF0 (args1:=[slSt a,slSt b]) (s1:=S m g2 u) rfl rfl rfl rfl rfl ?_ rfl (c44 h0 hlt (h g2 (k1.trans (Nat.le_refl m) k2)))
 unfold zBJ
 rw[h1]
 dsimp only
 unfold zBJ
 rw[h2]
 rfl
theorem c88d {xs:List (List V)}{m:Nat}{g:Nat→Box}{u:List (Nat×Nat)}{v:AV}(hv:Den m g v xs)(hl:xs.length<1073741824)(hk:okS xs)(h0:0<xs.length)
  {Q:CR→Sto→Prop} (h:∀g',Kp m g g'→Q (.ret (.int .i64 (Lf.per xs))) (S m g' u)):C E1 88 [v] (S m g u) Q:=by
 obtain⟨g1,h1,k1⟩:=zHU hv
 refine zF0 (args1:=[slSt xs]) (s1:=S m g1 u) rfl rfl rfl rfl rfl ?_ rfl (c88 hl hk h0 (h g1 k1))
 unfold zBJ
 rw[h1]
 rfl
theorem c87d {xs:List (List V)}{m:Nat}{g:Nat→Box}{v:AV}(hv:Den m g v xs)(hl:xs.length<1000000)(hks:okS xs){Q:CR→Sto→Prop}
  (h:∀m' g' v',m≤m'→Kp m g g'→(xs=[]∧v'=.sl 0 [] .clip∨0<xs.length∧∃R,v'=.osl m 0 (Lf.dd xs).length∧m<m'∧g' m=.row 35 1 R false∧zEW R∧R.length=xs.length∧R.take (Lf.dd xs).length=(Lf.dd xs).map zAD)→Q (.ret v') (S m' g' [])):C E1 87 [v] (S m g []) Q:=by
 obtain⟨g1,h1,k1⟩:=zHU hv
 have hs:zBJ (S m g []) [v]=some ([slSt xs],S m g1 []):=by
  unfold zBJ
  rw[h1]
  rfl
 refine zF0 (args1:=[slSt xs]) (s1:=S m g1 []) rfl rfl rfl rfl rfl hs rfl ?_
 rcases Nat.eq_zero_or_pos xs.length with h0|h0
 ·have h0:=List.eq_nil_of_length_eq_zero h0
  subst h0
  exact c87n (h m g1 _ (Nat.le_refl m) k1 (.inl ⟨rfl,rfl⟩))
 ·refine c87 h0 hl hks fun g' R e1 e2 e3 e4 e5=>h (m+1) g' _ (Nat.le_succ m) (k1.trans (Nat.le_refl m) (Kp.low (m':=m) e5)) (.inr ⟨h0,R,rfl,Nat.lt_succ_self m,e1,e2,e3,e4⟩)
theorem c87s {xs:List (List V)}{m:Nat}{g:Nat→Box}(hl:xs.length<1000000)(hks:okS xs){Q:CR→Sto→Prop}
  (h:∀m' g' v',m≤m'→(∀i,i<m→g' i=g i)→(xs=[]∧v'=.sl 0 [] .clip∨0<xs.length∧∃R,v'=.osl m 0 (Lf.dd xs).length∧m<m'∧g' m=.row 35 1 R false∧zEW R∧R.length=xs.length∧R.take (Lf.dd xs).length=(Lf.dd xs).map zAD)→Q (.ret v') (S m' g' [])):C E1 87 [.sl 0 (xs.map zAD) .shut] (S m g []) Q:=by
 rcases Nat.eq_zero_or_pos xs.length with h0|h0
 ·have h0:=List.eq_nil_of_length_eq_zero h0
  subst h0
  exact c87n (h m g _ (Nat.le_refl m) (fun _ _=>rfl) (.inl ⟨rfl,rfl⟩))
 ·refine c87 h0 hl hks fun g' R e1 e2 e3 e4 e5=>h (m+1) g' _ (Nat.le_succ m) e5 (.inr ⟨h0,R,rfl,Nat.lt_succ_self m,e1,e2,e3,e4⟩)
def Ap (k2 m:Nat)(g:Nat→Box)(v:AV)(xs:List (List V)):Prop:=
 (xs=[]∧v=.sl 0 [] .clip)∨∃k R,v=.osl k 0 xs.length∧2≤k∧k<m∧k≠k2∧g k=.row 35 1 R false∧zEW R∧xs.length≤R.length∧R.take xs.length=xs.map zAD
theorem Ap.den {k2 m:Nat}{g:Nat→Box}{v:AV}{xs:List (List V)}(h:Ap k2 m g v xs):Den m g v xs:=by
 rcases h with⟨rfl,rfl⟩|⟨k,R,hv,_,hkm,_,hg,hR,hl,ht⟩
 ·exact .inl ⟨_,rfl⟩
 ·exact .inr ⟨k,0,R,false,hv,hkm,hg,hR,by omega,by rw[List.drop_zero];exact ht⟩
theorem app_Ap {k2 m:Nat}{g:Nat→Box}{v:AV}{xs:List (List V)}(h:Ap k2 m g v xs)(hk:k2<m)(h2:2≤m)(hl:xs.length<1000000)(x:List V) :
  ∃v' m' g',zAX 35 1 24 v [zAD x] (S m g [])=some (v',S m' g' [])∧Ap k2 m' g' v' (xs++[x])∧m≤m'∧g' 0=g 0∧g' 1=g 1∧g' k2=g k2:=by
 rcases h with⟨rfl,rfl⟩|⟨k,R,rfl,hk2,hkm,hne,hg,hR,hle,ht⟩
 ·refine⟨_,_,_,zNU (xs:=[]) (ys:=[zAD x]) rfl rfl (by simp) (by simp) rfl,.inr ⟨m,_,rfl,by omega,Nat.lt_succ_self m,by omega,zAE,zCF [x],by simp,rfl⟩,Nat.le_succ m,zAA (by omega),zAA (by omega),zAA (by omega)⟩
 ·rcases Nat.lt_or_ge xs.length R.length with hlt|hge
  ·obtain⟨g',e1,e2,e3⟩:=zZJ (ty:=35) (es:=1) (b:=24) (u:=[]) (n:=xs.length) (ys:=[zAD x]) hkm hg rfl (by simp;omega) rfl
   refine⟨_,_,_,e1,.inr ⟨k,_,by simp,hk2,hkm,hne,e2,?_,?_,?_⟩,Nat.le_refl m,e3 0 (by omega),e3 1 (by omega),e3 k2 (by omega)⟩
   ·exact zE9 (zH1 hR fun y hy=>List.mem_of_mem_take hy) (zE9 (zCF [x]) (zH1 hR fun y hy=>List.mem_of_mem_drop hy))
   ·simp only[List.length_append,List.length_take,List.length_cons,List.length_nil,List.length_drop];omega
   ·rw[ht,List.map_append,List.length_append,← List.append_assoc,List.take_append_of_le_length (by simp)]
    exact List.take_of_length_le (by simp)
  ·have e0:R=xs.map zAD:=by rw[← ht,List.take_of_length_le hge]
   subst e0
   rw[List.length_map] at hge hle
   have e1:=zNT (ty:=35) (es:=1) (b:=24) (u:=[]) (n:=xs.length) (ys:=[zAD x]) hkm hg (by simp) rfl (by simp) (by simp;omega) (rowOk_tops (zE9 (zCF xs) (zCF [x])))
   refine⟨_,_,_,e1,.inr ⟨m,_,by simp,by omega,Nat.lt_succ_self m,by omega,zAE,zE9 (zCF xs) (zCF [x]),by simp,?_⟩,Nat.le_succ m,?_,?_,?_⟩
   ·rw[List.map_append];exact List.take_of_length_le (by simp)
   ·rw[zAA (by omega),zAA (by omega)]
   ·rw[zAA (by omega),zAA (by omega)]
   ·rw[zAA (by omega),zAA (by omega)]
end Go.Ab.X
namespace Lf
variable {α:Type}[DecidableEq α]
theorem zHE (L:List α):L.getLast?=L[L.length-1]?:=List.getLast?_eq_getElem?
theorem shift_go {S L:List α}{x:α}(h1:1<L.length)(hx:L[0]?=some x)(hy:L[L.length-1]?=some x):shift S L=shift (S++[x]) L.tail:=by
 match L,h1,hx,hy with
 | [],h1,_,_=>simp at h1
 | [_],h1,_,_=>simp at h1
 | a :: b :: r,_,hx,hy=>
  cases hx
  rw[← zHE,List.getLast?_cons_cons] at hy
  rw[shift,if_pos hy];rfl
theorem shift_end {S L:List α}(h:L.length≤1∨L[0]?≠L[L.length-1]?):shift S L=(S,L):=by
 match L,h with
 | [],_=>rfl
 | [_],_=>rfl
 | a :: b :: r,h=>
  rw[shift,if_neg]
  intro e
  rcases h with h|h
  ·simp at h
  ·rw[← zHE,List.getLast?_cons_cons,e] at h;exact h rfl
theorem pull_go {D L:List α}{x:α}{i:Nat}(hi:0<i)(hx:D[i-1]?=some x)(hy:L[L.length-1]?=some x):pull (D.take i).reverse L=pull (D.take (i-1)).reverse (x :: L.dropLast):=by
 have:D.take i=D.take (i-1)++[x]:=by
  have:=take_snoc hx
  rw[show i-1+1=i by omega] at this;exact this
 rw[this,List.reverse_append,List.reverse_singleton,List.singleton_append,zDC,zHE,if_pos hy]
theorem pull_end {D L:List α}{i:Nat}(hi:i≤D.length)(h:i=0∨D[i-1]?≠L[L.length-1]?):pull (D.take i).reverse L=((D.take i).reverse,L):=by
 rcases Nat.eq_zero_or_pos i with h0|h0
 ·subst h0;rfl
 ·have hx:D[i-1]?=some D[i-1]:=List.getElem?_eq_getElem (by omega)
  have:D.take i=D.take (i-1)++[D[i-1]]:=by
   have:=take_snoc hx
   rw[show i-1+1=i by omega] at this;exact this
  rw[this,List.reverse_append,List.reverse_singleton,List.singleton_append,zDC,zHE,if_neg]
  intro e
  rcases h with h|h
  ·omega
  ·exact h (by rw[hx,e])
end Lf
namespace Lf
variable {α:Type}[DecidableEq α]
theorem ddp_mem (p:Option α):∀(l:List α) {x:α},x∈ddp p l→x∈l
 | [],_,h=>h
 | a :: r,x,h=>by
  rw[zAV] at h
  split at h
  ·exact List.mem_cons_of_mem _ (ddp_mem _ r h)
  ·rcases List.mem_cons.1 h with rfl|h
   ·exact List.mem_cons_self ..
   ·exact List.mem_cons_of_mem _ (ddp_mem _ r h)
end Lf
namespace Lf
theorem dd_pos {α:Type}[DecidableEq α]{l:List α}(h:0<l.length):0<(dd l).length:=by
 cases l with
 | nil=>simp at h
 | cons a r=>show 0<(ddp none (a :: r)).length;rw[zAV,if_neg (by simp)];simp
end Lf
namespace Go.Ab.X
open Go Go.Ab Pl
theorem zKD {R:List AV}{off i:Nat}{xs:List (List V)}{x:List V}(h:(R.drop off).take xs.length=xs.map zAD)(hx:xs[i]?=some x):lnth R (off+i)=some (zAD x):=by
 have hi:i<xs.length:=(List.getElem?_eq_some_iff.1 hx).1
 have:=congrArg (fun l=>l[i]?) h
 rw[List.getElem?_take,if_pos hi,List.getElem?_drop,List.getElem?_map,hx] at this
 rw[zCY];exact this
theorem so_lo2 {m k off N n:Nat}{g:Nat→Box}{u:List (Nat×Nat)}{xs:List AV}{sl:Bool}(hk:k<m)(hg:g k=.row 35 1 xs sl)(hn:n≤N):zC8 1 (.osl k off N) (some n) none none (S m g u)=some (.osl k (off+n) (N-n),S m g u):=by
 show zBQ 1 k off N (some n) none none _=_
 unfold zBQ
 rw[zEM hk,hg]
 simp only[Nat.beq_refl,cond_true,zBO,zA8,Nat.le_refl,hn,decide_true,Bool.and_self]
theorem zGY {m k off N n:Nat}{g:Nat→Box}{u:List (Nat×Nat)}{xs:List AV}{sl:Bool}(hk:k<m)(hg:g k=.row 35 1 xs sl)(hn:n≤N):zC8 1 (.osl k off N) none (some n) none (S m g u)=some (.osl k off n,S m g u):=by
 show zBQ 1 k off N none (some n) none _=_
 unfold zBQ
 rw[zEM hk,hg]
 simp only[Nat.beq_refl,cond_true,zBO,zA8,hn,Nat.zero_le,decide_true,Bool.and_self,Nat.add_zero,Nat.sub_zero]
theorem row_tail {R:List AV}{off:Nat}{xs:List (List V)}(h:(R.drop off).take xs.length=xs.map zAD):(R.drop (off+1)).take (xs.length-1)=xs.tail.map zAD:=by
 rw[List.map_tail,← h,← List.drop_one,List.drop_take,List.drop_drop]
theorem zH0 {R:List AV}{off n:Nat}{xs:List (List V)}(h:(R.drop off).take xs.length=xs.map zAD)(hn:n≤xs.length):(R.drop off).take n=(xs.take n).map zAD:=by
 rw[List.map_take,← h,List.take_take,Nat.min_eq_left hn]
end Go.Ab.X
namespace Go.Ab.X
open Go Go.Ab Pl
def DenL (m:Nat)(g:Nat→Box)(v:AV)(xs:List (List V)):Prop:=
 (∃w,xs=[w]∧v=.sl 0 [zAD w] .clip)∨∃k off R sl,v=.osl k off xs.length∧k<m∧g k=.row 35 1 R sl∧zEW R∧off+xs.length≤R.length∧(R.drop off).take xs.length=xs.map zAD
theorem DenL.den {m:Nat}{g:Nat→Box}{v:AV}{xs:List (List V)}(h:DenL m g v xs):Den m g v xs:=by
 rcases h with⟨w,rfl,rfl⟩|h
 ·exact .inl ⟨.clip,rfl⟩
 ·exact .inr h
theorem zIH {m k off n:Nat}{g:Nat→Box}{u:List (Nat×Nat)}{R ys:List AV}{sl:Bool}(hk:k<m)(hg:g k=.row 35 1 R sl)(hl:off+n≤R.length)(hy:(R.drop off).take n=ys)(ht:tops ys=0) :
  seal1 (S m g u) (.osl k off n)=some (.sl 0 ys .shut,S m (updB g k (.row 35 1 R true)) u):=zR9 hk hg hl hy ht
end Go.Ab.X
namespace Lf
variable {α:Type}[DecidableEq α]
theorem cut_yes {P L:List α}{x:α}(hx:P[P.length-1]?=some x)(hy:L[0]?=some x)(h:0<P.length):cut P L=P.take (P.length-1):=by
 unfold cut
 rw[if_pos ⟨List.ne_nil_of_length_pos h,by rw[zHE,hx,List.head?_eq_getElem?,hy]⟩,List.dropLast_eq_take]
theorem cut_no {P L:List α}(h:P=[]∨P[P.length-1]?≠L[0]?):cut P L=P:=by
 unfold cut
 refine if_neg fun e=>?_
 rcases h with h|h
 ·exact e.1 h
 ·exact h (by rw[← zHE,e.2,List.head?_eq_getElem?])
end Lf
namespace Pl
def zD3 (st:List (List V))(j:Nat):Las:=⟨(Lf.normP st j).1.reverse++(Lf.normP st j).2,((Lf.normP st j).1.length:Int)⟩
theorem zEY {l l':List (List V)}(h:okS l)(h':∀x∈l',x∈l):okS l':=fun x hx=>h x (h' x hx)
theorem zSK {l:List (List V)}(h:okS l):okS (Lf.dd l):=zEY h fun _ hx=>Lf.ddp_mem none l hx
end Pl
namespace Go.Ab.X
open Go Go.Ab Go.Proofs Pl
set_option maxRecDepth 100000
set_option maxHeartbeats 8000000
theorem c50 {st:List (List V)}{j:Nat}{s:Sto}(h1:1≤st.length)(h2:st.length≤1000)(h3:j<st.length)(hk:okS st){Q:CR→Sto→Prop}(h:Q (.ret (zAK (zD3 st j))) s):C E1 50 [zAK ⟨st,j⟩] s Q:=by
 have hAl:(st.take j).length=j:=by rw[List.length_take];omega
 have hBl:(st.drop j).length=st.length-j:=List.length_drop
 have hkA:okS (st.take j):=zEY hk fun x hx=>List.mem_of_mem_take hx
 have hkB:okS (st.drop j):=zEY hk fun x hx=>List.mem_of_mem_drop hx
 have hcA:=fun m g Q hq=>@c87s (st.take j) m g (by omega) hkA Q hq
 have hcB:=fun m g Q hq=>@c87s (st.drop j) m g (by omega) hkB Q hq
 refine zAF (md:=⟨true,false,false,false⟩) (fn:=Tryz.f50) (n:=107) (rs:=[.cell 2 24]) rfl rfl rfl rfl rfl rfl rfl rfl (by simp only[go_sem, *];try rfl) (by rfl) (by simp only[go_sem]) ?_
 repeat' (first|refine hcA _ _ _ ?_|simp (disch:=first|assumption|omega) only[go_sem, *]|((first|apply gw_m|apply gw_q);focus (intro hs;(try simp only[nbs] at hs);simp (disch:=first|assumption|omega) only[go_sem, *];rfl))|((first|refine zAC ?_ ?_|refine zAB ?_ ?_|refine sp_C ?_ ?_|refine sp_G ?_ ?_)<;>(intro hs;try simp only[nbs] at hs)))
 intro m1 g1 v1 hm1 hp1 hc1
 have e0:=hp1 0 (by omega)
 have e1:=hp1 1 (by omega)
 rw[zAA (by omega),zAE] at e0
 rw[zAE] at e1
 clear hp1 hcA
 repeat' (first|refine hcB _ _ _ ?_|simp (disch:=first|assumption|omega) only[go_sem, *]|((first|apply gw_m|apply gw_q);focus (intro hs;(try simp only[nbs] at hs);simp (disch:=first|assumption|omega) only[go_sem, *];rfl))|((first|refine zAC ?_ ?_|refine zAB ?_ ?_|refine sp_C ?_ ?_|refine sp_G ?_ ?_)<;>(intro hs;try simp only[nbs] at hs)))
 intro m2 g2 v2 hm2 hp2 hc2
 have f1:=hp2 1 (by omega)
 rw[e1] at f1
 rcases hc2 with⟨hc2,_⟩|⟨_,R2,rfl,hm3,hg2,hR2,hl2,ht2⟩
 ·have:=congrArg List.length hc2;rw[List.length_drop] at this;simp at this;omega
 clear hcB e0 e1
 repeat' (first|simp (disch:=first|assumption|omega) only[go_sem, *]|((first|apply gw_m|apply gw_q);focus (intro hs;(try simp only[nbs] at hs);simp (disch:=first|assumption|omega) only[go_sem, *];rfl))|((first|refine zAC ?_ ?_|refine zAB ?_ ?_|refine sp_C ?_ ?_|refine sp_G ?_ ?_)<;>(intro hs;try simp only[nbs] at hs)))
 have hnorm:zD3 st j=zD3 st j:=rfl
 conv at hnorm=>rhs;unfold zD3 Lf.normP
 rw[hnorm] at h
 clear hnorm
 dsimp only at h
 have hdA:(Lf.dd (st.take j)).length≤j:=Nat.le_trans (Lf.dd_len none _) (by omega)
 have hdB:(Lf.dd (st.drop j)).length≤st.length-j:=Nat.le_trans (Lf.dd_len none _) (by omega)
 have hdB0:0<(Lf.dd (st.drop j)).length:=Lf.dd_pos (by omega)
 have hap:Ap m1 m2 g2 v1 (Lf.dd (st.take j)):=by
  rcases hc1 with⟨hc,rfl⟩|⟨_,R,rfl,hm4,hg4,hR4,hl4,ht4⟩
  ·rw[hc];exact .inl ⟨rfl,rfl⟩
  ·exact .inr ⟨2,R,rfl,Nat.le_refl 2,by omega,by omega,by rw[hp2 2 hm4];exact hg4,hR4,by omega,ht4⟩
 have hkA':=zSK hkA
 have hkB':=zSK hkB
 have hn:(Lf.dd (st.take j)).length+(Lf.dd (st.drop j)).length≤st.length:=by omega
 clear hc1 hp2 hdA hdB hkA hkB hAl hBl h3
 generalize Lf.dd (st.take j)=dA at h hap hkA' hn
 generalize Lf.dd (st.drop j)=dB at h hdB0 ht2 hkB' hn hl2
 refine zA0 (ι:=AV×List (List V)×Nat×List (List V)×Nat×(Nat→Box)) (fun p=>[(2,.ptr 1 0),(3,p.1),(4,.osl m1 p.2.2.1 p.2.2.2.1.length)]) (fun p=>S p.2.2.2.2.1 p.2.2.2.2.2 [])
  (fun p=>Ap m1 p.2.2.2.2.1 p.2.2.2.2.2 p.1 p.2.1∧(p.2.2.2.2.2 m1=.row 35 1 R2 false∧p.2.2.2.2.2 1=.cells 24 [.sl 0 [] .nil,.int .i64 0])∧(R2.drop p.2.2.1).take p.2.2.2.1.length=p.2.2.2.1.map zAD∧(p.2.2.1+p.2.2.2.1.length≤R2.length∧m1<p.2.2.2.2.1∧0<p.2.2.2.1.length)∧p.2.1.length+p.2.2.2.1.length≤st.length∧okS p.2.1∧okS p.2.2.2.1∧Lf.shift dA dB=Lf.shift p.2.1 p.2.2.2.1)
  (fun p=>p.2.2.2.1.length) ?_ (v1,dA,0,dB,m2,g2) ⟨hap,⟨hg2,f1⟩,ht2,⟨by dsimp only;have:=congrArg List.length ht2;rw[List.length_take,List.length_map] at this;omega,hm3,hdB0⟩,hn,hkA',hkB',rfl⟩ ⟨rfl,rfl,rfl,trivial⟩ rfl
 rintro⟨v,xs,off,ys,m,g⟩ b ⟨hap,⟨hg2,f1⟩,ht2,⟨hl2,hm3,hp0⟩,hn,hkx,hky,hsh⟩ hrec
 dsimp only at hap hg2 f1 ht2 hl2 hm3 hp0 hn hkx hky hsh hrec ⊢
 have hx:ys[0]?=some ys[0]:=List.getElem?_eq_getElem hp0
 have hy:ys[ys.length-1]?=some ys[ys.length-1]:=List.getElem?_eq_getElem (by omega)
 generalize ys[0]=x at hx
 generalize ys[ys.length-1]=y at hy
 have hx0:lnth R2 (off+0)=some (zAD x):=zKD ht2 hx
 have hy0:lnth R2 (off+(ys.length-1))=some (zAD y):=zKD ht2 hy
 have hkxx:=zBN hky hx
 have hkyy:=zBN hky hy
 have hsub:(ys.length:Int)-1=((ys.length-1:Nat):Int):=by omega
 have hd1:decide (ys.length-1<ys.length)=true:=decide_eq_true (by omega)
 have hd0:decide (0<ys.length)=true:=decide_eq_true hp0
 by_cases hgo:1<ys.length∧x=y
 ·obtain⟨hlt,rfl⟩:=hgo
  have hc:decide ((1:Int)<ys.length)=true:=decide_eq_true (by omega)
  have hde:decide (x=x)=true:=decide_eq_true rfl
  obtain⟨v',m',g',e1,e2,e3,e4,e5,e6⟩:=app_Ap hap hm3 (by omega) (by omega) x
  have hs1:=@so_lo2 m' m1 off ys.length 1 g' [] R2 false (by omega) (by rw[e6];exact hg2) (by omega)
  repeat' (first|refine c55e hkxx hkyy ?_|simp (disch:=first|assumption|omega) only[go_sem, *]|((first|apply gw_m|apply gw_q);focus (intro hs;(try simp only[nbs] at hs);simp (disch:=first|assumption|omega) only[go_sem, *];rfl))|((first|refine zAC ?_ ?_|refine zAB ?_ ?_|refine sp_C ?_ ?_|refine sp_G ?_ ?_)<;>(intro hs;try simp only[nbs] at hs)))
  exact hrec (v',xs++[x],off+1,ys.tail,m',g') _ _ _ ⟨e2,⟨by dsimp only;rw[e6];exact hg2,by dsimp only;rw[e5];exact f1⟩,by dsimp only;rw[List.length_tail];exact row_tail ht2,by dsimp only;rw[List.length_tail];omega,by dsimp only;rw[List.length_tail,List.length_append];simp only[List.length_cons,List.length_nil];omega,fun z hz=>(List.mem_append.1 hz).elim (hkx z) (fun hz=>by cases List.mem_singleton.1 hz;exact hkxx),zEY hky fun z hz=>List.mem_of_mem_tail hz,by dsimp only;rw[hsh,Lf.shift_go hlt hx hy]⟩ (by dsimp only;rw[List.length_tail];omega) ⟨rfl,rfl,by dsimp only;rw[List.length_tail];rfl,trivial⟩ rfl
 ·have hsh:Lf.shift dA dB=(xs,ys):=by
   rw[hsh]
   refine Lf.shift_end ?_
   by_cases e:ys.length≤1
   ·exact .inl e
   ·refine .inr ?_
    rw[hx,hy]
    exact fun e2=>hgo ⟨by omega,Option.some.inj e2⟩
  have hex:(decide ((1:Int)<ys.length)=false∧True)∨(decide ((1:Int)<ys.length)=true∧decide (x=y)=false):=by
   by_cases e:1<ys.length
   ·exact .inr ⟨decide_eq_true (by omega),decide_eq_false fun e2=>hgo ⟨e,e2⟩⟩
   ·exact .inl ⟨decide_eq_false (by omega),trivial⟩
  rw[hsh] at h
  dsimp only at h
  have hc1:=fun Q hq=>@c87d xs m g v hap.den (by omega) hkx Q hq
  have hper0:0<ys.length:=hp0
  clear hrec hsh hgo
  rcases hex with⟨hc,hde⟩|⟨hc,hde⟩
  all_goals
   repeat' (first|refine c55e hkxx hkyy ?_|refine hc1 _ ?_|simp (disch:=first|assumption|omega) only[go_sem, *]|((first|apply gw_m|apply gw_q);focus (intro hs;(try simp only[nbs] at hs);simp (disch:=first|assumption|omega) only[go_sem, *];rfl))|((first|refine zAC ?_ ?_|refine zAB ?_ ?_|refine sp_C ?_ ?_|refine sp_G ?_ ?_)<;>(intro hs;try simp only[nbs] at hs)))
   intro m3 g3 v3 hmm hkp hc3
   have f1:=(hkp 1 (by omega)).1 24 _ f1
   obtain⟨slr,hg2⟩:=(hkp m1 hm3).2 R2 false hg2
   have hc88:=fun u Q hq=>@c88d ys m3 g3 u (.osl m1 off ys.length) (.inr ⟨m1,off,R2,slr,rfl,by omega,hg2,hR2,hl2,ht2⟩) (by omega) hky hp0 Q hq
   clear hap hkp hc1 hc hde hkyy hy0 hsub hd1
   have hper:=(Lf.per_spec ys (List.ne_nil_of_length_pos hp0)).1
   rcases hc3 with⟨hxn,rfl⟩|⟨hx0',R3,rfl,hm4,hg3,hR3,hl3,ht3⟩
   ·subst hxn
    repeat' (first|refine hc88 _ _ ?_|simp (disch:=first|assumption|omega) only[go_sem, *]|((first|apply gw_m|apply gw_q);focus (intro hs;(try simp only[nbs] at hs);simp (disch:=first|assumption|omega) only[go_sem, *];rfl))|((first|refine zAC ?_ ?_|refine zAB ?_ ?_|refine sp_C ?_ ?_|refine sp_G ?_ ?_)<;>(intro hs;try simp only[nbs] at hs)))
    intro g4 hkp4
    obtain⟨sl4,hg4⟩:=(hkp4 m1 (by omega)).2 R2 slr hg2
    have f4:=(hkp4 1 (by omega)).1 24 _ f1
    have hs2:=@zGY m3 m1 off ys.length (Lf.per ys) g4 [] R2 sl4 (by omega) hg4 hper.1
    rw[show Lf.dd ([]:List (List V))=[] from rfl,Lf.cut_no (.inl rfl)] at h
    have h:Q (.ret (zAK ⟨[]++ys.take (Lf.per ys),(([]:List (List V)).length:Int)⟩)) s:=h
    have hpl:(ys.take (Lf.per ys)).length=Lf.per ys:=by rw[List.length_take];omega
    have hmd:=fun u Q hq=>@c44d [] (ys.take (Lf.per ys)) m3 g4 u (.sl 0 [] .clip) (.osl m1 off (Lf.per ys)) (.inl ⟨.clip,rfl⟩) (.inr ⟨m1,off,R2,sl4,by rw[hpl],by omega,hg4,hR2,by rw[hpl];omega,by rw[hpl];exact zH0 ht2 hper.1⟩) (by rw[List.nil_append];omega) (by rw[List.nil_append];omega) Q hq
    clear hc88 hkp4 hpl
    repeat' (first|simp (disch:=first|assumption|omega) only[go_sem, *]|((first|apply gw_m|apply gw_q);focus (intro hs;(try simp only[nbs] at hs);simp (disch:=first|assumption|omega) only[go_sem, *];rfl))|((first|refine zAC ?_ ?_|refine zAB ?_ ?_|refine sp_C ?_ ?_|refine sp_G ?_ ?_)<;>(intro hs;try simp only[nbs] at hs)))
    refine zA0 (ι:=Unit) (fun _=>[(2,.ptr 1 0),(3,.sl 0 [] .clip),(4,.osl m1 off (Lf.per ys)),(6,.int .i64 0)]) (fun _=>S m3 g4 []) (fun _=>True) (fun _=>0) ?_ () trivial ⟨rfl,rfl,rfl,rfl,trivial⟩ rfl
    rintro⟨⟩ b _ _
    repeat' (first|refine hmd _ _ ?_|simp (disch:=first|assumption|omega) only[go_sem, *]|((first|apply gw_m|apply gw_q);focus (intro hs;(try simp only[nbs] at hs);simp (disch:=first|assumption|omega) only[go_sem, *];rfl))|((first|refine zAC ?_ ?_|refine zAB ?_ ?_|refine sp_C ?_ ?_|refine sp_G ?_ ?_)<;>(intro hs;try simp only[nbs] at hs)))
    intro g5 hkp5
    have f5:=(hkp5 1 (by omega)).1 24 _ f4
    clear hkp5 hmd
    repeat' (first|simp (disch:=first|assumption|omega) only[go_sem, *]|((first|apply gw_m|apply gw_q);focus (intro hs;(try simp only[nbs] at hs);simp (disch:=first|assumption|omega) only[go_sem, *];rfl))|((first|refine zAC ?_ ?_|refine zAB ?_ ?_|refine sp_C ?_ ?_|refine sp_G ?_ ?_)<;>(intro hs;try simp only[nbs] at hs)))
    show FN true 0 s Q (some (zAK _,_))
    repeat' (first|simp (disch:=first|assumption|omega) only[go_sem, *]|((first|apply gw_m|apply gw_q);focus (intro hs;(try simp only[nbs] at hs);simp (disch:=first|assumption|omega) only[go_sem, *];rfl))|((first|refine zAC ?_ ?_|refine zAB ?_ ?_|refine sp_C ?_ ?_|refine sp_G ?_ ?_)<;>(intro hs;try simp only[nbs] at hs)))
    exact h
   ·have hD0:0<(Lf.dd xs).length:=Lf.dd_pos hx0'
    have hDl:(Lf.dd xs).length≤xs.length:=Lf.dd_len none xs
    have hkD:=zSK hkx
    generalize Lf.dd xs=D at h ht3 hD0 hDl hkD
    have hz:D[D.length-1]?=some D[D.length-1]:=List.getElem?_eq_getElem (by omega)
    generalize D[D.length-1]=z at hz
    have hkz:=zBN hkD hz
    rw[← List.drop_zero (l:=R3)] at ht3
    have hz0:lnth R3 (0+(D.length-1))=some (zAD z):=zKD ht3 hz
    have hc0:decide ((0:Int)<D.length)=true:=decide_eq_true (by omega)
    have hdz:decide (D.length-1<D.length)=true:=decide_eq_true (by omega)
    have hsubz:(D.length:Int)-1=((D.length-1:Nat):Int):=by omega
    have hd0:decide (0<ys.length)=true:=decide_eq_true hp0
    have hs3:=@zGY m3 m 0 D.length (D.length-1) g3 [] R3 false hm4 hg3 (by omega)
    obtain⟨n',hn',hcut⟩:∃n',(n'=D.length-1∧decide (z=x)=true∨n'=D.length∧decide (z=x)=false)∧Lf.cut D ys=D.take n':=by
     by_cases e:z=x
     ·subst e
      exact⟨_,.inl ⟨rfl,decide_eq_true rfl⟩,Lf.cut_yes hz hx hD0⟩
     ·exact⟨_,.inr ⟨rfl,decide_eq_false e⟩,by rw[Lf.cut_no (.inr (by rw[hz,hx];exact fun e2=>e (Option.some.inj e2))),List.take_length]⟩
    rw[hcut] at h
    have hnl:n'≤D.length:=by rcases hn' with⟨e,_⟩|⟨e,_⟩<;>omega
    clear hcut
    rcases hn' with⟨hn',hzx⟩|⟨hn',hzx⟩
    all_goals
     repeat' (first|refine c55e hkz hkxx ?_|refine hc88 _ _ ?_|simp (disch:=first|assumption|omega) only[go_sem, *]|((first|apply gw_m|apply gw_q);focus (intro hs;(try simp only[nbs] at hs);simp (disch:=first|assumption|omega) only[go_sem, *];rfl))|((first|refine zAC ?_ ?_|refine zAB ?_ ?_|refine sp_C ?_ ?_|refine sp_G ?_ ?_)<;>(intro hs;try simp only[nbs] at hs)))
     intro g4 hkp4
     obtain⟨sl4,hg4⟩:=(hkp4 m1 (by omega)).2 R2 slr hg2
     have hr4:=(hkp4 m (by omega)).2 R3 false hg3
     have f4:=(hkp4 1 (by omega)).1 24 _ f1
     have hs2:=@zGY m3 m1 off ys.length (Lf.per ys) g4 [] R2 sl4 (by omega) hg4 hper.1
     have hpl:(ys.take (Lf.per ys)).length=Lf.per ys:=by rw[List.length_take];omega
     have hden:DenL m3 g4 (.osl m1 off (Lf.per ys)) (ys.take (Lf.per ys)):=.inr ⟨m1,off,R2,sl4,by rw[hpl],by omega,hg4,hR2,by rw[hpl];omega,by rw[hpl];exact zH0 ht2 hper.1⟩
     clear hc88 hkp4
     repeat' (first|simp (disch:=first|assumption|omega) only[go_sem, *]|((first|apply gw_m|apply gw_q);focus (intro hs;(try simp only[nbs] at hs);simp (disch:=first|assumption|omega) only[go_sem, *];rfl))|((first|refine zAC ?_ ?_|refine zAB ?_ ?_|refine sp_C ?_ ?_|refine sp_G ?_ ?_)<;>(intro hs;try simp only[nbs] at hs)))
     rw[← hn']
     clear hn' hs3 hsubz hdz hc0 hz0 hz hkz hzx
     have hky4:okS (ys.take (Lf.per ys)):=zEY hky fun w hw=>List.mem_of_mem_take hw
     have hpl0:0<(ys.take (Lf.per ys)).length:=by omega
     have hpl1:(ys.take (Lf.per ys)).length≤st.length:=by omega
     rw[← hpl] at hs2
     generalize hV:AV.osl m1 off (Lf.per ys)=v4 at hden ⊢
     clear hV hs2 hpl
     generalize ys.take (Lf.per ys)=L0 at h hden hky4 hpl0 hpl1
     refine zA0 (ι:=Nat×AV×List (List V)×Nat×(Nat→Box)) (fun p=>[(2,.ptr 1 0),(3,.osl m 0 p.1),(4,p.2.1),(6,.int .i64 p.1)]) (fun p=>S p.2.2.2.1 p.2.2.2.2 [])
      (fun p=>p.1≤n'∧DenL p.2.2.2.1 p.2.2.2.2 p.2.1 p.2.2.1∧(∃sl,p.2.2.2.2 m=.row 35 1 R3 sl)∧p.2.2.2.2 1=.cells 24 [.sl 0 [] .nil,.int .i64 0]∧m3≤p.2.2.2.1∧okS p.2.2.1∧0<p.2.2.1.length∧p.2.2.1.length≤st.length∧Lf.pull (D.take n').reverse L0=Lf.pull (D.take p.1).reverse p.2.2.1)
      (fun p=>p.1) ?_ (n',v4,L0,m3,g4) ⟨Nat.le_refl _,hden,hr4,f4,Nat.le_refl _,hky4,hpl0,hpl1,rfl⟩ ⟨rfl,rfl,rfl,rfl,trivial⟩ rfl
     clear hden hr4 f4 hky4 hpl0 hpl1
     rintro⟨i,v4,ys4,mm,g⟩ b ⟨hi,hden,⟨sl3,hr4⟩,f4,hmm3,hky4,hp40,hp41,hpu⟩ hrec
     dsimp only at hi hden hr4 f4 hmm3 hky4 hp40 hp41 hpu hrec ⊢
     have hiD:i≤D.length:=by omega
     have hil:(D.take i).length=i:=by rw[List.length_take];omega
     have hend:(i=0∨D[i-1]?≠ys4[ys4.length-1]?)→Q (.ret (zAK ⟨D.take i++ys4,((D.take i).length:Int)⟩)) s:=fun e=>by
      rw[hpu,Lf.pull_end hiD e] at h
      simp only[List.reverse_reverse,List.length_reverse] at h
      exact h
     have hmd:=fun Q hq=>@c44d (D.take i) ys4 mm g [] (.osl m 0 i) v4 (.inr ⟨m,0,R3,sl3,by rw[hil],by omega,hr4,hR3,by omega,by rw[hil];exact zH0 ht3 hiD⟩) hden.den (by rw[List.length_append];omega) (by rw[List.length_append];omega) Q hq
     rw[hil] at hend
     rcases Nat.eq_zero_or_pos i with hi0|hi0
     ·have hend:=hend (.inl hi0)
      have hc:decide ((0:Int)<i)=false:=decide_eq_false (by omega)
      clear hrec hi0 hpu h
      repeat' (first|refine hmd _ ?_|simp (disch:=first|assumption|omega) only[go_sem, *]|((first|apply gw_m|apply gw_q);focus (intro hs;(try simp only[nbs] at hs);simp (disch:=first|assumption|omega) only[go_sem, *];rfl))|((first|refine zAC ?_ ?_|refine zAB ?_ ?_|refine sp_C ?_ ?_|refine sp_G ?_ ?_)<;>(intro hs;try simp only[nbs] at hs)))
      intro g5 hkp5
      have f5:=(hkp5 1 (by omega)).1 24 _ f4
      clear hkp5 hmd
      repeat' (first|simp (disch:=first|assumption|omega) only[go_sem, *]|((first|apply gw_m|apply gw_q);focus (intro hs;(try simp only[nbs] at hs);simp (disch:=first|assumption|omega) only[go_sem, *];rfl))|((first|refine zAC ?_ ?_|refine zAB ?_ ?_|refine sp_C ?_ ?_|refine sp_G ?_ ?_)<;>(intro hs;try simp only[nbs] at hs)))
      show FN true 0 s Q (some (zAK _,_))
      repeat' (first|simp (disch:=first|assumption|omega) only[go_sem, *]|((first|apply gw_m|apply gw_q);focus (intro hs;(try simp only[nbs] at hs);simp (disch:=first|assumption|omega) only[go_sem, *];rfl))|((first|refine zAC ?_ ?_|refine zAB ?_ ?_|refine sp_C ?_ ?_|refine sp_G ?_ ?_)<;>(intro hs;try simp only[nbs] at hs)))
     ·have hc:decide ((0:Int)<i)=true:=decide_eq_true (by omega)
      have hz:D[i-1]?=some D[i-1]:=List.getElem?_eq_getElem (by omega)
      have hw:ys4[ys4.length-1]?=some ys4[ys4.length-1]:=List.getElem?_eq_getElem (by omega)
      generalize D[i-1]=z at hz
      generalize ys4[ys4.length-1]=w at hw
      have hkz:=zBN hkD hz
      have hkw:=zBN hky4 hw
      have hz0:lnth R3 (0+(i-1))=some (zAD z):=zKD ht3 hz
      have hdi:decide (i-1<i)=true:=decide_eq_true (by omega)
      have hsubi:(i:Int)-1=((i-1:Nat):Int):=by omega
      have hdp:decide (ys4.length-1<ys4.length)=true:=decide_eq_true (by omega)
      have hsubp:(ys4.length:Int)-1=((ys4.length-1:Nat):Int):=by omega
      by_cases hzw:z=w
      ·subst hzw
       have hde:decide (z=z)=true:=decide_eq_true rfl
       rw[Lf.pull_go hi0 hz hw] at hpu
       clear hend hmd hil
       rcases hden with⟨w,rfl,rfl⟩|⟨k,off4,R,sl,rfl,hkm,hg,hR,hl4,ht4⟩
       ·have hwz:w=z:=by simpa using hw
        subst hwz
        have hs5:=@zGY mm m 0 i (i-1) g [] R3 sl3 (by omega) hr4 (by omega)
        have hap:∀s,zAX 35 1 24 (.sl 0 [zAD w] .clip) [] s=some (.sl 0 [zAD w] .clip,s):=fun _=>rfl
        have hsl0:∀s,zC8 1 (.sl 0 [zAD w] .clip) none (some 0) none s=some (.sl 0 [] .shut,s):=fun _=>rfl
        clear hw hdp hsubp
        repeat' (first|refine c55e hkz hkw ?_|simp (disch:=first|assumption|omega) only[go_sem, *]|((first|apply gw_m|apply gw_q);focus (intro hs;(try simp only[nbs] at hs);simp (disch:=first|assumption|omega) only[go_sem, *];rfl))|((first|refine zAC ?_ ?_|refine zAB ?_ ?_|refine sp_C ?_ ?_|refine sp_G ?_ ?_)<;>(intro hs;try simp only[nbs] at hs)))
        exact hrec (i-1,.sl 0 [zAD w] .clip,[w],mm,g) _ _ _ ⟨by dsimp only;omega,.inl ⟨w,rfl,rfl⟩,⟨sl3,hr4⟩,f4,hmm3,hky4,by simp,hp41,hpu⟩ (by dsimp only;omega) ⟨rfl,rfl,rfl,rfl,trivial⟩ rfl
       ·have hrow:=zKD ht4 hw
        rcases Nat.lt_or_ge 1 ys4.length with hp1|hp1
        ·have hs4:=@zGY mm k off4 ys4.length (ys4.length-1) g [] R sl hkm hg (by omega)
         have hel:=@zIH mm k off4 (ys4.length-1) g [] R _ sl hkm hg (by omega) (zH0 ht4 (by omega)) (zA2 _)
         have hZl:(z :: ys4.take (ys4.length-1)).length=ys4.length:=by rw[List.length_cons,List.length_take];omega
         have hkZ:okS (z :: ys4.take (ys4.length-1)):=fun q hq=>(List.mem_cons.1 hq).elim (fun e=>by rw[e];exact hkz) fun hq=>hky4 q (List.mem_of_mem_take hq)
         have hap:zAX 35 1 24 (.sl 0 [zAD z] .clip) ((ys4.take (ys4.length-1)).map zAD) (S mm (updB g k (.row 35 1 R true)) [])=some (.osl mm 0 ys4.length,S (mm+1) (updB (updB g k (.row 35 1 R true)) mm (.row 35 1 ((z :: ys4.take (ys4.length-1)).map zAD) false)) []):=by
          have:=@zNU 35 1 24 mm (updB g k (.row 35 1 R true)) [] [zAD z] ((ys4.take (ys4.length-1)).map zAD) 0 rfl (zCZ _) (by rw[List.length_map,List.length_take];omega) (by rw[List.length_map,List.length_take];simp only[List.length_cons,List.length_nil];omega) (zA2 (z :: _))
          have e:[zAD z].length+((ys4.take (ys4.length-1)).map zAD).length=ys4.length:=by rw[List.length_map,List.length_take];simp only[List.length_cons,List.length_nil];omega
          rw[e] at this;exact this
         obtain⟨sl5,hr5⟩:=(Kp.sld (m:=mm) hg true m (by omega)).2 R3 sl3 hr4
         have f5:=(Kp.sld (m:=mm) hg true 1 (by omega)).1 24 _ f4
         rw[List.dropLast_eq_take] at hpu
         generalize hG:updB g k (.row 35 1 R true)=G at hel hap hr5 f5
         generalize (z :: ys4.take (ys4.length-1))=Z at hZl hkZ hap hpu
         have hr6:(updB G mm (.row 35 1 (Z.map zAD) false)) m=.row 35 1 R3 sl5:=by rw[zAA (by omega)];exact hr5
         have f6:(updB G mm (.row 35 1 (Z.map zAD) false)) 1=.cells 24 [.sl 0 [] .nil,.int .i64 0]:=by rw[zAA (by omega)];exact f5
         have h6:(updB G mm (.row 35 1 (Z.map zAD) false)) mm=.row 35 1 (Z.map zAD) false:=zAE
         have hs5:=@zGY (mm+1) m 0 i (i-1) _ [] R3 sl5 (by omega) hr6 (by omega)
         have hmm:mm<mm+1:=Nat.lt_succ_self mm
         generalize updB G mm (.row 35 1 (Z.map zAD) false)=G2 at hap hr6 f6 h6 hs5
         clear hG
         repeat' (first|refine c55e hkz hkw ?_|simp (disch:=first|assumption|omega) only[go_sem, *]|((first|apply gw_m|apply gw_q);focus (intro hs;(try simp only[nbs] at hs);simp (disch:=first|assumption|omega) only[go_sem, *];rfl))|((first|refine zAC ?_ ?_|refine zAB ?_ ?_|refine sp_C ?_ ?_|refine sp_G ?_ ?_)<;>(intro hs;try simp only[nbs] at hs)))
         exact hrec (i-1,.osl mm 0 ys4.length,Z,mm+1,G2) _ _ _ ⟨by dsimp only;omega,.inr ⟨mm,0,_,false,by dsimp only;rw[hZl],hmm,h6,zCF Z,by dsimp only;rw[List.length_map];omega,by dsimp only;rw[List.drop_zero];exact List.take_of_length_le (by rw[List.length_map];omega)⟩,⟨sl5,hr6⟩,f6,by dsimp only;omega,hkZ,by dsimp only;omega,by dsimp only;omega,hpu⟩ (by dsimp only;omega) ⟨rfl,rfl,rfl,rfl,trivial⟩ rfl
        ·have hp1:ys4.length=1:=by omega
         obtain⟨w,rfl⟩:∃w,ys4=[w]:=by
          match ys4,hp1 with
          | [w],_=>exact⟨w,rfl⟩
         have hwz:w=z:=by simpa using hw
         subst hwz
         have hs4:=@zGY mm k off4 1 0 g [] R sl hkm hg (by omega)
         have hel:=@zIH mm k off4 0 g [] R [] sl hkm hg (by simp at hl4;omega) (by simp) rfl
         obtain⟨sl5,hr5⟩:=(Kp.sld (m:=mm) hg true m (by omega)).2 R3 sl3 hr4
         have f5:=(Kp.sld (m:=mm) hg true 1 (by omega)).1 24 _ f4
         generalize hG:updB g k (.row 35 1 R true)=G at hel hr5 f5
         have hs5:=@zGY mm m 0 i (i-1) G [] R3 sl5 (by omega) hr5 (by omega)
         have hap:∀s,zAX 35 1 24 (.sl 0 [zAD w] .clip) [] s=some (.sl 0 [zAD w] .clip,s):=fun _=>rfl
         have hrow:lnth R (off4+0)=some (zAD w):=hrow
         have hd01:decide ((0:Nat)<1)=true:=rfl
         clear hG hw hdp hsubp hp1
         have hl1:([w]:List (List V)).length=1:=rfl
         repeat' (first|refine c55e hkz hkw ?_|simp (disch:=first|assumption|omega) only[go_sem, *]|((first|apply gw_m|apply gw_q);focus (intro hs;(try simp only[nbs] at hs);simp (disch:=first|assumption|omega) only[go_sem, *];rfl))|((first|refine zAC ?_ ?_|refine zAB ?_ ?_|refine sp_C ?_ ?_|refine sp_G ?_ ?_)<;>(intro hs;try simp only[nbs] at hs)))
         exact hrec (i-1,.sl 0 [zAD w] .clip,[w],mm,G) _ _ _ ⟨by dsimp only;omega,.inl ⟨w,rfl,rfl⟩,⟨sl5,hr5⟩,f5,hmm3,hky4,by simp,hp41,hpu⟩ (by dsimp only;omega) ⟨rfl,rfl,rfl,rfl,trivial⟩ rfl
      ·have hde:decide (z=w)=false:=decide_eq_false hzw
       have hend:=hend (.inr (by rw[hz,hw];exact fun e=>hzw (Option.some.inj e)))
       rcases hden with⟨w0,rfl,rfl⟩|⟨k,off4,R,sl,rfl,hkm,hg,hR,hl4,ht4⟩
       ·have hwz:([w0].map zAD)=[zAD w0]:=rfl
        have hl1:([w0]:List (List V)).length=1:=rfl
        have hww:w0=w:=by simpa using hw
        subst hww
        clear hw hdp hsubp hrec hpu h
        repeat' (first|refine c55e hkz hkw ?_|refine hmd _ ?_|simp (disch:=first|assumption|omega) only[go_sem, *]|((first|apply gw_m|apply gw_q);focus (intro hs;(try simp only[nbs] at hs);simp (disch:=first|assumption|omega) only[go_sem, *];rfl))|((first|refine zAC ?_ ?_|refine zAB ?_ ?_|refine sp_C ?_ ?_|refine sp_G ?_ ?_)<;>(intro hs;try simp only[nbs] at hs)))
        intro g5 hkp5
        have f5:=(hkp5 1 (by omega)).1 24 _ f4
        clear hkp5 hmd
        repeat' (first|simp (disch:=first|assumption|omega) only[go_sem, *]|((first|apply gw_m|apply gw_q);focus (intro hs;(try simp only[nbs] at hs);simp (disch:=first|assumption|omega) only[go_sem, *];rfl))|((first|refine zAC ?_ ?_|refine zAB ?_ ?_|refine sp_C ?_ ?_|refine sp_G ?_ ?_)<;>(intro hs;try simp only[nbs] at hs)))
        show FN true 0 s Q (some (zAK _,_))
        repeat' (first|simp (disch:=first|assumption|omega) only[go_sem, *]|((first|apply gw_m|apply gw_q);focus (intro hs;(try simp only[nbs] at hs);simp (disch:=first|assumption|omega) only[go_sem, *];rfl))|((first|refine zAC ?_ ?_|refine zAB ?_ ?_|refine sp_C ?_ ?_|refine sp_G ?_ ?_)<;>(intro hs;try simp only[nbs] at hs)))
       ·have hrow:=zKD ht4 hw
        clear hrec hpu h
        repeat' (first|refine c55e hkz hkw ?_|refine hmd _ ?_|simp (disch:=first|assumption|omega) only[go_sem, *]|((first|apply gw_m|apply gw_q);focus (intro hs;(try simp only[nbs] at hs);simp (disch:=first|assumption|omega) only[go_sem, *];rfl))|((first|refine zAC ?_ ?_|refine zAB ?_ ?_|refine sp_C ?_ ?_|refine sp_G ?_ ?_)<;>(intro hs;try simp only[nbs] at hs)))
        intro g5 hkp5
        have f5:=(hkp5 1 (by omega)).1 24 _ f4
        clear hkp5 hmd
        repeat' (first|simp (disch:=first|assumption|omega) only[go_sem, *]|((first|apply gw_m|apply gw_q);focus (intro hs;(try simp only[nbs] at hs);simp (disch:=first|assumption|omega) only[go_sem, *];rfl))|((first|refine zAC ?_ ?_|refine zAB ?_ ?_|refine sp_C ?_ ?_|refine sp_G ?_ ?_)<;>(intro hs;try simp only[nbs] at hs)))
        show FN true 0 s Q (some (zAK _,_))
        repeat' (first|simp (disch:=first|assumption|omega) only[go_sem, *]|((first|apply gw_m|apply gw_q);focus (intro hs;(try simp only[nbs] at hs);simp (disch:=first|assumption|omega) only[go_sem, *];rfl))|((first|refine zAC ?_ ?_|refine zAB ?_ ?_|refine sp_C ?_ ?_|refine sp_G ?_ ?_)<;>(intro hs;try simp only[nbs] at hs)))
end Go.Ab.X
namespace Pl
def zAU (a:Las):Las×Int:=if isL a=false then(zLas,130) else(zD3 a.st a.back.toNat,0)
theorem zXK {st:List (List V)}{b:Int}(hb:isL ⟨st,b⟩=false):zAU ⟨st,b⟩=(zLas,130):=by unfold zAU;rw[if_pos hb]
theorem zKQ {st:List (List V)}{j:Nat}(hb:isL ⟨st,j⟩=true):zAU ⟨st,j⟩=(zD3 st j,0):=by unfold zAU;rw[if_neg (by rw[hb];simp)];rfl
end Pl
namespace Lf
variable {α:Type}[DecidableEq α]
theorem zX4 {B:List α}{i q:Nat}{y:α}(hi:i<B.length)(hq:(i+B.length-1) % B.length=q)(hy:B[q]?=some y):la B.getLast? (B.take i)=some y:=by
 rcases Nat.eq_zero_or_pos i with h0|h0
 ·subst h0
  rw[Nat.zero_add,Nat.mod_eq_of_lt (by omega)] at hq
  subst hq
  show B.getLast?=_
  rw[zHE,hy]
 ·have e:q=i-1:=by rw[← hq,show i+B.length-1=(i-1)+B.length by omega,Nat.add_mod_right,Nat.mod_eq_of_lt (by omega)]
  subst e
  have hne:B.take i≠[]:=List.ne_nil_of_length_pos (by rw[List.length_take];omega)
  cases hB:B.take i with
  | nil=>exact absurd hB hne
  | cons a r=>rw[zI0,← hB,zJ4 h0 (by omega),hy]
theorem cyc_new {B:List α}{i q:Nat}{x y:α}(hx:B[i]?=some x)(hq:(i+B.length-1) % B.length=q)(hy:B[q]?=some y)(h:x≠y):ddp B.getLast? (B.take (i+1))=ddp B.getLast? (B.take i)++[x]:=by
 have hi:i<B.length:=(List.getElem?_eq_some_iff.1 hx).1
 rw[take_snoc hx,zCM,zX4 hi hq hy,zAV,if_neg (fun e=>h (Option.some.inj e).symm)];rfl
theorem cyc_old {B:List α}{i q:Nat}{x:α}(hx:B[i]?=some x)(hq:(i+B.length-1) % B.length=q)(hy:B[q]?=some x):ddp B.getLast? (B.take (i+1))=ddp B.getLast? (B.take i):=by
 have hi:i<B.length:=(List.getElem?_eq_some_iff.1 hx).1
 rw[take_snoc hx,zCM,zX4 hi hq hy,zAV,if_pos rfl];exact List.append_nil _
theorem pull_goX {X L:List α}{x:α}(h0:0<X.length)(hx:X[X.length-1]?=some x)(hy:L[L.length-1]?=some x):pull X.reverse L=pull (X.take (X.length-1)).reverse (x :: L.dropLast):=by
 have:=pull_go (D:=X) (i:=X.length) h0 hx hy
 rwa [List.take_length] at this
theorem pull_endX {X L:List α}(h:X.length=0∨X[X.length-1]?≠L[L.length-1]?):pull X.reverse L=(X.reverse,L):=by
 have:=pull_end (D:=X) (L:=L) (Nat.le_refl X.length) h
 rwa [List.take_length] at this
theorem last_two {A:List α}:A.dropLast.reverse.reverse++A.drop (A.length-1)=A:=by
 rw[List.reverse_reverse,List.dropLast_eq_take,List.take_append_drop]
theorem mod_ok {n i:Nat}(hi:i<n):(i+n-1) % n<n:=Nat.mod_lt _ (by omega)
end Lf
namespace Go.Ab.X
open Go Go.Ab Go.Proofs Pl
set_option maxRecDepth 100000
set_option maxHeartbeats 8000000
theorem c16 {a:Las}{s:Sto}(hl:a.st.length<1073741824)(hk:okS a.st){Q:CR→Sto→Prop}(h:Q (.ret (.tuple [zAK (zAU a).1,.int .i64 (zAU a).2])) s):C E1 16 [zAK a] s Q:=by
 obtain⟨st,b⟩:=a
 have hl:st.length<1073741824:=hl
 have hk:okS st:=hk
 refine zE1 (st:=st) (b:=b) (fun hb=>?_) (fun j hj h1 h2 h3=>?_)
 ·rw[zXK hb] at h
  have h:Q (.ret (.tuple [.agg [.sl 0 [] .shut,.int .i64 0],.int .i64 130])) s:=h
  refine zAF (md:=⟨true,false,false,false⟩) (fn:=Tryz.f16) (n:=10) (rs:=[.cell 2 24,.tmp 3]) rfl rfl rfl rfl rfl rfl rfl rfl (by simp only[go_sem, *];try rfl) (by rfl) (by simp only[go_sem]) ?_
  repeat' (first|refine c49 hl ?_|simp (disch:=first|assumption|omega) only[go_sem, *]|((first|apply gw_m|apply gw_q);focus (intro hs;(try simp only[nbs] at hs);simp (disch:=first|assumption|omega) only[go_sem, *];rfl))|((first|refine zAC ?_ ?_|refine zAB ?_ ?_|refine sp_C ?_ ?_|refine sp_G ?_ ?_)<;>(intro hs;try simp only[nbs] at hs)))
 ·subst hj
  have hb:=zG1 h1 h2 h3
  rw[zKQ hb] at h
  refine zAF (md:=⟨true,false,false,false⟩) (fn:=Tryz.f16) (n:=10) (rs:=[.cell 2 24,.tmp 3]) rfl rfl rfl rfl rfl rfl rfl rfl (by simp only[go_sem, *];try rfl) (by rfl) (by simp only[go_sem]) ?_
  repeat' (first|refine c49 hl ?_|refine c50 h1 h2 h3 hk ?_|simp (disch:=first|assumption|omega) only[go_sem, *]|((first|apply gw_m|apply gw_q);focus (intro hs;(try simp only[nbs] at hs);simp (disch:=first|assumption|omega) only[go_sem, *];rfl))|((first|refine zAC ?_ ?_|refine zAB ?_ ?_|refine sp_C ?_ ?_|refine sp_G ?_ ?_)<;>(intro hs;try simp only[nbs] at hs)))
theorem c53d {xs:List (List V)}{m:Nat}{g:Nat→Box}{u:List (Nat×Nat)}{v:AV}(hv:Den m g v xs)(hl:xs.length<1073741824)(hk:okS xs)(h0:0<xs.length)
  {Q:CR→Sto→Prop} (h:∀g',Kp m g g'→Q (.ret (.int .i64 (Lf.per xs))) (S m g' u)):C E1 53 [v] (S m g u) Q:=by
 obtain⟨g1,h1,k1⟩:=zHU hv
 refine zF0 (args1:=[slSt xs]) (s1:=S m g1 u) rfl rfl rfl rfl rfl ?_ rfl (c53 hl hk h0 (h g1 k1))
 unfold zBJ
 rw[h1]
 rfl
end Go.Ab.X
namespace Pl
def zXL (st:List (List V))(j:Nat):Las:=⟨(Lf.normR st j).1.reverse++(Lf.normR st j).2,((Lf.normR st j).1.length:Int)⟩
def zF9 (a:Las):Las×Int:=if isL a=false then(zLas,130) else(zXL a.st a.back.toNat,0)
theorem zXJ {st:List (List V)}{b:Int}(hb:isL ⟨st,b⟩=false):zF9 ⟨st,b⟩=(zLas,130):=by unfold zF9;rw[if_pos hb]
theorem zXI {st:List (List V)}{j:Nat}(hb:isL ⟨st,j⟩=true):zF9 ⟨st,j⟩=(zXL st j,0):=by unfold zF9;rw[if_neg (by rw[hb];simp)];rfl
theorem okS_app {l l':List (List V)}(h:okS l)(h':okS l'):okS (l++l'):=fun x hx=>(List.mem_append.1 hx).elim (h x) (h' x)
end Pl
namespace Go.Ab.X
open Go Go.Ab Go.Proofs Pl
set_option maxRecDepth 100000
set_option maxHeartbeats 8000000
theorem c17 {a:Las}{s:Sto}(hl:a.st.length<1073741824)(hk:okS a.st){Q:CR→Sto→Prop}(h:Q (.ret (.tuple [zAK (zF9 a).1,.int .i64 (zF9 a).2])) s):C E1 17 [zAK a] s Q:=by
 obtain⟨st,b⟩:=a
 have hl:st.length<1073741824:=hl
 have hk:okS st:=hk
 refine zE1 (st:=st) (b:=b) (fun hb=>?_) (fun j hj h1 h2 h3=>?_)
 ·rw[zXJ hb] at h
  have h:Q (.ret (.tuple [.agg [.sl 0 [] .shut,.int .i64 0],.int .i64 130])) s:=h
  refine zAF (md:=⟨true,false,false,false⟩) (fn:=Tryz.f17) (n:=117) (rs:=[.cell 2 24,.tmp 3]) rfl rfl rfl rfl rfl rfl rfl rfl (by simp only[go_sem, *];try rfl) (by rfl) (by simp only[go_sem]) ?_
  repeat' (first|refine c20 hl ?_|simp (disch:=first|assumption|omega) only[go_sem, *]|((first|apply gw_m|apply gw_q);focus (intro hs;(try simp only[nbs] at hs);simp (disch:=first|assumption|omega) only[go_sem, *];rfl))|((first|refine zAC ?_ ?_|refine zAB ?_ ?_|refine sp_C ?_ ?_|refine sp_G ?_ ?_)<;>(intro hs;try simp only[nbs] at hs)))
 ·subst hj
  have hb:=zG1 h1 h2 h3
  rw[zXI hb] at h
  have hBl:(st.drop j).length=st.length-j:=List.length_drop
  have hkB:okS (st.drop j):=zEY hk fun x hx=>List.mem_of_mem_drop hx
  have hcA:=fun s Q hq=>@c51 st s (by omega) hk Q hq
  refine zAF (md:=⟨true,false,false,false⟩) (fn:=Tryz.f17) (n:=117) (rs:=[.cell 2 24,.tmp 3]) rfl rfl rfl rfl rfl rfl rfl rfl (by simp only[go_sem, *];try rfl) (by rfl) (by simp only[go_sem]) ?_
  repeat' (first|refine c20 hl ?_|refine hcA _ _ ?_|simp (disch:=first|assumption|omega) only[go_sem, *]|((first|apply gw_m|apply gw_q);focus (intro hs;(try simp only[nbs] at hs);simp (disch:=first|assumption|omega) only[go_sem, *];rfl))|((first|refine zAC ?_ ?_|refine zAB ?_ ?_|refine sp_C ?_ ?_|refine sp_G ?_ ?_)<;>(intro hs;try simp only[nbs] at hs)))
  generalize hG:updB _ 1 _=G0
  have e1:G0 1=.cells 24 [.sl 0 [] .nil,.int .i64 0]:=by rw[← hG,zAE]
  clear hG hcA
  unfold zXL Lf.normR at h
  have hA0:0<(Lf.dd st).length:=Lf.dd_pos (by omega)
  have hAl:(Lf.dd st).length≤st.length:=Lf.dd_len none st
  have hkA:=zSK hk
  have hcy:Lf.cyc (st.drop j)=Lf.ddp (st.drop j).getLast? (st.drop j):=rfl
  have hCl:Lf.cyc (st.drop j)=[]∨0<(Lf.cyc (st.drop j)).length:=(Nat.eq_zero_or_pos _).imp List.eq_nil_of_length_eq_zero id
  have hB0:0<(st.drop j).length:=by omega
  have hBl2:(st.drop j).length≤st.length:=by omega
  rw[hcy] at h hCl
  clear hBl hcy hb hl
  generalize Lf.dd st=A at h hA0 hAl hkA
  generalize st.drop j=B at h hkB hCl hB0 hBl2
  refine zA0 (ι:=Nat×Nat×(Nat→Box)) (fun p=>[(2,.ptr 1 0),(4,.sl 0 (A.map zAD) .shut),(5,.sl 0 (B.map zAD) .shut),(6,gr p.2.1 ((Lf.ddp B.getLast? (B.take p.1)).map zAD)),(7,.int .i64 p.1)]) (fun p=>S p.2.1 p.2.2 [])
   (fun p=>p.1≤B.length∧gE 35 1 2 p.2.2 p.2.1 ((Lf.ddp B.getLast? (B.take p.1)).map zAD)∧p.2.2 1=.cells 24 [.sl 0 [] .nil,.int .i64 0]) (fun p=>B.length-p.1) ?_ (0,2,G0) ⟨Nat.zero_le _,zS1 (Nat.le_refl _),e1⟩ ⟨rfl,rfl,rfl,rfl,rfl,trivial⟩ rfl
  clear e1
  rintro⟨i,m,g⟩ b ⟨hi,hge,f1⟩ hrec
  dsimp only at hi hge f1 hrec ⊢
  have hm2:=hge.1
  rcases Nat.lt_or_ge i B.length with hlt|hgt
  ·have hc:decide ((i:Int)<B.length)=true:=decide_eq_true (by omega)
   have hd1:decide (i<B.length)=true:=decide_eq_true hlt
   have hx:B[i]?=some B[i]:=List.getElem?_eq_getElem hlt
   generalize B[i]=x at hx
   obtain⟨q,hq⟩:∃q,(i+B.length-1) % B.length=q:=⟨_,rfl⟩
   have hql:q<B.length:=by rw[← hq];exact Lf.mod_ok hlt
   have hy:B[q]?=some B[q]:=List.getElem?_eq_getElem hql
   generalize B[q]=y at hy
   have hkxx:=zBN hkB hx
   have hkyy:=zBN hkB hy
   have hd2:decide (q<B.length)=true:=decide_eq_true hql
   have hsub:(i:Int)+B.length-1=((i+B.length-1:Nat):Int):=by omega
   have hB00:decide (B.length=0)=false:=decide_eq_false (by omega)
   have hdl:(Lf.ddp B.getLast? (B.take i)).length≤1000000:=Nat.le_trans (Lf.dd_len _ _) (by rw[List.length_take];omega)
   by_cases hxy:x=y
   ·subst hxy
    have hde:decide (x=x)=true:=decide_eq_true rfl
    have hold:=Lf.cyc_old hx hq hy
    repeat' (first|refine c52e hkxx hkyy ?_|simp (disch:=first|assumption|omega) only[go_sem, *]|((first|apply gw_m|apply gw_q);focus (intro hs;(try simp only[nbs] at hs);simp (disch:=first|assumption|omega) only[go_sem, *];rfl))|((first|refine zAC ?_ ?_|refine zAB ?_ ?_|refine sp_C ?_ ?_|refine sp_G ?_ ?_)<;>(intro hs;try simp only[nbs] at hs)))
    rw[← hold] at hge
    exact hrec (i+1,m,g) _ _ _ ⟨hlt,hge,f1⟩ (by dsimp only;omega) ⟨rfl,rfl,rfl,by rw[hold];rfl,rfl,trivial⟩ rfl
   ·have hde:decide (x=y)=false:=decide_eq_false hxy
    have hnew:=Lf.cyc_new hx hq hy hxy
    have e:(Lf.ddp B.getLast? (B.take (i+1))).map zAD=(Lf.ddp B.getLast? (B.take i)).map zAD++[zAD x]:=by rw[hnew,List.map_append];rfl
    obtain⟨g',hap,hge',hlo⟩:=zPQ (ty:=35) (es:=1) (b:=24) (u:=[]) (ys:=[zAD x]) hge (zCZ [x]) (by simp) (by rw[List.length_map];simp only[List.length_cons,List.length_nil];omega) (by rw[← e];exact zA2 _)
    rw[← e] at hap hge'
    have f2:=hlo 1 (by omega)
    rw[f1] at f2
    clear hnew e hlo
    repeat' (first|refine c52e hkxx hkyy ?_|simp (disch:=first|assumption|omega) only[go_sem, *]|((first|apply gw_m|apply gw_q);focus (intro hs;(try simp only[nbs] at hs);simp (disch:=first|assumption|omega) only[go_sem, *];rfl))|((first|refine zAC ?_ ?_|refine zAB ?_ ?_|refine sp_C ?_ ?_|refine sp_G ?_ ?_)<;>(intro hs;try simp only[nbs] at hs)))
    exact hrec (i+1,m+1,g') _ _ _ ⟨hlt,hge',f2⟩ (by dsimp only;omega) ⟨rfl,rfl,rfl,rfl,rfl,trivial⟩ rfl
  ·have hc:decide ((i:Int)<B.length)=false:=decide_eq_false (by omega)
   rw[List.take_of_length_le hgt] at hge ⊢
   have hdl:(Lf.ddp B.getLast? B).length≤st.length:=Nat.le_trans (Lf.dd_len _ _) hBl2
   have hkC:okS (Lf.ddp B.getLast? B):=zEY hkB fun x hx=>Lf.ddp_mem _ _ hx
   generalize Lf.ddp B.getLast? B=C at h hge hCl hdl hkC ⊢
   clear hrec
   rcases hCl with rfl|hC0
   ·rw[if_pos rfl] at h
    dsimp only at h
    rw[Lf.last_two,List.length_reverse,List.length_dropLast] at h
    have e:gr m (List.map zAD [])=.sl 0 [] .nil:=rfl
    have hsub:(A.length:Int)-1=((A.length-1:Nat):Int):=by omega
    rw[e]
    repeat' (first|simp (disch:=first|assumption|omega) only[go_sem, *]|((first|apply gw_m|apply gw_q);focus (intro hs;(try simp only[nbs] at hs);simp (disch:=first|assumption|omega) only[go_sem, *];rfl))|((first|refine zAC ?_ ?_|refine zAB ?_ ?_|refine sp_C ?_ ?_|refine sp_G ?_ ?_)<;>(intro hs;try simp only[nbs] at hs)))
    exact h
   ·rw[if_neg (List.ne_nil_of_length_pos hC0)] at h
    have hgq:m-1<m∧g (m-1)=.row 35 1 (C.map zAD) false∧2≤m-1:=by
     rcases hge.2 with h0|⟨h0,h1⟩
     ·rw[List.map_eq_nil_iff] at h0;rw[h0] at hC0;simp at hC0
     ·exact⟨by omega,h1,by omega⟩
    obtain⟨hq1,hq2,hq3⟩:=hgq
    rw[zS0 (by rw[List.length_map];exact hC0),List.length_map]
    clear hge hm2
    generalize m-1=k at hq1 hq2 hq3 ⊢
    have hper:=(Lf.per_spec C (List.ne_nil_of_length_pos hC0)).1
    have hcp:=fun u Q hq=>@c53d C m g u (.osl k 0 C.length) (.inr ⟨k,0,_,false,rfl,hq1,hq2,zCF C,by rw[List.length_map];omega,by rw[List.drop_zero];exact List.take_of_length_le (by rw[List.length_map];omega)⟩) (by omega) hkC hC0 Q hq
    have hc0:decide ((C.length:Int)=0)=false:=decide_eq_false (by omega)
    repeat' (first|refine hcp _ _ ?_|simp (disch:=first|assumption|omega) only[go_sem, *]|((first|apply gw_m|apply gw_q);focus (intro hs;(try simp only[nbs] at hs);simp (disch:=first|assumption|omega) only[go_sem, *];rfl))|((first|refine zAC ?_ ?_|refine zAB ?_ ?_|refine sp_C ?_ ?_|refine sp_G ?_ ?_)<;>(intro hs;try simp only[nbs] at hs)))
    intro g4 hkp4
    obtain⟨sl4,hg4⟩:=(hkp4 k (by omega)).2 _ false hq2
    have f4:=(hkp4 1 (by omega)).1 24 _ f1
    have hs2:=@zGY m k 0 C.length (Lf.per C) g4 [] _ sl4 hq1 hg4 hper.1
    have hpl:(C.take (Lf.per C)).length=Lf.per C:=by rw[List.length_take];omega
    have hrow:((C.map zAD).drop 0).take (C.take (Lf.per C)).length=(C.take (Lf.per C)).map zAD:=by rw[hpl,List.drop_zero,List.map_take]
    have hrl:(C.take (Lf.per C)).length≤(C.map zAD).length:=by rw[hpl,List.length_map];exact hper.1
    have hkL:okS (C.take (Lf.per C)):=zEY hkC fun w hw=>List.mem_of_mem_take hw
    clear hcp hkp4
    repeat' (first|simp (disch:=first|assumption|omega) only[go_sem, *]|((first|apply gw_m|apply gw_q);focus (intro hs;(try simp only[nbs] at hs);simp (disch:=first|assumption|omega) only[go_sem, *];rfl))|((first|refine zAC ?_ ?_|refine zAB ?_ ?_|refine sp_C ?_ ?_|refine sp_G ?_ ?_)<;>(intro hs;try simp only[nbs] at hs)))
    rw[← hpl]
    have hp0:0<(C.take (Lf.per C)).length:=by omega
    have hp1:(C.take (Lf.per C)).length≤st.length:=by omega
    clear hpl hper hs2 hc0 hc hq2
    generalize C.take (Lf.per C)=L0 at h hrow hrl hkL hp0 hp1 ⊢
    refine zA0 (ι:=List (List V)×Nat×List (List V)×Nat×(Nat→Box)) (fun p=>[(2,.ptr 1 0),(4,.sl 0 (p.1.map zAD) .shut),(6,.osl p.2.1 0 p.2.2.1.length)]) (fun p=>S p.2.2.2.1 p.2.2.2.2 [])
     (fun p=>p.1.length≤A.length∧okS p.1∧(2≤p.2.1∧p.2.1<p.2.2.2.1)∧(∃R sl,p.2.2.2.2 p.2.1=.row 35 1 R sl∧zEW R∧p.2.2.1.length≤R.length∧(R.drop 0).take p.2.2.1.length=p.2.2.1.map zAD)∧p.2.2.2.2 1=.cells 24 [.sl 0 [] .nil,.int .i64 0]∧okS p.2.2.1∧(0<p.2.2.1.length∧p.2.2.1.length≤st.length)∧Lf.pull A.reverse L0=Lf.pull p.1.reverse p.2.2.1)
     (fun p=>p.1.length) ?_ (A,k,L0,m,g4) ⟨Nat.le_refl _,hkA,⟨hq3,hq1⟩,⟨_,sl4,hg4,zCF C,hrl,hrow⟩,f4,hkL,⟨hp0,hp1⟩,rfl⟩ ⟨rfl,rfl,rfl,trivial⟩ rfl
    clear f1 f4 hq1 hq3 hrow hrl hkL hp0 hp1 hg4 hC0 hdl hkC
    rintro⟨X,k,L,m,g⟩ b ⟨hXl,hkX,⟨hq3,hq1⟩,⟨R,sl,hg,hR,hrl,hrow⟩,f1,hkL,⟨hp0,hp1⟩,hpu⟩ hrec
    dsimp only at hXl hkX hq3 hq1 hg hrl hrow f1 hkL hp0 hp1 hpu hrec ⊢
    have hw:L[L.length-1]?=some L[L.length-1]:=List.getElem?_eq_getElem (by omega)
    generalize L[L.length-1]=w at hw
    have hkw:=zBN hkL hw
    have hw0:=zKD hrow hw
    have hsubp:(L.length:Int)-1=((L.length-1:Nat):Int):=by omega
    have hdp:decide (L.length-1<L.length)=true:=decide_eq_true (by omega)
    by_cases hgo:0<X.length∧X[X.length-1]?=some w
    ·obtain⟨hX0,hz⟩:=hgo
     have hc:decide ((0:Int)<X.length)=true:=decide_eq_true (by omega)
     have hdX:decide (X.length-1<X.length)=true:=decide_eq_true (by omega)
     have hsubX:(X.length:Int)-1=((X.length-1:Nat):Int):=by omega
     have hde:decide (w=w)=true:=decide_eq_true rfl
     rw[Lf.pull_goX hX0 hz hw,List.dropLast_eq_take] at hpu
     have hZl:(w :: L.take (L.length-1)).length=L.length:=by rw[List.length_cons,List.length_take];omega
     have hkZ:okS (w :: L.take (L.length-1)):=fun q hq=>(List.mem_cons.1 hq).elim (fun e=>by rw[e];exact hkw) fun hq=>hkL q (List.mem_of_mem_take hq)
     have hkX2:okS (X.take (X.length-1)):=zEY hkX fun q hq=>List.mem_of_mem_take hq
     have hX2l:(X.take (X.length-1)).length=X.length-1:=by rw[List.length_take];omega
     have hap1:zAX 35 1 24 (.sl 0 [] .nil) [zAD w] (S m g [])=some (.osl m 0 1,S (m+1) (updB g m (.row 35 1 [zAD w] false)) []):=zTB [w] (by simp) (by simp) m g []
     have hg2:(updB g m (.row 35 1 [zAD w] false)) k=.row 35 1 R sl:=by rw[zAA (by omega)];exact hg
     have f2:(updB g m (.row 35 1 [zAD w] false)) 1=.cells 24 [.sl 0 [] .nil,.int .i64 0]:=by rw[zAA (by omega)];exact f1
     have hg3:(updB g m (.row 35 1 [zAD w] false)) m=.row 35 1 [zAD w] false:=zAE
     have hmm:m<m+1:=Nat.lt_succ_self m
     have hkm:k<m+1:=by omega
     generalize updB g m (.row 35 1 [zAD w] false)=G at hap1 hg2 f2 hg3
     have hs4:=@zGY (m+1) k 0 L.length (L.length-1) G [] R sl hkm hg2 (by omega)
     have hel:=@zIH (m+1) k 0 (L.length-1) G [] R _ sl hkm hg2 (by omega) (zH0 hrow (by omega)) (zA2 _)
     have f3:(updB G k (.row 35 1 R true)) 1=.cells 24 [.sl 0 [] .nil,.int .i64 0]:=by rw[zAA (by omega)];exact f2
     have hg4:(updB G k (.row 35 1 R true)) m=.row 35 1 ([w].map zAD) false:=by rw[zAA (by omega)];exact hg3
     generalize updB G k (.row 35 1 R true)=G2 at hel f3 hg4
     rcases Nat.lt_or_ge 1 L.length with hL1|hL1
     ·have hap2:zAX 35 1 24 (.osl m 0 1) ((L.take (L.length-1)).map zAD) (S (m+1) G2 [])=some (.osl (m+1) 0 L.length,S (m+1+1) (updB (updB G2 m .dead) (m+1) (.row 35 1 ((w :: L.take (L.length-1)).map zAD) false)) []):=by
       have:=zPT [w] (L.take (L.length-1)) (by rw[List.length_take];omega) (by rw[List.length_take];simp only[List.length_cons,List.length_nil];omega) (m:=m+1) (n:=1) (u:=[]) hmm hg4 rfl
       rw[this,List.length_take,show 1+min (L.length-1) L.length=L.length by omega];rfl
      have hg5:(updB (updB G2 m .dead) (m+1) (.row 35 1 ((w :: L.take (L.length-1)).map zAD) false)) (m+1)=.row 35 1 ((w :: L.take (L.length-1)).map zAD) false:=zAE
      have f5:(updB (updB G2 m .dead) (m+1) (.row 35 1 ((w :: L.take (L.length-1)).map zAD) false)) 1=.cells 24 [.sl 0 [] .nil,.int .i64 0]:=by rw[zAA (by omega),zAA (by omega)];exact f3
      generalize updB (updB G2 m .dead) (m+1) (.row 35 1 ((w :: L.take (L.length-1)).map zAD) false)=G3 at hap2 hg5 f5
      generalize (w :: L.take (L.length-1))=Z at hpu hZl hkZ hap2 hg5
      repeat' (first|refine c52e hkw hkw ?_|simp (disch:=first|assumption|omega) only[go_sem, *]|((first|apply gw_m|apply gw_q);focus (intro hs;(try simp only[nbs] at hs);simp (disch:=first|assumption|omega) only[go_sem, *];rfl))|((first|refine zAC ?_ ?_|refine zAB ?_ ?_|refine sp_C ?_ ?_|refine sp_G ?_ ?_)<;>(intro hs;try simp only[nbs] at hs)))
      exact hrec (X.take (X.length-1),m+1,Z,m+1+1,G3) _ _ _ ⟨by dsimp only;omega,hkX2,by dsimp only;omega,⟨_,false,hg5,zCF Z,by dsimp only;rw[List.length_map];omega,by dsimp only;rw[List.drop_zero];exact List.take_of_length_le (by rw[List.length_map];omega)⟩,f5,hkZ,by dsimp only;omega,hpu⟩ (by dsimp only;omega) ⟨rfl,rfl,by dsimp only;rw[hZl];rfl,trivial⟩ rfl
     ·have hL1:L.length=1:=by omega
      obtain⟨w0,rfl⟩:∃w0,L=[w0]:=by
       match L,hL1 with
       | [w0],_=>exact⟨w0,rfl⟩
      have hww:w0=w:=by simpa using hw
      subst hww
      have hap2:∀s,zAX 35 1 24 (.osl m 0 1) [] s=some (.osl m 0 1,s):=fun _=>rfl
      have hl1:([w0]:List (List V)).length=1:=rfl
      have hel:seal1 (S (m+1) G []) (.osl k 0 0)=some (.sl 0 [] .shut,S (m+1) G2 []):=hel
      have hs4:zC8 1 (.osl k 0 1) none (some 0) none (S (m+1) G [])=some (.osl k 0 0,S (m+1) G []):=hs4
      have hw0:lnth R (0+0)=some (zAD w0):=hw0
      clear hw hsubp hdp hL1
      repeat' (first|refine c52e hkw hkw ?_|simp (disch:=first|assumption|omega) only[go_sem, *]|((first|apply gw_m|apply gw_q);focus (intro hs;(try simp only[nbs] at hs);simp (disch:=first|assumption|omega) only[go_sem, *];rfl))|((first|refine zAC ?_ ?_|refine zAB ?_ ?_|refine sp_C ?_ ?_|refine sp_G ?_ ?_)<;>(intro hs;try simp only[nbs] at hs)))
      exact hrec (X.take (X.length-1),m,[w0],m+1,G2) _ _ _ ⟨by dsimp only;omega,hkX2,by dsimp only;omega,⟨_,false,hg4,zCF [w0],by simp,by simp⟩,f3,hkL,by dsimp only;omega,hpu⟩ (by dsimp only;omega) ⟨rfl,rfl,rfl,trivial⟩ rfl
    ·have hend:=Lf.pull_endX (X:=X) (L:=L) (by
      rw[hw]
      by_cases e:X.length=0
      ·exact .inl e
      ·exact .inr fun e2=>hgo ⟨by omega,e2⟩)
     rw[hpu,hend] at h
     clear hend
     simp only[List.reverse_reverse,List.length_reverse] at h
     have hex:(decide ((0:Int)<X.length)=false∧True)∨∃z,decide ((0:Int)<X.length)=true∧X[X.length-1]?=some z∧z≠w∧szVs z<1073741824:=by
      by_cases e:X.length=0
      ·exact .inl ⟨decide_eq_false (by omega),trivial⟩
      ·have hz:X[X.length-1]?=some X[X.length-1]:=List.getElem?_eq_getElem (by omega)
       exact .inr ⟨_,decide_eq_true (by omega),hz,fun e2=>hgo ⟨by omega,by rw[hz,e2]⟩,zBN hkX hz⟩
     have hsubX:0<X.length→(X.length:Int)-1=((X.length-1:Nat):Int):=fun _=>by omega
     have hdX:0<X.length→decide (X.length-1<X.length)=true:=fun _=>decide_eq_true (by omega)
     have hmm:m<m+1:=Nat.lt_succ_self m
     clear hrec hpu hgo
     obtain⟨m1,G1,hap1,hge1,hlo1⟩:=zZK (ty:=35) (es:=1) (b:=24) (u:=[]) (zS1 (g:=updB g m (.cells 24 [.sl 0 [] .nil,.int .i64 0])) (Nat.le_refl (m+1))) (zCZ X) (by rw[List.length_map];simp only[List.length_nil];omega) (zA2 _)
     rw[show gr (m+1) []=.sl 0 [] .nil from rfl,List.nil_append] at hap1
     rw[List.nil_append] at hge1
     have lm:=hlo1 m (by omega)
     have lk:=hlo1 k (by omega)
     have l1:=hlo1 1 (by omega)
     rw[zAE] at lm
     rw[zAA (by omega),hg] at lk
     rw[zAA (by omega),f1] at l1
     have hm1:=hge1.1
     have hel:=fun u=>@zIH m1 k 0 L.length (updB G1 m (.cells 24 [gr m1 (X.map zAD),.int .i64 0])) u R _ sl (by omega) (by rw[zAA (by omega)];exact lk) (by omega) hrow (zA2 _)
     have hge2:gE 35 1 (m+1) (updB (updB G1 m (.cells 24 [gr m1 (X.map zAD),.int .i64 0])) k (.row 35 1 R true)) m1 (X.map zAD):=⟨hm1,hge1.2.imp id fun h=>⟨h.1,by rw[zAA (by omega),zAA (by omega)];exact h.2⟩⟩
     obtain⟨G3,hap2,hge3,hlo3⟩:=zPQ (ty:=35) (es:=1) (b:=24) (u:=nU m (top (gr m1 (X.map zAD))) []) (ys:=L.map zAD) hge2 (zCZ L) (by rw[List.length_map];exact hp0) (by rw[List.length_map,List.length_map];omega) (by rw[← List.map_append];exact zA2 _)
     rw[← List.map_append] at hap2 hge3
     have hXL:0<(X++L).length:=by rw[List.length_append];omega
     have egr:gr (m1+1) ((X++L).map zAD)=.osl m1 0 (X++L).length:=by rw[zS0 (by rw[List.length_map];exact hXL),List.length_map];rfl
     rw[egr] at hap2
     clear egr
     have hr3:G3 m1=.row 35 1 ((X++L).map zAD) false:=by
      rcases hge3.2 with h0|⟨_,h0⟩
      ·rw[List.map_eq_nil_iff] at h0;rw[h0] at hXL;simp at hXL
      ·exact h0
     have km:=hlo3 m (by omega)
     have k1:=hlo3 1 (by omega)
     rw[zAA (by omega),zAE] at km
     rw[zAA (by omega),zAA (by omega)] at k1
     rw[l1] at k1
     clear hge1 hge2 hge3 hlo1 hlo3
     rcases hex with⟨hc,hz⟩|⟨z,hc,hz,hzw,hkz⟩
     ·repeat' (first|simp (disch:=first|assumption|omega) only[go_sem, *]|((first|apply gw_m|apply gw_q);focus (intro hs;(try simp only[nbs] at hs);simp (disch:=first|assumption|omega) only[go_sem, *];rfl))|((first|refine zAC ?_ ?_|refine zAB ?_ ?_|refine sp_C ?_ ?_|refine sp_G ?_ ?_)<;>(intro hs;try simp only[nbs] at hs)))
      rw[zBV (l:=X++L) (sl:=false) (by omega) (by rw[zAA (by omega),zAA (by omega),zAA (by omega)];exact hr3) rfl]
      repeat' (first|simp (disch:=first|assumption|omega) only[go_sem, *]|((first|apply gw_m|apply gw_q);focus (intro hs;(try simp only[nbs] at hs);simp (disch:=first|assumption|omega) only[go_sem, *];rfl))|((first|refine zAC ?_ ?_|refine zAB ?_ ?_|refine sp_C ?_ ?_|refine sp_G ?_ ?_)<;>(intro hs;try simp only[nbs] at hs)))
     ·have hX0:0<X.length:=by have:=of_decide_eq_true hc;omega
      have hsubX:=hsubX hX0
      have hdX:=hdX hX0
      have hde:decide (z=w)=false:=decide_eq_false hzw
      repeat' (first|refine c52e hkz hkw ?_|simp (disch:=first|assumption|omega) only[go_sem, *]|((first|apply gw_m|apply gw_q);focus (intro hs;(try simp only[nbs] at hs);simp (disch:=first|assumption|omega) only[go_sem, *];rfl))|((first|refine zAC ?_ ?_|refine zAB ?_ ?_|refine sp_C ?_ ?_|refine sp_G ?_ ?_)<;>(intro hs;try simp only[nbs] at hs)))
      rw[zBV (l:=X++L) (sl:=false) (by omega) (by rw[zAA (by omega),zAA (by omega),zAA (by omega)];exact hr3) rfl]
      repeat' (first|simp (disch:=first|assumption|omega) only[go_sem, *]|((first|apply gw_m|apply gw_q);focus (intro hs;(try simp only[nbs] at hs);simp (disch:=first|assumption|omega) only[go_sem, *];rfl))|((first|refine zAC ?_ ?_|refine zAB ?_ ?_|refine sp_C ?_ ?_|refine sp_G ?_ ?_)<;>(intro hs;try simp only[nbs] at hs)))
end Go.Ab.X
end
