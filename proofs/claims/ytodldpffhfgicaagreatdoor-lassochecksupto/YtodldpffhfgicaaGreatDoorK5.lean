/- A part. -/
import Derived.Test.YtodldpffhfgicaaGreatDoorK4
set_option linter.all false
noncomputable section
namespace Go.Ab.X
open Go Go.Ab Go.Proofs Pl
set_option maxRecDepth 100000
set_option maxHeartbeats 1000000
def zAI (sp:Pl.Spec)(j:Nat)(nd:Int)(may:AV):List AV:=zAC sp++[.map j,.int .i64 nd,may]
theorem nCk0 {a:Pl.Spec}{j:Nat}{nd:Int}{may:AV}:lnth (zAI a j nd may) 0=some (.sl 0 (a.models.map AV.str) .shut):=(rfl)
theorem nCk1 {a:Pl.Spec}{j:Nat}{nd:Int}{may:AV}:lnth (zAI a j nd may) 1=some (.sl 0 (a.consts.map zBF) .shut):=(rfl)
theorem nCk2 {a:Pl.Spec}{j:Nat}{nd:Int}{may:AV}:lnth (zAI a j nd may) 2=some (.sl 0 (a.vars.map zDX) .shut):=(rfl)
theorem nCk3 {a:Pl.Spec}{j:Nat}{nd:Int}{may:AV}:lnth (zAI a j nd may) 3=some (.sl 0 (a.defs.map zCO) .shut):=(rfl)
theorem nCk4 {a:Pl.Spec}{j:Nat}{nd:Int}{may:AV}:lnth (zAI a j nd may) 4=some (.sl 0 (a.assume.map encX) .shut):=(rfl)
theorem nCk27 {a:Pl.Spec}{j:Nat}{nd:Int}{may:AV}:lnth (zAI a j nd may) 27=some (.sl 0 (a.fair.map zEO) .shut):=(rfl)
theorem nCk28 {a:Pl.Spec}{j:Nat}{nd:Int}{may:AV}:lnth (zAI a j nd may) 28=some (.sl 0 (a.invs.map zBU) .shut):=(rfl)
theorem nCk29 {a:Pl.Spec}{j:Nat}{nd:Int}{may:AV}:lnth (zAI a j nd may) 29=some (.sl 0 (a.props.map zDB) .shut):=(rfl)
theorem nCk30 {a:Pl.Spec}{j:Nat}{nd:Int}{may:AV}:lnth (zAI a j nd may) 30=some (.sl 0 (a.cons.map encX) .shut):=(rfl)
theorem nCk31 {a:Pl.Spec}{j:Nat}{nd:Int}{may:AV}:lnth (zAI a j nd may) 31=some (.sl 0 (a.acons.map encX) .shut):=(rfl)
theorem nCk32 {a:Pl.Spec}{j:Nat}{nd:Int}{may:AV}:lnth (zAI a j nd may) 32=some (.sl 0 (a.groups.map slS) .shut):=(rfl)
theorem nCk33 {a:Pl.Spec}{j:Nat}{nd:Int}{may:AV}:lnth (zAI a j nd may) 33=some (.sl 0 (a.view.map encX) .shut):=(rfl)
theorem nCk34 {a:Pl.Spec}{j:Nat}{nd:Int}{may:AV}:lnth (zAI a j nd may) 34=some (.bool a.dead):=(rfl)
theorem nCk35 {a:Pl.Spec}{j:Nat}{nd:Int}{may:AV}:lnth (zAI a j nd may) 35=some (.map j):=(rfl)
theorem nCk36 {a:Pl.Spec}{j:Nat}{nd:Int}{may:AV}:lnth (zAI a j nd may) 36=some (.int .i64 nd):=(rfl)
theorem nCk37 {a:Pl.Spec}{j:Nat}{nd:Int}{may:AV}:lnth (zAI a j nd may) 37=some (may):=(rfl)
attribute [go_sem] nCk0 nCk1 nCk2 nCk3 nCk4 nCk27 nCk28 nCk29 nCk30 nCk31 nCk32 nCk33 nCk34 nCk35 nCk36 nCk37
theorem llen_Ck {a:Pl.Spec}{j:Nat}{nd:Int}{may:AV}:llen (zAI a j nd may)=38:=(rfl)
theorem pk_CkS {a:Pl.Spec}{j:Nat}{nd:Int}{may:AV}:pick1 (E1.types 40) (zAI a j nd may) 0=some (zAN a):=by kernel_rfl
theorem Ck_36 {a:Pl.Spec}{j:Nat}{nd n:Int}{may:AV}:List.take 36 (zAI a j nd may)++(AV.int .i64 n :: List.drop 37 (zAI a j nd may))=zAI a j n may:=(rfl)
theorem Ck_37 {a:Pl.Spec}{j:Nat}{nd:Int}{may w:AV}:List.take 37 (zAI a j nd may)++(w :: List.drop 38 (zAI a j nd may))=zAI a j nd w:=(rfl)
attribute [go_sem] llen_Ck pk_CkS Ck_36 Ck_37 oNil
theorem c200 {sp:Pl.Spec}{j:Nat}{nd deep:Int}{may:AV}{k m:Nat}{g:Nat→Box}{u:List (Nat×Nat)}(hu:zAQ m u=true)(hu2:zAJ m u=u)(hk:k<m)(hg:g k=.cells 183 (zAI sp j nd may))(hnd:0≤nd∧nd<1073741824)
  {Q:CR→Sto→Prop} (h:Q (.ret (.bool (decide (nd+1≤3000)&&decide (deep≤100)))) (S m (updB g k (.cells 183 (zAI sp j (nd+1) may))) u)):C E1 200 [.ptr k 0,.int .i64 deep] (S m g u) Q:=by
 refine cn ⟨false,false,false,false⟩ Tryz.f200 21 [.tmp 4] ?_
 repeat' (first|refine wk ?_|refine fk ?_ ?_<;>intro hs|exact⟨⟩|fail)
theorem zYT (n:Nat):zBK 1 (zs n)=true:=by
 induction n with
 | zero=>rfl
 | succ n ih=>exact ih
theorem c203 {l:List Int}{n:Int}{s:Sto}(hn:0≤n∧n<1073741824)(hl:l.length<1073741824){Q:CR→Sto→Prop}(h:Q (.ret (.sl 0 ((l++zeros n).map iv) .shut)) s):C E1 203 [.sl 0 (l.map iv) .shut,.int .i64 n] s Q:=by
 have hu:zAQ 0 []=true:=rfl
 have hu2:zAJ 0 []=[]:=rfl
 rw[List.map_append,zSO] at h
 refine ci Tryz.f203 9 [.tmp 4] ?_
 have hn1:0≤n:=hn.1
 obtain⟨t,ht⟩:∃t,n.toNat=t:=⟨_,rfl⟩
 have ht2:t<1073741824:=by omega
 have hl1:decide (t*8≤limit)=true:=decide_eq_true (by rw[limit_eq];omega)
 have hl2:decide (t≤limit)=true:=decide_eq_true (by rw[limit_eq];omega)
 have hz:zAK (E1.types 3)=.int .i64 0:=rfl
 rw[ht] at h
 rcases Nat.eq_zero_or_pos t with h0|h0
 ·have ha:∀s,zAR 3 1 8 (.sl 0 (l.map iv) .clip) (lrep (.int .i64 0) t) s=some (.sl 0 (l.map iv) .clip,s):=fun s=>by rw[h0];rfl
  rw[show zs t=[] from by rw[h0];rfl,List.append_nil] at h
  clear h0
  repeat' (first|refine c251 hu hu2 ?_|refine wk ?_|refine fk ?_ ?_<;>intro hs|exact⟨⟩|fail)
 ·have ha:zAR 3 1 8 (.sl 0 (l.map iv) .clip) (lrep (.int .i64 0) t) (S 0 g0 [])=some (.osl 0 0 (l.length+t),S 1 (updB g0 0 (.row 3 1 (l.map iv++zs t) false)) []):=by
   rw[zD7]
   rw[show List.replicate t (AV.int .i64 0)=zs t from rfl]
   rw[zTS (zP3 l) (zYT _) (by rw[zJ7];omega) (by rw[List.length_map,zJ7];omega) (by rw[zAV,zFM,zH9];rfl),List.length_map,zJ7]
  have hse:=zFG (m:=1) (k:=0) (g:=updB g0 0 (.row 3 1 (l.map iv++zs t) false)) (u:=[]) (n:=l.length+t) (Nat.zero_lt_one) zAB (by rw[List.length_append,List.length_map,zJ7]) (by rw[zAV,zFM,zH9];rfl)
  repeat' (first|refine c251 hu hu2 ?_|refine wk ?_|refine fk ?_ ?_<;>intro hs|exact⟨⟩|fail)
theorem c249 {l:List Str}{k m:Nat}{g:Nat→Box}{u:List (Nat×Nat)}(hu:zAQ m u=true)(hu2:zAJ m u=u)(hl:lens l<1073741000){Q:CR→Sto→Prop}(h:Q (.ret (.bool (rise l))) (S m g u)):C E1 249 [.ptr k 0,.sl 0 (l.map AV.str) .shut] (S m g u) Q:=by
 have h1:=lens_len l
 have hsz:∀x∈l,x.length<1073741000:=fun x hx=>by have:=lens_mem hx;omega
 refine cn ⟨false,false,false,false⟩ Tryz.f249 31 [.tmp 4] ?_
 repeat' (first|refine wk ?_|refine fk ?_ ?_<;>intro hs|exact⟨⟩|fail)
 refine zAF (ι:=Nat) (fun i=>[(1,.sl 0 (l.map AV.str) .shut),(7,.sl 0 (l.map AV.str) .shut),(8,.int .i64 l.length),(9,.int .i64 i)]) (fun _=>S m g u) (fun i=>i≤l.length∧rise l=riseT (if i=0 then none else l[i-1]?) (l.drop i)) (fun i=>l.length-i) ?_ 0 ⟨Nat.zero_le _,rise_T l⟩ ⟨rfl,rfl,rfl,rfl,trivial⟩ rfl
 rintro i b ⟨hi,he⟩ hrec
 rcases Nat.lt_or_ge i l.length with hlt|hge
 ·obtain⟨hx,hmem,hcnd⟩:=zF3 hlt;rw[List.drop_eq_getElem_cons hlt] at he
  simp only[riseT] at he
  cases i with
  | zero=>
   have hz0:decide ((0:Int)<((0:Nat):Int))=false:=rfl
   repeat' (first|refine c187 (hsz _ hmem) ?_|refine wk ?_|refine fk ?_ ?_<;>intro hs|exact⟨⟩|fail)
   all_goals first|exact zAX h (by(try clear hrec);(try clear h);rw[he];grind)|exact hrec 1 _ _ _ ⟨hlt,by rw[he];clear h hrec;simp_all⟩ (by omega) ⟨rfl,rfl,rfl,rfl,trivial⟩ rfl
  | succ i=>
   have hy:l[i]?=some l[i]:=List.getElem?_eq_getElem (by omega)
   have hz:((i+1:Nat):Int)-1=i:=by omega
   have hz0:decide ((0:Int)<((i+1:Nat):Int))=true:=decide_eq_true (by omega)
   have hif:(if i+1=0 then none else l[i+1-1]?)=some l[i]:=by rw[if_neg (by omega)];exact hy
   rw[hif] at he
   repeat' (first|refine c187 (hsz _ hmem) ?_|refine wk ?_|refine fk ?_ ?_<;>intro hs|exact⟨⟩|fail)
   all_goals first|exact zAX h (by(try clear hrec);(try clear h);rw[he];grind)|exact hrec (i+2) _ _ _ ⟨hlt,by rw[he,if_neg (by omega),show i+2-1=i+1 by omega,hx];clear h hrec;simp_all⟩ (by omega) ⟨rfl,rfl,rfl,rfl,trivial⟩ rfl
 ·have hcnd:=zDN hge;rw[List.drop_eq_nil_of_le hge] at he
  simp only[riseT] at he
  repeat' (first|refine wk ?_|refine fk ?_ ?_<;>intro hs|exact⟨⟩|fail)
  exact zAX h (by(try clear hrec);(try clear h);rw[he])
theorem zYA (ms:List Str)(v:V):zDU ms v=if v.kind=4 then decide (v.s∈ms) else zFT ms v.l&&zFT ms v.m:=by cases v;rfl
theorem zLS (ms:List Str):∀l:List V,zFT ms l=!(l.any fun x=>!zDU ms x)
 | []=>rfl
 | v :: r=>by rw[zFT,List.any_cons,zLS ms r];cases zDU ms v<;>rfl
theorem c190 {sp:Pl.Spec}{j:Nat}{nd:Int}{may:AV}{k:Nat}(hml:sp.models.length<1073741824):∀(N:Nat) (v:V),szV v<N→szV v<1073741824→∀(m:Nat) (g:Nat→Box) (u:List (Nat×Nat)),zAQ m u=true→zAJ m u=u→k<m→g k=.cells 183 (zAI sp j nd may)→
  ∀Q:CR→Sto→Prop,Q (.ret (.bool (zDU sp.models v))) (S m g u)→C E1 190 [.ptr k 0,encV v] (S m g u) Q:=by
 intro N
 induction N with
 | zero=>intro v h;exact absurd h (Nat.not_lt_zero _)
 | succ N ih=>
  intro v hN hsz m g u hu hu2 hk hg Q h
  have hml2:sp.models.length<4611686018427387904:=by omega
  have h240:∀(x:V)(M b:Nat) (G:Nat→Box),szV x<N→szV x<1073741824→m≤M→zAQ M u=true→zAJ M u=u→b<M→G b=.cells 135 [.ptr k 0]→G k=.cells 183 (zAI sp j nd may)→∀Q:CR→Sto→Prop,Q (.ret (.bool (!zDU sp.models x))) (S M G u)→C E1 243 [encV x,.ptr b 0] (S M G u) Q:=by
   intro x M b G hx hx2 hM hU hU2 hb hGb hGk Q h
   have hU3:=zB6 hU hU2 (Nat.le_succ M)
   have hr:=ih x hx hx2 (M+1) (updB G M (.cells 32 (zAW x))) u hU3.1 hU3.2 (by omega) (by rw[zAA (by omega)];exact hGk)
   refine cn ⟨false,false,false,false⟩ Tryz.f243 8 [.tmp 3] ?_
   repeat' (first|refine hr _ ?_|refine wk ?_|refine fk ?_ ?_<;>intro hs|exact⟨⟩|fail)
  rw[zYA] at h
  have hU3:=zB6 hu hu2 (show m≤m+1+1 by omega)
  have hVl:=zD2 v
  generalize hG:updB (updB g m (.cells 135 [.ptr k 0])) (m+1) (.cells 32 (zAW v))=G at *
  have hGm:G m=.cells 135 [.ptr k 0]:=by rw[← hG,zAA (by omega),zAB]
  have hGm1:G (m+1)=.cells 32 (zAW v):=by rw[← hG,zAB]
  have hGk:G k=.cells 183 (zAI sp j nd may):=by rw[← hG,zAA (by omega),zAA (by omega)];exact hg
  have hGS:S m G u=S m g u:=by rw[← hG,S_hi (by omega),S_hi (by omega)]
  have hany:∀l:List V,(∀x∈l,szV x<szV v)→l.length<4611686018427387904→∀Q:CR→Sto→Prop,Q (.ret (.bool (!zFT sp.models l))) (S (m+1+1) G u)→C E1 55 [.sl 0 (l.map encV) .shut,.func (m+1) (.func 243) [] [.ptr m 0]] (S (m+1+1) G u) Q:=fun l hl hn Q hQ=>
   c55p (q:=fun x=>!zDU sp.models x) hn hU3.1 hU3.2 (by intro x;rw[zA3];rfl) (by intro x;rw[zA3];exact pk_V) rfl (fun x hx Q hQ=>zB1 rfl (h240 x (m+1+1) m G (by have:=hl x hx;omega) (by have:=hl x hx;omega) (by omega) hU3.1 hU3.2 (by omega) hGm hGk Q hQ)) (by rw[zLS,Bool.not_not] at hQ;exact hQ)
  have hl1:=hany v.l (fun x hx=>by have:=szVs_mem hx;omega) (by have:=szVs_len v.l;omega)
  have hl2:=hany v.m (fun x hx=>by have:=szVs_mem hx;omega) (by have:=szVs_len v.m;omega)
  clear hany h240 ih
  refine cn ⟨false,false,false,false⟩ Tryz.f190 30 [.tmp 4] ?_
  repeat' (first|refine c188 hml2 ?_|refine hl1 _ ?_|refine hl2 _ ?_|refine wk ?_|refine fk ?_ ?_<;>intro hs|exact⟨⟩|fail)
  all_goals exact zAX h (by(try clear hrec);(try clear h);clear hl1 hl2 hG hGS hGk hGm hGm1;simp_all)
theorem c148 {sp:Pl.Spec}{j:Nat}{nd:Int}{may:AV}{k:Nat}(hml:sp.models.length<1073741824){v:V}(hsz:szV v<1073741824){m:Nat}{g:Nat→Box}{u:List (Nat×Nat)}(hu:zAQ m u=true)(hu2:zAJ m u=u)(hk:k<m)(hg:g k=.cells 183 (zAI sp j nd may))
  {Q:CR→Sto→Prop} (h:Q (.ret (.bool (zBD v&&zDU sp.models v))) (S m g u)):C E1 148 [.ptr k 0,encV v] (S m g u) Q:=by
 have hU3:=zB6 hu hu2 (show m≤m+1 by omega)
 have hr:∀Q:CR→Sto→Prop,Q (.ret (.bool (zDU sp.models v))) (S (m+1) (updB g m (.cells 32 (zAW v))) u)→C E1 190 [.ptr k 0,encV v] (S (m+1) (updB g m (.cells 32 (zAW v))) u) Q:=fun Q hQ=>c190 hml (szV v+1) v (by omega) hsz (m+1) _ u hU3.1 hU3.2 (by omega) (by rw[zAA (by omega)];exact hg) Q hQ
 refine cn ⟨false,false,false,false⟩ Tryz.f148 13 [.tmp 4] ?_
 repeat' (first|refine c57 hsz ?_|refine hr _ ?_|refine wk ?_|refine fk ?_ ?_<;>intro hs|exact⟨⟩|fail)
 all_goals exact zAX h (by(try clear hrec);(try clear h);clear hr;by_cases hv:zBD v=true<;>simp_all)
end Go.Ab.X
namespace Go.Ab
open Go
attribute [local semireducible] GW SV in
theorem zEX {E:Env}{f:FuncId}{k:Rest}{d:Tmp}{op:Op}{fr:Fr}{s:Sto}{Q:Out→Fr→Sto→Prop}{b0:Bool}{v:AV}{g:FuncId}{args:List AV}(hc:∀Q:CR→Sto→Prop,Q (.ret v) s→C E g args s Q)(h1:b0=true→opA E f fr op s=.call g args s)(h2:RW E f k (fr.put (some d) (mg b0 v)) s Q):GW E f 0 k (some d) op fr s Q b0:=by
 cases b0 with
 | true=>show SV E f k (some d) fr (opA E f fr op s) Q;rw[h1 rfl,yAC];refine hc _ ?_;rw[KR_ret];exact h2
 | false=>exact h2
theorem S_hi2 {m k j:Nat}{g:Nat→Box}{u:List (Nat×Nat)}{b c:Box}(h:m≤j):S m (updB (updB g j c) k b) u=S m (updB g k b) u:=zMP fun i hi=>by
 unfold updB
 split
 ·rfl
 ·rw[if_neg (by omega)]
attribute [go_sem] S_hi2
end Go.Ab
namespace Pl
def shp (k:Int):Bool×Int×Bool×Bool×Bool:=
 if k=1 then(true,0,false,false,true)
 else if k=47∨k=46∨k=41∨k=6∨k=7 then(true,-1,true,false,false)
 else if k=35∨k=36 then(true,-1,false,true,false)
 else if k=37 then(true,1,false,true,false)
 else if k=2∨k=3∨k=4 then(true,0,true,false,false)
 else if k=16∨k=17∨k=24∨k=30 then(true,-1,true,false,false)
 else if k=11∨k=12∨k=22∨k=38∨k=39 then(true,-1,false,false,false)
 else if k=5∨k=13∨k=25∨k=26∨k=32∨k=43∨k=45 then(true,1,false,false,false)
 else if k=14∨k=15∨k=18∨k=19∨k=20∨k=21∨k=23∨k=27∨k=28∨k=29∨k=31∨k=33∨k=42∨k=44 then(true,2,false,false,false)
 else if k=34∨k=40 then(true,3,false,false,false)
 else(false,0,false,false,false)
def shL:List (Int×Int×Bool×Bool×Bool):=
 [(1,0,false,false,true),(47,-1,true,false,false),(46,-1,true,false,false),(41,-1,true,false,false),(6,-1,true,false,false),(7,-1,true,false,false),(35,-1,false,true,false),(36,-1,false,true,false),(37,1,false,true,false)] ++
 [2,3,4].map (fun k=>(k,0,true,false,false))++[16,17,24,30].map (fun k=>(k,-1,true,false,false))++[11,12,22,38,39].map (fun k=>(k,-1,false,false,false)) ++
 [5,13,25,26,32,43,45].map (fun k=>(k,1,false,false,false))++[14,15,18,19,20,21,23,27,28,29,31,33,42,44].map (fun k=>(k,2,false,false,false))++[34,40].map (fun k=>(k,3,false,false,false))
def look (k:Int):List (Int×Int×Bool×Bool×Bool)→Bool×Int×Bool×Bool×Bool
 | []=>(false,0,false,false,false)
 | (j,x) :: r=>if k=j then(true,x) else look k r
theorem zTF (k:Int):look k shL=shp k:=by
 by_cases h1:k=1
 ·subst h1;rfl
 by_cases h47:k=47
 ·subst h47;rfl
 by_cases h46:k=46
 ·subst h46;rfl
 by_cases h41:k=41
 ·subst h41;rfl
 by_cases h6:k=6
 ·subst h6;rfl
 by_cases h7:k=7
 ·subst h7;rfl
 by_cases h35:k=35
 ·subst h35;rfl
 by_cases h36:k=36
 ·subst h36;rfl
 by_cases h37:k=37
 ·subst h37;rfl
 by_cases h2:k=2
 ·subst h2;rfl
 by_cases h3:k=3
 ·subst h3;rfl
 by_cases h4:k=4
 ·subst h4;rfl
 by_cases h16:k=16
 ·subst h16;rfl
 by_cases h17:k=17
 ·subst h17;rfl
 by_cases h24:k=24
 ·subst h24;rfl
 by_cases h30:k=30
 ·subst h30;rfl
 by_cases h11:k=11
 ·subst h11;rfl
 by_cases h12:k=12
 ·subst h12;rfl
 by_cases h22:k=22
 ·subst h22;rfl
 by_cases h38:k=38
 ·subst h38;rfl
 by_cases h39:k=39
 ·subst h39;rfl
 by_cases h5:k=5
 ·subst h5;rfl
 by_cases h13:k=13
 ·subst h13;rfl
 by_cases h25:k=25
 ·subst h25;rfl
 by_cases h26:k=26
 ·subst h26;rfl
 by_cases h32:k=32
 ·subst h32;rfl
 by_cases h43:k=43
 ·subst h43;rfl
 by_cases h45:k=45
 ·subst h45;rfl
 by_cases h14:k=14
 ·subst h14;rfl
 by_cases h15:k=15
 ·subst h15;rfl
 by_cases h18:k=18
 ·subst h18;rfl
 by_cases h19:k=19
 ·subst h19;rfl
 by_cases h20:k=20
 ·subst h20;rfl
 by_cases h21:k=21
 ·subst h21;rfl
 by_cases h23:k=23
 ·subst h23;rfl
 by_cases h27:k=27
 ·subst h27;rfl
 by_cases h28:k=28
 ·subst h28;rfl
 by_cases h29:k=29
 ·subst h29;rfl
 by_cases h31:k=31
 ·subst h31;rfl
 by_cases h33:k=33
 ·subst h33;rfl
 by_cases h42:k=42
 ·subst h42;rfl
 by_cases h44:k=44
 ·subst h44;rfl
 by_cases h34:k=34
 ·subst h34;rfl
 by_cases h40:k=40
 ·subst h40;rfl
 simp only[shL,look,List.map_cons,List.map_nil,List.cons_append,List.nil_append,shp, *,if_false,or_self]
def zJZ (sp:Spec)(mp:Int→Bool)(sc:List Int)(e:X):Bool:=
 !(!(shp e.kind).1||(!(shp e.kind).2.2.1&&!decide (e.n=0))||(!(shp e.kind).2.2.2.1&&decide ((0:Int)<e.s.length))||(!(shp e.kind).2.2.2.2&&!zF4 e.v)||(decide (0≤(shp e.kind).2.1)&&!decide ((e.l.length:Int)=(shp e.kind).2.1))) &&
 (if e.kind=1 then zBD e.v&&zDU sp.models e.v
  else if e.kind=2 then decide (0≤e.n)&&decide (e.n<sp.vars.length)
  else if e.kind=3 then decide (0≤e.n)&&decide (e.n<sp.consts.length)
  else if e.kind=4 then decide (0≤e.n)&&decide (e.n<sc.length)&&decide (sc.getD e.n.toNat 0=0)
  else if e.kind=6 then decide (0≤e.n)&&decide (e.n<sp.defs.length)&&mp e.n&&decide ((e.l.length:Int)=(params sp e.n).length)
  else if e.kind=7 then decide (0≤e.n)&&decide (e.n<sc.length)&&decide (0<sc.getD e.n.toNat 0)&&decide ((e.l.length:Int)=sc.getD e.n.toNat 0)
  else if e.kind=16∨e.kind=17∨e.kind=24∨e.kind=30 then decide (1≤e.n)&&decide (e.n≤8)&&decide ((e.l.length:Int)=e.n+1)&&decide ((sc.length:Int)+e.n≤40)
  else if e.kind=39 then decide (2≤(e.l.length:Int))
  else if e.kind=41 then(decide (e.n=0)||decide (e.n=1))&&decide (2+e.n≤(e.l.length:Int))&&decide ((e.l.length:Int) % 2=e.n)
  else if e.kind=46 then decide (1≤e.n)&&decide (e.n≤19)&&decide ((e.l.length:Int)=prims e.n)
  else if e.kind=47 then decide (1≤e.n)&&decide (e.n≤4)&&decide (decide ((e.l.length:Int)=1)=decide (e.n=4))&&decide ((e.l.length:Int)≤1)
  else if e.kind=35∨e.kind=36∨e.kind=37 then decide (1≤(e.s.length:Int))&&(!decide (e.kind=37)||decide ((e.s.length:Int)=1))&&(decide (e.kind=37)||decide ((e.s.length:Int)=e.l.length))&&rise e.s
  else if e.kind=18∨e.kind=23∨e.kind=34∨e.kind=42 then decide ((sc.length:Int)<40)
  else true)
end Pl
namespace Go.Ab.X
open Go Go.Ab Go.Proofs Pl
set_option maxRecDepth 100000
set_option maxHeartbeats 16000000
def zL9 (x:Int×Bool×Bool×Bool):AV:=.agg [.int .i64 x.1,.bool x.2.1,.bool x.2.2.1,.bool x.2.2.2]
def zA8 (l:List (Int×Int×Bool×Bool×Bool)):List (AV×AV):=l.map fun p=>(.int .i64 p.1,zL9 p.2)
theorem zRX (k:Int):∀l:List (Int×Int×Bool×Bool×Bool),zE5 (.int .i64 k) (zA8 l)=some (bif (Pl.look k l).1 then some (zL9 (Pl.look k l).2) else none)
 | []=>rfl
 | (j,x) :: r=>by
  show(match zKJ (.int .i64 k) (.int .i64 j) with|some b=>bif b then some (some (zL9 x)) else zE5 (.int .i64 k) (zA8 r)|none=>none)=_
  rw[zRX k r]
  simp only[zKJ,zDV,cond_true,zJC]
  by_cases h:k=j
  ·rw[decide_eq_true h,show Pl.look k ((j,x) :: r)=(true,x) from if_pos h];rfl
  ·rw[decide_eq_false h,show Pl.look k ((j,x) :: r)=Pl.look k r from if_neg h];rfl
theorem zOI (k:Int):∀l:List (Int×Int×Bool×Bool×Bool),(Pl.look k l).1=false→Pl.look k l=(false,0,false,false,false)
 | [],_=>rfl
 | (j,x) :: r,h=>by
  unfold Pl.look at h ⊢
  split at h
  ·cases h
  ·rename_i hn;rw[if_neg hn];exact zOI k r h
def lkB (b:Box)(k:Int)(s:Sto):Nx:=match b with
 | .mapb es=>found (E1.types 227) true s (zE5 (.int .i64 k) es)
 | _=>.no
theorem lk_sh {m j:Nat}{g:Nat→Box}{u:List (Nat×Nat)}{k:Int}(hj:j<m):zDT E1 180 (some (.map j)) (some (.int .i64 k)) true (S m g u)=lkB (g j) k (S m g u):=by
 unfold zDT
 rw[tyd180]
 simp only
 rw[zEY hj]
 unfold lkB
 cases g j<;>rfl
theorem lkB_sh {s:Sto}{k:Int}:lkB (.mapb (zA8 shL)) k s=.val (.tuple [zL9 (shp k).2,.bool (shp k).1]) s:=by
 unfold lkB
 simp only
 rw[zRX,zTF]
 have:=zOI k shL
 rw[zTF] at this
 cases h:(shp k).1 with
 | true=>rfl
 | false=>rw[this h];rfl
attribute [go_sem] lk_sh lkB_sh
attribute [go_sem] zL9
def MayOk (may:AV)(mp:Int→Bool)(len m0 k:Nat)(g0:Nat→Box)(u:List (Nat×Nat)):Prop:=
 ∀(M:Nat) (G:Nat→Box),m0≤M→(∀i,i<m0→i≠k→G i=g0 i)→∀(n:Int),0≤n→n<len→∀Q:CR→Sto→Prop,Q (.ret (.bool (mp n))) (S M G u)→CV E1 may [.int .i64 n] (S M G u) Q
theorem c201 {sp:Pl.Spec}{j:Nat}{nd:Int}{may:AV}{mp:Int→Bool}{k m0:Nat}{g0:Nat→Box}{sc:List Int}{e:X}(hml:sp.models.length<1073741824)(hdl:sp.defs.length<1073741824)(hvl:sp.vars.length<1073741824)(hcl:sp.consts.length<1073741824)(hsl:sc.length<1073741824)(hpl:(params sp e.n).length<1073741824)(hl:szX e<1073741000)
  {m:Nat} {g:Nat→Box} {u:List (Nat×Nat)} (hu:zAQ m u=true) (hu2:zAJ m u=u) (hk:k<m) (hj:j<m) (hg:g k=.cells 183 (zAI sp j nd may)) (hgj:g j=.mapb (zA8 shL)) (hm0:m0≤m) (hg0:∀i,i<m0→i≠k→g i=g0 i) (hmay:MayOk may mp sp.defs.length m0 k g0 u)
  {Q:CR→Sto→Prop} (h:Q (.ret (.bool (zJZ sp mp sc e))) (S m g u)):C E1 201 [.ptr k 0,encX e,.sl 0 (sc.map iv) .shut] (S m g u) Q:=by
 have hlv:=zGY e
 have hle:=szXs_len e.l
 have hls:=lens_len e.s
 have hvz:szV e.v<4611686018427387904:=by omega
 have hvz2:szV e.v<1073741824:=by omega
 have hlz:lens e.s<1073741000:=by omega
 have hU3:=zB6 hu hu2 (show m≤m+1+1 by omega)
 have hx:=@zMK sp e.n
 have hy:=@at_sc sc e.n
 have hpl2:(sp.defs.getD e.n.toNat default).params.length<1073741824:=hpl
 have hmy:=fun(b:Box)=>hmay (m+1+1) (updB (updB g m (.cells 34 (zAL e))) (m+1) b) (by omega) (fun i h1 h2=>by rw[zAA (by omega),zAA (by omega)];exact hg0 i h1 h2) e.n
 have hv71:=fun(b:Box) (Q:CR→Sto→Prop) hQ=>c148 (sp:=sp) (j:=j) (nd:=nd) (may:=may) (k:=k) (v:=e.v) (m:=m+1+1) (g:=updB (updB g m (.cells 34 (zAL e))) (m+1) b) (u:=u) (Q:=Q) hml hvz2 hU3.1 hU3.2 (by omega) (by rw[zAA (by omega),zAA (by omega)];exact hg) hQ
 have hpr:1≤e.n→e.n≤19→primL[e.n.toNat]?=some (prims e.n):=fun h1 h2=>by
  have:e.n=1∨e.n=2∨e.n=3∨e.n=4∨e.n=5∨e.n=6∨e.n=7∨e.n=8∨e.n=9∨e.n=10∨e.n=11∨e.n=12∨e.n=13∨e.n=14∨e.n=15∨e.n=16∨e.n=17∨e.n=18∨e.n=19:=by omega
  rcases this with h|h|h|h|h|h|h|h|h|h|h|h|h|h|h|h|h|h|h<;>(rw[h];rfl)
 clear hmay hg0
 have hrem:(e.l.length:Int).tmod 2=(e.l.length:Int) % 2:=Int.tmod_eq_emod_of_nonneg (by omega)
 have hw2:e.n=0∨e.n=1→wr .i64 (2+e.n)=2+e.n:=fun h=>wr_id (by omega)
 refine cn ⟨false,false,false,false⟩ Tryz.f201 315 [.tmp 6] ?_
 repeat' (first|(refine zEX (fun Q h=>c247 (v:=e.v) hvz h) ?_ ?_;focus (intro hs;(try simp only[nbs] at hs);simp (disch:=first|assumption|omega) only[go_sem, *];first|done|rfl))|refine hv71 _ _ ?_|refine sv_CV ?_|refine hmy _ (by omega) (by omega) _ ?_|refine c248 ?_|refine c249 hU3.1 hU3.2 hlz ?_|refine wk ?_|refine fk ?_ ?_<;>intro hs|exact⟨⟩|fail)
 all_goals try (have hsl1:(1:Int)≤e.l.length:=(by omega);repeat' (first|(refine zEX (fun Q h=>c247 (v:=e.v) hvz h) ?_ ?_;focus (intro hs;(try simp only[nbs] at hs);simp (disch:=first|assumption|omega) only[go_sem, *];first|done|rfl))|refine hv71 _ _ ?_|refine sv_CV ?_|refine hmy _ (by omega) (by omega) _ ?_|refine c248 ?_|refine c249 hU3.1 hU3.2 hlz ?_|refine wk ?_|refine fk ?_ ?_<;>intro hs|exact⟨⟩|fail))
 all_goals clear hmy hv71 hx hy hpr hg hgj hu hu2 hU3 hrem
 all_goals try exact zAX h (by(try clear hrec);(try clear h);simp only[zJZ,params];grind)
 all_goals try exact zAX h (by(try clear hrec);(try clear h);rcases Decidable.em (e.n=0∨e.n=1) with hn|hn;· (rw[hw2 hn];simp only[zJZ,params];grind);· (simp only[zJZ];grind))
end Go.Ab.X
namespace Pl
mutual
def zEL (sp:Spec)(mp:Int→Bool):List Int→X→Int→Int→Bool×Int
 | sc,.mk k n s v l,deep,nd=>
  if(decide (nd+1≤3000)&&decide (deep≤100)&&zJZ sp mp sc (.mk k n s v l))=true then zHO sp mp sc k n l.length 0 l (deep+1) (nd+1) else(false,nd+1)
def zHO (sp:Spec)(mp:Int→Bool):List Int→Int→Int→Nat→Nat→List X→Int→Int→Bool×Int
 | _,_,_,_,_,[],_,nd=>(true,nd)
 | sc,k,n,len,i,x :: r,deep,nd=>
  match(if k=6∧0<(params sp n).getD i 0 then zOC sp mp sc x ((params sp n).getD i 0) deep nd else zEL sp mp (sc++zeros (binds k n i len)) x deep nd) with
  | (true,nd')=>zHO sp mp sc k n len (i+1) r deep nd'
  | (false,nd')=>(false,nd')
def zOC (sp:Spec)(mp:Int→Bool):List Int→X→Int→Int→Int→Bool×Int
 | sc,.mk k n s v l,ar,deep,nd=>
  if(decide (nd+1≤3000)&&decide (deep≤100)&&decide (¬(0:Int)<s.length)&&zF4 v)=true then
   (if k=8 then(decide ((l.length:Int)=0)&&decide (0≤n)&&decide (n<sp.defs.length)&&mp n&&decide (((params sp n).length:Int)=ar)&&(params sp n).all (fun p=>decide (p=0)),nd+1)
    else if k=9 then(if n=ar∧(l.length:Int)=1∧(sc.length:Int)+ar≤40 then zS9 sp mp (sc++zeros ar) l (deep+1) (nd+1) else(false,nd+1))
    else if k=10 then(decide ((l.length:Int)=0)&&decide (0≤n)&&decide (n<sc.length)&&decide (sc.getD n.toNat 0=ar),nd+1)
    else(false,nd+1))
  else(false,nd+1)
def zS9 (sp:Spec)(mp:Int→Bool):List Int→List X→Int→Int→Bool×Int
 | _,[],_,nd=>(false,nd)
 | sc,x :: _,deep,nd=>zEL sp mp sc x deep nd
end
theorem exprP_eq (sp:Spec)(mp:Int→Bool)(sc:List Int)(e:X)(deep nd:Int):zEL sp mp sc e deep nd=if(decide (nd+1≤3000)&&decide (deep≤100)&&zJZ sp mp sc e)=true then zHO sp mp sc e.kind e.n e.l.length 0 e.l (deep+1) (nd+1) else(false,nd+1):=by cases e;rfl
theorem zOB (sp:Spec)(mp:Int→Bool)(sc:List Int)(e:X)(ar deep nd:Int):zOC sp mp sc e ar deep nd =
  if(decide (nd+1≤3000)&&decide (deep≤100)&&decide (¬(0:Int)<e.s.length)&&zF4 e.v)=true then
   (if e.kind=8 then(decide ((e.l.length:Int)=0)&&decide (0≤e.n)&&decide (e.n<sp.defs.length)&&mp e.n&&decide (((params sp e.n).length:Int)=ar)&&(params sp e.n).all (fun p=>decide (p=0)),nd+1)
    else if e.kind=9 then(if e.n=ar∧(e.l.length:Int)=1∧(sc.length:Int)+ar≤40 then zS9 sp mp (sc++zeros ar) e.l (deep+1) (nd+1) else(false,nd+1))
    else if e.kind=10 then(decide ((e.l.length:Int)=0)&&decide (0≤e.n)&&decide (e.n<sc.length)&&decide (sc.getD e.n.toNat 0=ar),nd+1)
    else(false,nd+1))
  else(false,nd+1):=by cases e;rfl
theorem szXs_mem2:∀{l:List X} {v:X},v∈l→szX v+l.length≤szXs l
 | x :: r,v,h=>by
  simp only[szXs,List.length_cons]
  have h1:=szXs_len r
  cases h with
  | head=>omega
  | tail _ h=>have:=szXs_mem2 h;omega
theorem zVC {sp:Spec}{mp:Int→Bool}{sc:List Int}{e:X}(h:zJZ sp mp sc e=true)(i:Nat)(hi:i<e.l.length):0≤binds e.kind e.n i e.l.length∧binds e.kind e.n i e.l.length≤e.l.length:=by
 unfold binds
 split
 ·omega
 ·split
  ·rename_i h1 h2
   split
   ·rw[zJZ,Bool.and_eq_true] at h
    have h3:=h.2
    rw[if_neg (by omega),if_neg (by omega),if_neg (by omega),if_neg (by omega),if_neg (by omega),if_neg (by omega),if_pos (by omega)] at h3
    simp only[Bool.and_eq_true,decide_eq_true_eq] at h3
    omega
   ·omega
  ·split
   ·split<;>omega
   ·omega
mutual
def okP (sp:Spec)(mp:Int→Bool):List Int→X→Bool
 | sc,.mk k n s v l=>zJZ sp mp sc (.mk k n s v l)&&okPL sp mp sc k n l.length 0 l
def okPL (sp:Spec)(mp:Int→Bool):List Int→Int→Int→Nat→Nat→List X→Bool
 | _,_,_,_,_,[]=>true
 | sc,k,n,len,i,x :: r=>(if k=6∧0<(params sp n).getD i 0 then okO sp mp sc x ((params sp n).getD i 0) else okP sp mp (sc++zeros (binds k n i len)) x)&&okPL sp mp sc k n len (i+1) r
def okO (sp:Spec)(mp:Int→Bool):List Int→X→Int→Bool
 | sc,.mk k n s v l,ar=>decide (¬(0:Int)<s.length)&&zF4 v &&
   (if k=8 then decide ((l.length:Int)=0)&&decide (0≤n)&&decide (n<sp.defs.length)&&mp n&&decide (((params sp n).length:Int)=ar)&&(params sp n).all (fun p=>decide (p=0))
    else if k=9 then decide (n=ar)&&decide ((l.length:Int)=1)&&decide ((sc.length:Int)+ar≤40)&&okOL sp mp (sc++zeros ar) l
    else if k=10 then decide ((l.length:Int)=0)&&decide (0≤n)&&decide (n<sc.length)&&decide (sc.getD n.toNat 0=ar)
    else false)
def okOL (sp:Spec)(mp:Int→Bool):List Int→List X→Bool
 | _,[]=>false
 | sc,x :: _=>okP sp mp sc x
end
def Law (st:Bool×Int)(ok:Bool)(nd:Int)(cnt:Nat)(deep:Int)(dep:Nat):Prop:=(st.1=true↔(ok=true∧nd+cnt≤3000∧deep+dep≤101))∧(st.1=true→st.2=nd+cnt)
theorem yAF {b ok:Bool}{n nd deep:Int}{cnt dep:Nat}(hb:b=false)(h:¬(ok=true∧nd+cnt≤3000∧deep+dep≤101)):Law (b,n) ok nd cnt deep dep:=by
 subst hb
 exact⟨⟨(fun e=>nomatch e),fun h2=>absurd h2 h⟩,(fun e=>nomatch e)⟩
theorem zQP {st:Bool×Int}{ok:Bool}{nd deep:Int}{cnt dep:Nat}(h:Law st ok nd cnt deep dep)(h0:0≤nd):st.1=true→0≤st.2∧st.2≤3000:=fun ht=>by
 have h1:=h.1.1 ht
 have h2:=h.2 ht
 omega
mutual
theorem zDW (sp:Spec)(mp:Int→Bool):∀(sc:List Int) (e:X)(deep nd:Int),Law (zEL sp mp sc e deep nd) (okP sp mp sc e) nd (cntX e) deep (depX e)
 | sc,.mk k n s v l,deep,nd=>by
  have ih:=zNM sp mp sc k n l.length 0 l (deep+1) (nd+1)
  unfold zEL okP cntX depX
  split
  ·rename_i hc
   simp only[Bool.and_eq_true,decide_eq_true_eq] at hc
   obtain⟨⟨h1,h2⟩,h3⟩:=hc
   obtain⟨i1,i2⟩:=ih h1 (by omega)
   rw[h3,Bool.true_and]
   exact⟨by rw[i1];constructor<;>(rintro⟨a,b,c⟩;exact⟨a,by omega,by omega⟩),fun h=>by rw[i2 h];omega⟩
  ·rename_i hc
   refine yAF rfl ?_
   rintro⟨a,b,c⟩
   rw[Bool.and_eq_true] at a
   refine hc ?_
   rw[a.1,decide_eq_true (show nd+1≤3000 by omega),decide_eq_true (show deep≤100 by omega)];rfl
theorem zNM (sp:Spec)(mp:Int→Bool):∀(sc:List Int) (k n:Int) (len i:Nat) (l:List X) (deep nd:Int),nd≤3000→deep≤101→Law (zHO sp mp sc k n len i l deep nd) (okPL sp mp sc k n len i l) nd (cntXs l) deep (depXs l)
 | sc,k,n,len,i,[],deep,nd,h1,h2=>⟨by simp[zHO,okPL,cntXs,depXs,h1,h2],fun _=>by simp[zHO,cntXs]⟩
 | sc,k,n,len,i,x :: r,deep,nd,h1,h2=>by
  have ix:Law (if k=6∧0<(params sp n).getD i 0 then zOC sp mp sc x ((params sp n).getD i 0) deep nd else zEL sp mp (sc++zeros (binds k n i len)) x deep nd) (if k=6∧0<(params sp n).getD i 0 then okO sp mp sc x ((params sp n).getD i 0) else okP sp mp (sc++zeros (binds k n i len)) x) nd (cntX x) deep (depX x):=by
   split
   ·exact zPG sp mp sc x _ deep nd
   ·exact zDW sp mp _ x deep nd
  have ir:=fun nd h1=>zNM sp mp sc k n len (i+1) r deep nd h1 h2
  unfold zHO okPL cntXs depXs
  generalize (if k=6∧0<(params sp n).getD i 0 then zOC sp mp sc x ((params sp n).getD i 0) deep nd else zEL sp mp (sc++zeros (binds k n i len)) x deep nd)=st at *
  generalize (if k=6∧0<(params sp n).getD i 0 then okO sp mp sc x ((params sp n).getD i 0) else okP sp mp (sc++zeros (binds k n i len)) x)=okx at *
  obtain⟨b,nd1⟩:=st
  cases b with
  | true=>
   obtain⟨i1,i2⟩:=ix
   obtain⟨a1,a2,a3⟩:=i1.1 rfl
   have e:=i2 rfl
   dsimp only at e ⊢
   subst e
   obtain⟨j1,j2⟩:=ir (nd+cntX x) a2
   rw[a1,Bool.true_and]
   exact⟨by rw[j1];constructor<;>(rintro⟨a,b,c⟩;exact⟨a,by omega,by omega⟩),fun h=>by rw[j2 h];omega⟩
  | false=>
   refine yAF rfl ?_
   rintro⟨a,b,c⟩
   rw[Bool.and_eq_true] at a
   exact nomatch (ix.1.2 ⟨a.1,by omega,by omega⟩)
theorem zPG (sp:Spec)(mp:Int→Bool):∀(sc:List Int) (e:X)(ar deep nd:Int),Law (zOC sp mp sc e ar deep nd) (okO sp mp sc e ar) nd (cntX e) deep (depX e)
 | sc,.mk k n s v l,ar,deep,nd=>by
  have ih:=zUQ sp mp (sc++zeros ar) l (deep+1) (nd+1)
  unfold zOC okO cntX depX
  split
  ·rename_i hc
   simp only[Bool.and_eq_true,decide_eq_true_eq] at hc
   obtain⟨⟨⟨h1,h2⟩,h3⟩,h4⟩:=hc
   rw[decide_eq_true h3,h4,Bool.true_and]
   have hcl:(l.length:Int)=0→cntXs l=0∧depXs l=0:=fun h=>by cases l with
    | nil=>exact⟨rfl,rfl⟩
    | cons a r=>simp at h;omega
   split
   ·generalize hB:(decide ((l.length:Int)=0)&&decide (0≤n)&&decide (n<sp.defs.length)&&mp n&&decide (((params sp n).length:Int)=ar)&&(params sp n).all fun p=>decide (p=0))=B
    have hB2:B=true→(l.length:Int)=0:=fun h=>by rw[h] at hB;simp only[Bool.and_eq_true,decide_eq_true_eq] at hB;exact hB.1.1.1.1.1
    exact⟨⟨fun h=>by have:=hcl (hB2 h);exact⟨by simpa using h,by omega,by omega⟩,fun h=>by simpa using h.1⟩,fun h=>by have:=hcl (hB2 h);dsimp only;omega⟩
   ·split
    ·split
     ·rename_i hn9
      obtain⟨e1,e2,e3⟩:=hn9
      rw[decide_eq_true e1,decide_eq_true e2,decide_eq_true e3]
      simp only[Bool.true_and]
      obtain⟨i1,i2⟩:=ih e2 h1 (by omega)
      exact⟨by rw[i1];constructor<;>(rintro⟨a,b,c⟩;exact⟨a,by omega,by omega⟩),fun h=>by rw[i2 h];omega⟩
     ·rename_i hn9
      refine yAF rfl ?_
      rintro⟨a,b,c⟩
      simp only[Bool.true_and,Bool.and_eq_true,decide_eq_true_eq] at a
      exact hn9 ⟨a.1.1.1,a.1.1.2,a.1.2⟩
    ·split
     ·generalize hB:(decide ((l.length:Int)=0)&&decide (0≤n)&&decide (n<sc.length)&&decide (sc.getD n.toNat 0=ar))=B
      have hB2:B=true→(l.length:Int)=0:=fun h=>by rw[h] at hB;simp only[Bool.and_eq_true,decide_eq_true_eq] at hB;exact hB.1.1.1
      exact⟨⟨fun h=>by have:=hcl (hB2 h);exact⟨by simpa using h,by omega,by omega⟩,fun h=>by simpa using h.1⟩,fun h=>by have:=hcl (hB2 h);dsimp only;omega⟩
     ·exact yAF rfl (by rintro⟨a,b,c⟩;simp at a)
  ·rename_i hc
   refine yAF rfl ?_
   rintro⟨a,b,c⟩
   rw[Bool.and_eq_true,Bool.and_eq_true] at a
   refine hc ?_
   rw[a.1.1,a.1.2,decide_eq_true (show nd+1≤3000 by omega),decide_eq_true (show deep≤100 by omega)];rfl
theorem zUQ (sp:Spec)(mp:Int→Bool):∀(sc:List Int) (l:List X) (deep nd:Int),(l.length:Int)=1→nd≤3000→deep≤101→Law (zS9 sp mp sc l deep nd) (okOL sp mp sc l) nd (cntXs l) deep (depXs l)
 | sc,[],deep,nd,h,_,_=>by simp at h
 | sc,x :: r,deep,nd,h,h1,h2=>by
  have ix:=zDW sp mp sc x deep nd
  have hr:r=[]:=by cases r with|nil=>rfl|cons a r=>simp at h;omega
  subst hr
  unfold zS9 okOL cntXs depXs cntXs depXs
  simp only[Nat.add_zero,Nat.max_zero]
  exact ix
end
end Pl
namespace Go.Ab.X
open Go Go.Ab Go.Proofs Pl
set_option maxRecDepth 100000
set_option maxHeartbeats 4000000
structure St (sp:Pl.Spec) (j:Nat) (may:AV) (k m0:Nat) (g0:Nat→Box) (u:List (Nat×Nat)) (m:Nat) (g:Nat→Box) (nd:Int):Prop where
 hu:zAQ m u=true
 hu2:zAJ m u=u
 hk:k<m
 hj:j<m
 hg:g k=.cells 183 (zAI sp j nd may)
 hgj:g j=.mapb (zA8 shL)
 hm0:m0≤m
 h0:∀i,i<m0→i≠k→g i=g0 i
section
variable {sp:Pl.Spec}{j:Nat}{may:AV}{k m0:Nat}{g0:Nat→Box}{u:List (Nat×Nat)}{m:Nat}{g:Nat→Box}{nd:Int}
theorem St.jk (h:St sp j may k m0 g0 u m g nd):j≠k:=fun e=>by have h1:=h.hg;have h2:=h.hgj;rw[e,h1] at h2;cases h2
theorem St.up (h:St sp j may k m0 g0 u m g nd)(b:Box):St sp j may k m0 g0 u (m+1) (updB g m b) nd:=by
 have hU:=zB6 h.hu h.hu2 (Nat.le_succ m)
 have hk:=h.hk;have hj:=h.hj;have hm:=h.hm0
 exact⟨hU.1,hU.2,by omega,by omega,by rw[zAA (by omega)];exact h.hg,by rw[zAA (by omega)];exact h.hgj,by omega,fun i h1 h2=>by rw[zAA (by omega)];exact h.h0 i h1 h2⟩
theorem St.set (h:St sp j may k m0 g0 u m g nd)(n:Int):St sp j may k m0 g0 u m (updB g k (.cells 183 (zAI sp j n may))) n:=
 ⟨h.hu,h.hu2,h.hk,h.hj,zAB,by rw[zAA h.jk];exact h.hgj,h.hm0,fun i h1 h2=>by rw[zAA h2];exact h.h0 i h1 h2⟩
end
theorem zCG {m k:Nat}{g G:Nat→Box}{u:List (Nat×Nat)}{b:Box}(hk:G k=b)(h:∀i,i<m→i≠k→G i=g i):S m G u=S m (updB g k b) u:=zMP fun i hi=>by
 by_cases e:i=k
 ·rw[e,zAB];exact hk
 ·rw[zAA e];exact h i hi e
theorem leafP {Q:CR→Sto→Prop}{F:Int→Sto}{R:Bool×Int}{b:Bool}{n:Int}(h:Q (.ret (.bool R.1)) (F R.2))(e:R=(b,n)):Q (.ret (.bool b)) (F n):=by subst e;exact h
structure SpOk (sp:Pl.Spec):Prop where
 ml:sp.models.length<1073741824
 dl:sp.defs.length<1073741824
 vl:sp.vars.length<1073741824
 cl:sp.consts.length<1073741824
 pl:∀n,(params sp n).length<1073741824
 p8:∀n p,p∈params sp n→0≤p∧p≤8
theorem c250 {n:Int}{m:Nat}{g:Nat→Box}{u:List (Nat×Nat)}(hu:zAQ m u=true)(hu2:zAJ m u=u){Q:CR→Sto→Prop}(h:Q (.ret (.bool (!decide (n=0)))) (S m g u)):C E1 250 [iv n] (S m g u) Q:=by
 refine cn ⟨false,false,false,false⟩ Tryz.f250 5 [.tmp 2] ?_
 repeat' (first|refine wk ?_|refine fk ?_ ?_<;>intro hs|exact⟨⟩|fail)
theorem c156 {sp:Pl.Spec}{j:Nat}{may:AV}{mp:Int→Bool}{k m0:Nat}{g0:Nat→Box}{u:List (Nat×Nat)}(hsp:SpOk sp)(hmay:MayOk may mp sp.defs.length m0 k g0 u):∀(N:Nat) (e:X),szX e<N→szX e<1073740000→
  (∀(sc:List Int) (deep nd:Int) (m:Nat) (g:Nat→Box),sc.length+szX e<1073741000→0≤deep→deep≤101→0≤nd→nd≤3000→St sp j may k m0 g0 u m g nd→∀Q:CR→Sto→Prop,Q (.ret (.bool (zEL sp mp sc e deep nd).1)) (S m (updB g k (.cells 183 (zAI sp j (zEL sp mp sc e deep nd).2 may))) u)→C E1 156 [.ptr k 0,encX e,.sl 0 (sc.map iv) .shut,.int .i64 deep] (S m g u) Q)∧
  (∀(sc:List Int) (ar deep nd:Int) (m:Nat) (g:Nat→Box),sc.length+szX e<1073741000→1≤ar→ar≤8→0≤deep→deep≤101→0≤nd→nd≤3000→St sp j may k m0 g0 u m g nd→∀Q:CR→Sto→Prop,Q (.ret (.bool (zOC sp mp sc e ar deep nd).1)) (S m (updB g k (.cells 183 (zAI sp j (zOC sp mp sc e ar deep nd).2 may))) u)→C E1 202 [.ptr k 0,encX e,.int .i64 ar,.sl 0 (sc.map iv) .shut,.int .i64 deep] (S m g u) Q):=by
 intro N
 induction N with
 | zero=>intro e h;exact absurd h (Nat.not_lt_zero _)
 | succ N ih=>
  intro e hN hsz
  have hlv:=zGY e
  have hle:=szXs_len e.l
  constructor
  ·intro sc deep nd m g hsc hd0 hd1 hn0 hn1 hSt Q h
   rw[exprP_eq] at h
   have hS1:=hSt.up (.cells 34 (zAL e))
   have hS2:=hS1.set (nd+1)
   obtain⟨g2,hg2⟩:∃g2,updB (updB g m (.cells 34 (zAL e))) k (.cells 183 (zAI sp j (nd+1) may))=g2:=⟨_,rfl⟩
   have hkm:k<m:=hSt.hk
   have hlow:∀i,i<m→i≠k→g2 i=g i:=fun i h1 h2=>by rw[← hg2,zAA h2,zAA (by omega)]
   have hg2m:g2 m=.cells 34 (zAL e):=by rw[← hg2,zAA (by omega),zAB]
   rw[hg2] at hS2
   have h169:=fun Q hQ=>c200 (deep:=deep) hS1.hu hS1.hu2 hS1.hk hS1.hg ⟨hn0,by omega⟩ (Q:=Q) hQ
   have h170:=fun Q hQ=>c201 (mp:=mp) (sc:=sc) (e:=e) hsp.ml hsp.dl hsp.vl hsp.cl (by omega) (hsp.pl _) (by omega) hS2.hu hS2.hu2 hS2.hk hS2.hj hS2.hg hS2.hgj hS2.hm0 hS2.h0 hmay (Q:=Q) hQ
   rw[hg2] at h169
   have hu:=hSt.hu
   have hu2:=hSt.hu2
   refine cn ⟨false,false,false,false⟩ Tryz.f156 81 [.tmp 8] ?_
   repeat' (first|refine h169 _ ?_|(refine zEX (fun Q h=>h170 _ h) ?_ ?_;focus (intro hs;(try simp only[nbs] at hs);simp (disch:=first|assumption|omega) only[go_sem, *];first|done|rfl))|refine wk ?_|refine fk ?_ ?_<;>intro hs|exact⟨⟩|fail)
   ·have hf:(decide (nd+1≤3000)&&decide (deep≤100)&&zJZ sp mp sc e)=false:=by clear h h169 h170 ih;grind
    rw[hf,if_neg Bool.false_ne_true] at h
    rw[zCG hS2.hg hlow]
    exact h
   obtain⟨⟨hn2,hd2⟩,hfit⟩:=hs
   rw[if_pos (by rw[hfit,decide_eq_true hn2,decide_eq_true hd2];rfl)] at h
   obtain⟨R,hR⟩:∃R,zHO sp mp sc e.kind e.n e.l.length 0 e.l (deep+1) (nd+1)=R:=⟨_,rfl⟩
   rw[hR] at h
   have hbinds:=fun(i:Nat) hi=>zVC hfit i hi
   have hk6:e.kind=6→0≤e.n∧e.n<sp.defs.length∧(e.l.length:Int)=(params sp e.n).length:=fun h6=>by
    rw[zJZ,Bool.and_eq_true] at hfit
    have h3:=hfit.2
    rw[if_neg (by omega),if_neg (by omega),if_neg (by omega),if_neg (by omega),if_pos h6] at h3
    simp only[Bool.and_eq_true,decide_eq_true_eq] at h3
    exact⟨h3.1.1.1,h3.1.1.2,h3.2⟩
   clear h169 h170 hS1 hfit
   refine zAF (ι:=Nat×Int×Nat×(Nat→Box)) (fun p=>[(0,.ptr k 0),(2,.sl 0 (sc.map iv) .shut),(3,.int .i64 deep),(5,.ptr m 0),(23,.sl 0 (e.l.map encX) .shut),(24,.int .i64 e.l.length),(25,.int .i64 p.1)]) (fun p=>S p.2.2.1 p.2.2.2 u)
    (fun p=>p.1≤e.l.length∧0≤p.2.1∧p.2.1≤3000∧m+1≤p.2.2.1∧St sp j may k m0 g0 u p.2.2.1 p.2.2.2 p.2.1∧p.2.2.2 m=.cells 34 (zAL e)∧(∀i,i<m→i≠k→p.2.2.2 i=g i)∧zHO sp mp sc e.kind e.n e.l.length p.1 (e.l.drop p.1) (deep+1) p.2.1=R) (fun p=>e.l.length-p.1) ?_ (0,nd+1,m+1,g2) ⟨Nat.zero_le _,by dsimp only;omega,hn2,Nat.le_refl _,hS2,hg2m,hlow,hR⟩ ⟨rfl,rfl,rfl,rfl,rfl,rfl,rfl,trivial⟩ rfl
   clear hS2 hg2m hlow hR hg2 hSt hn0 hn1 hn2
   clear g2 nd
   rintro⟨i,nd,M,G⟩ b ⟨hi,hn0,hn1,hM,hSt,hGm,hlow,hR⟩ hrec
   dsimp only at hi hn0 hn1 hM hSt hGm hlow hR hrec ⊢
   have hkM:=hSt.hk
   rcases Nat.lt_or_ge i e.l.length with hlt|hge
   ·have hc:decide ((i:Int)<e.l.length)=true:=decide_eq_true (by omega)
    have hx:e.l[i]?=some e.l[i]:=List.getElem?_eq_getElem hlt
    have hmemx:=List.getElem_mem hlt
    have hszx:=szXs_mem2 hmemx
    obtain⟨hb0,hb1⟩:=hbinds i hlt
    rw[List.drop_eq_getElem_cons hlt,zHO] at hR
    have ihx:=ih e.l[i] (by omega) (by omega)
    clear ih hmemx hbinds
    generalize e.l[i]=x at *
    obtain⟨G1,hG1⟩:∃G1,updB G M (.cells 34 (zAL x))=G1:=⟨_,rfl⟩
    have hSt1:=hSt.up (.cells 34 (zAL x))
    rw[hG1] at hSt1
    have hgk1:=hSt1.hg
    have hG1m:G1 m=.cells 34 (zAL e):=by rw[← hG1,zAA (by omega)];exact hGm
    have hG1M:G1 M=.cells 34 (zAL x):=by rw[← hG1,zAB]
    have hlow1:∀i,i<m→i≠k→G1 i=g i:=fun i h1 h2=>by rw[← hG1,zAA (by omega)];exact hlow i h1 h2
    have hd6:e.kind=6→sp.defs[e.n.toNat]?=some (sp.defs.getD e.n.toNat default):=fun h6=>zMK (hk6 h6).1 (hk6 h6).2.1
    have hd7:e.kind=6→asNat (.int .i64 e.n)=some e.n.toNat:=fun h6=>zGF (hk6 h6).1
    have hd8:e.kind=6→(sp.defs.getD e.n.toNat default).params[i]?=some ((params sp e.n).getD i 0):=fun h6=>by
     have:=(hk6 h6).2.2
     have hip:i<(params sp e.n).length:=by omega
     show(params sp e.n)[i]?=_
     rw[List.getD_eq_getElem?_getD,List.getElem?_eq_getElem hip];rfl
    have hp8:e.kind=6→0<(params sp e.n).getD i 0→1≤(params sp e.n).getD i 0∧(params sp e.n).getD i 0≤8:=fun h6 h7=>by
     have:=(hk6 h6).2.2
     have hip:i<(params sp e.n).length:=by omega
     rw[List.getD_eq_getElem?_getD,List.getElem?_eq_getElem hip] at h7 ⊢
     have:=hsp.p8 e.n _ (List.getElem_mem hip)
     simp only[Option.getD_some] at h7 ⊢
     omega
    have hl62:e.l.length<4611686018427387904:=by omega
    have h173:=fun(s:Sto) Q hQ=>c204 (e:=e) (i:=(i:Int)) (s:=s) hl62 (Q:=Q) hQ
    have h172:=fun(s:Sto) Q hQ=>c203 (l:=sc) (n:=binds e.kind e.n i e.l.length) (s:=s) ⟨hb0,by omega⟩ (by omega) (Q:=Q) hQ
    have h81:=ihx.1 (sc++zeros (binds e.kind e.n i e.l.length)) (deep+1) nd (M+1) G1 (by rw[List.length_append,zeros,List.length_replicate];omega) (by omega) (by omega) hn0 hn1 hSt1
    have h171:=fun h1 h2=>ihx.2 sc ((params sp e.n).getD i 0) (deep+1) nd (M+1) G1 (by omega) h1 h2 (by omega) (by omega) hn0 hn1 hSt1
    clear ihx hszx hb0 hb1 hk6
    by_cases hop:e.kind=6∧0<(params sp e.n).getD i 0
    ·rw[if_pos hop] at hR
     obtain⟨h6,h7⟩:=hop
     have h171:=h171 (hp8 h6 h7).1 (hp8 h6 h7).2
     clear h81 h172 h173
     have hnd:=zQP (zPG sp mp sc x ((params sp e.n).getD i 0) (deep+1) nd) hn0
     generalize zOC sp mp sc x ((params sp e.n).getD i 0) (deep+1) nd=st at *
     obtain⟨b1,nd1⟩:=st
     dsimp only at hR h171 hnd
     have hdc:decide (0<(params sp e.n).getD i 0)=true:=decide_eq_true h7
     repeat' (first|refine h171 _ ?_|refine wk ?_|refine fk ?_ ?_<;>intro hs|exact⟨⟩|fail)
     ·subst hs
      rw[← hR] at h
      rw[zCG (g:=g) (G:=updB G1 k (.cells 183 (zAI sp j nd1 may))) zAB (fun i h1 h2=>by rw[zAA h2];exact hlow1 i h1 h2)]
      exact h
     ·subst hs
      have hnd:=hnd rfl
      exact hrec (i+1,nd1,M+1,updB G1 k (.cells 183 (zAI sp j nd1 may))) _ _ _ ⟨hlt,hnd.1,hnd.2,by dsimp only;omega,hSt1.set nd1,by dsimp only;rw[zAA (by omega)];exact hG1m,fun i h1 h2=>by dsimp only;rw[zAA h2];exact hlow1 i h1 h2,hR⟩ (by dsimp only;omega) ⟨rfl,rfl,rfl,rfl,rfl,rfl,congrArg (fun z=>some (AV.int .i64 z)) (by dsimp only;omega),trivial⟩ rfl
    ·rw[if_neg hop] at hR
     clear h171
     have hnd:=zQP (zDW sp mp (sc++zeros (binds e.kind e.n i e.l.length)) x (deep+1) nd) hn0
     generalize zEL sp mp (sc++zeros (binds e.kind e.n i e.l.length)) x (deep+1) nd=st at *
     obtain⟨b1,nd1⟩:=st
     dsimp only at hR h81 hnd
     have hdc:e.kind=6→decide (0<(params sp e.n).getD i 0)=false:=fun h6=>decide_eq_false (fun h7=>hop ⟨h6,h7⟩)
     repeat' (first|refine h81 _ ?_|refine h172 _ _ ?_|refine h173 _ _ ?_|refine wk ?_|refine fk ?_ ?_<;>intro hs|exact⟨⟩|fail)
     ·subst hs
      rw[← hR] at h
      rw[zCG (g:=g) (G:=updB G1 k (.cells 183 (zAI sp j nd1 may))) zAB (fun i h1 h2=>by rw[zAA h2];exact hlow1 i h1 h2)]
      exact h
     ·subst hs
      have hnd:=hnd rfl
      exact hrec (i+1,nd1,M+1,updB G1 k (.cells 183 (zAI sp j nd1 may))) _ _ _ ⟨hlt,hnd.1,hnd.2,by dsimp only;omega,hSt1.set nd1,by dsimp only;rw[zAA (by omega)];exact hG1m,fun i h1 h2=>by dsimp only;rw[zAA h2];exact hlow1 i h1 h2,hR⟩ (by dsimp only;omega) ⟨rfl,rfl,rfl,rfl,rfl,rfl,congrArg (fun z=>some (AV.int .i64 z)) (by dsimp only;omega),trivial⟩ rfl
   ·have hc:decide ((i:Int)<e.l.length)=false:=decide_eq_false (by omega)
    clear hrec
    rw[List.drop_eq_nil_of_le hge,zHO] at hR
    rw[← hR] at h
    have hSe:=zCG hSt.hg hlow (u:=u)
    repeat' (first|refine wk ?_|refine fk ?_ ?_<;>intro hs|exact⟨⟩|fail)
  ·intro sc ar deep nd m g hsc ha1 ha8 hd0 hd1 hn0 hn1 hSt Q h
   have hS1:=hSt.up (.cells 34 (zAL e))
   have hS2:=hS1.set (nd+1)
   obtain⟨g2,hg2⟩:∃g2,updB (updB g m (.cells 34 (zAL e))) k (.cells 183 (zAI sp j (nd+1) may))=g2:=⟨_,rfl⟩
   have hkm:k<m:=hSt.hk
   have hlow:∀i,i<m→i≠k→g2 i=g i:=fun i h1 h2=>by rw[← hg2,zAA h2,zAA (by omega)]
   have hg2m:g2 m=.cells 34 (zAL e):=by rw[← hg2,zAA (by omega),zAB]
   rw[hg2] at hS2
   have h169:=fun Q hQ=>c200 (deep:=deep) hS1.hu hS1.hu2 hS1.hk hS1.hg ⟨hn0,by omega⟩ (Q:=Q) hQ
   rw[hg2] at h169
   have hu:=hSt.hu
   have hu2:=hSt.hu2
   have hg2k:=hS2.hg
   have hvz:szV e.v<4611686018427387904:=by omega
   have hls:=lens_len e.s
   have hx:=@zMK sp e.n
   have hy:=@at_sc sc e.n
   have hpl2:(sp.defs.getD e.n.toNat default).params.length<1073741824:=hsp.pl e.n
   have hsdl:=hsp.dl
   have hmy:=hmay (m+1) g2 (by have:=hS1.hm0;omega) hS2.h0 e.n
   have hSe:=zCG hS2.hg hlow (u:=u)
   have hSe2:∀b,S m (updB g2 k b) u=S m (updB g k b) u:=fun b=>zCG zAB (fun i h1 h2=>by rw[zAA h2];exact hlow i h1 h2)
   have h248:∀Q:CR→Sto→Prop,Q (.ret (.bool (!((params sp e.n).all fun p=>decide (p=0))))) (S (m+1) g2 u)→C E1 192 [.sl 0 ((sp.defs.getD e.n.toNat default).params.map iv) .shut,.func 0 (.func 250) [] []] (S (m+1) g2 u) Q:=fun Q hQ=>
    c192p (h:=iv) (q:=fun n=>!decide (n=0)) (by omega) hS2.hu hS2.hu2 (fun _=>rfl) (fun _=>rfl) rfl (fun x _ Q hQ=>zB1 rfl (c250 hS2.hu hS2.hu2 hQ)) (by
     have e1:((sp.defs.getD e.n.toNat default).params.any fun n=>!decide (n=0))=!((params sp e.n).all fun p=>decide (p=0)):=by rw[List.all_eq_not_any_not,Bool.not_not];rfl
     rw[e1];exact hQ)
   obtain⟨x0,hx0⟩:∃x0:X,(e.l.length:Int)=1→e.l=[x0]:=by
    cases hl:e.l with
    | nil=>exact⟨default,fun h=>by simp at h⟩
    | cons a r=>exact⟨a,fun h=>by cases r with|nil=>rfl|cons b r=>simp at h;omega⟩
   have hx1:(e.l.length:Int)=1→e.l[0]?=some x0:=fun h=>by rw[hx0 h];rfl
   have h172:=fun(s:Sto) Q hQ=>c203 (l:=sc) (n:=ar) (s:=s) ⟨by omega,by omega⟩ (by omega) (Q:=Q) hQ
   have h81:=fun(h1:(e.l.length:Int)=1) (h2:nd+1≤3000) (h3:deep≤100) (h4:sc.length+ar≤40)=>(ih x0 (by have:=szXs_mem2 (show x0∈e.l by rw[hx0 h1];exact List.mem_cons_self ..);omega) (by have:=szXs_mem2 (show x0∈e.l by rw[hx0 h1];exact List.mem_cons_self ..);omega)).1 (sc++zeros ar) (deep+1) (nd+1) (m+1) g2 (by have:=szXs_mem2 (show x0∈e.l by rw[hx0 h1];exact List.mem_cons_self ..);rw[List.length_append,zeros,List.length_replicate];omega) (by omega) (by omega) (by omega) h2 hS2
   clear ih
   refine cn ⟨false,false,false,false⟩ Tryz.f202 140 [.tmp 10] ?_
   repeat' (first|refine h169 _ ?_|(refine zEX (fun Q h=>c247 (v:=e.v) hvz h) ?_ ?_;focus (intro hs;(try simp only[nbs] at hs);simp (disch:=first|assumption|omega) only[go_sem, *];first|done|rfl))|refine sv_CV ?_|refine hmy (by omega) (by omega) _ ?_|(refine zEX (fun Q h=>h248 _ h) ?_ ?_;focus (intro hs;(try simp only[nbs] at hs);simp (disch:=first|assumption|omega) only[go_sem, *];first|done|rfl))|refine h172 _ _ ?_|refine h81 (by omega) (by omega) (by omega) (by omega) _ ?_|refine wk ?_|refine fk ?_ ?_<;>intro hs|exact⟨⟩|fail)
   all_goals clear h169 h248 h172 h81 hmy hx hy hg2 hlow hSe hSe2 hS1 hS2 hSt hmay
   all_goals first
    | exact leafP (F:=fun n=>S m (updB g k (.cells 183 (zAI sp j n may))) u) h (by clear h;rw[zOB];obtain⟨⟨h1,h2⟩,h3⟩:=hs;rw[hx0 h2,if_pos (by grind),if_neg (by omega),if_pos ‹_›,if_pos ⟨h1,rfl,h3⟩];rfl)
    | exact leafP (F:=fun n=>S m (updB g k (.cells 183 (zAI sp j n may))) u) h (by clear h;rw[zOB];grind [params])
    | exact leafP (F:=fun n=>S m (updB g k (.cells 183 (zAI sp j n may))) u) h (by
      clear h
      rw[zOB,if_pos (by grind),if_pos ‹_›]
      simp only[Bool.or_eq_true,decide_eq_true_eq] at hs
      by_cases a:(e.l.length:Int)=0
      ·by_cases b:0≤e.n
       ·rw[decide_eq_false (show ¬e.n<sp.defs.length by omega)];simp
       ·rw[decide_eq_false b];simp
      ·rw[decide_eq_false a];simp)
end Go.Ab.X
namespace Go.Ab.X
open Go Go.Ab Go.Proofs Pl
set_option maxRecDepth 100000
set_option maxHeartbeats 1000000
theorem zKM {ty:TypeId}{es base m k:Nat}{g:Nat→Box}{xs:List AV}(h:gF ty es base g m k xs)(b:Box):gF ty es base (updB g m b) (m+1) k xs:=by
 obtain⟨h1,h2⟩:=h
 refine⟨by omega,?_⟩
 rcases h2 with h2|⟨h3,h4,sl,h5⟩
 ·exact .inl h2
 ·exact .inr ⟨h3,by omega,sl,by rw[zAA (by omega)];exact h5⟩
theorem zKU (s:Sto)(k:Nat)(xs:List AV):zK8 s (gs k xs)=zBC s (gs k xs):=by cases xs<;>rfl
theorem zVB (a:Pl.Const):flatC (zBX a)=true:=rfl
theorem flat_Var (a:Pl.Var):flatC (zDD a)=true:=rfl
theorem zVA (a:Pl.Named):flatC (zB5 a)=true:=rfl
theorem flat_Prp (a:Pl.Prp):flatC (zDE a)=true:=rfl
theorem zYP (a:Pl.Fair):flatC (zCD a)=true:=rfl
attribute [go_sem] zVB flat_Var zVA flat_Prp zYP
theorem zI3 {l:List Str}{i:Nat}(h:i<l.length):l.take i++[l[i]]=l.take (i+1):=(List.take_succ_eq_append_getElem h).symm
theorem c143 {x:Pl.Const}{m:Nat}{g:Nat→Box}{u:List (Nat×Nat)}(hu:zAQ m u=true)(hu2:zAJ m u=u){Q:CR→Sto→Prop}(h:Q (.ret (.str x.name)) (S m g u)):C E1 143 [zBF x] (S m g u) Q:=by
 refine cn ⟨false,false,false,false⟩ Tryz.f143 5 [.tmp 2] ?_
 repeat' (first|refine wk ?_|refine fk ?_ ?_<;>intro hs|exact⟨⟩|fail)
theorem c142 {l:List Pl.Const}{m:Nat}{g:Nat→Box}{u:List (Nat×Nat)}(hu:zAQ m u=true)(hu2:zAJ m u=u)(hl:l.length<1073741824){Q:CR→Sto→Prop}(h:Q (.ret (.sl 0 ((l.map (·.name)).map AV.str) .shut)) (S m g u)):C E1 142 [.sl 0 (l.map zBF) .shut,.func 0 (.func 143) [] []] (S m g u) Q:=by
 refine cn ⟨false,false,false,false⟩ Tryz.f142 22 [.tmp 4] ?_
 repeat' (first|refine wk ?_|refine fk ?_ ?_<;>intro hs|exact⟨⟩|fail)
 refine zAF (ι:=Nat×Nat×Nat×(Nat→Box)) (fun p=>[(1,.func 0 (.func 143) [] []),(5,gs p.2.2.1 (((l.map (·.name)).take p.1).map AV.str)),(8,.sl 0 (l.map zBF) .shut),(9,.int .i64 l.length),(10,.int .i64 p.1)]) (fun p=>S p.2.1 p.2.2.2 u)
  (fun p=>p.1≤l.length∧gF 9 1 m p.2.2.2 p.2.1 p.2.2.1 (((l.map (·.name)).take p.1).map AV.str)∧∀j,j<m→p.2.2.2 j=g j) (fun p=>l.length-p.1) ?_ (0,m,0,g) ⟨Nat.zero_le _,zNL (Nat.le_refl _),fun _ _=>rfl⟩ ⟨rfl,rfl,rfl,rfl,rfl,trivial⟩ rfl
 rintro⟨i,M,kx,G⟩ b ⟨hi,hF,hlow⟩ hrec
 dsimp only at hi hF hlow hrec ⊢
 have hm:m≤M:=hF.1
 rcases Nat.lt_or_ge i l.length with hlt|hge
 ·have hc:decide ((i:Int)<l.length)=true:=decide_eq_true (by omega)
  have hx:l[i]?=some l[i]:=List.getElem?_eq_getElem hlt
  have hU3:=zB6 hu hu2 (show m≤M+1 by omega)
  have hr:∀(G:Nat→Box) (Q:CR→Sto→Prop),Q (.ret (.str l[i].name)) (S (M+1) G u)→C E1 143 [zBF l[i]] (S (M+1) G u) Q:=fun G Q hQ=>c143 hU3.1 hU3.2 hQ
  obtain⟨g',ha,hF',hlow'⟩:=zFJ (b:=16) (u:=u) (ys:=[AV.str l[i].name]) (zKM hF (.cells 126 (zBX l[i]))) rfl (by simp) (by rw[List.length_map,List.length_take,List.length_map];simp;omega) (by rw[zAV,zEG];rfl)
  have e1:((l.map (·.name)).take i).map AV.str++[AV.str l[i].name]=((l.map (·.name)).take (i+1)).map AV.str:=by
   rw[← zI3 (by rw[List.length_map];exact hlt),List.map_append,List.getElem_map];rfl
  rw[e1] at ha hF'
  clear e1
  repeat' (first|refine hr _ _ ?_|refine wk ?_|refine fk ?_ ?_<;>intro hs|exact⟨⟩|fail)
  exact hrec (i+1,M+1+1,M+1,g') _ _ _ ⟨hlt,hF',fun j hj=>by dsimp only;rw[hlow' j hj,zAA (by omega)];exact hlow j hj⟩ (by dsimp only;omega) ⟨rfl,rfl,rfl,rfl,congrArg (fun z=>some (AV.int .i64 z)) (by dsimp only;omega),trivial⟩ rfl
 ·have hc:decide ((i:Int)<l.length)=false:=decide_eq_false (by omega)
  clear hrec
  rw[List.take_of_length_le (by rw[List.length_map];exact hge)] at hF ⊢
  obtain⟨g',hse,hF',hlow'⟩:=zGK (u:=u) hF (zEG _)
  have hS:S m g' u=S m g u:=zMP fun j hj=>by rw[hlow' j hj,hlow j hj]
  repeat' (first|refine wk ?_|refine fk ?_ ?_<;>intro hs|exact⟨⟩|fail)
  show FN false m (S m g u) Q (zK8 (S M G u) (gs kx _))
  rw[zKU,hse]
  repeat' (first|refine wk ?_|refine fk ?_ ?_<;>intro hs|exact⟨⟩|fail)
theorem c145 {x:Pl.Var}{m:Nat}{g:Nat→Box}{u:List (Nat×Nat)}(hu:zAQ m u=true)(hu2:zAJ m u=u){Q:CR→Sto→Prop}(h:Q (.ret (.str x.name)) (S m g u)):C E1 145 [zDX x] (S m g u) Q:=by
 refine cn ⟨false,false,false,false⟩ Tryz.f145 5 [.tmp 2] ?_
 repeat' (first|refine wk ?_|refine fk ?_ ?_<;>intro hs|exact⟨⟩|fail)
theorem c144 {l:List Pl.Var}{m:Nat}{g:Nat→Box}{u:List (Nat×Nat)}(hu:zAQ m u=true)(hu2:zAJ m u=u)(hl:l.length<1073741824){Q:CR→Sto→Prop}(h:Q (.ret (.sl 0 ((l.map (·.name)).map AV.str) .shut)) (S m g u)):C E1 144 [.sl 0 (l.map zDX) .shut,.func 0 (.func 145) [] []] (S m g u) Q:=by
 refine cn ⟨false,false,false,false⟩ Tryz.f144 22 [.tmp 4] ?_
 repeat' (first|refine wk ?_|refine fk ?_ ?_<;>intro hs|exact⟨⟩|fail)
 refine zAF (ι:=Nat×Nat×Nat×(Nat→Box)) (fun p=>[(1,.func 0 (.func 145) [] []),(5,gs p.2.2.1 (((l.map (·.name)).take p.1).map AV.str)),(8,.sl 0 (l.map zDX) .shut),(9,.int .i64 l.length),(10,.int .i64 p.1)]) (fun p=>S p.2.1 p.2.2.2 u)
  (fun p=>p.1≤l.length∧gF 9 1 m p.2.2.2 p.2.1 p.2.2.1 (((l.map (·.name)).take p.1).map AV.str)∧∀j,j<m→p.2.2.2 j=g j) (fun p=>l.length-p.1) ?_ (0,m,0,g) ⟨Nat.zero_le _,zNL (Nat.le_refl _),fun _ _=>rfl⟩ ⟨rfl,rfl,rfl,rfl,rfl,trivial⟩ rfl
 rintro⟨i,M,kx,G⟩ b ⟨hi,hF,hlow⟩ hrec
 dsimp only at hi hF hlow hrec ⊢
 have hm:m≤M:=hF.1
 rcases Nat.lt_or_ge i l.length with hlt|hge
 ·have hc:decide ((i:Int)<l.length)=true:=decide_eq_true (by omega)
  have hx:l[i]?=some l[i]:=List.getElem?_eq_getElem hlt
  have hU3:=zB6 hu hu2 (show m≤M+1 by omega)
  have hr:∀(G:Nat→Box) (Q:CR→Sto→Prop),Q (.ret (.str l[i].name)) (S (M+1) G u)→C E1 145 [zDX l[i]] (S (M+1) G u) Q:=fun G Q hQ=>c145 hU3.1 hU3.2 hQ
  obtain⟨g',ha,hF',hlow'⟩:=zFJ (b:=16) (u:=u) (ys:=[AV.str l[i].name]) (zKM hF (.cells 108 (zDD l[i]))) rfl (by simp) (by rw[List.length_map,List.length_take,List.length_map];simp;omega) (by rw[zAV,zEG];rfl)
  have e1:((l.map (·.name)).take i).map AV.str++[AV.str l[i].name]=((l.map (·.name)).take (i+1)).map AV.str:=by
   rw[← zI3 (by rw[List.length_map];exact hlt),List.map_append,List.getElem_map];rfl
  rw[e1] at ha hF'
  clear e1
  repeat' (first|refine hr _ _ ?_|refine wk ?_|refine fk ?_ ?_<;>intro hs|exact⟨⟩|fail)
  exact hrec (i+1,M+1+1,M+1,g') _ _ _ ⟨hlt,hF',fun j hj=>by dsimp only;rw[hlow' j hj,zAA (by omega)];exact hlow j hj⟩ (by dsimp only;omega) ⟨rfl,rfl,rfl,rfl,congrArg (fun z=>some (AV.int .i64 z)) (by dsimp only;omega),trivial⟩ rfl
 ·have hc:decide ((i:Int)<l.length)=false:=decide_eq_false (by omega)
  clear hrec
  rw[List.take_of_length_le (by rw[List.length_map];exact hge)] at hF ⊢
  obtain⟨g',hse,hF',hlow'⟩:=zGK (u:=u) hF (zEG _)
  have hS:S m g' u=S m g u:=zMP fun j hj=>by rw[hlow' j hj,hlow j hj]
  repeat' (first|refine wk ?_|refine fk ?_ ?_<;>intro hs|exact⟨⟩|fail)
  show FN false m (S m g u) Q (zK8 (S M G u) (gs kx _))
  rw[zKU,hse]
  repeat' (first|refine wk ?_|refine fk ?_ ?_<;>intro hs|exact⟨⟩|fail)
theorem c150 {x:Pl.Named}{m:Nat}{g:Nat→Box}{u:List (Nat×Nat)}(hu:zAQ m u=true)(hu2:zAJ m u=u){Q:CR→Sto→Prop}(h:Q (.ret (.str x.name)) (S m g u)):C E1 150 [zBU x] (S m g u) Q:=by
 refine cn ⟨false,false,false,false⟩ Tryz.f150 5 [.tmp 2] ?_
 repeat' (first|refine wk ?_|refine fk ?_ ?_<;>intro hs|exact⟨⟩|fail)
theorem c149 {l:List Pl.Named}{m:Nat}{g:Nat→Box}{u:List (Nat×Nat)}(hu:zAQ m u=true)(hu2:zAJ m u=u)(hl:l.length<1073741824){Q:CR→Sto→Prop}(h:Q (.ret (.sl 0 ((l.map (·.name)).map AV.str) .shut)) (S m g u)):C E1 149 [.sl 0 (l.map zBU) .shut,.func 0 (.func 150) [] []] (S m g u) Q:=by
 refine cn ⟨false,false,false,false⟩ Tryz.f149 22 [.tmp 4] ?_
 repeat' (first|refine wk ?_|refine fk ?_ ?_<;>intro hs|exact⟨⟩|fail)
 refine zAF (ι:=Nat×Nat×Nat×(Nat→Box)) (fun p=>[(1,.func 0 (.func 150) [] []),(5,gs p.2.2.1 (((l.map (·.name)).take p.1).map AV.str)),(8,.sl 0 (l.map zBU) .shut),(9,.int .i64 l.length),(10,.int .i64 p.1)]) (fun p=>S p.2.1 p.2.2.2 u)
  (fun p=>p.1≤l.length∧gF 9 1 m p.2.2.2 p.2.1 p.2.2.1 (((l.map (·.name)).take p.1).map AV.str)∧∀j,j<m→p.2.2.2 j=g j) (fun p=>l.length-p.1) ?_ (0,m,0,g) ⟨Nat.zero_le _,zNL (Nat.le_refl _),fun _ _=>rfl⟩ ⟨rfl,rfl,rfl,rfl,rfl,trivial⟩ rfl
 rintro⟨i,M,kx,G⟩ b ⟨hi,hF,hlow⟩ hrec
 dsimp only at hi hF hlow hrec ⊢
 have hm:m≤M:=hF.1
 rcases Nat.lt_or_ge i l.length with hlt|hge
 ·have hc:decide ((i:Int)<l.length)=true:=decide_eq_true (by omega)
  have hx:l[i]?=some l[i]:=List.getElem?_eq_getElem hlt
  have hU3:=zB6 hu hu2 (show m≤M+1 by omega)
  have hr:∀(G:Nat→Box) (Q:CR→Sto→Prop),Q (.ret (.str l[i].name)) (S (M+1) G u)→C E1 150 [zBU l[i]] (S (M+1) G u) Q:=fun G Q hQ=>c150 hU3.1 hU3.2 hQ
  obtain⟨g',ha,hF',hlow'⟩:=zFJ (b:=16) (u:=u) (ys:=[AV.str l[i].name]) (zKM hF (.cells 130 (zB5 l[i]))) rfl (by simp) (by rw[List.length_map,List.length_take,List.length_map];simp;omega) (by rw[zAV,zEG];rfl)
  have e1:((l.map (·.name)).take i).map AV.str++[AV.str l[i].name]=((l.map (·.name)).take (i+1)).map AV.str:=by
   rw[← zI3 (by rw[List.length_map];exact hlt),List.map_append,List.getElem_map];rfl
  rw[e1] at ha hF'
  clear e1
  repeat' (first|refine hr _ _ ?_|refine wk ?_|refine fk ?_ ?_<;>intro hs|exact⟨⟩|fail)
  exact hrec (i+1,M+1+1,M+1,g') _ _ _ ⟨hlt,hF',fun j hj=>by dsimp only;rw[hlow' j hj,zAA (by omega)];exact hlow j hj⟩ (by dsimp only;omega) ⟨rfl,rfl,rfl,rfl,congrArg (fun z=>some (AV.int .i64 z)) (by dsimp only;omega),trivial⟩ rfl
 ·have hc:decide ((i:Int)<l.length)=false:=decide_eq_false (by omega)
  clear hrec
  rw[List.take_of_length_le (by rw[List.length_map];exact hge)] at hF ⊢
  obtain⟨g',hse,hF',hlow'⟩:=zGK (u:=u) hF (zEG _)
  have hS:S m g' u=S m g u:=zMP fun j hj=>by rw[hlow' j hj,hlow j hj]
  repeat' (first|refine wk ?_|refine fk ?_ ?_<;>intro hs|exact⟨⟩|fail)
  show FN false m (S m g u) Q (zK8 (S M G u) (gs kx _))
  rw[zKU,hse]
  repeat' (first|refine wk ?_|refine fk ?_ ?_<;>intro hs|exact⟨⟩|fail)
theorem c152 {x:Pl.Prp}{m:Nat}{g:Nat→Box}{u:List (Nat×Nat)}(hu:zAQ m u=true)(hu2:zAJ m u=u){Q:CR→Sto→Prop}(h:Q (.ret (.str x.name)) (S m g u)):C E1 152 [zDB x] (S m g u) Q:=by
 refine cn ⟨false,false,false,false⟩ Tryz.f152 5 [.tmp 2] ?_
 repeat' (first|refine wk ?_|refine fk ?_ ?_<;>intro hs|exact⟨⟩|fail)
theorem c151 {l:List Pl.Prp}{m:Nat}{g:Nat→Box}{u:List (Nat×Nat)}(hu:zAQ m u=true)(hu2:zAJ m u=u)(hl:l.length<1073741824){Q:CR→Sto→Prop}(h:Q (.ret (.sl 0 ((l.map (·.name)).map AV.str) .shut)) (S m g u)):C E1 151 [.sl 0 (l.map zDB) .shut,.func 0 (.func 152) [] []] (S m g u) Q:=by
 refine cn ⟨false,false,false,false⟩ Tryz.f151 22 [.tmp 4] ?_
 repeat' (first|refine wk ?_|refine fk ?_ ?_<;>intro hs|exact⟨⟩|fail)
 refine zAF (ι:=Nat×Nat×Nat×(Nat→Box)) (fun p=>[(1,.func 0 (.func 152) [] []),(5,gs p.2.2.1 (((l.map (·.name)).take p.1).map AV.str)),(8,.sl 0 (l.map zDB) .shut),(9,.int .i64 l.length),(10,.int .i64 p.1)]) (fun p=>S p.2.1 p.2.2.2 u)
  (fun p=>p.1≤l.length∧gF 9 1 m p.2.2.2 p.2.1 p.2.2.1 (((l.map (·.name)).take p.1).map AV.str)∧∀j,j<m→p.2.2.2 j=g j) (fun p=>l.length-p.1) ?_ (0,m,0,g) ⟨Nat.zero_le _,zNL (Nat.le_refl _),fun _ _=>rfl⟩ ⟨rfl,rfl,rfl,rfl,rfl,trivial⟩ rfl
 rintro⟨i,M,kx,G⟩ b ⟨hi,hF,hlow⟩ hrec
 dsimp only at hi hF hlow hrec ⊢
 have hm:m≤M:=hF.1
 rcases Nat.lt_or_ge i l.length with hlt|hge
 ·have hc:decide ((i:Int)<l.length)=true:=decide_eq_true (by omega)
  have hx:l[i]?=some l[i]:=List.getElem?_eq_getElem hlt
  have hU3:=zB6 hu hu2 (show m≤M+1 by omega)
  have hr:∀(G:Nat→Box) (Q:CR→Sto→Prop),Q (.ret (.str l[i].name)) (S (M+1) G u)→C E1 152 [zDB l[i]] (S (M+1) G u) Q:=fun G Q hQ=>c152 hU3.1 hU3.2 hQ
  obtain⟨g',ha,hF',hlow'⟩:=zFJ (b:=16) (u:=u) (ys:=[AV.str l[i].name]) (zKM hF (.cells 89 (zDE l[i]))) rfl (by simp) (by rw[List.length_map,List.length_take,List.length_map];simp;omega) (by rw[zAV,zEG];rfl)
  have e1:((l.map (·.name)).take i).map AV.str++[AV.str l[i].name]=((l.map (·.name)).take (i+1)).map AV.str:=by
   rw[← zI3 (by rw[List.length_map];exact hlt),List.map_append,List.getElem_map];rfl
  rw[e1] at ha hF'
  clear e1
  repeat' (first|refine hr _ _ ?_|refine wk ?_|refine fk ?_ ?_<;>intro hs|exact⟨⟩|fail)
  exact hrec (i+1,M+1+1,M+1,g') _ _ _ ⟨hlt,hF',fun j hj=>by dsimp only;rw[hlow' j hj,zAA (by omega)];exact hlow j hj⟩ (by dsimp only;omega) ⟨rfl,rfl,rfl,rfl,congrArg (fun z=>some (AV.int .i64 z)) (by dsimp only;omega),trivial⟩ rfl
 ·have hc:decide ((i:Int)<l.length)=false:=decide_eq_false (by omega)
  clear hrec
  rw[List.take_of_length_le (by rw[List.length_map];exact hge)] at hF ⊢
  obtain⟨g',hse,hF',hlow'⟩:=zGK (u:=u) hF (zEG _)
  have hS:S m g' u=S m g u:=zMP fun j hj=>by rw[hlow' j hj,hlow j hj]
  repeat' (first|refine wk ?_|refine fk ?_ ?_<;>intro hs|exact⟨⟩|fail)
  show FN false m (S m g u) Q (zK8 (S M G u) (gs kx _))
  rw[zKU,hse]
  repeat' (first|refine wk ?_|refine fk ?_ ?_<;>intro hs|exact⟨⟩|fail)
theorem c191 {sp:Pl.Spec}{j:Nat}{nd:Int}{may:AV}{k b:Nat}{x:Str}(hml:sp.models.length<1073741824){M:Nat}{G:Nat→Box}{u:List (Nat×Nat)}(hu:zAQ M u=true)(hu2:zAJ M u=u)(hb:b<M)(hGb:G b=.cells 135 [.ptr k 0])(hk:k<M)(hGk:G k=.cells 183 (zAI sp j nd may))
  {Q:CR→Sto→Prop} (h:Q (.ret (.bool (!decide (x∈sp.models)))) (S M G u)):C E1 191 [.str x,.ptr b 0] (S M G u) Q:=by
 have hml2:sp.models.length<4611686018427387904:=by omega
 refine cn ⟨false,false,false,false⟩ Tryz.f191 12 [.tmp 3] ?_
 repeat' (first|refine c188 hml2 ?_|refine wk ?_|refine fk ?_ ?_<;>intro hs|exact⟨⟩|fail)
theorem flat_lens:∀l:List (List Str),∀x∈l,x.length≤l.flatten.length
 | a :: r,x,h=>by
  rw[List.flatten_cons,List.length_append]
  cases h with
  | head=>omega
  | tail _ h=>have:=flat_lens r x h;omega
theorem c153 {sp:Pl.Spec}{j:Nat}{nd:Int}{may:AV}{k:Nat}(hml:sp.models.length<1073741824)(hgl:sp.groups.length<1073741824)(hfl:lens sp.groups.flatten<1073741000){m:Nat}{g:Nat→Box}{u:List (Nat×Nat)}(hu:zAQ m u=true)(hu2:zAJ m u=u)(hk:k<m)(hg:g k=.cells 183 (zAI sp j nd may))
  {Q:CR→Sto→Prop} (h:Q (.ret (.bool (zEC sp))) (S m g u)):C E1 153 [.ptr k 0] (S m g u) Q:=by
 have hfl2:=lens_len sp.groups.flatten
 rw[zEC] at h
 refine cn ⟨false,false,false,false⟩ Tryz.f153 38 [.tmp 2] ?_
 repeat' (first|refine wk ?_|refine fk ?_ ?_<;>intro hs|exact⟨⟩|fail)
 ·have hf:decide ((sp.groups.length:Int)≤10)=false:=decide_eq_false (by omega)
  rw[hf] at h
  exact h
 have hten:decide ((sp.groups.length:Int)≤10)=true:=decide_eq_true (by omega)
 rw[hten,Bool.true_and] at h
 refine zAF (ι:=Nat×Nat×Nat×(Nat→Box)) (fun p=>[(1,.ptr m 0),(3,gs p.2.2.1 ((sp.groups.take p.1).flatten.map AV.str)),(17,.sl 0 (sp.groups.map slS) .shut),(18,.int .i64 sp.groups.length),(19,.int .i64 p.1)]) (fun p=>S p.2.1 p.2.2.2 u)
  (fun p=>p.1≤sp.groups.length∧gF 9 1 (m+1) p.2.2.2 p.2.1 p.2.2.1 ((sp.groups.take p.1).flatten.map AV.str)∧(∀i,i<m→p.2.2.2 i=g i)∧p.2.2.2 m=.cells 135 [.ptr k 0]∧(sp.groups.all fun l=>decide (2≤(l.length:Int)))=((sp.groups.drop p.1).all fun l=>decide (2≤(l.length:Int)))) (fun p=>sp.groups.length-p.1) ?_ (0,m+1,0,_) ⟨Nat.zero_le _,zNL (Nat.le_refl _),fun i hi=>zAA (by omega),zAB,rfl⟩ ⟨rfl,rfl,rfl,rfl,rfl,trivial⟩ rfl
 rintro⟨i,M,kx,G⟩ b ⟨hi,hF,hlow,hGm,hall⟩ hrec
 dsimp only at hi hF hlow hGm hall hrec ⊢
 have hm:m+1≤M:=hF.1
 rcases Nat.lt_or_ge i sp.groups.length with hlt|hge
 ·have hc:decide ((i:Int)<sp.groups.length)=true:=decide_eq_true (by omega)
  have hx:sp.groups[i]?=some sp.groups[i]:=List.getElem?_eq_getElem hlt
  have hxl:=flat_lens sp.groups _ (List.getElem_mem hlt)
  rw[List.drop_eq_getElem_cons hlt,List.all_cons] at hall
  have htl:(sp.groups.take i).flatten.length≤sp.groups.flatten.length:=by
   have:=congrArg (fun l=>(List.flatten l).length) (List.take_append_drop i sp.groups)
   simp only[List.flatten_append,List.length_append] at this
   omega
  have hap:=fun(h0:0<sp.groups[i].length)=>zFJ (b:=16) (u:=u) (ys:=sp.groups[i].map AV.str) hF (zYS _) (by rw[List.length_map];exact h0) (by rw[List.length_map,List.length_map];omega) (by rw[zAV,zEG,zEG];rfl)
  have e1:((sp.groups.take i).flatten.map AV.str)++(sp.groups[i].map AV.str)=(sp.groups.take (i+1)).flatten.map AV.str:=by
   rw[List.take_succ_eq_append_getElem hlt,List.flatten_append,List.map_append];simp
  rw[e1] at hap
  clear e1
  generalize sp.groups[i]=l at *
  by_cases h2:(l.length:Int)<2
  ·have hd2:decide ((l.length:Int)<2)=true:=decide_eq_true h2
   rw[decide_eq_false (show ¬(2:Int)≤l.length by omega),Bool.false_and] at hall
   rw[hall,Bool.false_and,Bool.false_and] at h
   have hS:S m G u=S m g u:=zMP hlow
   clear hap hrec
   repeat' (first|refine wk ?_|refine fk ?_ ?_<;>intro hs|exact⟨⟩|fail)
  ·have hd2:decide ((l.length:Int)<2)=false:=decide_eq_false h2
   rw[decide_eq_true (show(2:Int)≤l.length by omega),Bool.true_and] at hall
   obtain⟨g',ha,hF',hlow'⟩:=hap (by omega)
   clear hap h
   repeat' (first|refine wk ?_|refine fk ?_ ?_<;>intro hs|exact⟨⟩|fail)
   exact hrec (i+1,M+1,M,g') _ _ _ ⟨hlt,hF',fun i hi=>by dsimp only;rw[hlow' i (by omega)];exact hlow i hi,by dsimp only;rw[hlow' m (by omega)];exact hGm,hall⟩ (by dsimp only;omega) ⟨rfl,rfl,rfl,rfl,congrArg (fun z=>some (AV.int .i64 z)) (by dsimp only;omega),trivial⟩ rfl
 ·have hc:decide ((i:Int)<sp.groups.length)=false:=decide_eq_false (by omega)
  clear hrec
  rw[List.drop_eq_nil_of_le hge,List.all_nil] at hall
  rw[hall,Bool.true_and] at h
  rw[List.take_of_length_le hge] at hF ⊢
  obtain⟨g1,hs1,hF1,hlow1⟩:=zGK (u:=u) hF (zEG _)
  obtain⟨g2,hs2,hF2,hlow2⟩:=zGK (u:=u) hF1 (zEG _)
  have hU3:=zB6 hu hu2 (show m≤M by omega)
  have h64:∀Q:CR→Sto→Prop,Q (.ret (.bool (Pl.distinct [] sp.groups.flatten))) (S M g1 u)→C E1 141 [gs kx (sp.groups.flatten.map AV.str)] (S M G u) Q:=fun Q hQ=>
   zG3 (args1:=[.sl 0 (sp.groups.flatten.map AV.str) .shut]) (s1:=S M g1 u) rfl rfl rfl rfl rfl (by simp only[zBO,hs1]) rfl (c141 hfl hQ)
  have hg2m:g2 m=.cells 135 [.ptr k 0]:=by rw[hlow2 m (by omega),hlow1 m (by omega)];exact hGm
  have hg2k:g2 k=.cells 183 (zAI sp j nd may):=by rw[hlow2 k (by omega),hlow1 k (by omega),hlow k hk];exact hg
  have h157:∀Q:CR→Sto→Prop,Q (.ret (.bool (!(sp.groups.flatten.all fun s=>decide (s∈sp.models))))) (S M g2 u)→C E1 136 [gs kx (sp.groups.flatten.map AV.str),.func (m+1) (.func 191) [] [.ptr m 0]] (S M g1 u) Q:=fun Q hQ=>
   zG3 (args1:=[.sl 0 (sp.groups.flatten.map AV.str) .shut,.func (m+1) (.func 191) [] [.ptr m 0]]) (s1:=S M g2 u) rfl rfl rfl rfl rfl (by simp only[zBO,hs2];rfl) rfl
    (c136p (h:=AV.str) (q:=fun s=>!decide (s∈sp.models)) (by omega) hU3.1 hU3.2 (fun _=>rfl) (fun _=>rfl) rfl (fun x _ Q hQ=>zB1 rfl (c191 hml hU3.1 hU3.2 (by omega) hg2m (by omega) hg2k hQ)) (by rw[List.all_eq_not_any_not,Bool.not_not] at hQ;exact hQ))
  have hS1:S m g1 u=S m g u:=zMP fun i hi=>by rw[hlow1 i (by omega),hlow i hi]
  have hS2:S m g2 u=S m g u:=zMP fun i hi=>by rw[hlow2 i (by omega),hlow1 i (by omega),hlow i hi]
  repeat' (first|refine h64 _ ?_|refine h157 _ ?_|refine wk ?_|refine fk ?_ ?_<;>intro hs|exact⟨⟩|fail)
  all_goals exact leaf h (congrArg AV.bool (by rw[hs];rfl))
end Go.Ab.X
end
