/- A part. -/
import Derived.Test.YtodldpffhfgicaaGreatDoorK2
set_option linter.all false
noncomputable section
namespace Go.Ab.X
open Go Go.Ab Go.Proofs Pl
set_option maxRecDepth 100000
theorem zSA {t:Nat}{f:FuncId}{a b args:List AV}{s:Sto}:zIM (.func t (.func f) a b) args s=.call f (a++(args++b)) s:=by simp only[zIM,zBP]
theorem lmap_c {α β:Type}(f:α→β)(a:α)(l:List α):lmap f (a :: l)=f a :: lmap f l:=rfl
theorem lmap_n {α β:Type}(f:α→β):lmap f ([]:List α)=[]:=rfl
attribute [go_sem] zSA zE2 noOslP noOsl noOsl1 noOslC zM4 shutV shut1 lmap_c lmap_n
theorem c181 {l r:List V}{m:Nat}{g:Nat→Box}{u:List (Nat×Nat)}(hu:zAQ m u=true)(hu2:zAJ m u=u)(hl:szVs l<1073741824)(hr:szVs r<1073741824)
  (hc:∀a∈l,∀b∈r,∀s Q,Q (.ret (.int .i64 (cmpV a b))) s→C E1 123 [encV a,encV b] s Q) {Q:CR→Sto→Prop} (h:Q (.ret (.int .i64 (zKN l r))) (S m g u)):C E1 181 [.sl 0 (l.map encV) .shut,.sl 0 (r.map encV) .shut,.func 0 (.func 123) [] []] (S m g u) Q:=by
 have h1:=szVs_len l
 have h2:=szVs_len r
 refine cn ⟨false,false,false,false⟩ Tryz.f181 37 [.tmp 6] ?_
 repeat' (first|refine c178 ?_|refine wk ?_|refine fk ?_ ?_<;>intro hs|exact⟨⟩|fail)
 ·exact zFS h (by(try clear hrec);(try clear h);have:=zGR l.length r.length;simp only[zKN];grind)
 ·have hab:r.length=l.length:=by have:=(zGR _ _).1 hs;omega
  clear hs
  refine zAF (ι:=Nat) (fun i=>[(0,.sl 0 (l.map encV) .shut),(1,.sl 0 (r.map encV) .shut),(2,.func 0 (.func 123) [] []),(19,.int .i64 l.length),(20,.int .i64 i)]) (fun _=>S m g u) (fun i=>i≤(l).length∧cmpL l r=cmpL (l.drop i) (r.drop i)) (fun i=>(l).length-i) ?_ 0 ⟨Nat.zero_le _,by first|rfl|trivial|simp⟩ ⟨rfl,rfl,rfl,rfl,rfl,trivial⟩ rfl;rintro i b ⟨hi,he⟩ hrec;rcases Nat.lt_or_ge i (l).length with hlt|hge
  ·have hlr:i<r.length:=by omega
   have hy:r[i]?=some r[i]:=List.getElem?_eq_getElem hlr
   have hm2:r[i]∈r:=List.getElem_mem hlr
   rw[List.drop_eq_getElem_cons hlr] at he
   obtain⟨hx,hmem,hcnd⟩:=zF3 hlt;rw[List.drop_eq_getElem_cons hlt] at he
   rw[cmpL] at he
   repeat' (first|refine hc _ hmem _ hm2 _ _ ?_|refine wk ?_|refine fk ?_ ?_<;>intro hs|exact⟨⟩|fail)
   ·exact zFS h (by(try clear hrec);(try clear h);rw[zKN,if_neg (by omega),he,if_pos hs])
   ·exact hrec (i+1) _ _ _ ⟨hlt,by rw[he,if_neg (by omega)]⟩ (by omega) ⟨rfl,rfl,rfl,rfl,rfl,trivial⟩ rfl
  ·have hcnd:=zDN hge;rw[List.drop_eq_nil_of_le hge] at he
   repeat' (first|refine wk ?_|refine fk ?_ ?_<;>intro hs|exact⟨⟩|fail)
   exact zFS h (by(try clear hrec);(try clear h);rw[zKN,if_neg (by omega),he,cmpL];intro _ _ _ _ h;cases h)
theorem c123:∀(N:Nat) {a b:V} {s:Sto},szV a<N→szV a<1073741824→szV b<1073741824→∀{Q:CR→Sto→Prop},Q (.ret (.int .i64 (cmpV a b))) s→C E1 123 [encV a,encV b] s Q:=by
 intro N
 induction N with
 | zero=>intro a b s h;exact absurd h (Nat.not_lt_zero _)
 | succ N ih=>
  intro a b s hN ha hb Q h
  have ea:=zD2 a
  have eb:=zD2 b
  have k1:∀x∈a.l,∀y∈b.l,∀s Q,Q (.ret (.int .i64 (cmpV x y))) s→C E1 123 [encV x,encV y] s Q:=fun x hx y hy s Q h=>ih (by have:=szVs_mem hx;omega) (by have:=szVs_mem hx;omega) (by have:=szVs_mem hy;omega) h
  have k2:∀x∈a.m,∀y∈b.m,∀s Q,Q (.ret (.int .i64 (cmpV x y))) s→C E1 123 [encV x,encV y] s Q:=fun x hx y hy s Q h=>ih (by have:=szVs_mem hx;omega) (by have:=szVs_mem hx;omega) (by have:=szVs_mem hy;omega) h
  have k3:szVs a.l<1073741824:=by omega
  have k4:szVs b.l<1073741824:=by omega
  have k5:szVs a.m<1073741824:=by omega
  have k6:szVs b.m<1073741824:=by omega
  have hu:zAQ 2 []=true:=rfl
  have hu2:zAJ 2 []=[]:=rfl
  rw[zZF] at h
  clear ih
  refine ci Tryz.f123 51 [.tmp 4] ?_
  repeat' (first|refine c178 ?_|refine c177 ?_|refine c179 ha hb ?_|refine c180 ?_|refine c181 hu hu2 k3 k4 k1 ?_|refine c181 hu hu2 k5 k6 k2 ?_|refine wk ?_|refine fk ?_ ?_<;>intro hs|exact⟨⟩|fail)
  all_goals exact leaf h (congrArg (AV.int .i64) (by clear h k1 k2;have:=zGR a.kind b.kind;have:=zGR a.n b.n;grind))
theorem zB6 {m m':Nat}{u:List (Nat×Nat)}(hu:zAQ m u=true)(hu2:zAJ m u=u)(h:m≤m'):zAQ m' u=true∧zAJ m' u=u:=by
 induction u with
 | nil=>exact⟨rfl,rfl⟩
 | cons e r ih=>
  have hc:∀(n:Nat) (l:List (Nat×Nat)),(zAJ n l).length≤l.length:=fun n l=>by
   induction l with
   | nil=>exact Nat.le_refl _
   | cons a l ih=>simp only[zAJ,cond_eq_ite];split<;>simp only[List.length_cons]<;>omega
  have h1:e.1<m:=by
   by_cases hlt:e.1<m
   ·exact hlt
   ·simp only[zAJ,zGV,decide_eq_false hlt,cond_false] at hu2
    have:=hc m r;rw[hu2] at this;simp at this;omega
  simp only[zAJ,zGV,decide_eq_true h1,cond_true,List.cons.injEq,true_and] at hu2
  simp only[zAQ,zGV,decide_eq_true h1,cond_true,zCK,cond_eq_ite,decide_eq_true_eq] at hu
  have h2:e.1<m':=by omega
  by_cases h3:e.2≤m
  ·rw[if_pos h3] at hu
   obtain⟨i1,i2⟩:=ih hu hu2
   have h4:e.2≤m':=by omega
   exact⟨by simp only[zAQ,zGV,decide_eq_true h2,cond_true,zCK,decide_eq_true h4];exact i1,by simp only[zAJ,zGV,decide_eq_true h2,cond_true];rw[i2]⟩
  ·rw[if_neg h3] at hu;cases hu
theorem c268 {c:UInt8}{s:Sto}{Q:CR→Sto→Prop}(h:Q (.ret (.bool (letter c))) s):C E1 268 [.int .u8 c.toNat] s Q:=by
 refine ci Tryz.f268 17 [.tmp 2] ?_
 repeat' (first|refine wk ?_|refine fk ?_ ?_<;>intro hs|exact⟨⟩|fail)
 exact zAX h (by(try clear hrec);(try clear h);simp only[letter];try grind)
theorem c269 {c:UInt8}{s:Sto}{Q:CR→Sto→Prop}(h:Q (.ret (.bool (inside c))) s):C E1 269 [.int .u8 c.toNat] s Q:=by
 refine ci Tryz.f269 17 [.tmp 2] ?_
 repeat' (first|refine c268 ?_|refine wk ?_|refine fk ?_ ?_<;>intro hs|exact⟨⟩|fail)
 all_goals exact zAX h (by(try clear hrec);(try clear h);simp only[inside];try grind)
theorem c224 {x:Str}{s:Sto}(hl:x.length<1073741824){Q:CR→Sto→Prop}(h:Q (.ret (.bool (zLX x))) s):C E1 224 [.str x] s Q:=by
 refine ci Tryz.f224 23 [.tmp 2] ?_
 repeat' (first|refine wk ?_|refine fk ?_ ?_<;>intro hs|exact⟨⟩|fail)
 refine zAF (ι:=Nat) (fun i=>[(0,.str x),(5,.int .i64 x.length),(6,.int .i64 i)]) (fun _=>S 0 g0 []) (fun i=>i≤(x).length∧(x.all fun c=>decide ((32:Int)≤c.toNat)&&decide ((c.toNat:Int)≤126))=((x.drop i).all fun c=>decide ((32:Int)≤c.toNat)&&decide ((c.toNat:Int)≤126))) (fun i=>(x).length-i) ?_ 0 ⟨Nat.zero_le _,by first|rfl|trivial|simp⟩ ⟨rfl,rfl,rfl,trivial⟩ rfl;rintro i b ⟨hi,he⟩ hrec;rcases Nat.lt_or_ge i (x).length with hlt|hge
 ·obtain⟨hx,hmem,hcnd⟩:=zF3 hlt;rw[List.drop_eq_getElem_cons hlt] at he
  rw[List.all_cons] at he
  repeat' (first|refine wk ?_|refine fk ?_ ?_<;>intro hs|exact⟨⟩|fail)
  all_goals first|exact zAX h (by(try clear hrec);(try clear h);simp only[zLX,he];grind)|exact hrec (i+1) _ _ _ ⟨hlt,by rw[he];clear h hrec;grind⟩ (by omega) ⟨rfl,rfl,rfl,trivial⟩ rfl
 ·have hcnd:=zDN hge;rw[List.drop_eq_nil_of_le hge] at he
  repeat' (first|refine wk ?_|refine fk ?_ ?_<;>intro hs|exact⟨⟩|fail)
  exact zAX h (by(try clear hrec);(try clear h);simp only[zLX,he];try grind)
theorem c225 {x:Str}{s:Sto}(hl:x.length<1073741824){Q:CR→Sto→Prop}(h:Q (.ret (.bool (zC7 x))) s):C E1 225 [.str x] s Q:=by
 rcases hx0:x[0]? with _|c9990
 ·have h0:x=[]:=by simpa using hx0
  have hc:decide (x=([]:Str))=true:=decide_eq_true h0
  rw[h0] at h
  clear h0 hx0
  refine ci Tryz.f225 36 [.tmp 2] ?_
  repeat' (first|refine wk ?_|refine fk ?_ ?_<;>intro hs|exact⟨⟩|fail)
  exact h
 ·have hn:decide (x=([]:Str))=false:=decide_eq_false (fun e=>by rw[e] at hx0;cases hx0)
  have hI:zC7 x=(decide ((x.length:Int)≤40)&&letter c9990&&decide (x≠[84,82,85,69])&&decide (x≠[70,65,76,83,69])&&x.all inside):=by
   cases x with
   | nil=>cases hx0
   | cons c r=>simp at hx0;subst hx0;simp only[zC7];congr 4;rw[decide_eq_decide];omega
  rw[hI] at h
  clear hI
  refine ci Tryz.f225 36 [.tmp 2] ?_
  repeat' (first|refine c268 ?_|refine wk ?_|refine fk ?_ ?_<;>intro hs|exact⟨⟩|fail)
  all_goals first|exact zAX h (by(try clear hrec);(try clear h);grind)|skip
  ·refine zAF (ι:=Nat) (fun i=>[(0,.str x),(26,.int .i64 x.length),(27,.int .i64 i)]) (fun _=>S 0 g0 []) (fun i=>i≤(x).length∧x.all inside=(x.drop i).all inside) (fun i=>(x).length-i) ?_ 0 ⟨Nat.zero_le _,by first|rfl|trivial|simp⟩ ⟨rfl,rfl,rfl,trivial⟩ rfl;rintro i b ⟨hi,he⟩ hrec;rcases Nat.lt_or_ge i (x).length with hlt|hge
   ·obtain⟨hx,hmem,hcnd⟩:=zF3 hlt;rw[List.drop_eq_getElem_cons hlt] at he
    rw[List.all_cons] at he
    repeat' (first|refine c269 ?_|refine wk ?_|refine fk ?_ ?_<;>intro hs|exact⟨⟩|fail)
    all_goals first|exact zAX h (by(try clear hrec);(try clear h);rw[he];grind)|exact hrec (i+1) _ _ _ ⟨hlt,by rw[he];clear h hrec;grind⟩ (by omega) ⟨rfl,rfl,rfl,trivial⟩ rfl
   ·have hcnd:=zDN hge;rw[List.drop_eq_nil_of_le hge] at he
    repeat' (first|refine wk ?_|refine fk ?_ ?_<;>intro hs|exact⟨⟩|fail)
    exact zAX h (by(try clear hrec);(try clear h);rw[he];grind)
end Go.Ab.X
namespace Go.Ab.X
open Go Go.Ab Go.Proofs Pl
set_option maxRecDepth 100000
set_option maxHeartbeats 1000000
theorem c226 {l:List V}{s:Sto}(hl:szVs l<1073741824){Q:CR→Sto→Prop}(h:Q (.ret (.bool (rising l&&decide ((l.length:Int)≤4000)))) s):C E1 226 [.sl 0 (l.map encV) .shut] s Q:=by
 have h1:=szVs_len l
 have hsz:∀x∈l,szV x<1073741824:=fun x hx=>by have:=szVs_mem hx;omega
 refine ci Tryz.f226 24 [.tmp 2] ?_
 repeat' (first|refine wk ?_|refine fk ?_ ?_<;>intro hs|exact⟨⟩|fail)
 refine zAF (ι:=Nat) (fun j=>[(0,.sl 0 (l.map encV) .shut),(3,.int .i64 ((j:Int)+1))]) (fun _=>S 0 g0 []) (fun j=>rising l=rising (l.drop j)) (fun j=>l.length-j) ?_ 0 rfl ⟨rfl,rfl,trivial⟩ rfl
 rintro j b he hrec
 rcases Nat.lt_or_ge (j+1) l.length with hlt|hge
 ·have hj:j<l.length:=by omega
  have hx:l[j]?=some l[j]:=List.getElem?_eq_getElem hj
  have hy:l[j+1]?=some l[j+1]:=List.getElem?_eq_getElem hlt
  have hm1:l[j]∈l:=List.getElem_mem hj
  have hm2:l[j+1]∈l:=List.getElem_mem hlt
  rw[List.drop_eq_getElem_cons hj,List.drop_eq_getElem_cons hlt,rising,← List.drop_eq_getElem_cons hlt] at he
  have hc:decide ((j:Int)+1<l.length)=true:=decide_eq_true (by omega)
  have hz:((j:Int)+1-1)=j:=by omega
  have hz2:((j:Int)+1).toNat=j+1:=by omega
  repeat' (first|refine c123 _ (Nat.lt_succ_self _) (hsz _ hm1) (hsz _ hm2) ?_|refine wk ?_|refine fk ?_ ?_<;>intro hs|exact⟨⟩|fail)
  all_goals first|exact zAX h (by(try clear hrec);(try clear h);rw[he];grind)|exact hrec (j+1) _ _ _ (by rw[he];clear h hrec;grind) (by omega) ⟨rfl,rfl,trivial⟩ rfl
 ·have hc:decide ((j:Int)+1<l.length)=false:=decide_eq_false (by omega)
  have hr:rising l=true:=by rw[he];rcases hd:l.drop j with _|⟨a,_|⟨b,r⟩⟩<;>first|rfl|(exfalso;have:=congrArg List.length hd;simp at this;omega)
  repeat' (first|refine wk ?_|refine fk ?_ ?_<;>intro hs|exact⟨⟩|fail)
  exact zAX h (by(try clear hrec);(try clear h);rw[hr];rfl)
theorem c267 {a:Int}{m:Nat}{g:Nat→Box}{u:List (Nat×Nat)}(hu:zAQ m u=true)(hu2:zAJ m u=u){Q:CR→Sto→Prop}(h:Q (.ret (.bool (decide (a<0)||decide (1000000000≤a)))) (S m g u)):C E1 267 [.int .i64 a] (S m g u) Q:=by
 refine cn ⟨false,false,false,false⟩ Tryz.f267 9 [.tmp 2] ?_
 repeat' (first|refine wk ?_|refine fk ?_ ?_<;>intro hs|exact⟨⟩|fail)
theorem all_any (l:List Int):(l.any fun a=>decide (a<0)||decide (1000000000≤a))=!(l.all fun x=>decide (0≤x)&&decide (x≤999999999)):=by
 induction l with
 | nil=>rfl
 | cons a r ih=>
  simp only[List.any_cons,List.all_cons,ih,Bool.not_and]
  congr 1
  rw[Bool.eq_iff_iff];simp;omega
theorem c223 {a:V}{m:Nat}{g:Nat→Box}{u:List (Nat×Nat)}(hu:zAQ m u=true)(hu2:zAJ m u=u)(hl:szV a<1073741824){Q:CR→Sto→Prop}(h:Q (.ret (.int .i64 (if zKK a.neg a.d then 0 else 10))) (S m g u)):C E1 223 [.agg [.bool a.neg,.sl 0 (a.d.map iv) .shut]] (S m g u) Q:=by
 rw[zD2] at hl
 have hz:((a.d.length:Int)-1).toNat=a.d.length-1:=by omega
 have hx0:a.d[a.d.length-1]?=a.d.getLast?:=by rw[List.getLast?_eq_getElem?]
 obtain⟨hv,hv2⟩:=zB6 hu hu2 (Nat.le_succ m)
 have hdl:a.d.length<4611686018427387904:=by omega
 have hfin:∀(g':Nat→Box) (Q:CR→Sto→Prop),Q (.ret (.bool (a.d.any fun a=>decide (a<0)||decide (1000000000≤a)))) (S (m+1) g' u)→C E1 192 [.sl 0 (a.d.map iv) .shut,.func 0 (.func 267) [] []] (S (m+1) g' u) Q:=fun g' Q hQ=>
  c192p hdl hv hv2 (fun _=>rfl) (fun x=>by simp only[go_sem]) rfl (fun x _ Q hQ=>zB1 rfl (c267 hv hv2 hQ)) hQ
 have hS:∀b,S m (updB g m b) u=S m g u:=fun b=>zMP fun k hk=>by unfold updB;rw[if_neg (by omega)]
 rw[all_any] at hfin
 have hsealI:zBC (S m g u) (.agg [.bool a.neg,.sl 0 (a.d.map iv) .shut])=some (.agg [.bool a.neg,.sl 0 (a.d.map iv) .shut],S m g u):=rfl
 rcases hd:a.d.getLast? with _|y
 ·have h0:a.d=[]:=by simpa using hd
  have h1:decide ((a.d.length:Int)=0)=true:=by rw[h0];rfl
  have h2:decide ((0:Int)<a.d.length)=false:=by rw[h0];rfl
  have h3:decide ((40:Int)<a.d.length)=false:=by rw[h0];rfl
  have h5:zKK a.neg a.d=!a.neg:=by rw[h0];cases a.neg<;>rfl
  have h6:(a.d.all fun x=>decide (0≤x)&&decide (x≤999999999))=true:=by rw[h0];rfl
  rw[h6] at hfin
  rw[h5] at h
  clear h0 hx0 hz h5 h6
  cases hng:a.neg
  ·rw[hng] at h hsealI
   refine cn ⟨false,false,false,false⟩ Tryz.f223 33 [.tmp 2] ?_
   repeat' (first|refine hfin _ _ ?_|refine wk ?_|refine fk ?_ ?_<;>intro hs|exact⟨⟩|fail)
   exact h
  ·rw[hng] at h hsealI
   refine cn ⟨false,false,false,false⟩ Tryz.f223 33 [.tmp 2] ?_
   repeat' (first|refine hfin _ _ ?_|refine wk ?_|refine fk ?_ ?_<;>intro hs|exact⟨⟩|fail)
   exact h
 ·have hn:0<a.d.length:=by cases hh:a.d with
   | nil=>rw[hh] at hd;cases hd
   | cons=>simp
  rw[hd] at hx0
  have h1:decide ((a.d.length:Int)=0)=false:=decide_eq_false (by omega)
  have h2:decide ((0:Int)<a.d.length)=true:=decide_eq_true (by omega)
  have h4:(0:Int)≤a.d.length-1:=by omega
  have h5:zKK a.neg a.d=(decide (a.d.length≤40)&&!decide (y=0)&&a.d.all fun x=>decide (0≤x)&&decide (x≤999999999)):=by
   rw[zKK,hd];rw[show decide (a.d.length=0)=false from decide_eq_false (by omega)];simp
  rw[h5] at h
  clear h5 hn
  refine cn ⟨false,false,false,false⟩ Tryz.f223 33 [.tmp 2] ?_
  repeat' (first|refine hfin _ _ ?_|refine wk ?_|refine fk ?_ ?_<;>intro hs|exact⟨⟩|fail)
  all_goals exact leaf h (congrArg (AV.int .i64) (by clear h hfin hS;grind))
theorem node_eq (v:V):node v=(let number:=v.neg||decide (0<(v.d.length:Int))
 if v.kind=1 then(decide (v.n=0)||decide (v.n=1))&&!number&&decide (v.s=[])&&decide ((v.l.length:Int)+v.m.length=0)
 else if v.kind=2 then zKK v.neg v.d&&decide (v.n=0)&&decide (v.s=[])&&decide ((v.l.length:Int)+v.m.length=0)
 else if v.kind=3 then !(!decide (v.n=0)||number||decide (0<(v.l.length:Int)+v.m.length))&&zLX v.s
 else if v.kind=4 then !(!decide (v.n=0)||number||decide (0<(v.l.length:Int)+v.m.length))&&zC7 v.s
 else if v.kind=5 then !(!decide (v.n=0)||number||!decide (v.s=[])||!(rising v.l&&decide ((v.l.length:Int)≤4000)))&&decide ((v.m.length:Int)=0)
 else if v.kind=6 then !(!decide (v.n=0)||number||!decide (v.s=[])||!(rising v.l&&decide ((v.l.length:Int)≤4000)))&&decide ((v.m.length:Int)=v.l.length)
 else false):=by
 have e1:decide ((v.l.length:Int)+v.m.length=0)=(decide (v.l.length=0)&&decide (v.m.length=0)):=by rw[Bool.eq_iff_iff];simp only[decide_eq_true_eq,Bool.and_eq_true];omega
 have e2:decide (0<(v.l.length:Int)+v.m.length)=!(decide (v.l.length=0)&&decide (v.m.length=0)):=by rw[Bool.eq_iff_iff];simp only[decide_eq_true_eq,Bool.not_eq_true',Bool.and_eq_false_iff,decide_eq_false_iff_not];omega
 have e3:zEP v.neg v.d=!(v.neg||decide (0<(v.d.length:Int))):=by rw[zEP,Bool.eq_iff_iff];simp
 have e4:decide ((v.m.length:Int)=0)=decide (v.m.length=0):=by rw[decide_eq_decide];omega
 have e5:decide ((v.m.length:Int)=v.l.length)=decide (v.m.length=v.l.length):=by rw[decide_eq_decide];omega
 have e6:decide ((v.l.length:Int)≤4000)=decide (v.l.length≤4000):=by rw[decide_eq_decide];omega
 simp only[node,e1,e2,e3,e4,e5,e6]
 generalize (v.neg||decide (0<(v.d.length:Int)))=nb
 generalize decide (v.l.length=0)=l0
 generalize decide (v.m.length=0)=m0
 generalize decide (v.s=[])=s0
 generalize decide (v.n=0)=n0
 generalize rising v.l=rs
 generalize decide (v.l.length≤4000)=l4
 generalize decide (v.m.length=v.l.length)=lm
 generalize zLX v.s=ist
 generalize zC7 v.s=isn
 generalize zKK v.neg v.d=isi
 generalize decide (v.n=1)=n1
 repeat' split
 all_goals first|rfl|grind
theorem c166 {v:V}(hl:szV v<1073741824){s:Sto}{Q:CR→Sto→Prop}(h:Q (.ret (.bool (node v))) s):C E1 166 [encV v] s Q:=by
 have ev:=zD2 v
 have k1:v.s.length<1073741824:=by omega
 have k2:szVs v.l<1073741824:=by omega
 have k3:=szVs_len v.l
 have k4:=szVs_len v.m
 have hv:zAQ 1 []=true:=rfl
 have hv2:zAJ 1 []=[]:=rfl
 rw[node_eq] at h
 refine ci Tryz.f166 133 [.tmp 2] ?_
 repeat' (first|refine c223 hv hv2 hl ?_|refine c224 k1 ?_|refine c225 k1 ?_|refine c226 k2 ?_|refine wk ?_|refine fk ?_ ?_<;>intro hs|exact⟨⟩|fail)
 all_goals exact zAX h (by(try clear hrec);(try clear h);grind)
def gz (i:Nat):AV:=match i with|0=>.sl 0 [] .nil|k+1=>.osl k 0 (k+1)
def zs (n:Nat):List AV:=List.replicate n (AV.int .i64 0)
theorem zQR (n:Nat):zs n++[AV.int .i64 0]=zs (n+1):=List.replicate_succ'.symm
theorem zJ7 (n:Nat):(zs n).length=n:=List.length_replicate
theorem zH9 (n:Nat):tops (zs n)=0:=by induction n with|zero=>rfl|succ n ih=>show max 0 (tops (zs n))=0;rw[ih];rfl
theorem zSO (n:Int):(zeros n).map iv=zs n.toNat:=by unfold zeros zs;rw[List.map_replicate];rfl
def gzOk (ty:TypeId)(g:Nat→Box)(i:Nat):Prop:=match i with|0=>True|k+1=>g k=.row ty 1 (zs (k+1)) false
def gzN (ty:TypeId)(g:Nat→Box)(i:Nat):Nat→Box:=match i with|0=>updB g 0 (.row ty 1 (zs 1) false)|k+1=>updB (updB g k .dead) (k+1) (.row ty 1 (zs (k+2)) false)
theorem gzN_ok {ty:TypeId}{g:Nat→Box}{i:Nat}:gzOk ty (gzN ty g i) (i+1):=by
 cases i with
 | zero=>show updB g 0 _ 0=_;simp[updB]
 | succ k=>show updB _ (k+1) _ (k+1)=_;simp[updB]
theorem app_gz {ty:TypeId}{g:Nat→Box}{i:Nat}(hi:i<1073741824)(hg:gzOk ty g i):zAR ty 1 8 (gz i) [AV.int .i64 0] (S i g [])=some (gz (i+1),S (i+1) (gzN ty g i) []):=by
 cases i with
 | zero=>exact zGW (m:=0) (u:=[]) (rfl) (by simp) (by simp) rfl
 | succ k=>
  have:=zSI (ty:=ty) (es:=1) (b:=8) (m:=k+1) (k:=k) (n:=k+1) (g:=g) (u:=[]) (xs:=zs (k+1)) (ys:=[AV.int .i64 0]) (Nat.lt_succ_self _) hg (by simp) rfl (zJ7 _).symm (by rw[zJ7];simp;omega) (by rw[zQR];exact zH9 _)
  rw[zQR] at this
  exact this
theorem c379 {n:Int}{s:Sto}(hn:n<1073741824){Q:CR→Sto→Prop}(h:Q (.ret (.sl 0 ((zeros n).map iv) .shut)) s):C E1 379 [.int .i64 n] s Q:=by
 rw[zSO] at h
 refine ci Tryz.f379 14 [.tmp 2] ?_
 repeat' (first|refine wk ?_|refine fk ?_ ?_<;>intro hs|exact⟨⟩|fail)
 refine zAF (ι:=Nat×(Nat→Box)) (fun p=>[(0,.int .i64 n),(3,gz p.1),(4,.int .i64 p.1)]) (fun p=>S p.1 p.2 []) (fun p=>gzOk 3 p.2 p.1∧p.1≤n.toNat) (fun p=>n.toNat-p.1) ?_ (0,g0) ⟨trivial,Nat.zero_le _⟩ ⟨rfl,rfl,rfl,trivial⟩ rfl
 rintro⟨i,g⟩ b ⟨hg,hi⟩ hrec
 dsimp only at hg hi hrec ⊢
 rcases Nat.lt_or_ge i n.toNat with hlt|hge
 ·have hc:decide ((i:Int)<n)=true:=decide_eq_true (by omega)
  have ha:=app_gz (ty:=3) (g:=g) (show i<1073741824 by omega) hg
  repeat' (first|refine wk ?_|refine fk ?_ ?_<;>intro hs|exact⟨⟩|fail)
  exact hrec (i+1,gzN 3 g i) _ _ _ ⟨gzN_ok,by dsimp only;omega⟩ (by dsimp only;omega) ⟨rfl,rfl,congrArg (fun z=>some (AV.int .i64 z)) (by dsimp only;omega),trivial⟩ rfl
 ·have hc:decide ((i:Int)<n)=false:=decide_eq_false (by omega)
  have hin:i=n.toNat:=by omega
  cases i with
  | zero=>
   rw[← hin] at h
   have e:gz 0=.sl 0 [] .nil:=rfl
   have hc0:decide ((0:Int)<n)=false:=hc
   clear hin hi hge hg hrec
   repeat' (first|refine wk ?_|refine fk ?_ ?_<;>intro hs|exact⟨⟩|fail)
   exact h
  | succ k=>
   rw[← hin] at h
   have e:gz (k+1)=.osl k 0 (k+1):=rfl
   have hs:=zFG (m:=k+1) (u:=[]) (Nat.lt_succ_self _) hg (zJ7 _).symm (zH9 _)
   clear hin hi hge hg hrec
   repeat' (first|refine wk ?_|refine fk ?_ ?_<;>intro hs|exact⟨⟩|fail)
end Go.Ab.X
namespace Go.Ab
theorem resV_c {E:Env}{n:Nat}{le:List (Nat×AV)}{be:Nat→AV}{s:Sto}{a t:Nat}:resV E (Fl n le be) s [.cell a t]=(match zI6 s (E.types t) (lget (Fl n le be).tmps a) with|some v=>some v|none=>none):=by
 unfold resV zDG zDG
 cases zI6 s (E.types t) (lget (Fl n le be).tmps a)<;>rfl
attribute [go_sem] resV_c
end Go.Ab
namespace Go.Ab.X
open Go Go.Ab Go.Proofs Pl
set_option maxRecDepth 100000
set_option maxHeartbeats 1000000
def gr (m:Nat)(xs:List AV):AV:=match xs with | []=>.sl 0 [] .nil|_ :: _=>.osl (m-1) 0 xs.length
def grOk (ty:TypeId)(base:Nat)(g:Nat→Box)(m:Nat)(xs:List AV):Prop:=base≤m∧(xs=[]∨(base<m∧g (m-1)=.row ty 1 xs false))
theorem app_gr {ty:TypeId}{b base m:Nat}{g:Nat→Box}{u:List (Nat×Nat)}{xs ys:List AV}(hg:grOk ty base g m xs)(hf:zBK 1 ys=true)(hn:0<ys.length)(hb:(xs.length+ys.length)*b≤140737488355328∧xs.length+ys.length≤140737488355328)(ht:tops (xs++ys)=0) :
  ∃g',zAR ty 1 b (gr m xs) ys (S m g u)=some (gr (m+1) (xs++ys),S (m+1) g' u)∧grOk ty base g' (m+1) (xs++ys)∧∀k,k<base→g' k=g k:=by
 obtain⟨hm,h⟩:=hg
 rcases h with rfl|⟨hb1,hg⟩
 ·refine⟨updB g m (.row ty 1 ys false),?_,⟨by omega,.inr ⟨by omega,?_⟩⟩,fun k hk=>?_⟩
  ·rw[gr,zGW hf hn (by simpa using hb) (by simpa using ht)]
   cases ys with
   | nil=>simp at hn
   | cons a r=>rfl
  ·simp[updB]
  ·simp[updB,show k≠m by omega]
 ·cases xs with
  | nil=>
   refine⟨updB g m (.row ty 1 ys false),?_,⟨by omega,.inr ⟨by omega,?_⟩⟩,fun k hk=>?_⟩
   ·rw[gr,zGW hf hn (by simpa using hb) (by simpa using ht)]
    cases ys with
    | nil=>simp at hn
    | cons a r=>rfl
   ·simp[updB]
   ·simp[updB,show k≠m by omega]
  | cons a r=>
   refine⟨updB (updB g (m-1) .dead) m (.row ty 1 ((a :: r)++ys) false),?_,⟨by omega,.inr ⟨by omega,?_⟩⟩,fun k hk=>?_⟩
   ·show zAR ty 1 b (.osl (m-1) 0 (a :: r).length) ys _=_
    rw[zSI (by omega) hg hn hf rfl hb ht]
    show some (AV.osl m 0 ((a :: r).length+ys.length),_)=some (AV.osl (m+1-1) 0 ((a :: r)++ys).length,_)
    rw[List.length_append];rfl
   ·simp[updB]
   ·simp[updB,show k≠m by omega,show k≠m-1 by omega]
theorem zFM (l:List Int):tops (l.map iv)=0:=by induction l with|nil=>rfl|cons a l ih=>show max 0 (tops (l.map iv))=0;rw[ih];rfl
theorem gr_cells (m:Nat)(xs:List AV):cellsOf (gr m xs)=[gr m xs]:=by cases xs<;>rfl
theorem gr_flat (m:Nat)(xs:List AV):flatC [gr m xs]=true:=by cases xs<;>rfl
theorem zXI (k o n:Nat):cellsOf (.osl k o n)=[.osl k o n]:=rfl
theorem osl_flat (k o n:Nat):flatC [.osl k o n]=true:=rfl
def zPl:List AV:=[AV.sl 0 [] Own.nil,AV.sl 0 [] Own.nil,AV.sl 0 [] Own.nil,AV.sl 0 [] Own.nil,AV.sl 0 [] Own.nil,
        AV.int IntKind.i64 0,AV.int IntKind.i64 0,AV.sl 0 [] Own.nil,AV.int IntKind.i64 0,
        AV.int IntKind.i64 0,AV.bool false,AV.sl 0 [] Own.nil,AV.str [],AV.sl 0 [] Own.nil,
        AV.sl 0 [] Own.nil,AV.sl 0 [] Own.nil,AV.int IntKind.i64 0,AV.int IntKind.i64 0,AV.sl 0 [] Own.nil,
        AV.int IntKind.i64 0,AV.int IntKind.i64 0,AV.bool false,AV.sl 0 [] Own.nil,AV.str [],
        AV.sl 0 [] Own.nil,AV.sl 0 [] Own.nil,AV.sl 0 [] Own.nil,AV.sl 0 [] Own.nil,AV.sl 0 [] Own.nil,
        AV.sl 0 [] Own.nil,AV.sl 0 [] Own.nil,AV.sl 0 [] Own.nil,AV.sl 0 [] Own.nil,AV.sl 0 [] Own.nil,
        AV.bool false,AV.int IntKind.i64 0,AV.sl 0 [] Own.nil]
def zDZ (sp:Pl.Spec)(d:Int)(l:List AV):List AV:=zAC sp++.int .i64 d :: l
theorem Pl_take (sp:Pl.Spec)(d:Int)(sc:List Int)(l:List AV):List.take 36 (zBA sp d sc)++l=zDZ sp d l:=by
 show(zAC sp++[.int .i64 d])++l=zAC sp++.int .i64 d :: l
 rw[List.append_assoc];rfl
theorem Pl_drop (sp:Pl.Spec)(d:Int)(sc:List Int):List.drop 37 (zBA sp d sc)=[]:=rfl
theorem llen_Ph (sp:Pl.Spec)(d:Int)(v:AV):llen (zDZ sp d [v])=37:=rfl
theorem pick_Ph (sp:Pl.Spec)(d:Int)(v:AV):pick1 (E1.types 249) (zDZ sp d [v]) 0=some (.agg (zDZ sp d [v])):=rfl
theorem flat_Ph (sp:Pl.Spec)(d:Int)(v:AV):flatC (zDZ sp d [v])=flatC [v]:=rfl
theorem zAV (xs ys:List AV):tops (xs++ys)=max (tops xs) (tops ys):=by induction xs with|nil=>exact(Nat.zero_max _).symm|cons a l ih=>show max (top a) (tops (l++ys))=max (max (top a) (tops l)) (tops ys);rw[ih,Nat.max_assoc]
theorem tops_Ph (sp:Pl.Spec)(d:Int)(v:AV):tops (zDZ sp d [v])=top v:=by
 rw[zDZ,zAV,show tops (zAC sp)=0 from rfl]
 show max 0 (max 0 (max (top v) 0))=top v
 omega
theorem zUF {xs:List AV}:∀{s s':Sto} {xs' ys:List AV},zC6 s xs=some (xs',s')→zC6 s (xs++ys)=(match zC6 s' ys with|some (r,s)=>some (xs'++r,s)|none=>none):=by
 induction xs with
 | nil=>intro s s' xs' ys h;cases h;rw[List.nil_append];cases zC6 s ys<;>rfl
 | cons a r ih=>
  intro s s' xs' ys h
  simp only[List.cons_append,zC6] at h ⊢
  cases h1:seal1 s a with
  | none=>rw[h1] at h;cases h
  | some p=>
   obtain⟨v,s1⟩:=p
   rw[h1] at h
   simp only at h ⊢
   cases h2:zC6 s1 r with
   | none=>rw[h2] at h;cases h
   | some q=>
    obtain⟨w,s2⟩:=q
    rw[h2] at h
    simp only at h ⊢
    cases h
    rw[ih h2]
    cases zC6 s' ys<;>rfl
theorem zWO (s:Sto)(sp:Pl.Spec)(d:Int)(v:AV):zBC s (.agg (zDZ sp d [v]))=(match seal1 s v with|some (v,s)=>some (.agg (zDZ sp d [v]),s)|none=>none):=by
 show(match zC6 s (zDZ sp d [v]) with|some (cs,s)=>some (AV.agg cs,s)|none=>none)=_
 have h1:zC6 s (zAC sp)=some (zAC sp,s):=rfl
 have h2:zC6 s [.int .i64 d,v]=(match seal1 s v with|some (v,s)=>some ([.int .i64 d,v],s)|none=>none):=by
  rw[zC6,show seal1 s (.int .i64 d)=some (.int .i64 d,s) from rfl];simp only[zC6];cases seal1 s v<;>rfl
 rw[zDZ,zUF h1,h2]
 cases seal1 s v<;>rfl
theorem zPl_drop:List.drop 37 zPl=[]:=rfl
theorem zPl_len:llen zPl=37:=rfl
attribute [go_sem] gr_cells gr_flat Pl_take Pl_drop zXI osl_flat llen_Ph pick_Ph flat_Ph tops_Ph zWO zPl_drop zPl_len seal1
theorem app_sc (sc:List Int)(hsc:sc.length<1073741824):∃(m:Nat) (G:(Nat→Box)→Nat→Box),∀g,zAR 3 1 8 (.sl 0 [] .nil) (sc.map iv) (S 2 g [])=some (gr m (sc.map iv),S m (G g) [])∧grOk 3 2 (G g) m (sc.map iv)∧∀k,k<2→G g k=g k:=by
 cases sc with
 | nil=>exact⟨2,id,fun g=>⟨rfl,⟨Nat.le_refl _,.inl rfl⟩,fun _ _=>rfl⟩⟩
 | cons a r=>
  refine⟨3,fun g=>updB g 2 (.row 3 1 ((a :: r).map iv) false),fun g=>⟨?_,⟨by omega,.inr ⟨by omega,?_⟩⟩,fun k hk=>?_⟩⟩
  ·rw[zGW (zP3 _) (by simp) (by rw[List.length_map];omega) (zFM _)];rfl
  ·simp[updB]
  ·simp[updB,show k≠2 by omega]
theorem zTU {sp:Pl.Spec}{d:Int}(sc:List Int)(n:Int):zF9 sp d (sc++zeros n)=.agg (zDZ sp d [.sl 0 (sc.map iv++zs n.toNat) .shut]):=by rw[zF9,zBA,List.map_append,zSO];rfl
theorem c259 {sp:Pl.Spec}{d n:Int}{sc:List Int}{s:Sto}(hn:n<1073741824)(hsc:sc.length<1073741824){Q:CR→Sto→Prop}(h:Q (.ret (zF9 sp d (sc++zeros n))) s):C E1 259 [zF9 sp d sc,.int .i64 n] s Q:=by
 obtain⟨m0,G,hG⟩:=app_sc sc hsc
 have hG1:=fun g=>(hG g).1
 have hG2:=fun g=>(hG g).2.1
 have hG3:∀g k,k<2→G g k=g k:=fun g=>(hG g).2.2
 clear hG
 refine ci Tryz.f259 22 [.cell 4 249] ?_
 repeat' (first|refine wk ?_|refine fk ?_ ?_<;>intro hs|exact⟨⟩|fail)
 refine zAF (ι:=Nat×Nat×(Nat→Box)) (fun p=>[(1,.int .i64 n),(2,.ptr 0 0),(4,.ptr 1 0),(5,gr p.2.1 (sc.map iv++zs p.1)),(6,.int .i64 p.1)]) (fun p=>S p.2.1 p.2.2 [])
  (fun p=>grOk 3 2 p.2.2 p.2.1 (sc.map iv++zs p.1)∧p.1≤n.toNat∧p.2.2 0=.cells 249 (zBA sp d sc)∧p.2.2 1=.cells 249 zPl) (fun p=>n.toNat-p.1) ?_ (0,m0,_)
  ⟨by dsimp only;rw[show zs 0=[] from rfl,List.append_nil];exact hG2 _,Nat.zero_le _,by dsimp only;rw[hG3 _ _ (by omega)];rfl,by dsimp only;rw[hG3 _ _ (by omega)];rfl⟩
  ⟨rfl,rfl,rfl,by rw[show zs 0=[] from rfl,List.append_nil];rfl,rfl,trivial⟩ rfl
 clear hG1 hG2 hG3
 rintro⟨i,m,g⟩ b ⟨hg,hi,hg0,hg1⟩ hrec
 dsimp only at hg hi hg0 hg1 hrec ⊢
 rcases Nat.lt_or_ge i n.toNat with hlt|hge
 ·have hc:decide ((i:Int)<n)=true:=decide_eq_true (by omega)
  obtain⟨g',ha,hg2,hg3⟩:=app_gr (b:=8) (u:=[]) (ys:=[AV.int .i64 0]) hg rfl (by simp) (by rw[List.length_append,zJ7,List.length_map];simp;omega) (by rw[zAV,zAV,zFM,zH9];rfl)
  rw[List.append_assoc,zQR] at ha hg2
  repeat' (first|refine wk ?_|refine fk ?_ ?_<;>intro hs|exact⟨⟩|fail)
  exact hrec (i+1,m+1,g') _ _ _ ⟨hg2,by dsimp only;omega,by rw[← hg0];exact hg3 _ (by omega),by rw[← hg1];exact hg3 _ (by omega)⟩ (by dsimp only;omega) ⟨rfl,rfl,rfl,rfl,congrArg (fun z=>some (AV.int .i64 z)) (by dsimp only;omega),trivial⟩ rfl
 ·have hc:decide ((i:Int)<n)=false:=decide_eq_false (by omega)
  have hin:i=n.toNat:=by omega
  have hm:2≤m:=hg.1
  rw[zTU,← hin] at h
  clear hin hi hge hrec
  generalize hxs:sc.map iv++zs i=xs at *
  have htx:tops xs=0:=by rw[← hxs,zAV,zFM,zH9];rfl
  clear hxs
  cases xs with
  | nil=>
   have e:gr m []=.sl 0 [] .nil:=rfl
   clear hg
   repeat' (first|refine wk ?_|refine fk ?_ ?_<;>intro hs|exact⟨⟩|fail)
  | cons a r=>
   obtain⟨_,h0|⟨hm3,hg⟩⟩:=hg
   ·cases h0
   have e:gr m (a :: r)=.osl (m-1) 0 (a :: r).length:=rfl
   generalize a :: r=xs at *
   have hk:m-1<m:=by omega
   generalize hkk:m-1=k at *
   have hN0:∀g u,(S m g u).note 0 (Nat.succ k)=S m g (zJO 0 (Nat.succ k) u):=fun g u=>zSL (by omega)
   have hN1:∀g u,(S m g u).note 1 (Nat.succ k)=S m g (zJO 1 (Nat.succ k) u):=fun g u=>zSL (by omega)
   have hbl:decide (0+xs.length≤llen xs)=true:=decide_eq_true (by rw[zAH];omega)
   have htk:List.take xs.length xs=xs:=List.take_length
   repeat' (first|refine wk ?_|refine fk ?_ ?_<;>intro hs|exact⟨⟩|fail)
end Go.Ab.X
namespace Go.Ab.X
open Go Go.Ab Go.Proofs Pl
set_option maxRecDepth 100000
set_option maxHeartbeats 1000000
theorem flat_Pl (sp:Pl.Spec)(d:Int)(sc:List Int):flatC (zBA sp d sc)=true:=rfl
theorem zEF (g:Nat→Box)(k:Nat)(a b:Box):updB (updB g k a) k b=updB g k b:=by funext j;simp only[updB];split<;>rfl
attribute [go_sem] flat_Pl zEF
theorem app_path (l:List Int)(hl:l.length<1073741824){m:Nat}(hm:2≤m)(g:Nat→Box):∃(m1:Nat) (g1:Nat→Box),zAR 3 1 8 (.sl 0 [] .nil) (l.map iv) (S m g [])=some (gr m1 (l.map iv),S m1 g1 [])∧grOk 3 2 g1 m1 (l.map iv)∧∀k,k<2→g1 k=g k:=by
 cases l with
 | nil=>exact⟨m,g,rfl,⟨hm,.inl rfl⟩,fun _ _=>rfl⟩
 | cons a r=>
  refine⟨m+1,updB g m (.row 3 1 ((a :: r).map iv) false),?_,⟨by omega,.inr ⟨by omega,?_⟩⟩,fun k hk=>?_⟩
  ·rw[zGW (zP3 _) (by simp) (by rw[List.length_map];omega) (zFM _)];rfl
  ·simp[updB]
  ·simp[updB,show k≠m by omega]
theorem zZ2 (l:List Int)(i:Int)(hl:l.length<1073741824){m1:Nat}{g1:Nat→Box}(hg:grOk 3 2 g1 m1 (l.map iv)):∃g2,zAR 3 1 8 (gr m1 (l.map iv)) [.int .i64 i] (S m1 g1 [])=some (.osl m1 0 (l.length+1),S (m1+1) g2 [])∧g2 m1=.row 3 1 ((l++[i]).map iv) false∧∀k,k<2→g2 k=g1 k:=by
 obtain⟨g2,h1,⟨_,h2⟩,h3⟩:=app_gr (b:=8) (u:=[]) (ys:=[AV.int .i64 i]) hg rfl (by simp) (by rw[List.length_map];simp;omega) (by rw[zAV,zFM];rfl)
 refine⟨g2,?_,?_,h3⟩
 ·rw[h1]
  have:gr (m1+1) (l.map iv++[.int .i64 i])=.osl m1 0 (l.length+1):=by
   cases l with
   | nil=>rfl
   | cons a r=>show AV.osl (m1+1-1) 0 _=_;simp
  rw[this]
 ·rcases h2 with h2|⟨_,h2⟩
  ·exact absurd (congrArg List.length h2) (by simp)
  ·rw[List.map_append];exact h2
theorem sees_le {sp:Pl.Spec}{d ar:Int}{sc:List Int}{e:X}{i:Nat}(hn:zIF sp d sc e ar=true)(hi:i<e.l.length)(hsc:sc.length<2000000):(sees e.kind e.n i).toNat+sc.length<2000000∧sees e.kind e.n i<1073741824:=by
 have key:∀z:Int,sees e.kind e.n i=z→z.toNat+sc.length<2000000→(sees e.kind e.n i).toNat+sc.length<2000000∧sees e.kind e.n i<1073741824:=fun z hz h=>by rw[hz];omega
 rw[zIF] at hn
 by_cases k16:e.kind=16
 ·refine key _ rfl ?_
  rw[sees,k16]
  split at hn
  ·simp[own,k16] at hn;simp;omega
  ·simp[oper,k16] at hn<;>(simp;omega)
 by_cases k17:e.kind=17
 ·refine key _ rfl ?_
  rw[sees,k17]
  split at hn
  ·simp[own,k17] at hn;simp;omega
  ·simp[oper,k17] at hn<;>(simp;omega)
 by_cases k18:e.kind=18
 ·refine key _ rfl ?_
  rw[sees,k18]
  split at hn
  ·simp[own,k18] at hn;simp;omega
  ·simp[oper,k18] at hn<;>(simp;omega)
 by_cases k23:e.kind=23
 ·refine key _ rfl ?_
  rw[sees,k23]
  split at hn
  ·simp[own,k23] at hn;simp;omega
  ·simp[oper,k23] at hn<;>(simp;omega)
 by_cases k42:e.kind=42
 ·refine key _ rfl ?_
  rw[sees,k42]
  split at hn
  ·simp[own,k42] at hn;simp;omega
  ·simp[oper,k42] at hn<;>(simp;omega)
 by_cases k24:e.kind=24
 ·refine key _ rfl ?_
  rw[sees,k24]
  split at hn
  ·simp[own,k24] at hn<;>(simp;split<;>omega)
  ·simp[oper,k24] at hn<;>(simp;split<;>omega)
 by_cases k30:e.kind=30
 ·refine key _ rfl ?_
  rw[sees,k30]
  split at hn
  ·simp[own,k30] at hn<;>(simp;split<;>omega)
  ·simp[oper,k30] at hn<;>(simp;split<;>omega)
 by_cases k34:e.kind=34
 ·refine key _ rfl ?_
  rw[sees,k34]
  split at hn
  ·simp[own,k34] at hn<;>(simp;split<;>omega)
  ·simp[oper,k34] at hn<;>(simp;split<;>omega)
 by_cases k9:e.kind=9
 ·refine key _ rfl ?_
  rw[sees,k9]
  split at hn
  ·simp[own,k9] at hn
  ·simp[oper,k9] at hn;simp;omega
 ·refine key 0 ?_ (by omega)
  simp[sees, *]
theorem arity_ok {sp:Pl.Spec}{d ar:Int}{sc:List Int}{e:X}{i:Nat}(hn:zIF sp d sc e ar=true)(hi:i<e.l.length):e.kind=6→0≤e.n∧e.n<sp.defs.length∧i<(params sp e.n).length:=by
 intro hk
 rw[zIF] at hn
 split at hn
 ·simp[own,hk] at hn
  have:=zDI hn.2.1
  omega
 ·simp[oper,hk] at hn
theorem c214 {sp:Pl.Spec}{d:Int}(hd:d<sp.defs.length)(hdl:sp.defs.length<1073741824)(hml:sp.models.length<1073741824)(hvl:sp.vars.length<1073741824)(hcl:sp.consts.length<1073741824)(hp:∀n,(params sp n).length<1073741824) :
  ∀(N:Nat) {e:X} {sc path:List Int} {ar:Int} {pv:AV} {s s1:Sto},zBC s pv=some (.sl 0 (path.map iv) .shut,s1)→szX e<N→path.length+szX e<1073741824→sc.length<2000000→∀{Q:CR→Sto→Prop},(∀p:List Int,Q (.ret (.tuple [.sl 0 (p.map iv) .shut,.bool (!ok sp d sc e ar)])) s1)→C E1 214 [zF9 sp d sc,encX e,.int .i64 ar,pv] s Q:=by
 intro N
 induction N with
 | zero=>intro e _ _ _ _ _ _ _ h;exact absurd h (Nat.not_lt_zero _)
 | succ N ih=>
  intro e sc path ar pv s s1 hpv hN hl hsc Q h
  have ev:=zGY e
  have k4:=szXs_len e.l
  have hsl:sc.length<1073741824:=by omega
  have hlx:szX e<1073741824:=by omega
  have hpe:=hp e.n
  rw[ok_eq] at h
  have r1:zIF sp d sc e ar=false→Q (.ret (.tuple [.sl 0 (path.map iv) .shut,.bool true])) s1:=fun hn=>by have:=h path;rw[hn] at this;exact this
  have n0:ar=0→zIF sp d sc e ar=own sp d sc e:=fun h=>by rw[zIF,if_pos h]
  have n1:¬ ar=0→zIF sp d sc e ar=oper sp d sc e ar:=fun h=>by rw[zIF,if_neg h]
  have r2:zIF sp d sc e ar=true→∀p:List Int,Q (.ret (.tuple [.sl 0 (p.map iv) .shut,.bool (!okL sp d sc e.kind e.n 0 e.l)])) s1:=fun hn p=>by have:=h p;rw[hn] at this;exact this
  clear h
  refine ci Tryz.f214 71 [.tmp 8,.tmp 9] ?_
  repeat' (first|refine c257 hd hdl hml hvl hcl hsl hpe hlx ?_|refine c258 hd hdl hsl hpe hlx ?_|refine wk ?_|refine fk ?_ ?_<;>intro hs|exact⟨⟩|fail)
  all_goals first
   | exact r1 (by rw[n0 (by assumption)];assumption)
   | exact r1 (by rw[n1 (by assumption)];assumption)
   | skip
  all_goals
   have hnd:zIF sp d sc e ar=true:=by first|(rw[n0 (by assumption)];assumption)|(rw[n1 (by assumption)];assumption)
   replace r2:=r2 hnd
   clear r1 n0 n1
   clear hs
   clear hs
   refine zAF (ι:=Nat×Nat×(Nat→Box)) (fun p=>[(3,.sl 0 (path.map iv) .shut),(4,.ptr 0 0),(5,.ptr 1 0),(10,.int .i64 p.1)]) (fun p=>S p.2.1 p.2.2 [])
    (fun p=>okL sp d sc e.kind e.n 0 e.l=okL sp d sc e.kind e.n p.1 (e.l.drop p.1)∧2≤p.2.1∧p.2.2 0=.cells 249 (zBA sp d sc)∧p.2.2 1=.cells 34 (zAL e)) (fun p=>e.l.length-p.1) ?_ (0,2,_) ⟨rfl,Nat.le_refl _,rfl,rfl⟩ ⟨rfl,rfl,rfl,rfl,trivial⟩ rfl
   rintro⟨i,m,g⟩ b ⟨he,hm,hg0,hg1⟩ hrec
   dsimp only at he hm hg0 hg1 hrec ⊢
   rcases Nat.lt_or_ge i e.l.length with hlt|hge
   ·have hc:decide ((i:Int)<e.l.length)=true:=decide_eq_true (by omega)
    have hx:e.l[i]?=some e.l[i]:=List.getElem?_eq_getElem hlt
    have hmem:e.l[i]∈e.l:=List.getElem_mem hlt
    have hsz:=szXs_mem hmem
    obtain⟨s1,s2⟩:=sees_le hnd hlt hsc
    have h6:=arity_ok hnd hlt
    obtain⟨m1,g1,a1,og,b1⟩:=app_path path (by omega) hm g
    obtain⟨g2,a2,b2,b3⟩:=zZ2 path i (by omega) og
    have hm1:2≤m1:=og.1
    have q0:g2 0=.cells 249 (zBA sp d sc):=by rw[b3 _ (by omega),b1 _ (by omega),hg0]
    have q1:g2 1=.cells 34 (zAL e):=by rw[b3 _ (by omega),b1 _ (by omega),hg1]
    rw[List.drop_eq_getElem_cons hlt,okL] at he
    have hsl3:∀B,zBC (S (m1+1+1) (updB g2 (m1+1) B) []) (.osl m1 0 (path.length+1))=some (.sl 0 ((path++[(i:Int)]).map iv) .shut,S (m1+1+1) (updB (updB g2 (m1+1) B) m1 (.row 3 1 ((path++[(i:Int)]).map iv) true)) []):=fun B=>
     zFG (by omega) (by rw[updB,if_neg (by omega)];exact b2) (by simp) (zFM _)
    have hrc:∀(B:Box) (Q:CR→Sto→Prop),(∀p:List Int,Q (.ret (.tuple [.sl 0 (p.map iv) .shut,.bool (!ok sp d (sc++zeros (sees e.kind e.n i)) e.l[i] (arity sp e.kind e.n i))])) (S (m1+1+1) (updB (updB g2 (m1+1) B) m1 (.row 3 1 ((path++[(i:Int)]).map iv) true)) []))→
      C E1 214 [zF9 sp d (sc++zeros (sees e.kind e.n i)),encX e.l[i],.int .i64 (arity sp e.kind e.n i),.osl m1 0 (path.length+1)] (S (m1+1+1) (updB g2 (m1+1) B) []) Q:=fun B Q hQ=>
     ih (hsl3 B) (by omega) (by rw[List.length_append];simp;omega) (by rw[List.length_append,zeros,List.length_replicate];omega) hQ
    clear ih og b1 b2 b3 hnd
    repeat' (first|refine c260 ?_|refine c259 s2 hsl ?_|refine c261 h6 ?_|refine hrc _ _ ?_|refine wk ?_|refine fk ?_ ?_<;>intro hs|exact⟨⟩|fail)
    intro p
    cases hok:ok sp d (sc++zeros (sees e.kind e.n i)) e.l[i] (arity sp e.kind e.n i)
    ·rw[hok,Bool.false_and] at he
     rw[he] at r2
     clear hrec hrc a1 a2
     repeat' (first|refine wk ?_|refine fk ?_ ?_<;>intro hs|exact⟨⟩|fail)
     exact r2 p
    ·rw[hok,Bool.true_and] at he
     clear hrc a1 a2
     repeat' (first|refine wk ?_|refine fk ?_ ?_<;>intro hs|exact⟨⟩|fail)
     refine hrec (i+1,m1+1+1,_) _ _ _ ⟨he,by dsimp only;omega,?_,?_⟩ (by dsimp only;omega) ⟨rfl,rfl,rfl,rfl,trivial⟩ rfl
     ·show updB (updB g2 (m1+1) _) m1 _ 0=_;rw[zAA (by omega),zAA (by omega)];exact q0
     ·show updB (updB g2 (m1+1) _) m1 _ 1=_;rw[zAA (by omega),zAA (by omega)];exact q1
   ·have hc:decide ((i:Int)<e.l.length)=false:=decide_eq_false (by omega)
    rw[List.drop_eq_nil_of_le hge,okL] at he
    rw[he] at r2
    clear hrec ih
    repeat' (first|refine wk ?_|refine fk ?_ ?_<;>intro hs|exact⟨⟩|fail)
    exact r2 []
section
attribute [local semireducible] C in
theorem zG3 {E:Env}{f:FuncId}{args args1:List AV}{s s1:Sto}{Q:CR→Sto→Prop}(hi:E.intr f args=none)(hi1:E.intr f args1=none)(hns:insM E f args s none=none)(hns1:insM E f args1 s1 none=none)(hm:(E.mode f).rawArgs=false)(h0:zBO s args=some (args1,s1))(h1:zBO s1 args1=some (args1,s1))(h:C E f args1 s1 Q):C E f args s Q:=by
 unfold C at *
 obtain⟨n,cr,b,s',hc,hq⟩:=h
 refine⟨n,cr,b,s',?_,hq⟩
 cases n with
 | zero=>exact absurd hc (by intro h;cases h)
 | succ n=>
  rw[zJH] at hc ⊢
  unfold zHR at hc ⊢
  have i0:zJY E f args none=none:=by unfold zJY;rw[hi]
  have i1:zJY E f args1 none=none:=by unfold zJY;rw[hi1]
  rw[i1,hns1,hm,h1] at hc
  rw[i0,hns,hm,h0]
  exact hc
def gE (ty:TypeId)(es base:Nat)(g:Nat→Box)(m:Nat)(xs:List AV):Prop:=base≤m∧(xs=[]∨(base<m∧g (m-1)=.row ty es xs false))
theorem zP2 {ty:TypeId}{es base m:Nat}{g:Nat→Box}(h:base≤m):gE ty es base g m []:=⟨h,.inl rfl⟩
theorem app_gE {ty:TypeId}{es b base m:Nat}{g:Nat→Box}{u:List (Nat×Nat)}{xs ys:List AV}(hg:gE ty es base g m xs)(hf:zBK es ys=true)(hn:0<ys.length)(hb:(xs.length+ys.length)*b≤140737488355328∧xs.length+ys.length≤140737488355328)(ht:tops (xs++ys)=0) :
  ∃g',zAR ty es b (gr m xs) ys (S m g u)=some (gr (m+1) (xs++ys),S (m+1) g' u)∧gE ty es base g' (m+1) (xs++ys)∧∀k,k<base→g' k=g k:=by
 obtain⟨hm,h⟩:=hg
 rcases h with rfl|⟨hb1,hg⟩
 ·refine⟨updB g m (.row ty es ys false),?_,⟨by omega,.inr ⟨by omega,?_⟩⟩,fun k hk=>?_⟩
  ·rw[gr,zGW hf hn (by simpa using hb) (by simpa using ht)]
   cases ys with
   | nil=>simp at hn
   | cons a r=>rfl
  ·simp[updB]
  ·simp[updB,show k≠m by omega]
 ·cases xs with
  | nil=>
   refine⟨updB g m (.row ty es ys false),?_,⟨by omega,.inr ⟨by omega,?_⟩⟩,fun k hk=>?_⟩
   ·rw[gr,zGW hf hn (by simpa using hb) (by simpa using ht)]
    cases ys with
    | nil=>simp at hn
    | cons a r=>rfl
   ·simp[updB]
   ·simp[updB,show k≠m by omega]
  | cons a r=>
   refine⟨updB (updB g (m-1) .dead) m (.row ty es ((a :: r)++ys) false),?_,⟨by omega,.inr ⟨by omega,?_⟩⟩,fun k hk=>?_⟩
   ·show zAR ty es b (.osl (m-1) 0 (a :: r).length) ys _=_
    rw[zSI (by omega) hg hn hf rfl hb ht]
    show some (AV.osl m 0 ((a :: r).length+ys.length),_)=some (AV.osl (m+1-1) 0 ((a :: r)++ys).length,_)
    rw[List.length_append];rfl
   ·simp[updB]
   ·simp[updB,show k≠m by omega,show k≠m-1 by omega]
theorem seal_gE {ty:TypeId}{es base m:Nat}{g:Nat→Box}{u:List (Nat×Nat)}{xs:List AV}(hg:gE ty es base g m xs)(ht:tops xs=0):∃g',zBC (S m g u) (gr m xs)=some (.sl 0 xs .shut,S m g' u)∧∀k,k<base→g' k=g k:=by
 obtain⟨hm,rfl|⟨hb1,hg⟩⟩:=hg
 ·exact⟨g,rfl,fun _ _=>rfl⟩
 ·cases xs with
  | nil=>exact⟨g,rfl,fun _ _=>rfl⟩
  | cons a r=>exact⟨_,zFG (by omega) hg rfl ht,fun k hk=>by simp[updB,show k≠m-1 by omega]⟩
theorem zZ3 {ty:TypeId}{es b base m:Nat}{g:Nat→Box}{u:List (Nat×Nat)}{xs ys:List AV}(hg:gE ty es base g m xs)(hf:zBK es ys=true)(hb:(xs.length+ys.length)*b≤140737488355328∧xs.length+ys.length≤140737488355328)(ht:tops (xs++ys)=0) :
  ∃m' g',zAR ty es b (gr m xs) ys (S m g u)=some (gr m' (xs++ys),S m' g' u)∧gE ty es base g' m' (xs++ys)∧∀k,k<base→g' k=g k:=by
 cases ys with
 | nil=>exact⟨m,g,by rw[List.append_nil];cases xs<;>rfl,by rw[List.append_nil];exact hg,fun _ _=>rfl⟩
 | cons a r=>
  obtain⟨g',h⟩:=app_gE hg hf (by simp) hb ht
  exact⟨_,g',h⟩
theorem top_X (a:X):top (encX a)=0:=by rw[zBQ];rfl
theorem zC4 (l:List X):tops (l.map encX)=0:=by induction l with|nil=>rfl|cons a l ih=>show max (top (encX a)) (tops (l.map encX))=0;rw[ih,top_X];rfl
theorem flat_X (a:X):flatC (zAL a)=true:=rfl
theorem shut_X (a:X):shutV (encX a)=encX a:=by rw[zBQ];rfl
attribute [go_sem] flat_X
theorem noOsl_X (a:X):noOsl (encX a)=true:=by rw[zBQ];rfl
attribute [-go_sem] shutV noOsl
attribute [go_sem] shut_X noOsl_X
def PX (sp:Pl.Spec)(l:List X)(m:Nat)(g:Nat→Box):Prop:=gE 34 11 1 g m (l.map encX)∧g 0=.cells 40 (zAC sp)
theorem stX {sp:Pl.Spec}{l:List X}{m:Nat}{g:Nat→Box}(h:PX sp l m g)(ys:List X)(hl:l.length+ys.length≤100000000000):∃m' g',zAR 34 11 176 (gr m (l.map encX)) (ys.map encX) (S m g [])=some (gr m' ((l++ys).map encX),S m' g' [])∧PX sp (l++ys) m' g':=by
 obtain⟨m',g',h1,h2,h3⟩:=zZ3 (b:=176) (u:=[]) h.1 (zHK ys) (by rw[List.length_map,List.length_map];omega) (by rw[zAV,zC4,zC4];rfl)
 rw[← List.map_append] at h1 h2
 exact⟨m',g',h1,h2,by rw[h3 _ (by omega)];exact h.2⟩
theorem c213 {sp:Pl.Spec}{s:Sto}(l1:sp.vars.length<1073741824)(l2:sp.assume.length<1073741824)(l3:sp.fair.length<1073741824)(l4:sp.invs.length<1073741824)(l5:sp.cons.length<1073741824)(l6:sp.acons.length<1073741824)(l7:sp.view.length<1073741824){Q:CR→Sto→Prop}(h:Q (.ret (.sl 0 ((Pl.exprs sp).map encX) .shut)) s):C E1 213 [zAN sp] s Q:=by
 refine ci Tryz.f213 84 [.tmp 2] ?_
 repeat' (first|refine wk ?_|refine fk ?_ ?_<;>intro hs|exact⟨⟩|fail)
 refine zAF (ι:=Nat×Nat×(Nat→Box)) (fun p=>[(1,.ptr 0 0),(3,gr p.2.1 (((sp.vars.map (·.typ)).take p.1).map encX)),(4,.int .i64 p.1)]) (fun p=>S p.2.1 p.2.2 [])
  (fun p=>PX sp ((sp.vars.map (·.typ)).take p.1) p.2.1 p.2.2∧p.1≤sp.vars.length) (fun p=>sp.vars.length-p.1) ?_ (0,1,_) ⟨⟨zP2 (Nat.le_refl _),rfl⟩,Nat.zero_le _⟩ ⟨rfl,rfl,rfl,trivial⟩ rfl
 rintro⟨i,m,g⟩ b ⟨hP,hi⟩ hrec
 dsimp only at hP hi hrec ⊢
 have hg0:=hP.2
 have hm:1≤m:=hP.1.1
 rcases Nat.lt_or_ge i sp.vars.length with hlt|hge
 ·have hc:decide ((i:Int)<sp.vars.length)=true:=decide_eq_true (by omega)
  have hx:sp.vars[i]?=some sp.vars[i]:=List.getElem?_eq_getElem hlt
  obtain⟨m',g',ha,hP'⟩:=stX hP [sp.vars[i].typ] (by rw[List.length_take,List.length_map];simp;omega)
  have ha':zAR 34 11 176 (gr m (((sp.vars.map (·.typ)).take i).map encX)) [encX sp.vars[i].typ] (S m g [])=_:=ha
  have e1:(sp.vars.map (·.typ)).take i++[sp.vars[i].typ]=(sp.vars.map (·.typ)).take (i+1):=by rw[List.take_succ_eq_append_getElem (by rw[List.length_map];exact hlt),List.getElem_map]
  rw[e1] at hP' ha'
  clear ha e1 hP
  repeat' (first|refine wk ?_|refine fk ?_ ?_<;>intro hs|exact⟨⟩|fail)
  exact hrec (i+1,m',g') _ _ _ ⟨hP',by dsimp only;omega⟩ (by dsimp only;omega) ⟨rfl,rfl,congrArg (fun z=>some (AV.int .i64 z)) (by dsimp only;omega),trivial⟩ rfl
 clear hrec
 have hc:decide ((i:Int)<sp.vars.length)=false:=decide_eq_false (by omega)
 rw[List.take_of_length_le (by rw[List.length_map];omega)] at hP ⊢
 have k1:(sp.vars.map (·.typ)).length<1073741824:=by rw[List.length_map];exact l1
 obtain⟨ma,ga,ha,hPa⟩:=stX hP sp.assume (by omega)
 have k2:(sp.vars.map (·.typ)++sp.assume).length<2147483648:=by rw[List.length_append];omega
 obtain⟨mb,gb,hb,hPb⟩:=stX hPa [sp.init,sp.next] (by simp only[List.length_cons,List.length_nil];omega)
 have hb':zAR 34 11 176 (gr ma ((sp.vars.map (·.typ)++sp.assume).map encX)) [encX sp.init,encX sp.next] (S ma ga [])=_:=hb
 have k3:(sp.vars.map (·.typ)++sp.assume++[sp.init,sp.next]).length<3147483648:=by rw[List.length_append];simp only[List.length_cons,List.length_nil];omega
 have hga:=hPa.2
 have hma:1≤ma:=hPa.1.1
 have hmb:1≤mb:=hPb.1.1
 have hgb:=hPb.2
 have hL:exprs sp=sp.vars.map (·.typ)++sp.assume++[sp.init,sp.next]++sp.fair.flatMap (fun x=>[x.a,x.sub])++sp.invs.map (·.e)++sp.cons++sp.acons++sp.view:=rfl
 rw[hL] at h
 clear hL hb
 generalize sp.vars.map (·.typ)++sp.assume++[sp.init,sp.next]=L3 at *
 generalize sp.vars.map (·.typ)++sp.assume=L2 at *
 generalize sp.vars.map (·.typ)=L1 at *
 clear hge hi
 repeat' (first|refine wk ?_|refine fk ?_ ?_<;>intro hs|exact⟨⟩|fail)
 clear hc hP ha hb' hPa hga hma hg0 hm k1 k2
 refine zAF (ι:=Nat×Nat×(Nat→Box)) (fun p=>[(1,.ptr 0 0),(3,gr p.2.1 ((L3++(sp.fair.take p.1).flatMap (fun x=>[x.a,x.sub])).map encX)),(5,.int .i64 p.1)]) (fun p=>S p.2.1 p.2.2 [])
  (fun p=>PX sp (L3++(sp.fair.take p.1).flatMap (fun x=>[x.a,x.sub])) p.2.1 p.2.2∧p.1≤sp.fair.length) (fun p=>sp.fair.length-p.1) ?_ (0,mb,gb) ⟨by dsimp only;rw[List.take_zero,List.flatMap_nil,List.append_nil];exact hPb,Nat.zero_le _⟩ ⟨rfl,by rw[List.take_zero,List.flatMap_nil,List.append_nil];rfl,rfl,trivial⟩ rfl
 clear hPb hgb hmb
 clear mb gb ma ga m g
 have kf:∀l:List Pl.Fair,(l.flatMap (fun x=>[x.a,x.sub])).length=2*l.length:=fun l=>by induction l with|nil=>rfl|cons a r ih=>rw[List.flatMap_cons,List.length_append,ih];simp;omega
 rintro⟨i,m,g⟩ b ⟨hP,hi⟩ hrec
 dsimp only at hP hi hrec ⊢
 have hg0:=hP.2
 have hm:1≤m:=hP.1.1
 have kl:(L3++(sp.fair.take i).flatMap (fun x=>[x.a,x.sub])).length<10000000000:=by rw[List.length_append,kf,List.length_take];omega
 rcases Nat.lt_or_ge i sp.fair.length with hlt|hge
 ·have hc:decide ((i:Int)<sp.fair.length)=true:=decide_eq_true (by omega)
  have hx:sp.fair[i]?=some sp.fair[i]:=List.getElem?_eq_getElem hlt
  obtain⟨m',g',ha,hP'⟩:=stX hP [sp.fair[i].a,sp.fair[i].sub] (by simp only[List.length_cons,List.length_nil];omega)
  have ha':zAR 34 11 176 (gr m ((L3++(sp.fair.take i).flatMap (fun x=>[x.a,x.sub])).map encX)) [encX sp.fair[i].a,encX sp.fair[i].sub] (S m g [])=_:=ha
  have e1:L3++(sp.fair.take i).flatMap (fun x=>[x.a,x.sub])++[sp.fair[i].a,sp.fair[i].sub]=L3++(sp.fair.take (i+1)).flatMap (fun x=>[x.a,x.sub]):=by rw[List.take_succ_eq_append_getElem hlt,List.flatMap_append,List.append_assoc];rfl
  rw[e1] at hP' ha'
  clear ha e1 hP kf
  repeat' (first|refine wk ?_|refine fk ?_ ?_<;>intro hs|exact⟨⟩|fail)
  exact hrec (i+1,m',g') _ _ _ ⟨hP',by dsimp only;omega⟩ (by dsimp only;omega) ⟨rfl,rfl,congrArg (fun z=>some (AV.int .i64 z)) (by dsimp only;omega),trivial⟩ rfl
 clear hrec
 have hc:decide ((i:Int)<sp.fair.length)=false:=decide_eq_false (by omega)
 rw[List.take_of_length_le hge] at hP kl ⊢
 clear kf
 generalize L3++sp.fair.flatMap (fun x=>[x.a,x.sub])=L4 at *
 clear hge hi
 repeat' (first|refine wk ?_|refine fk ?_ ?_<;>intro hs|exact⟨⟩|fail)
 clear hc hg0 hm k3
 refine zAF (ι:=Nat×Nat×(Nat→Box)) (fun p=>[(1,.ptr 0 0),(3,gr p.2.1 ((L4++(sp.invs.map (·.e)).take p.1).map encX)),(6,.int .i64 p.1)]) (fun p=>S p.2.1 p.2.2 [])
  (fun p=>PX sp (L4++(sp.invs.map (·.e)).take p.1) p.2.1 p.2.2∧p.1≤sp.invs.length) (fun p=>sp.invs.length-p.1) ?_ (0,m,g) ⟨by dsimp only;rw[List.take_zero,List.append_nil];exact hP,Nat.zero_le _⟩ ⟨rfl,by rw[List.take_zero,List.append_nil];rfl,rfl,trivial⟩ rfl
 clear hP
 clear m g
 rintro⟨i,m,g⟩ b ⟨hP,hi⟩ hrec
 dsimp only at hP hi hrec ⊢
 have hg0:=hP.2
 have hm:1≤m:=hP.1.1
 have kl2:(L4++(sp.invs.map (·.e)).take i).length<20000000000:=by rw[List.length_append,List.length_take,List.length_map];omega
 rcases Nat.lt_or_ge i sp.invs.length with hlt|hge
 ·have hc:decide ((i:Int)<sp.invs.length)=true:=decide_eq_true (by omega)
  have hx:sp.invs[i]?=some sp.invs[i]:=List.getElem?_eq_getElem hlt
  obtain⟨m',g',ha,hP'⟩:=stX hP [sp.invs[i].e] (by simp only[List.length_cons,List.length_nil];omega)
  have ha':zAR 34 11 176 (gr m ((L4++(sp.invs.map (·.e)).take i).map encX)) [encX sp.invs[i].e] (S m g [])=_:=ha
  have e1:L4++(sp.invs.map (·.e)).take i++[sp.invs[i].e]=L4++(sp.invs.map (·.e)).take (i+1):=by rw[List.take_succ_eq_append_getElem (by rw[List.length_map];exact hlt),List.getElem_map,List.append_assoc]
  rw[e1] at hP' ha'
  clear ha e1 hP
  repeat' (first|refine wk ?_|refine fk ?_ ?_<;>intro hs|exact⟨⟩|fail)
  exact hrec (i+1,m',g') _ _ _ ⟨hP',by dsimp only;omega⟩ (by dsimp only;omega) ⟨rfl,rfl,congrArg (fun z=>some (AV.int .i64 z)) (by dsimp only;omega),trivial⟩ rfl
 clear hrec
 have hc:decide ((i:Int)<sp.invs.length)=false:=decide_eq_false (by omega)
 rw[List.take_of_length_le (by rw[List.length_map];omega)] at hP kl2 ⊢
 clear hge hi kl
 generalize L4++sp.invs.map (·.e)=L5 at *
 obtain⟨ma,ga,ha,hPa⟩:=stX hP sp.cons (by omega)
 have k6:(L5++sp.cons).length<30000000000:=by rw[List.length_append];omega
 obtain⟨mb,gb,hb,hPb⟩:=stX hPa sp.acons (by omega)
 have k7:(L5++sp.cons++sp.acons).length<40000000000:=by rw[List.length_append];omega
 obtain⟨mc,gc,hcc,hPc⟩:=stX hPb sp.view (by omega)
 have hga:=hPa.2
 have hma:1≤ma:=hPa.1.1
 have hmb:1≤mb:=hPb.1.1
 have hgb:=hPb.2
 obtain⟨gs,hse,_⟩:=seal_gE (u:=[]) hPc.1 (zC4 _)
 repeat' (first|refine wk ?_|refine fk ?_ ?_<;>intro hs|exact⟨⟩|fail)
 have hgr:gr mc ((L5++sp.cons++sp.acons++sp.view).map encX)=.sl 0 [] .nil∨∃k o n,gr mc ((L5++sp.cons++sp.acons++sp.view).map encX)=.osl k o n:=by
  cases ((L5++sp.cons++sp.acons++sp.view).map encX) with
  | nil=>exact .inl rfl
  | cons a r=>exact .inr ⟨_,_,_,rfl⟩
 rcases hgr with hgr|⟨k,o,n,hgr⟩<;>rw[hgr] at hse ⊢
 ·show FN true 0 s Q (zBC (S mc gc []) (.sl 0 [] .nil))
  rw[hse]
  rw[yAJ];exact⟨rfl,h⟩
 ·show FN true 0 s Q (zBC (S mc gc []) (.osl k o n))
  rw[hse]
  rw[yAJ];exact⟨rfl,h⟩
end
def bld248 (ps:List (Nat×AV))(s:Sto):Nx:=match(E1.types 249).d with
 | .struct fs=>match zKG E1 fs (E1.types 249).zero ps with|some cs=>.val (.agg cs) s|none=>.no
 | .array _ e=>match zKH (E1.types e).size (E1.types 249).zero ps with|some cs=>.val (.agg cs) s|none=>.no
 | _=>.no
theorem zZR (fr:Fr)(ps:List (Nat×Operand))(s:Sto):zDL E1 fr 249 ps s=(match zBW fr ps with|some ps=>bld248 ps s|none=>.no):=rfl
theorem bld_Pl (sp:Pl.Spec)(d:Int)(sc:List Int)(s:Sto):bld248 [(0,zAN sp),(1,.int .i64 d),(2,.sl 0 (sc.map iv) .shut)] s=.val (zF9 sp d sc) s:=rfl
attribute [go_sem] zZR bld_Pl valOf
theorem c326 {sp:Pl.Spec}{e:X}{n:Int}{s:Sto}(hdl:sp.defs.length<1073741824)(hml:sp.models.length<1073741824)(hvl:sp.vars.length<1073741824)(hcl:sp.consts.length<1073741824)(hp:∀n,(params sp n).length<1073741824)(hl:szX e<1073741824)(hn:n<100000)
  {Q:CR→Sto→Prop} (h:Q (.ret (.bool (ok sp (-1) (zeros n) e 0&&decide (cntX e≤3000)&&decide (depX e≤100)))) s):C E1 326 [zAN sp,encX e,.int .i64 n] s Q:=by
 have hd:(-1:Int)<sp.defs.length:=by omega
 have hn2:n<1073741824:=by omega
 have j1:=cntX_le e
 have j2:=depX_le e
 have hr:∀(s:Sto) (Q:CR→Sto→Prop),(∀p:List Int,Q (.ret (.tuple [.sl 0 (p.map iv) .shut,.bool (!ok sp (-1) (zeros n) e 0)])) s)→C E1 214 [zF9 sp (-1) (zeros n),encX e,.int .i64 0,.sl 0 [] .nil] s Q:=fun s Q hQ=>
  c214 hd hdl hml hvl hcl hp _ (path:=[]) (pv:=.sl 0 [] .nil) (s1:=s) rfl (Nat.lt_succ_self _) (by simp;omega) (by rw[zeros,List.length_replicate];omega) hQ
 have e1:AV.agg (zAC sp++[.int .i64 (-1),.sl 0 ((zeros n).map iv) .shut])=zF9 sp (-1) (zeros n):=rfl
 refine ci Tryz.f326 35 [.tmp 6] ?_
 repeat' (first|refine c379 hn2 ?_|refine hr _ _ ?_|refine wk ?_|refine fk ?_ ?_<;>intro hs|exact⟨⟩|fail)
 intro p
 clear hr
 repeat' (first|refine c256 _ (Nat.lt_succ_self _) hl ?_|refine wk ?_|refine fk ?_ ?_<;>intro hs|exact⟨⟩|fail)
 exact zAX h (by(try clear hrec);(try clear h);grind)
theorem zEG (l:List Str):tops (l.map AV.str)=0:=by induction l with|nil=>rfl|cons a l ih=>show max (top (AV.str a)) (tops (l.map AV.str))=0;rw[ih];rfl
def PS (sp:Pl.Spec)(base:Nat)(gb:Nat→Box)(l:List Str)(m:Nat)(g:Nat→Box):Prop:=gE 9 1 base g m (l.map AV.str)∧(∀k,k<base→g k=gb k)∧1≤base∧gb 0=.cells 40 (zAC sp)
theorem PS_0 {sp:Pl.Spec}{base:Nat}{gb:Nat→Box}{l:List Str}{m:Nat}{g:Nat→Box}(h:PS sp base gb l m g):g 0=.cells 40 (zAC sp):=by rw[h.2.1 0 (by have:=h.2.2.1;omega)];exact h.2.2.2
theorem PS_m {sp:Pl.Spec}{base:Nat}{gb:Nat→Box}{l:List Str}{m:Nat}{g:Nat→Box}(h:PS sp base gb l m g):1≤m:=by have:=h.1.1;have:=h.2.2.1;omega
theorem stS {sp:Pl.Spec}{base:Nat}{gb:Nat→Box}{l:List Str}{m:Nat}{g:Nat→Box}(h:PS sp base gb l m g)(ys:List Str)(hl:l.length+ys.length≤100000000000):∃m' g',zAR 9 1 16 (gr m (l.map AV.str)) (ys.map AV.str) (S m g [])=some (gr m' ((l++ys).map AV.str),S m' g' [])∧PS sp base gb (l++ys) m' g':=by
 obtain⟨m',g',h1,h2,h3⟩:=zZ3 (b:=16) (u:=[]) h.1 (zYS ys) (by rw[List.length_map,List.length_map];omega) (by rw[zAV,zEG,zEG];rfl)
 rw[← List.map_append] at h1 h2
 exact⟨m',g',h1,h2,fun k hk=>(h3 k hk).trans (h.2.1 k hk),h.2.2⟩
theorem zOM {ty:TypeId}{es base m:Nat}{g g':Nat→Box}{xs:List AV}(h:gE ty es base g m xs)(hg:∀k,base≤k→k<m→g' k=g k):gE ty es base g' m xs:=by
 obtain⟨h1,h2|⟨h3,h4⟩⟩:=h
 ·exact⟨h1,.inl h2⟩
 ·exact⟨h1,.inr ⟨h3,by rw[hg _ (by omega) (by omega)];exact h4⟩⟩
theorem c208g {l:List Str}{base m M:Nat}{g:Nat→Box}(hl:lens l<1073741824)(hM:m≤M)(h:gE 9 1 base g m (l.map AV.str)):∃g',(∀Q:CR→Sto→Prop,Q (.ret (.bool (Pl.distinct [] l))) (S M g' [])→C E1 208 [gr m (l.map AV.str)] (S M g []) Q)∧∀k,m≤k→g' k=g k:=by
 have key:∃g',zBC (S M g []) (gr m (l.map AV.str))=some (.sl 0 (l.map AV.str) .shut,S M g' [])∧∀k,m≤k→g' k=g k:=by
  obtain⟨hm,h0|⟨hb1,hg⟩⟩:=h
  ·rw[h0];exact⟨g,rfl,fun _ _=>rfl⟩
  ·generalize hxs:l.map AV.str=xs at *
   have ht:tops xs=0:=by rw[← hxs];exact zEG l
   cases xs with
   | nil=>exact⟨g,rfl,fun _ _=>rfl⟩
   | cons a r=>exact⟨_,zFG (by omega) hg rfl ht,fun k hk=>by simp[updB,show k≠m-1 by omega]⟩
 obtain⟨g',h1,h2⟩:=key
 refine⟨g',fun Q hQ=>zG3 (args1:=[.sl 0 (l.map AV.str) .shut]) (s1:=S M g' []) rfl rfl rfl rfl rfl ?_ rfl (c208 hl hQ),h2⟩
 simp only[zBO,h1]
theorem c209 {sp:Pl.Spec}{s:Sto}(l1:sp.vars.length<1073741824)(l2:sp.consts.length<1073741824)(l3:sp.invs.length<1073741824)(l4:sp.props.length<1073741824)(n1:lens (sp.consts.map (·.name))<1073741824)(n2:lens (sp.vars.map (·.name))<1073741824)(n3:lens (sp.invs.map (·.name))<1073741824)(n4:lens (sp.props.map (·.name))<1073741824)(l5:sp.models.length<1073741824)(l6:∀c∈sp.consts,szV c.v<1073741824)
  {Q:CR→Sto→Prop} (h:Q (.ret (.bool (zDM sp.models (sp.consts.map (·.v))&&(Pl.distinct [] (sp.consts.map (·.name))&&Pl.distinct [] (sp.vars.map (·.name))&&Pl.distinct [] (sp.invs.map (·.name))&&Pl.distinct [] (sp.props.map (·.name)))))) s):C E1 209 [zAN sp] s Q:=by
 refine ci Tryz.f209 99 [.tmp 2] ?_
 repeat' (first|refine wk ?_|refine fk ?_ ?_<;>intro hs|exact⟨⟩|fail)
 refine zAF (ι:=Nat×Nat×(Nat→Box)) (fun p=>[(1,.ptr 0 0),(3,gr p.2.1 (((sp.consts.map (·.name)).take p.1).map AV.str)),(4,.int .i64 p.1)]) (fun p=>S p.2.1 p.2.2 [])
  (fun p=>PS sp 1 (updB g0 0 (.cells 40 (zAC sp))) ((sp.consts.map (·.name)).take p.1) p.2.1 p.2.2∧p.1≤sp.consts.length∧zDM sp.models (sp.consts.map (·.v))=zDM sp.models ((sp.consts.map (·.v)).drop p.1)) (fun p=>sp.consts.length-p.1) ?_ (0,1,_) ⟨⟨zP2 (Nat.le_refl _),fun _ _=>rfl,Nat.le_refl _,rfl⟩,Nat.zero_le _,rfl⟩ ⟨rfl,rfl,rfl,trivial⟩ rfl
 rintro⟨i,m1,g1⟩ b ⟨hP1,hi,hk⟩ hrec
 dsimp only at hP1 hi hk hrec ⊢
 have hq1:=PS_0 hP1
 have hm1:1≤m1:=PS_m hP1
 rcases Nat.lt_or_ge i sp.consts.length with hlt|hge
 ·have hc:decide ((i:Int)<sp.consts.length)=true:=decide_eq_true (by omega)
  have hx:sp.consts[i]?=some sp.consts[i]:=List.getElem?_eq_getElem hlt
  obtain⟨m',g',ha,hP'⟩:=stS hP1 [sp.consts[i].name] (by rw[List.length_take,List.length_map];simp;omega)
  have ha':zAR 9 1 16 (gr m1 (((sp.consts.map (·.name)).take i).map AV.str)) [AV.str sp.consts[i].name] (S m1 g1 [])=_:=ha
  have e1:(sp.consts.map (·.name)).take i++[sp.consts[i].name]=(sp.consts.map (·.name)).take (i+1):=by rw[List.take_succ_eq_append_getElem (by rw[List.length_map];exact hlt),List.getElem_map]
  rw[e1] at hP' ha'
  have hg0':=PS_0 hP'
  have hm':1≤m':=PS_m hP'
  clear ha e1
  have hv:szV sp.consts[i].v<4611686018427387904:=by have:=l6 _ (List.getElem_mem hlt);omega
  have hml:sp.models.length<4611686018427387904:=by omega
  rw[List.drop_eq_getElem_cons (by rw[List.length_map];exact hlt),List.getElem_map,zDM] at hk
  repeat' (first|refine c255 _ (Nat.lt_succ_self _) hv hml ?_|refine wk ?_|refine fk ?_ ?_<;>intro hs|exact⟨⟩|fail)
  ·rw[hs,Bool.false_and] at hk
   rw[hk,Bool.false_and] at h
   exact h
  ·rw[hs,Bool.true_and] at hk
   exact hrec (i+1,m',g') _ _ _ ⟨hP',by dsimp only;omega,hk⟩ (by dsimp only;omega) ⟨rfl,rfl,congrArg (fun z=>some (AV.int .i64 z)) (by dsimp only;omega),trivial⟩ rfl
 clear hrec
 have hc:decide ((i:Int)<sp.consts.length)=false:=decide_eq_false (by omega)
 rw[List.take_of_length_le (by rw[List.length_map];omega)] at hP1 ⊢
 rw[List.drop_eq_nil_of_le (by rw[List.length_map];omega),zDM] at hk
 rw[hk,Bool.true_and] at h
 clear hge hi
 repeat' (first|refine wk ?_|refine fk ?_ ?_<;>intro hs|exact⟨⟩|fail)
 clear hc
 refine zAF (ι:=Nat×Nat×(Nat→Box)) (fun p=>[(1,.ptr 0 0),(3,gr m1 ((sp.consts.map (·.name)).map AV.str)),(5,gr p.2.1 (((sp.vars.map (·.name)).take p.1).map AV.str)),(6,.int .i64 p.1)]) (fun p=>S p.2.1 p.2.2 [])
  (fun p=>PS sp m1 g1 ((sp.vars.map (·.name)).take p.1) p.2.1 p.2.2∧p.1≤sp.vars.length) (fun p=>sp.vars.length-p.1) ?_ (0,m1,_) ⟨⟨zP2 (Nat.le_refl _),fun _ _=>rfl,hm1,hq1⟩,Nat.zero_le _⟩ ⟨rfl,rfl,rfl,rfl,trivial⟩ rfl
 rintro⟨i,m2,g2⟩ b ⟨hP2,hi⟩ hrec
 dsimp only at hP2 hi hrec ⊢
 have hq2:=PS_0 hP2
 have hm2:1≤m2:=PS_m hP2
 rcases Nat.lt_or_ge i sp.vars.length with hlt|hge
 ·have hc:decide ((i:Int)<sp.vars.length)=true:=decide_eq_true (by omega)
  have hx:sp.vars[i]?=some sp.vars[i]:=List.getElem?_eq_getElem hlt
  obtain⟨m',g',ha,hP'⟩:=stS hP2 [sp.vars[i].name] (by rw[List.length_take,List.length_map];simp;omega)
  have ha':zAR 9 1 16 (gr m2 (((sp.vars.map (·.name)).take i).map AV.str)) [AV.str sp.vars[i].name] (S m2 g2 [])=_:=ha
  have e1:(sp.vars.map (·.name)).take i++[sp.vars[i].name]=(sp.vars.map (·.name)).take (i+1):=by rw[List.take_succ_eq_append_getElem (by rw[List.length_map];exact hlt),List.getElem_map]
  rw[e1] at hP' ha'
  have hg0':=PS_0 hP'
  have hm':1≤m':=PS_m hP'
  clear ha e1
  repeat' (first|refine wk ?_|refine fk ?_ ?_<;>intro hs|exact⟨⟩|fail)
  exact hrec (i+1,m',g') _ _ _ ⟨hP',by dsimp only;omega⟩ (by dsimp only;omega) ⟨rfl,rfl,rfl,congrArg (fun z=>some (AV.int .i64 z)) (by dsimp only;omega),trivial⟩ rfl
 clear hrec
 have hc:decide ((i:Int)<sp.vars.length)=false:=decide_eq_false (by omega)
 rw[List.take_of_length_le (by rw[List.length_map];omega)] at hP2 ⊢
 clear hge hi
 repeat' (first|refine wk ?_|refine fk ?_ ?_<;>intro hs|exact⟨⟩|fail)
 clear hc
 refine zAF (ι:=Nat×Nat×(Nat→Box)) (fun p=>[(1,.ptr 0 0),(3,gr m1 ((sp.consts.map (·.name)).map AV.str)),(5,gr m2 ((sp.vars.map (·.name)).map AV.str)),(7,gr p.2.1 (((sp.invs.map (·.name)).take p.1).map AV.str)),(8,.int .i64 p.1)]) (fun p=>S p.2.1 p.2.2 [])
  (fun p=>PS sp m2 g2 ((sp.invs.map (·.name)).take p.1) p.2.1 p.2.2∧p.1≤sp.invs.length) (fun p=>sp.invs.length-p.1) ?_ (0,m2,_) ⟨⟨zP2 (Nat.le_refl _),fun _ _=>rfl,hm2,hq2⟩,Nat.zero_le _⟩ ⟨rfl,rfl,rfl,rfl,rfl,trivial⟩ rfl
 rintro⟨i,m3,g3⟩ b ⟨hP3,hi⟩ hrec
 dsimp only at hP3 hi hrec ⊢
 have hq3:=PS_0 hP3
 have hm3:1≤m3:=PS_m hP3
 rcases Nat.lt_or_ge i sp.invs.length with hlt|hge
 ·have hc:decide ((i:Int)<sp.invs.length)=true:=decide_eq_true (by omega)
  have hx:sp.invs[i]?=some sp.invs[i]:=List.getElem?_eq_getElem hlt
  obtain⟨m',g',ha,hP'⟩:=stS hP3 [sp.invs[i].name] (by rw[List.length_take,List.length_map];simp;omega)
  have ha':zAR 9 1 16 (gr m3 (((sp.invs.map (·.name)).take i).map AV.str)) [AV.str sp.invs[i].name] (S m3 g3 [])=_:=ha
  have e1:(sp.invs.map (·.name)).take i++[sp.invs[i].name]=(sp.invs.map (·.name)).take (i+1):=by rw[List.take_succ_eq_append_getElem (by rw[List.length_map];exact hlt),List.getElem_map]
  rw[e1] at hP' ha'
  have hg0':=PS_0 hP'
  have hm':1≤m':=PS_m hP'
  clear ha e1
  repeat' (first|refine wk ?_|refine fk ?_ ?_<;>intro hs|exact⟨⟩|fail)
  exact hrec (i+1,m',g') _ _ _ ⟨hP',by dsimp only;omega⟩ (by dsimp only;omega) ⟨rfl,rfl,rfl,rfl,congrArg (fun z=>some (AV.int .i64 z)) (by dsimp only;omega),trivial⟩ rfl
 clear hrec
 have hc:decide ((i:Int)<sp.invs.length)=false:=decide_eq_false (by omega)
 rw[List.take_of_length_le (by rw[List.length_map];omega)] at hP3 ⊢
 clear hge hi
 repeat' (first|refine wk ?_|refine fk ?_ ?_<;>intro hs|exact⟨⟩|fail)
 clear hc
 refine zAF (ι:=Nat×Nat×(Nat→Box)) (fun p=>[(1,.ptr 0 0),(3,gr m1 ((sp.consts.map (·.name)).map AV.str)),(5,gr m2 ((sp.vars.map (·.name)).map AV.str)),(7,gr m3 ((sp.invs.map (·.name)).map AV.str)),(9,gr p.2.1 (((sp.props.map (·.name)).take p.1).map AV.str)),(10,.int .i64 p.1)]) (fun p=>S p.2.1 p.2.2 [])
  (fun p=>PS sp m3 g3 ((sp.props.map (·.name)).take p.1) p.2.1 p.2.2∧p.1≤sp.props.length) (fun p=>sp.props.length-p.1) ?_ (0,m3,_) ⟨⟨zP2 (Nat.le_refl _),fun _ _=>rfl,hm3,hq3⟩,Nat.zero_le _⟩ ⟨rfl,rfl,rfl,rfl,rfl,rfl,trivial⟩ rfl
 rintro⟨i,m4,g4⟩ b ⟨hP4,hi⟩ hrec
 dsimp only at hP4 hi hrec ⊢
 have hq4:=PS_0 hP4
 have hm4:1≤m4:=PS_m hP4
 rcases Nat.lt_or_ge i sp.props.length with hlt|hge
 ·have hc:decide ((i:Int)<sp.props.length)=true:=decide_eq_true (by omega)
  have hx:sp.props[i]?=some sp.props[i]:=List.getElem?_eq_getElem hlt
  obtain⟨m',g',ha,hP'⟩:=stS hP4 [sp.props[i].name] (by rw[List.length_take,List.length_map];simp;omega)
  have ha':zAR 9 1 16 (gr m4 (((sp.props.map (·.name)).take i).map AV.str)) [AV.str sp.props[i].name] (S m4 g4 [])=_:=ha
  have e1:(sp.props.map (·.name)).take i++[sp.props[i].name]=(sp.props.map (·.name)).take (i+1):=by rw[List.take_succ_eq_append_getElem (by rw[List.length_map];exact hlt),List.getElem_map]
  rw[e1] at hP' ha'
  have hg0':=PS_0 hP'
  have hm':1≤m':=PS_m hP'
  clear ha e1
  repeat' (first|refine wk ?_|refine fk ?_ ?_<;>intro hs|exact⟨⟩|fail)
  exact hrec (i+1,m',g') _ _ _ ⟨hP',by dsimp only;omega⟩ (by dsimp only;omega) ⟨rfl,rfl,rfl,rfl,rfl,congrArg (fun z=>some (AV.int .i64 z)) (by dsimp only;omega),trivial⟩ rfl
 clear hrec
 have hc:decide ((i:Int)<sp.props.length)=false:=decide_eq_false (by omega)
 rw[List.take_of_length_le (by rw[List.length_map];omega)] at hP4 ⊢
 clear hge hi
 have b2:=hP2.1.1
 have b3:=hP3.1.1
 have b4:=hP4.1.1
 have p2:=hP2.2.1
 have p3:=hP3.2.1
 have p4:=hP4.2.1
 obtain⟨gA,cA,hA⟩:=c208g (M:=m4) (g:=g4) n1 (by omega) (zOM hP1.1 fun k _ h=>by rw[p4 k (by omega),p3 k (by omega),p2 k (by omega)])
 obtain⟨gB,cB,hB⟩:=c208g (M:=m4) (g:=gA) n2 (by omega) (zOM hP2.1 fun k h1 h=>by rw[hA k h1,p4 k (by omega),p3 k (by omega)])
 obtain⟨gC,cC,hC⟩:=c208g (M:=m4) (g:=gB) n3 (by omega) (zOM hP3.1 fun k h1 h=>by rw[hB k h1,hA k (by omega),p4 k (by omega)])
 obtain⟨gD,cD,hD⟩:=c208g (M:=m4) (g:=gC) n4 (by omega) (zOM hP4.1 fun k h1 h=>by rw[hC k h1,hB k (by omega),hA k (by omega)])
 clear hA hB hC hD p2 p3 p4 b2 b3 b4 hk
 repeat' (first|refine cA _ ?_|refine cB _ ?_|refine cC _ ?_|refine cD _ ?_|refine wk ?_|refine fk ?_ ?_<;>intro hs|exact⟨⟩|fail)
 all_goals exact zAX h (by(try clear hrec);(try clear h);grind)
end Go.Ab.X
end
