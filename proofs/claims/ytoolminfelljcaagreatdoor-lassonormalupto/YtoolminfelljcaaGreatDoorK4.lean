/- A part. -/
import Derived.Test.YtoolminfelljcaaGreatDoorK3
set_option linter.all false
noncomputable section
namespace Lf
theorem reps_succ {α:Type}[DecidableEq α](B:List α):∀k,reps (k+1) B=reps k B++B
 | 0=>by simp[reps]
 | k+1=>by
  have:reps (k+1+1) B=B++reps (k+1) B:=rfl
  have h2:reps (k+1) B=B++reps k B:=rfl
  rw[this,reps_succ B k,← List.append_assoc,← h2,reps_succ B k]
end Lf
namespace Pl
def repL (a:Las)(n:Int):Las×Int:=if isL a=false then(zLas,130) else if n<1∨1000<n then(zLas,1) else if 1000<a.back+((a.st.length:Int)-a.back)*n then(zLas,2) else(⟨a.st.take a.back.toNat++Lf.reps n.toNat (a.st.drop a.back.toNat),a.back⟩,0)
theorem repL_1 {st:List (List V)}{b:Int}{n:Int}(hb:isL ⟨st,b⟩=false):repL ⟨st,b⟩ n=(zLas,130):=by unfold repL;rw[if_pos hb]
theorem repL_2 {st:List (List V)}{b:Int}{n:Int}(hb:isL ⟨st,b⟩=true)(h:n<1∨1000<n):repL ⟨st,b⟩ n=(zLas,1):=by unfold repL;rw[if_neg (by rw[hb];simp),if_pos h]
theorem repL_3 {st:List (List V)}{b:Int}{n:Int}(hb:isL ⟨st,b⟩=true)(h:¬ (n<1∨1000<n))(h2:1000<b+((st.length:Int)-b)*n):repL ⟨st,b⟩ n=(zLas,2):=by unfold repL;rw[if_neg (by rw[hb];simp),if_neg h,if_pos h2]
theorem repL_4 {st:List (List V)}{j k:Nat}(hb:isL ⟨st,j⟩=true)(h:¬ ((k:Int)<1∨1000<(k:Int)))(h2:¬ 1000<(j:Int)+((st.length:Int)-j)*k):repL ⟨st,j⟩ k=(⟨st.take j++Lf.reps k (st.drop j),j⟩,0):=by
 unfold repL;rw[if_neg (by rw[hb];simp),if_neg h,if_neg h2];rfl
end Pl
namespace Go.Ab.X
open Go Go.Ab Go.Proofs Pl
set_option maxRecDepth 100000
set_option maxHeartbeats 4000000
theorem mul_b {L j k:Nat}(h1:L≤1000)(h2:j≤L)(h3:k≤1000):0≤((L:Int)-j)*k∧((L:Int)-j)*k≤1000000:=by
 obtain⟨d,rfl⟩:=Nat.le.dest h2
 have e:(((j+d:Nat):Int)-j)*k=((d*k:Nat):Int):=by rw[Int.natCast_mul];congr 1;omega
 rw[e]
 have:=Nat.mul_le_mul (show d≤1000 by omega) h3
 omega
theorem b_mul {E:Env}{t:Nat}{c:Bool}{k:IntKind}{a b:Int}{s:Sto}:binA E .mul t c (.int k a) (.int k b) s=some (.int k (wr k (a*b))):=by simp only[binA,isShift,zB6,cond_true,cond_false,arith]
attribute [go_sem] b_mul
theorem gr_flat1 (m:Nat)(xs:List AV):flat1 (gr m xs)=true:=by cases xs<;>rfl
def nU (k t:Nat)(u:List (Nat×Nat)):List (Nat×Nat):=bif Nat.ble t (k+1) then u else zN1 k t u
theorem note_gr (n m k:Nat)(g:Nat→Box)(u:List (Nat×Nat))(xs:List AV):(S n g u).note k (top (gr m xs))=S n g (nU k (top (gr m xs)) u):=by
 generalize top (gr m xs)=t
 unfold nU
 by_cases h:t≤k+1
 ·rw[zIO h,Nat.ble_eq_true_of_le h];rfl
 ·rw[zZP (by omega),Bool.eq_false_iff.2 fun e=>h (Nat.le_of_ble_eq_true e)];rfl
attribute [go_sem] gr_flat1 note_gr
theorem c44p {a b:List (List V)}{m k n:Nat}{g:Nat→Box}{u:List (Nat×Nat)}{sl:Bool}(hk:k<m)(hg:g k=.row 35 1 (b.map zAD) sl)(hn:n=b.length)(h0:0<(a++b).length)(hlt:(a++b).length<10000000000)
  {Q:CR→Sto→Prop} (h:Q (.ret (zAK ⟨a++b,a.length⟩)) (S m (updB g k (.row 35 1 (b.map zAD) true)) u)):C E1 44 [.sl 0 (a.map zAD) .shut,.osl k 0 n] (S m g u) Q:=by
 have h1:=zEQ (n:=n) (u:=u) hk hg (by rw[List.length_map];exact hn) (zA2 b)
 refine zF0 (args1:=[slSt a,slSt b]) rfl rfl rfl rfl rfl ?_ rfl (c44 h0 hlt h)
 unfold zBJ
 show(match zBJ (S m g u) [.osl k 0 n] with|some (r,s)=>some (AV.sl 0 (a.map zAD) .shut :: r,s)|none=>none)=_
 unfold zBJ
 rw[h1];rfl
theorem c15 {a:Las}{n:Int}{s:Sto}(hl:a.st.length<1073741824){Q:CR→Sto→Prop}(h:Q (.ret (.tuple [zAK (repL a n).1,.int .i64 (repL a n).2])) s):C E1 15 [zAK a,.int .i64 n] s Q:=by
 obtain⟨st,b⟩:=a
 have hl:st.length<1073741824:=hl
 refine zE1 (st:=st) (b:=b) (fun hb=>?_) (fun j hj h1 h2 h3=>?_)
 ·rw[repL_1 hb] at h
  have h:Q (.ret (.tuple [.agg [.sl 0 [] .shut,.int .i64 0],.int .i64 130])) s:=h
  refine zAF (md:=⟨true,false,false,false⟩) (fn:=Tryz.f15) (n:=59) (rs:=[.cell 4 24,.tmp 5]) rfl rfl rfl rfl rfl rfl rfl rfl (by simp only[go_sem, *];try rfl) (by rfl) (by simp only[go_sem]) ?_
  repeat' (first|refine c20 hl ?_|simp (disch:=first|assumption|omega) only[go_sem, *]|((first|apply gw_m|apply gw_q);focus (intro hs;(try simp only[nbs] at hs);simp (disch:=first|assumption|omega) only[go_sem, *];rfl))|((first|refine zAC ?_ ?_|refine zAB ?_ ?_|refine sp_C ?_ ?_|refine sp_G ?_ ?_)<;>(intro hs;try simp only[nbs] at hs)))
 ·subst hj
  have hb:=zG1 h1 h2 h3
  by_cases hn:n<1∨1000<n
  ·rw[repL_2 hb hn] at h
   have h:Q (.ret (.tuple [.agg [.sl 0 [] .shut,.int .i64 0],.int .i64 1])) s:=h
   have hc:(decide (n<1)||decide (1000<n))=true:=by
    simp;omega
   refine zAF (md:=⟨true,false,false,false⟩) (fn:=Tryz.f15) (n:=59) (rs:=[.cell 4 24,.tmp 5]) rfl rfl rfl rfl rfl rfl rfl rfl (by simp only[go_sem, *];try rfl) (by rfl) (by simp only[go_sem]) ?_
   repeat' (first|refine c20 hl ?_|simp (disch:=first|assumption|omega) only[go_sem, *]|((first|apply gw_m|apply gw_q);focus (intro hs;(try simp only[nbs] at hs);simp (disch:=first|assumption|omega) only[go_sem, *];rfl))|((first|refine zAC ?_ ?_|refine zAB ?_ ?_|refine sp_C ?_ ?_|refine sp_G ?_ ?_)<;>(intro hs;try simp only[nbs] at hs)))
  ·have hbnd:1≤n∧n≤1000:=by omega
   obtain⟨k,rfl⟩:=Int.eq_ofNat_of_zero_le (show 0≤n by omega)
   have hc3:decide ((k:Int)<1)=false:=by simp;omega
   have hc4:decide ((1000:Int)<k)=false:=by simp;omega
   have hm:=mul_b (j:=j) (k:=k) h2 (by omega) (by omega)
   by_cases hbig:1000<(j:Int)+((st.length:Int)-j)*k
   ·rw[repL_3 hb hn hbig] at h
    have h:Q (.ret (.tuple [.agg [.sl 0 [] .shut,.int .i64 0],.int .i64 2])) s:=h
    have hc5:decide ((1000:Int)<(j:Int)+((st.length:Int)-j)*k)=true:=decide_eq_true hbig
    refine zAF (md:=⟨true,false,false,false⟩) (fn:=Tryz.f15) (n:=59) (rs:=[.cell 4 24,.tmp 5]) rfl rfl rfl rfl rfl rfl rfl rfl (by simp only[go_sem, *];try rfl) (by rfl) (by simp only[go_sem]) ?_
    repeat' (first|refine c20 hl ?_|simp (disch:=first|assumption|omega) only[go_sem, *]|((first|apply gw_m|apply gw_q);focus (intro hs;(try simp only[nbs] at hs);simp (disch:=first|assumption|omega) only[go_sem, *];rfl))|((first|refine zAC ?_ ?_|refine zAB ?_ ?_|refine sp_C ?_ ?_|refine sp_G ?_ ?_)<;>(intro hs;try simp only[nbs] at hs)))
   ·rw[repL_4 hb hn hbig] at h
    have hc5:decide ((1000:Int)<(j:Int)+((st.length:Int)-j)*k)=false:=decide_eq_false hbig
    have htl:(st.take j).length=j:=by rw[List.length_take];omega
    have hdl:(st.drop j).length=st.length-j:=List.length_drop
    have hrl:∀c,c≤k→(st.take j++Lf.reps c (st.drop j)).length≤1000000+1000:=fun c hc=>by
     rw[List.length_append,Lf.reps_len,htl,hdl]
     have:=Nat.mul_le_mul (show c≤1000 by omega) (show st.length-j≤1000 by omega)
     omega
    refine zAF (md:=⟨true,false,false,false⟩) (fn:=Tryz.f15) (n:=59) (rs:=[.cell 4 24,.tmp 5]) rfl rfl rfl rfl rfl rfl rfl rfl (by simp only[go_sem, *];try rfl) (by rfl) (by simp only[go_sem]) ?_
    repeat' (first|refine c20 hl ?_|simp (disch:=first|assumption|omega) only[go_sem, *]|((first|apply gw_m|apply gw_q);focus (intro hs;(try simp only[nbs] at hs);simp (disch:=first|assumption|omega) only[go_sem, *];rfl))|((first|refine zAC ?_ ?_|refine zAB ?_ ?_|refine sp_C ?_ ?_|refine sp_G ?_ ?_)<;>(intro hs;try simp only[nbs] at hs)))
    generalize hG:updB _ 2 (Box.cells 24 [AV.sl 0 [] .nil,AV.int .i64 j])=G0
    have e0:G0 0=.cells 24 (zAN ⟨st,j⟩):=by rw[← hG];simp (disch:=first|assumption|omega) only[go_sem]
    have e1:G0 1=.cells 24 [.sl 0 [] .nil,.int .i64 0]:=by rw[← hG];simp (disch:=first|assumption|omega) only[go_sem]
    have e2:G0 2=.cells 24 [.sl 0 [] .nil,.int .i64 j]:=by rw[← hG];simp (disch:=first|assumption|omega) only[go_sem]
    clear hG
    obtain⟨m1,G1,hap,hge,hlo⟩:=zZK (ty:=35) (es:=1) (b:=24) (u:=[]) (zS1 (g:=G0) (Nat.le_refl 3)) (zCZ (st.take j)) (by rw[List.length_map,htl];simp;omega) (zA2 _)
    rw[show gr 3 []=.sl 0 [] .nil from rfl,List.nil_append] at hap
    have l0:=hlo 0 (by omega)
    have l1:=hlo 1 (by omega)
    have l2:=hlo 2 (by omega)
    rw[e0] at l0
    rw[e1] at l1
    rw[e2] at l2
    have hm1:=hge.1
    rw[List.nil_append] at hge
    clear hlo e0 e1 e2
    repeat' (first|simp (disch:=first|assumption|omega) only[go_sem, *]|((first|apply gw_m|apply gw_q);focus (intro hs;(try simp only[nbs] at hs);simp (disch:=first|assumption|omega) only[go_sem, *];rfl))|((first|refine zAC ?_ ?_|refine zAB ?_ ?_|refine sp_C ?_ ?_|refine sp_G ?_ ?_)<;>(intro hs;try simp only[nbs] at hs)))
    clear hap
    have hge:gE 35 1 3 (updB G1 2 (.cells 24 [gr m1 ((st.take j).map zAD),.int .i64 j])) m1 ((st.take j++Lf.reps 0 (st.drop j)).map zAD):=by
     rw[show Lf.reps 0 (st.drop j)=[] from rfl,List.append_nil]
     exact⟨hm1,hge.2.imp id fun h=>⟨h.1,by rw[zAA (by omega)];exact h.2⟩⟩
    generalize hG:updB _ 2 (Box.cells 24 [_,AV.int .i64 j])=G2
    have e0:G2 0=.cells 24 (zAN ⟨st,j⟩):=by rw[← hG,zAA (by omega)];exact l0
    have e1:G2 1=.cells 24 [.sl 0 [] .nil,.int .i64 0]:=by rw[← hG,zAA (by omega)];exact l1
    have e2:G2 2=.cells 24 [gr m1 ((st.take j++Lf.reps 0 (st.drop j)).map zAD),.int .i64 j]:=by rw[← hG,zAE,show Lf.reps 0 (st.drop j)=[] from rfl,List.append_nil]
    rw[hG] at hge
    clear hG l0 l1 l2
    refine zA0 (ι:=Nat×Nat×(Nat→Box)×List (Nat×Nat)) (fun p=>[(1,.int .i64 k),(2,.ptr 0 0),(4,.ptr 1 0),(6,.ptr 2 0),(7,.int .i64 p.1)]) (fun p=>S p.2.1 p.2.2.1 p.2.2.2)
     (fun p=>p.1≤k∧gE 35 1 3 p.2.2.1 p.2.1 ((st.take j++Lf.reps p.1 (st.drop j)).map zAD)∧p.2.2.1 0=.cells 24 (zAN ⟨st,j⟩)∧p.2.2.1 1=.cells 24 [.sl 0 [] .nil,.int .i64 0]∧p.2.2.1 2=.cells 24 [gr p.2.1 ((st.take j++Lf.reps p.1 (st.drop j)).map zAD),.int .i64 j]) (fun p=>k-p.1) ?_ (0,m1,G2,_) ⟨Nat.zero_le _,hge,e0,e1,e2⟩ ⟨rfl,rfl,rfl,rfl,rfl,trivial⟩ rfl
    rintro⟨c,m,g,u⟩ b0 ⟨hck,hge,g0',g1',g2'⟩ hrec
    dsimp only at hck hge g0' g1' g2' hrec ⊢
    have hXl:=hrl c hck
    have hm3:=hge.1
    rcases Nat.lt_or_ge c k with hlt|hgt
    ·have hc:decide ((c:Int)<k)=true:=decide_eq_true (by omega)
     have hnx:(st.take j++Lf.reps c (st.drop j)).map zAD++(st.drop j).map zAD=(st.take j++Lf.reps (c+1) (st.drop j)).map zAD:=by rw[← List.map_append,List.append_assoc,Lf.reps_succ]
     obtain⟨g',hap,hge',hlo⟩:=zPQ (ty:=35) (es:=1) (b:=24) (u:=u) hge (zCZ (st.drop j)) (by rw[List.length_map,hdl];omega) (by rw[List.length_map,List.length_map,hdl];omega) (by rw[hnx];exact zA2 _)
     rw[hnx] at hap hge'
     have l0:=hlo 0 (by omega)
     have l1:=hlo 1 (by omega)
     have l2:=hlo 2 (by omega)
     rw[g0'] at l0
     rw[g1'] at l1
     rw[g2'] at l2
     clear hlo hnx
     repeat' (first|simp (disch:=first|assumption|omega) only[go_sem, *]|((first|apply gw_m|apply gw_q);focus (intro hs;(try simp only[nbs] at hs);simp (disch:=first|assumption|omega) only[go_sem, *];rfl))|((first|refine zAC ?_ ?_|refine zAB ?_ ?_|refine sp_C ?_ ?_|refine sp_G ?_ ?_)<;>(intro hs;try simp only[nbs] at hs)))
     have hge2:gE 35 1 3 (updB g' 2 (.cells 24 [gr (m+1) ((st.take j++Lf.reps (c+1) (st.drop j)).map zAD),.int .i64 j])) (m+1) ((st.take j++Lf.reps (c+1) (st.drop j)).map zAD):=⟨by omega,hge'.2.imp id fun h=>⟨h.1,by rw[zAA (by omega)];exact h.2⟩⟩
     generalize hG:updB g' 2 (Box.cells 24 [_,AV.int .i64 j])=G3
     rw[hG] at hge2
     have f0:G3 0=.cells 24 (zAN ⟨st,j⟩):=by rw[← hG,zAA (by omega)];exact l0
     have f1:G3 1=.cells 24 [.sl 0 [] .nil,.int .i64 0]:=by rw[← hG,zAA (by omega)];exact l1
     have f2:G3 2=.cells 24 [gr (m+1) ((st.take j++Lf.reps (c+1) (st.drop j)).map zAD),.int .i64 j]:=by rw[← hG,zAE]
     exact hrec (c+1,m+1,G3,_) _ _ _ ⟨hlt,hge2,f0,f1,f2⟩ (by dsimp only;omega) ⟨rfl,rfl,rfl,rfl,rfl,trivial⟩ rfl
    ·have hc:decide ((c:Int)<k)=false:=decide_eq_false (by omega)
     have hck:c=k:=by omega
     subst hck
     have hpos:0<(st.take j++Lf.reps c (st.drop j)).length:=by
      rw[List.length_append,Lf.reps_len,htl,hdl]
      have:=Nat.mul_le_mul (show 1≤c by omega) (show 1≤st.length-j by omega)
      omega
     rw[zS0 (by rw[List.length_map];exact hpos),List.length_map] at g2'
     have hgq:m-1<m∧g (m-1)=.row 35 1 ((st.take j++Lf.reps c (st.drop j)).map zAD) false:=by
      rcases hge.2 with h0|⟨h0,h1⟩
      ·rw[List.map_eq_nil_iff] at h0;rw[h0] at hpos;simp at hpos
      ·exact⟨by omega,h1⟩
     have hq1:=hgq.1
     have hq2:=hgq.2
     have hq3:m-1≠1:=by omega
     repeat' (first|simp (disch:=first|assumption|omega) only[go_sem, *]|((first|apply gw_m|apply gw_q);focus (intro hs;(try simp only[nbs] at hs);simp (disch:=first|assumption|omega) only[go_sem, *];rfl))|((first|refine zAC ?_ ?_|refine zAB ?_ ?_|refine sp_C ?_ ?_|refine sp_G ?_ ?_)<;>(intro hs;try simp only[nbs] at hs)))
     rw[zBV (l:=st.take j++Lf.reps c (st.drop j)) (sl:=false) hq1 (by simp (disch:=first|assumption|omega) only[go_sem, *]) rfl]
     repeat' (first|simp (disch:=first|assumption|omega) only[go_sem, *]|((first|apply gw_m|apply gw_q);focus (intro hs;(try simp only[nbs] at hs);simp (disch:=first|assumption|omega) only[go_sem, *];rfl))|((first|refine zAC ?_ ?_|refine zAB ?_ ?_|refine sp_C ?_ ?_|refine sp_G ?_ ?_)<;>(intro hs;try simp only[nbs] at hs)))
theorem c14 {a:Las}{n:Int}{s:Sto}(hl:a.st.length<1073741824)(ht:-9223372036854775808≤n∧n<9223372036854775808){Q:CR→Sto→Prop}(h:Q (.ret (.tuple [zAK (repL a n).1,.int .i64 (repL a n).2])) s):C E1 14 [zAK a,.int .i64 n] s Q:=by
 obtain⟨st,b⟩:=a
 have hl:st.length<1073741824:=hl
 refine zE1 (st:=st) (b:=b) (fun hb=>?_) (fun j hj h1 h2 h3=>?_)
 ·rw[repL_1 hb] at h
  have h:Q (.ret (.tuple [.agg [.sl 0 [] .shut,.int .i64 0],.int .i64 130])) s:=h
  refine zAF (md:=⟨true,false,false,false⟩) (fn:=Tryz.f14) (n:=51) (rs:=[.cell 4 24,.tmp 5]) rfl rfl rfl rfl rfl rfl rfl rfl (by simp only[go_sem, *];try rfl) (by rfl) (by simp only[go_sem]) ?_
  repeat' (first|refine c49 hl ?_|simp (disch:=first|assumption|omega) only[go_sem, *]|((first|apply gw_m|apply gw_q);focus (intro hs;(try simp only[nbs] at hs);simp (disch:=first|assumption|omega) only[go_sem, *];rfl))|((first|refine zAC ?_ ?_|refine zAB ?_ ?_|refine sp_C ?_ ?_|refine sp_G ?_ ?_)<;>(intro hs;try simp only[nbs] at hs)))
 ·subst hj
  have hb:=zG1 h1 h2 h3
  by_cases hn:n<1∨1000<n
  ·rw[repL_2 hb hn] at h
   have h:Q (.ret (.tuple [.agg [.sl 0 [] .shut,.int .i64 0],.int .i64 1])) s:=h
   have ha:∀z,askE ⟨st,j⟩ false z=1:=fun z=>by unfold askE;rw[if_neg (by rw[hb];simp),if_pos rfl]
   have hc:(decide (1≤n)&&decide (n≤1000))=false:=by
    rw[← Bool.not_eq_true];simp;omega
   refine zAF (md:=⟨true,false,false,false⟩) (fn:=Tryz.f14) (n:=51) (rs:=[.cell 4 24,.tmp 5]) rfl rfl rfl rfl rfl rfl rfl rfl (by simp only[go_sem, *];try rfl) (by rfl) (by simp only[go_sem]) ?_
   repeat' (first|refine c49 hl ?_|refine c43 hl ?_|simp (disch:=first|assumption|omega) only[go_sem, *]|((first|apply gw_m|apply gw_q);focus (intro hs;(try simp only[nbs] at hs);simp (disch:=first|assumption|omega) only[go_sem, *];rfl))|((first|refine zAC ?_ ?_|refine zAB ?_ ?_|refine sp_C ?_ ?_|refine sp_G ?_ ?_)<;>(intro hs;try simp only[nbs] at hs)))
  ·have hbnd:1≤n∧n≤1000:=by omega
   obtain⟨k,rfl⟩:=Int.eq_ofNat_of_zero_le (show 0≤n by omega)
   have hc3:decide ((1:Int)≤k)=true:=by simp;omega
   have hc4:decide ((k:Int)≤1000)=true:=by simp;omega
   have hmm:min (max (k:Int) 0) 1000=k:=by omega
   have hm:=mul_b (j:=j) (k:=k) h2 (by omega) (by omega)
   by_cases hbig:1000<(j:Int)+((st.length:Int)-j)*k
   ·rw[repL_3 hb hn hbig] at h
    have h:Q (.ret (.tuple [.agg [.sl 0 [] .shut,.int .i64 0],.int .i64 2])) s:=h
    have ha:askE ⟨st,j⟩ true ((j:Int)+((st.length:Int)-j)*k)=2:=by unfold askE;rw[if_neg (by rw[hb];simp),if_neg (by simp),if_pos hbig]
    refine zAF (md:=⟨true,false,false,false⟩) (fn:=Tryz.f14) (n:=51) (rs:=[.cell 4 24,.tmp 5]) rfl rfl rfl rfl rfl rfl rfl rfl (by simp only[go_sem, *];try rfl) (by rfl) (by simp only[go_sem]) ?_
    repeat' (first|refine c49 hl ?_|refine c43 hl ?_|simp (disch:=first|assumption|omega) only[go_sem, *]|((first|apply gw_m|apply gw_q);focus (intro hs;(try simp only[nbs] at hs);simp (disch:=first|assumption|omega) only[go_sem, *];rfl))|((first|refine zAC ?_ ?_|refine zAB ?_ ?_|refine sp_C ?_ ?_|refine sp_G ?_ ?_)<;>(intro hs;try simp only[nbs] at hs)))
   ·rw[repL_4 hb hn hbig] at h
    have ha:askE ⟨st,j⟩ true ((j:Int)+((st.length:Int)-j)*k)=0:=by unfold askE;rw[if_neg (by rw[hb];simp),if_neg (by simp),if_neg hbig]
    have htl:(st.take j).length=j:=by rw[List.length_take];omega
    have hdl:(st.drop j).length=st.length-j:=List.length_drop
    have hfl:(Lf.reps k (st.drop j)).length=(st.drop j).length*k:=by rw[Lf.reps_len,Nat.mul_comm]
    have hpos:0<(st.take j++Lf.reps k (st.drop j)).length:=by
     rw[List.length_append,Lf.reps_len,htl,hdl]
     have:=Nat.mul_le_mul (show 1≤k by omega) (show 1≤st.length-j by omega)
     omega
    have hlt:(st.take j++Lf.reps k (st.drop j)).length<10000000000:=by
     rw[List.length_append,Lf.reps_len,htl,hdl]
     have:=Nat.mul_le_mul (show k≤1000 by omega) (show st.length-j≤1000 by omega)
     omega
    have hrp:=fun m g u Q hq=>@c48 (st.drop j) k m g u (by omega) (by omega) (by omega) Q hq
    refine zAF (md:=⟨true,false,false,false⟩) (fn:=Tryz.f14) (n:=51) (rs:=[.cell 4 24,.tmp 5]) rfl rfl rfl rfl rfl rfl rfl rfl (by simp only[go_sem, *];try rfl) (by rfl) (by simp only[go_sem]) ?_
    repeat' (first|refine c49 hl ?_|refine c43 hl ?_|refine hrp _ _ _ _ ?_|simp (disch:=first|assumption|omega) only[go_sem, *]|((first|apply gw_m|apply gw_q);focus (intro hs;(try simp only[nbs] at hs);simp (disch:=first|assumption|omega) only[go_sem, *];rfl))|((first|refine zAC ?_ ?_|refine zAB ?_ ?_|refine sp_C ?_ ?_|refine sp_G ?_ ?_)<;>(intro hs;try simp only[nbs] at hs)))
    clear hrp
    intro g' hg1 hg2
    have h00:=hg2 0 (by omega)
    have h01:=hg2 1 (by omega)
    rw[zAA (by omega),zAE] at h00
    rw[zAE] at h01
    rw[hdl] at hfl
    have hmd:=fun u Q hq=>@c44p (st.take j) (Lf.reps k (st.drop j)) 3 2 ((st.length-j)*k) g' u false (by omega) hg1 hfl.symm hpos hlt Q hq
    rw[htl] at hmd
    clear hg2 hg1 hpos hlt
    repeat' (first|refine hmd _ _ ?_|simp (disch:=first|assumption|omega) only[go_sem, *]|((first|apply gw_m|apply gw_q);focus (intro hs;(try simp only[nbs] at hs);simp (disch:=first|assumption|omega) only[go_sem, *];rfl))|((first|refine zAC ?_ ?_|refine zAB ?_ ?_|refine sp_C ?_ ?_|refine sp_G ?_ ?_)<;>(intro hs;try simp only[nbs] at hs)))
end Go.Ab.X
namespace Pl
theorem zRC {a b:Int}:cmp a b=0↔a=b:=by unfold cmp;grind
theorem cmpS_z:∀a b:Str,cmpS a b=0↔a=b
 | [],[]=>by simp[cmpS]
 | [],_ :: _=>by simp[cmpS]
 | _ :: _,[]=>by simp[cmpS]
 | a :: x,b :: y=>by
  rw[cmpS]
  by_cases h:a=b
  ·subst h;rw[if_neg (by omega),if_neg (by omega),cmpS_z x y];simp
  ·have h2:a.toNat≠b.toNat:=fun e=>h (UInt8.toNat_inj.1 e)
   constructor
   ·intro e;split at e
    ·cases e
    ·split at e
     ·cases e
     ·omega
   ·intro e;cases e;exact absurd rfl h
theorem cmpD_z:∀a b:List Int,a.length=b.length→(cmpD a b=0↔a=b)
 | [],[],_=>by simp[cmpD]
 | [],_ :: _,h=>by simp at h
 | _ :: _,[],h=>by simp at h
 | a :: x,b :: y,h=>by
  rw[cmpD]
  by_cases e:a=b
  ·subst e;rw[if_pos (zRC.2 rfl),cmpD_z x y (by simpa using h)];simp
  ·rw[if_neg (mt zRC.1 e),zRC];simp[e]
theorem cmpI_z {na:Bool}{a:List Int}{nb:Bool}{b:List Int}:cmpI na a nb b=0↔na=nb∧a=b:=by
 unfold cmpI
 by_cases h:na=nb
 ·subst h
  rw[if_neg (by simp)]
  have:(if a.length≠b.length then cmp a.length b.length else cmpD a.reverse b.reverse)=0↔a=b:=by
   by_cases hl:a.length=b.length
   ·rw[if_neg (by simpa using hl),cmpD_z _ _ (by simpa using hl)];simp
   ·rw[if_pos hl,zRC]
    exact⟨fun e=>absurd (Int.ofNat.inj e) hl,fun e=>absurd (congrArg _ e) hl⟩
  rw[← this]
  dsimp only
  generalize (if a.length≠b.length then cmp a.length b.length else cmpD a.reverse b.reverse)=c
  cases na<;>simp
 ·rw[if_pos h];cases na<;>simp[h]
theorem cmpL_z:∀a b:List V,(∀x∈a,∀y,cmpV x y=0↔x=y)→a.length=b.length→(cmpL a b=0↔a=b)
 | [],[],_,_=>by simp[cmpL]
 | [],_ :: _,_,h=>by simp at h
 | _ :: _,[],_,h=>by simp at h
 | a :: x,b :: y,hc,h=>by
  rw[cmpL]
  by_cases e:a=b
  ·subst e;rw[if_neg (by simpa using (hc a (by simp) a).2 rfl),cmpL_z x y (fun z hz=>hc z (by simp[hz])) (by simpa using h)];simp
  ·have h1:cmpV a b≠0:=mt (hc a (by simp) b).1 e
   rw[if_pos h1];simp[h1,e]
theorem zY3 (a b:List V)(hc:∀x∈a,∀y,cmpV x y=0↔x=y):zIJ a b=0↔a=b:=by
 unfold zIJ
 by_cases hl:a.length=b.length
 ·rw[if_neg (by simpa using hl),cmpL_z _ _ hc hl]
 ·rw[if_pos hl,zRC]
  exact⟨fun e=>absurd (Int.ofNat.inj e) hl,fun e=>absurd (congrArg _ e) hl⟩
theorem cmpV_zN:∀(N:Nat) (a:V),szV a<N→∀b,cmpV a b=0↔a=b:=by
 intro N
 induction N with
 | zero=>intro a h;exact absurd h (Nat.not_lt_zero _)
 | succ N ih=>
  intro a hN b
  have ea:=zJC a
  have k1:=zY3 a.l b.l fun x hx=>ih x (by have:=szVs_mem hx;omega)
  have k2:=zY3 a.m b.m fun x hx=>ih x (by have:=szVs_mem hx;omega)
  rw[zRD]
  have e:a=b↔a.kind=b.kind∧a.n=b.n∧(a.neg=b.neg∧a.d=b.d)∧a.s=b.s∧a.l=b.l∧a.m=b.m:=by
   cases a;cases b
   simp[V.kind,V.n,V.neg,V.d,V.s,V.l,V.m,and_assoc]
  rw[e,← k1,← k2,← cmpS_z,← cmpI_z]
  have h1:=zRC (a:=a.kind) (b:=b.kind)
  have h2:=zRC (a:=a.n) (b:=b.n)
  clear e k1 k2 ih hN ea
  grind
theorem cmpSt_z:∀a b:List V,cmpSt a b=0↔a=b
 | [],[]=>by simp[cmpSt]
 | [],_ :: _=>by simp[cmpSt]
 | _ :: _,[]=>by simp[cmpSt]
 | a :: x,b :: y=>by
  rw[cmpSt]
  have hz:=cmpV_zN _ a (Nat.lt_succ_self _) b
  by_cases e:a=b
  ·subst e;rw[if_neg (by simpa using hz.2 rfl),cmpSt_z x y];simp
  ·have h1:cmpV a b≠0:=mt hz.1 e
   rw[if_pos h1];simp[h1,e]
def okS (l:List (List V)):Prop:=∀x∈l,szVs x<1073741824
theorem zBN {l:List (List V)}(h:okS l){i:Nat}{x:List V}(hx:l[i]?=some x):szVs x<1073741824:=h x (List.mem_of_getElem? hx)
end Pl
namespace Go.Ab.X
open Go Go.Ab Go.Proofs Pl
set_option maxRecDepth 100000
set_option maxHeartbeats 4000000
theorem c55e {l r:List V}{s:Sto}(hl:szVs l<1073741824)(hr:szVs r<1073741824){Q:CR→Sto→Prop}(h:Q (.ret (.bool (decide (l=r)))) s):C E1 55 [zAD l,zAD r] s Q:=c55 hl hr (by rw[decide_eq_decide.2 (cmpSt_z l r)];exact h)
theorem c52e {l r:List V}{s:Sto}(hl:szVs l<1073741824)(hr:szVs r<1073741824){Q:CR→Sto→Prop}(h:Q (.ret (.bool (decide (l=r)))) s):C E1 52 [zAD l,zAD r] s Q:=c52 hl hr (by rw[decide_eq_decide.2 (cmpSt_z l r)];exact h)
end Go.Ab.X
namespace Pl
def zHV (l:List (List V))(n i:Nat):Prop:=∀t,n≤t→t<i→l[t]?=l[t-n]?
theorem zL0 {l:List (List V)}{n:Nat}(hn:n≤l.length):l.drop n=l.take (l.length-n)↔zHV l n l.length:=by
 constructor
 ·intro h t h1 h2
  have:=congrArg (fun x=>x[t-n]?) h
  rw[List.getElem?_drop,List.getElem?_take,if_pos (by omega),show n+(t-n)=t by omega] at this
  exact this
 ·intro h
  apply List.ext_getElem?
  intro i
  rw[List.getElem?_drop,List.getElem?_take]
  by_cases hi:i<l.length-n
  ·rw[if_pos hi,h (n+i) (by omega) (by omega),show n+i-n=i by omega]
  ·rw[if_neg hi,List.getElem?_eq_none (by omega)]
theorem zKK (l:List (List V))(f n:Nat)(h:f=l.length-n)(hn:l.length≤n):Lf.perFrom l f n=l.length:=by
 have:f=0:=by omega
 subst this;rfl
theorem zOJ {l:List (List V)}{n:Nat}(hn:n<l.length)(h1:l.length % n=0)(h2:zHV l n l.length):Lf.perFrom l (l.length-n) n=n:=by
 rw[show l.length-n=(l.length-(n+1))+1 by omega,Lf.perFrom,if_pos ⟨h1,(zL0 (by omega)).2 h2⟩]
theorem zH3 {l:List (List V)}{n:Nat}(hn:n<l.length)(h:l.length % n≠0∨¬ zHV l n l.length):Lf.perFrom l (l.length-n) n=Lf.perFrom l (l.length-(n+1)) (n+1):=by
 rw[show l.length-n=(l.length-(n+1))+1 by omega,Lf.perFrom,if_neg fun e=>h.elim (fun h=>h e.1) (fun h=>h ((zL0 (by omega)).1 e.2))]
theorem zLZ {l:List (List V)}{n i:Nat}{x y:List V}(hi:n≤i)(hx:l[i]?=some x)(hy:l[i-n]?=some y)(h:zHV l n i)(he:x=y):zHV l n (i+1):=by
 intro t h1 h2
 by_cases e:t=i
 ·subst e;rw[hx,hy,he]
 ·exact h t h1 (by omega)
theorem zOC {l:List (List V)}{n i k:Nat}{x y:List V}(hi:n≤i)(hk:i<k)(hx:l[i]?=some x)(hy:l[i-n]?=some y)(he:x≠y):¬ zHV l n k:=by
 intro h
 have:=h i hi hk
 rw[hx,hy] at this
 exact he (Option.some.inj this)
end Pl
namespace Go.Ab.X
open Go Go.Ab Go.Proofs Pl
set_option maxRecDepth 100000
set_option maxHeartbeats 4000000
theorem b_rem {E:Env}{t:Nat}{c:Bool}{k:IntKind}{a b:Nat}{s:Sto}:binA E .rem t c (.int k a) (.int k b) s=bif decide (b=0) then none else some (.int k ((a % b:Nat):Int)):=by
 simp only[binA,isShift,zB6,cond_true,cond_false,arith]
 by_cases h:b=0
 ·subst h;rfl
 ·rw[decide_eq_false h]
  have:ieq (b:Int) 0=false:=by rw[zJL];exact decide_eq_false (by omega)
  rw[this];rfl
attribute [go_sem] b_rem
theorem c88 {l:List (List V)}{s:Sto}(hl:l.length<1073741824)(hk:okS l)(h0:0<l.length){Q:CR→Sto→Prop}(h:Q (.ret (.int .i64 (Lf.per l))) s):C E1 88 [.sl 0 (l.map zAD) .shut] s Q:=by
 refine zAF (md:=⟨true,false,false,false⟩) (fn:=Tryz.f88) (n:=38) (rs:=[.tmp 2]) rfl rfl rfl rfl rfl rfl rfl rfl (by simp only[go_sem, *];try rfl) (by rfl) (by simp only[go_sem]) ?_
 repeat' (first|simp (disch:=first|assumption|omega) only[go_sem, *]|((first|apply gw_m|apply gw_q);focus (intro hs;(try simp only[nbs] at hs);simp (disch:=first|assumption|omega) only[go_sem, *];rfl))|((first|refine zAC ?_ ?_|refine zAB ?_ ?_|refine sp_C ?_ ?_|refine sp_G ?_ ?_)<;>(intro hs;try simp only[nbs] at hs)))
 refine zA0 (ι:=Nat) (fun i=>[(0,.sl 0 (l.map zAD) .shut),(3,.int .i64 i)]) (fun _=>S 0 g0 []) (fun i=>1≤i∧i≤l.length∧Lf.per l=Lf.perFrom l (l.length-i) i) (fun i=>l.length-i) ?_ 1 ⟨Nat.le_refl _,h0,rfl⟩ ⟨rfl,rfl,trivial⟩ rfl
 rintro i b ⟨h1,hi,he⟩ hrec
 rcases Nat.lt_or_ge i l.length with hlt|hge
 ·have hc:decide ((i:Int)<l.length)=true:=decide_eq_true (by omega)
  have hc0:decide (i=0)=false:=decide_eq_false (by omega)
  repeat' (first|simp (disch:=first|assumption|omega) only[go_sem, *]|((first|apply gw_m|apply gw_q);focus (intro hs;(try simp only[nbs] at hs);simp (disch:=first|assumption|omega) only[go_sem, *];rfl))|((first|refine zAC ?_ ?_|refine zAB ?_ ?_|refine sp_C ?_ ?_|refine sp_G ?_ ?_)<;>(intro hs;try simp only[nbs] at hs)))
  ·exact hrec (i+1) _ _ _ ⟨by omega,hlt,by rw[he,zH3 hlt (.inl (by omega))]⟩ (by omega) ⟨rfl,rfl,trivial⟩ rfl
  ·refine zA0 (ι:=Nat) (fun t=>[(0,.sl 0 (l.map zAD) .shut),(3,.int .i64 i),(4,.int .i64 t)]) (fun _=>S 0 g0 []) (fun t=>i≤t∧t≤l.length∧zHV l i t) (fun t=>l.length-t) ?_ i ⟨Nat.le_refl _,by omega,fun t h1 h2=>by omega⟩ ⟨rfl,rfl,rfl,trivial⟩ rfl
   rintro t b ⟨ht1,ht,hst⟩ hrec2
   rcases Nat.lt_or_ge t l.length with htl|htg
   ·have hc:decide ((t:Int)<l.length)=true:=decide_eq_true (by omega)
    have hd1:decide (t<l.length)=true:=decide_eq_true (by omega)
    have hd2:decide (t-i<l.length)=true:=decide_eq_true (by omega)
    have hsub:(t:Int)-i=((t-i:Nat):Int):=by omega
    have hx:l[t]?=some l[t]:=List.getElem?_eq_getElem htl
    have hy:l[t-i]?=some l[t-i]:=List.getElem?_eq_getElem (by omega)
    generalize l[t]=x at hx
    generalize l[t-i]=y at hy
    have hkx:=zBN hk hx
    have hky:=zBN hk hy
    repeat' (first|refine c55e hkx hky ?_|simp (disch:=first|assumption|omega) only[go_sem, *]|((first|apply gw_m|apply gw_q);focus (intro hs;(try simp only[nbs] at hs);simp (disch:=first|assumption|omega) only[go_sem, *];rfl))|((first|refine zAC ?_ ?_|refine zAB ?_ ?_|refine sp_C ?_ ?_|refine sp_G ?_ ?_)<;>(intro hs;try simp only[nbs] at hs)))
    ·exact hrec (i+1) _ _ _ ⟨by omega,hlt,by rw[he,zH3 hlt (.inr (zOC ht1 htl hx hy (by simpa using hs)))]⟩ (by omega) ⟨rfl,rfl,trivial⟩ rfl
    ·exact hrec2 (t+1) _ _ _ ⟨by omega,htl,zLZ ht1 hx hy hst (by simpa using hs)⟩ (by omega) ⟨rfl,rfl,rfl,trivial⟩ rfl
   ·have hc:decide ((t:Int)<l.length)=false:=decide_eq_false (by omega)
    rw[zOJ hlt (by omega) (by rw[show t=l.length by omega] at hst;exact hst)] at he
    rw[he] at h
    repeat' (first|simp (disch:=first|assumption|omega) only[go_sem, *]|((first|apply gw_m|apply gw_q);focus (intro hs;(try simp only[nbs] at hs);simp (disch:=first|assumption|omega) only[go_sem, *];rfl))|((first|refine zAC ?_ ?_|refine zAB ?_ ?_|refine sp_C ?_ ?_|refine sp_G ?_ ?_)<;>(intro hs;try simp only[nbs] at hs)))
 ·have hc:decide ((i:Int)<l.length)=false:=decide_eq_false (by omega)
  rw[zKK l _ _ rfl hge] at he
  rw[he] at h
  repeat' (first|simp (disch:=first|assumption|omega) only[go_sem, *]|((first|apply gw_m|apply gw_q);focus (intro hs;(try simp only[nbs] at hs);simp (disch:=first|assumption|omega) only[go_sem, *];rfl))|((first|refine zAC ?_ ?_|refine zAB ?_ ?_|refine sp_C ?_ ?_|refine sp_G ?_ ?_)<;>(intro hs;try simp only[nbs] at hs)))
theorem c53 {l:List (List V)}{s:Sto}(hl:l.length<1073741824)(hk:okS l)(h0:0<l.length){Q:CR→Sto→Prop}(h:Q (.ret (.int .i64 (Lf.per l))) s):C E1 53 [.sl 0 (l.map zAD) .shut] s Q:=by
 refine zAF (md:=⟨true,false,false,false⟩) (fn:=Tryz.f53) (n:=42) (rs:=[.tmp 2]) rfl rfl rfl rfl rfl rfl rfl rfl (by simp only[go_sem, *];try rfl) (by rfl) (by simp only[go_sem]) ?_
 repeat' (first|simp (disch:=first|assumption|omega) only[go_sem, *]|((first|apply gw_m|apply gw_q);focus (intro hs;(try simp only[nbs] at hs);simp (disch:=first|assumption|omega) only[go_sem, *];rfl))|((first|refine zAC ?_ ?_|refine zAB ?_ ?_|refine sp_C ?_ ?_|refine sp_G ?_ ?_)<;>(intro hs;try simp only[nbs] at hs)))
 refine zA0 (ι:=Nat) (fun i=>[(0,.sl 0 (l.map zAD) .shut),(3,.int .i64 i)]) (fun _=>S 0 g0 []) (fun i=>1≤i∧i≤l.length∧Lf.per l=Lf.perFrom l (l.length-i) i) (fun i=>l.length-i) ?_ 1 ⟨Nat.le_refl _,h0,rfl⟩ ⟨rfl,rfl,trivial⟩ rfl
 rintro i b ⟨h1,hi,he⟩ hrec
 rcases Nat.lt_or_ge i l.length with hlt|hge
 ·have hc:decide ((i:Int)<l.length)=true:=decide_eq_true (by omega)
  have hc0:decide (i=0)=false:=decide_eq_false (by omega)
  repeat' (first|simp (disch:=first|assumption|omega) only[go_sem, *]|((first|apply gw_m|apply gw_q);focus (intro hs;(try simp only[nbs] at hs);simp (disch:=first|assumption|omega) only[go_sem, *];rfl))|((first|refine zAC ?_ ?_|refine zAB ?_ ?_|refine sp_C ?_ ?_|refine sp_G ?_ ?_)<;>(intro hs;try simp only[nbs] at hs)))
  refine zA0 (ι:=Nat×Bool) (fun p=>[(0,.sl 0 (l.map zAD) .shut),(3,.int .i64 i),(4,.bool p.2),(5,.int .i64 p.1)]) (fun _=>S 0 g0 []) (fun p=>i≤p.1∧p.1≤l.length∧(p.2=true→l.length % i=0∧zHV l i p.1)∧(p.2=false→l.length % i≠0∨¬ zHV l i l.length)) (fun p=>l.length-p.1) ?_ (i,decide (((l.length % i:Nat):Int)=0)) ⟨Nat.le_refl _,by dsimp only;omega,fun h=>⟨by have:=of_decide_eq_true h;omega,fun t h1 h2=>by dsimp only at h2;omega⟩,fun h=>.inl (by have:=of_decide_eq_false h;omega)⟩ ⟨rfl,rfl,rfl,rfl,trivial⟩ rfl
  rintro⟨t,c⟩ b ⟨ht1,ht,hst,hsf⟩ hrec2
  dsimp only at ht1 ht hst hsf hrec2 ⊢
  rcases Nat.lt_or_ge t l.length with htl|htg
  ·have hc:decide ((t:Int)<l.length)=true:=decide_eq_true (by omega)
   have hd1:decide (t<l.length)=true:=decide_eq_true (by omega)
   have hd2:decide (t-i<l.length)=true:=decide_eq_true (by omega)
   have hsub:(t:Int)-i=((t-i:Nat):Int):=by omega
   have hx:l[t]?=some l[t]:=List.getElem?_eq_getElem htl
   have hy:l[t-i]?=some l[t-i]:=List.getElem?_eq_getElem (by omega)
   generalize l[t]=x at hx
   generalize l[t-i]=y at hy
   have hkx:=zBN hk hx
   have hky:=zBN hk hy
   cases c with
   | true=>
    have hst:=hst rfl
    clear hsf
    repeat' (first|refine c52e hkx hky ?_|simp (disch:=first|assumption|omega) only[go_sem, *]|((first|apply gw_m|apply gw_q);focus (intro hs;(try simp only[nbs] at hs);simp (disch:=first|assumption|omega) only[go_sem, *];rfl))|((first|refine zAC ?_ ?_|refine zAB ?_ ?_|refine sp_C ?_ ?_|refine sp_G ?_ ?_)<;>(intro hs;try simp only[nbs] at hs)))
    exact hrec2 (t+1,_) _ _ _ ⟨by dsimp only;omega,htl,fun e=>⟨hst.1,zLZ ht1 hx hy hst.2 (of_decide_eq_true e)⟩,fun e=>.inr (zOC ht1 htl hx hy (of_decide_eq_false e))⟩ (by dsimp only;omega) ⟨rfl,rfl,rfl,rfl,trivial⟩ rfl
   | false=>
    have hsf:=hsf rfl
    clear hst
    repeat' (first|simp (disch:=first|assumption|omega) only[go_sem, *]|((first|apply gw_m|apply gw_q);focus (intro hs;(try simp only[nbs] at hs);simp (disch:=first|assumption|omega) only[go_sem, *];rfl))|((first|refine zAC ?_ ?_|refine zAB ?_ ?_|refine sp_C ?_ ?_|refine sp_G ?_ ?_)<;>(intro hs;try simp only[nbs] at hs)))
    exact hrec (i+1) _ _ _ ⟨by omega,hlt,by rw[he,zH3 hlt hsf]⟩ (by omega) ⟨rfl,rfl,trivial⟩ rfl
  ·have hc:decide ((t:Int)<l.length)=false:=decide_eq_false (by omega)
   cases c with
   | true=>
    have hst:=hst rfl
    clear hsf
    rw[zOJ hlt hst.1 (by rw[show t=l.length by omega] at hst;exact hst.2)] at he
    rw[he] at h
    repeat' (first|simp (disch:=first|assumption|omega) only[go_sem, *]|((first|apply gw_m|apply gw_q);focus (intro hs;(try simp only[nbs] at hs);simp (disch:=first|assumption|omega) only[go_sem, *];rfl))|((first|refine zAC ?_ ?_|refine zAB ?_ ?_|refine sp_C ?_ ?_|refine sp_G ?_ ?_)<;>(intro hs;try simp only[nbs] at hs)))
   | false=>
    have hsf:=hsf rfl
    clear hst
    repeat' (first|simp (disch:=first|assumption|omega) only[go_sem, *]|((first|apply gw_m|apply gw_q);focus (intro hs;(try simp only[nbs] at hs);simp (disch:=first|assumption|omega) only[go_sem, *];rfl))|((first|refine zAC ?_ ?_|refine zAB ?_ ?_|refine sp_C ?_ ?_|refine sp_G ?_ ?_)<;>(intro hs;try simp only[nbs] at hs)))
    exact hrec (i+1) _ _ _ ⟨by omega,hlt,by rw[he,zH3 hlt hsf]⟩ (by omega) ⟨rfl,rfl,trivial⟩ rfl
 ·have hc:decide ((i:Int)<l.length)=false:=decide_eq_false (by omega)
  rw[zKK l _ _ rfl hge] at he
  rw[he] at h
  repeat' (first|simp (disch:=first|assumption|omega) only[go_sem, *]|((first|apply gw_m|apply gw_q);focus (intro hs;(try simp only[nbs] at hs);simp (disch:=first|assumption|omega) only[go_sem, *];rfl))|((first|refine zAC ?_ ?_|refine zAB ?_ ?_|refine sp_C ?_ ?_|refine sp_G ?_ ?_)<;>(intro hs;try simp only[nbs] at hs)))
end Go.Ab.X
namespace Lf
variable {α:Type}[DecidableEq α]
theorem zJ4 {l:List α}{i:Nat}(h0:0<i)(hi:i≤l.length):(l.take i).getLast?=l[i-1]?:=by
 rw[List.getLast?_eq_getElem?,List.length_take,List.getElem?_take,if_pos (by omega),show min i l.length-1=i-1 by omega]
theorem take_snoc {l:List α}{i:Nat}{x:α}(hx:l[i]?=some x):l.take (i+1)=l.take i++[x]:=by
 rw[List.take_succ,hx];rfl
theorem dd_new {l:List α}{i:Nat}{x:α}(hx:l[i]?=some x)(h:i=0∨l[i-1]?≠some x):dd (l.take (i+1))=dd (l.take i)++[x]:=by
 have hi:i<l.length:=(List.getElem?_eq_some_iff.1 hx).1
 rw[take_snoc hx,dd,zCM,la_none]
 congr 1
 rw[zAV]
 by_cases h0:i=0
 ·subst h0;rfl
 ·rw[zJ4 (by omega) (by omega),if_neg (h.resolve_left h0)];rfl
theorem dd_old {l:List α}{i:Nat}{x:α}(hx:l[i]?=some x)(h0:0<i)(h:l[i-1]?=some x):dd (l.take (i+1))=dd (l.take i):=by
 have hi:i<l.length:=(List.getElem?_eq_some_iff.1 hx).1
 rw[take_snoc hx,dd,zCM,la_none,zAV,zJ4 h0 (by omega),if_pos h]
 exact List.append_nil _
end Lf
namespace Go.Ab.X
open Go Go.Ab Go.Proofs Pl
set_option maxRecDepth 100000
set_option maxHeartbeats 4000000
theorem c51 {l:List (List V)}{s:Sto}(hl:l.length<1000000)(hk:okS l){Q:CR→Sto→Prop}(h:Q (.ret (.sl 0 ((Lf.dd l).map zAD) .shut)) s):C E1 51 [.sl 0 (l.map zAD) .shut] s Q:=by
 refine zAF (md:=⟨true,false,false,false⟩) (fn:=Tryz.f51) (n:=34) (rs:=[.tmp 2]) rfl rfl rfl rfl rfl rfl rfl rfl (by simp only[go_sem, *];try rfl) (by rfl) (by simp only[go_sem]) ?_
 repeat' (first|simp (disch:=first|assumption|omega) only[go_sem, *]|((first|apply gw_m|apply gw_q);focus (intro hs;(try simp only[nbs] at hs);simp (disch:=first|assumption|omega) only[go_sem, *];rfl))|((first|refine zAC ?_ ?_|refine zAB ?_ ?_|refine sp_C ?_ ?_|refine sp_G ?_ ?_)<;>(intro hs;try simp only[nbs] at hs)))
 refine zA0 (ι:=Nat×Nat×(Nat→Box)×List (Nat×Nat)) (fun p=>[(0,.sl 0 (l.map zAD) .shut),(3,gr p.2.1 ((Lf.dd (l.take p.1)).map zAD)),(4,.int .i64 p.1)]) (fun p=>S p.2.1 p.2.2.1 p.2.2.2) (fun p=>p.1≤l.length∧gE 35 1 0 p.2.2.1 p.2.1 ((Lf.dd (l.take p.1)).map zAD)) (fun p=>l.length-p.1) ?_ (0,0,g0,[]) ⟨Nat.zero_le _,zS1 (Nat.le_refl _)⟩ ⟨rfl,rfl,rfl,trivial⟩ rfl
 rintro⟨i,m,g,u⟩ b ⟨hi,hge⟩ hrec
 dsimp only at hi hge hrec ⊢
 rcases Nat.lt_or_ge i l.length with hlt|hgt
 ·have hc:decide ((i:Int)<l.length)=true:=decide_eq_true (by omega)
  have hd1:decide (i<l.length)=true:=decide_eq_true hlt
  have hx:l[i]?=some l[i]:=List.getElem?_eq_getElem hlt
  have hdl:(Lf.dd (l.take i)).length≤1000000:=Nat.le_trans (Lf.dd_len none _) (by rw[List.length_take];omega)
  generalize l[i]=x at hx
  have hkx:=zBN hk hx
  have hnew:(i=0∨l[i-1]?≠some x)→∃g',zAX 35 1 24 (gr m ((Lf.dd (l.take i)).map zAD)) [zAD x] (S m g u)=some (gr (m+1) ((Lf.dd (l.take (i+1))).map zAD),S (m+1) g' u)∧gE 35 1 0 g' (m+1) ((Lf.dd (l.take (i+1))).map zAD):=by
   intro hn
   have e:(Lf.dd (l.take (i+1))).map zAD=(Lf.dd (l.take i)).map zAD++[zAD x]:=by rw[Lf.dd_new hx hn,List.map_append];rfl
   obtain⟨g',h1,h2,_⟩:=zPQ (ty:=35) (es:=1) (b:=24) (u:=u) (ys:=[zAD x]) hge (zCZ [x]) (by simp) (by rw[List.length_map];simp only[List.length_cons,List.length_nil];omega) (by rw[← e];exact zA2 _)
   exact⟨g',by rw[e];exact h1,by rw[e];exact h2⟩
  rcases Nat.eq_zero_or_pos i with h0|h0
  ·have hz:decide ((i:Int)=0)=true:=decide_eq_true (by omega)
   obtain⟨g',hap,hge'⟩:=hnew (.inl h0)
   clear h0 hnew
   repeat' (first|simp (disch:=first|assumption|omega) only[go_sem, *]|((first|apply gw_m|apply gw_q);focus (intro hs;(try simp only[nbs] at hs);simp (disch:=first|assumption|omega) only[go_sem, *];rfl))|((first|refine zAC ?_ ?_|refine zAB ?_ ?_|refine sp_C ?_ ?_|refine sp_G ?_ ?_)<;>(intro hs;try simp only[nbs] at hs)))
   exact hrec (i+1,m+1,g',u) _ _ _ ⟨hlt,hge'⟩ (by dsimp only;omega) ⟨rfl,rfl,rfl,trivial⟩ rfl
  ·have hz:decide ((i:Int)=0)=false:=decide_eq_false (by omega)
   have hd2:decide (i-1<l.length)=true:=decide_eq_true (by omega)
   have hsub:(i:Int)-1=((i-1:Nat):Int):=by omega
   have hy:l[i-1]?=some l[i-1]:=List.getElem?_eq_getElem (by omega)
   generalize l[i-1]=y at hy
   have hky:=zBN hk hy
   by_cases hxy:x=y
   ·subst hxy
    have hde:decide (x=x)=true:=decide_eq_true rfl
    have hold:=Lf.dd_old hx h0 hy
    clear hnew
    repeat' (first|refine c52e hkx hky ?_|simp (disch:=first|assumption|omega) only[go_sem, *]|((first|apply gw_m|apply gw_q);focus (intro hs;(try simp only[nbs] at hs);simp (disch:=first|assumption|omega) only[go_sem, *];rfl))|((first|refine zAC ?_ ?_|refine zAB ?_ ?_|refine sp_C ?_ ?_|refine sp_G ?_ ?_)<;>(intro hs;try simp only[nbs] at hs)))
    rw[← hold] at hge
    exact hrec (i+1,m,g,u) _ _ _ ⟨hlt,hge⟩ (by dsimp only;omega) ⟨rfl,by rw[hold];rfl,rfl,trivial⟩ rfl
   ·have hde:decide (x=y)=false:=decide_eq_false hxy
    obtain⟨g',hap,hge'⟩:=hnew (.inr (by rw[hy];exact fun e=>hxy (Option.some.inj e).symm))
    clear hnew
    repeat' (first|refine c52e hkx hky ?_|simp (disch:=first|assumption|omega) only[go_sem, *]|((first|apply gw_m|apply gw_q);focus (intro hs;(try simp only[nbs] at hs);simp (disch:=first|assumption|omega) only[go_sem, *];rfl))|((first|refine zAC ?_ ?_|refine zAB ?_ ?_|refine sp_C ?_ ?_|refine sp_G ?_ ?_)<;>(intro hs;try simp only[nbs] at hs)))
    exact hrec (i+1,m+1,g',u) _ _ _ ⟨hlt,hge'⟩ (by dsimp only;omega) ⟨rfl,rfl,rfl,trivial⟩ rfl
 ·have hc:decide ((i:Int)<l.length)=false:=decide_eq_false (by omega)
  rw[List.take_of_length_le hgt] at hge ⊢
  obtain⟨g',hsl,_⟩:=seal_gE (u:=u) hge (zA2 _)
  generalize Lf.dd l=D at h hge hsl ⊢
  cases D with
  | nil=>
   have e:gr m (List.map zAD [])=.sl 0 [] .nil:=rfl
   rw[e]
   repeat' (first|simp (disch:=first|assumption|omega) only[go_sem, *]|((first|apply gw_m|apply gw_q);focus (intro hs;(try simp only[nbs] at hs);simp (disch:=first|assumption|omega) only[go_sem, *];rfl))|((first|refine zAC ?_ ?_|refine zAB ?_ ?_|refine sp_C ?_ ?_|refine sp_G ?_ ?_)<;>(intro hs;try simp only[nbs] at hs)))
   exact h
  | cons a r=>
   rw[zS0 (by simp)] at hsl ⊢
   repeat' (first|simp (disch:=first|assumption|omega) only[go_sem, *]|((first|apply gw_m|apply gw_q);focus (intro hs;(try simp only[nbs] at hs);simp (disch:=first|assumption|omega) only[go_sem, *];rfl))|((first|refine zAC ?_ ?_|refine zAB ?_ ?_|refine sp_C ?_ ?_|refine sp_G ?_ ?_)<;>(intro hs;try simp only[nbs] at hs)))
end Go.Ab.X
namespace Pl
def eqL (a b:Las):Bool:=decide (a.back=b.back)&&decide (a.st=b.st)
theorem ne_at {a b:List (List V)}{i:Nat}{x y:List V}(hx:a[i]?=some x)(hy:b[i]?=some y)(h:x≠y):decide (a=b)=false:=decide_eq_false fun e=>by subst e;rw[hx] at hy;exact h (Option.some.inj hy)
theorem eq_end {a b:List (List V)}{i:Nat}(hl:a.length=b.length)(hi:a.length≤i)(h:a.take i=b.take i):decide (a=b)=true:=decide_eq_true (by rw[List.take_of_length_le hi,List.take_of_length_le (by omega)] at h;exact h)
end Pl
namespace Go.Ab.X
open Go Go.Ab Go.Proofs Pl
set_option maxRecDepth 100000
set_option maxHeartbeats 4000000
theorem c54 {l r:List (List V)}{m:Nat}{g:Nat→Box}{u:List (Nat×Nat)}(hu:zBS m u=true)(hu2:zAW m u=u)(hl:l.length<1073741824)(hr:r.length<1073741824)(hkl:okS l)(hkr:okS r)
  {Q:CR→Sto→Prop} (h:Q (.ret (.bool (decide (l=r)))) (S m g u)):C E1 54 [.sl 0 (l.map zAD) .shut,.sl 0 (r.map zAD) .shut,.func 0 (.func 55) [] []] (S m g u) Q:=by
 by_cases hle:l.length=r.length
 ·have hc0:decide ((r.length:Int)=r.length)=true:=decide_eq_true rfl
  refine zAM (md:=⟨false,false,false,false⟩) (fn:=Tryz.f54) (n:=32) (rs:=[.tmp 6]) rfl rfl rfl rfl rfl rfl rfl rfl (by simp only[go_sem, *];try rfl) (by rfl) ?_
  repeat' (first|simp (disch:=first|assumption|omega) only[go_sem, *]|((first|apply gw_m|apply gw_q);focus (intro hs;(try simp only[nbs] at hs);simp (disch:=first|assumption|omega) only[go_sem, *];rfl))|((first|refine zAC ?_ ?_|refine zAB ?_ ?_|refine sp_C ?_ ?_|refine sp_G ?_ ?_)<;>(intro hs;try simp only[nbs] at hs)))
  refine zA0 (ι:=Nat) (fun i=>[(1,.sl 0 (r.map zAD) .shut),(2,.func 0 (.func 55) [] []),(15,.sl 0 (l.map zAD) .shut),(16,.int .i64 r.length),(17,.int .i64 i)]) (fun _=>S m g u) (fun i=>i≤l.length∧l.take i=r.take i) (fun i=>l.length-i) ?_ 0 ⟨Nat.zero_le _,rfl⟩ ⟨rfl,rfl,rfl,rfl,rfl,trivial⟩ rfl
  rintro i b ⟨hi,he⟩ hrec
  rcases Nat.lt_or_ge i l.length with hlt|hgt
  ·have hc:decide ((i:Int)<r.length)=true:=decide_eq_true (by omega)
   have hd1:decide (i<l.length)=true:=decide_eq_true hlt
   have hd2:decide (i<r.length)=true:=decide_eq_true (by omega)
   have hx:l[i]?=some l[i]:=List.getElem?_eq_getElem hlt
   have hy:r[i]?=some r[i]:=List.getElem?_eq_getElem (by omega)
   generalize l[i]=x at hx
   generalize r[i]=y at hy
   have hkx:=zBN hkl hx
   have hky:=zBN hkr hy
   by_cases hxy:x=y
   ·subst hxy
    have hde:decide (x=x)=true:=decide_eq_true rfl
    repeat' (first|refine c55e hkx hky ?_|simp (disch:=first|assumption|omega) only[go_sem, *]|((first|apply gw_m|apply gw_q);focus (intro hs;(try simp only[nbs] at hs);simp (disch:=first|assumption|omega) only[go_sem, *];rfl))|((first|refine zAC ?_ ?_|refine zAB ?_ ?_|refine sp_C ?_ ?_|refine sp_G ?_ ?_)<;>(intro hs;try simp only[nbs] at hs)))
    exact hrec (i+1) _ _ _ ⟨hlt,by rw[Lf.take_snoc hx,Lf.take_snoc hy,he]⟩ (by omega) ⟨rfl,rfl,rfl,rfl,rfl,trivial⟩ rfl
   ·have hde:decide (x=y)=false:=decide_eq_false hxy
    rw[ne_at hx hy hxy] at h
    repeat' (first|refine c55e hkx hky ?_|simp (disch:=first|assumption|omega) only[go_sem, *]|((first|apply gw_m|apply gw_q);focus (intro hs;(try simp only[nbs] at hs);simp (disch:=first|assumption|omega) only[go_sem, *];rfl))|((first|refine zAC ?_ ?_|refine zAB ?_ ?_|refine sp_C ?_ ?_|refine sp_G ?_ ?_)<;>(intro hs;try simp only[nbs] at hs)))
  ·have hc:decide ((i:Int)<r.length)=false:=decide_eq_false (by omega)
   rw[eq_end hle hgt he] at h
   repeat' (first|simp (disch:=first|assumption|omega) only[go_sem, *]|((first|apply gw_m|apply gw_q);focus (intro hs;(try simp only[nbs] at hs);simp (disch:=first|assumption|omega) only[go_sem, *];rfl))|((first|refine zAC ?_ ?_|refine zAB ?_ ?_|refine sp_C ?_ ?_|refine sp_G ?_ ?_)<;>(intro hs;try simp only[nbs] at hs)))
 ·have hc:decide ((l.length:Int)=r.length)=false:=decide_eq_false (by omega)
  rw[decide_eq_false (fun e=>hle (by rw[e]))] at h
  refine zAM (md:=⟨false,false,false,false⟩) (fn:=Tryz.f54) (n:=32) (rs:=[.tmp 6]) rfl rfl rfl rfl rfl rfl rfl rfl (by simp only[go_sem, *];try rfl) (by rfl) ?_
  repeat' (first|simp (disch:=first|assumption|omega) only[go_sem, *]|((first|apply gw_m|apply gw_q);focus (intro hs;(try simp only[nbs] at hs);simp (disch:=first|assumption|omega) only[go_sem, *];rfl))|((first|refine zAC ?_ ?_|refine zAB ?_ ?_|refine sp_C ?_ ?_|refine sp_G ?_ ?_)<;>(intro hs;try simp only[nbs] at hs)))
theorem c36 {a b:Las}{s:Sto}(hl:a.st.length<1073741824)(hr:b.st.length<1073741824)(hkl:okS a.st)(hkr:okS b.st)
  {Q:CR→Sto→Prop} (h:Q (.ret (.bool (eqL a b))) s):C E1 36 [zAK a,zAK b] s Q:=by
 obtain⟨l,ba⟩:=a
 obtain⟨r,bb⟩:=b
 have hl:l.length<1073741824:=hl
 have hr:r.length<1073741824:=hr
 have hkl:okS l:=hkl
 have hkr:okS r:=hkr
 have h:Q (.ret (.bool (decide (ba=bb)&&decide (l=r)))) s:=h
 by_cases hb:ba=bb
 ·subst hb
  rw[decide_eq_true (rfl:ba=ba),Bool.true_and] at h
  have hb0:decide (ba=ba)=true:=decide_eq_true rfl
  by_cases hle:l.length=r.length
  ·have hc0:decide ((r.length:Int)=r.length)=true:=decide_eq_true rfl
   refine zAF (md:=⟨true,false,false,false⟩) (fn:=Tryz.f36) (n:=39) (rs:=[.tmp 4]) rfl rfl rfl rfl rfl rfl rfl rfl (by simp only[go_sem, *];try rfl) (by rfl) (by simp only[go_sem]) ?_
   repeat' (first|simp (disch:=first|assumption|omega) only[go_sem, *]|((first|apply gw_m|apply gw_q);focus (intro hs;(try simp only[nbs] at hs);simp (disch:=first|assumption|omega) only[go_sem, *];rfl))|((first|refine zAC ?_ ?_|refine zAB ?_ ?_|refine sp_C ?_ ?_|refine sp_G ?_ ?_)<;>(intro hs;try simp only[nbs] at hs)))
   generalize hG:updB _ 1 (Box.cells 24 (zAN ⟨r,ba⟩))=G
   have e0:G 0=.cells 24 (zAN ⟨l,ba⟩):=by rw[← hG];simp (disch:=first|assumption|omega) only[go_sem]
   have e1:G 1=.cells 24 (zAN ⟨r,ba⟩):=by rw[← hG];simp (disch:=first|assumption|omega) only[go_sem]
   clear hG
   refine zA0 (ι:=Nat) (fun i=>[(2,.ptr 0 0),(3,.ptr 1 0),(5,.int .i64 i)]) (fun _=>S 2 G []) (fun i=>i≤l.length∧l.take i=r.take i) (fun i=>l.length-i) ?_ 0 ⟨Nat.zero_le _,rfl⟩ ⟨rfl,rfl,rfl,trivial⟩ rfl
   rintro i b ⟨hi,he⟩ hrec
   rcases Nat.lt_or_ge i l.length with hlt|hgt
   ·have hc:decide ((i:Int)<r.length)=true:=decide_eq_true (by omega)
    have hd1:decide (i<l.length)=true:=decide_eq_true hlt
    have hd2:decide (i<r.length)=true:=decide_eq_true (by omega)
    have hx:l[i]?=some l[i]:=List.getElem?_eq_getElem hlt
    have hy:r[i]?=some r[i]:=List.getElem?_eq_getElem (by omega)
    generalize l[i]=x at hx
    generalize r[i]=y at hy
    have hkx:=zBN hkl hx
    have hky:=zBN hkr hy
    by_cases hxy:x=y
    ·subst hxy
     have hde:decide (x=x)=true:=decide_eq_true rfl
     repeat' (first|refine c52e hkx hky ?_|simp (disch:=first|assumption|omega) only[go_sem, *]|((first|apply gw_m|apply gw_q);focus (intro hs;(try simp only[nbs] at hs);simp (disch:=first|assumption|omega) only[go_sem, *];rfl))|((first|refine zAC ?_ ?_|refine zAB ?_ ?_|refine sp_C ?_ ?_|refine sp_G ?_ ?_)<;>(intro hs;try simp only[nbs] at hs)))
     exact hrec (i+1) _ _ _ ⟨hlt,by rw[Lf.take_snoc hx,Lf.take_snoc hy,he]⟩ (by omega) ⟨rfl,rfl,rfl,trivial⟩ rfl
    ·have hde:decide (x=y)=false:=decide_eq_false hxy
     rw[ne_at hx hy hxy] at h
     repeat' (first|refine c52e hkx hky ?_|simp (disch:=first|assumption|omega) only[go_sem, *]|((first|apply gw_m|apply gw_q);focus (intro hs;(try simp only[nbs] at hs);simp (disch:=first|assumption|omega) only[go_sem, *];rfl))|((first|refine zAC ?_ ?_|refine zAB ?_ ?_|refine sp_C ?_ ?_|refine sp_G ?_ ?_)<;>(intro hs;try simp only[nbs] at hs)))
   ·have hc:decide ((i:Int)<r.length)=false:=decide_eq_false (by omega)
    rw[eq_end hle hgt he] at h
    repeat' (first|simp (disch:=first|assumption|omega) only[go_sem, *]|((first|apply gw_m|apply gw_q);focus (intro hs;(try simp only[nbs] at hs);simp (disch:=first|assumption|omega) only[go_sem, *];rfl))|((first|refine zAC ?_ ?_|refine zAB ?_ ?_|refine sp_C ?_ ?_|refine sp_G ?_ ?_)<;>(intro hs;try simp only[nbs] at hs)))
  ·have hc:decide ((l.length:Int)=r.length)=false:=decide_eq_false (by omega)
   rw[decide_eq_false (fun e=>hle (by rw[e]))] at h
   refine zAF (md:=⟨true,false,false,false⟩) (fn:=Tryz.f36) (n:=39) (rs:=[.tmp 4]) rfl rfl rfl rfl rfl rfl rfl rfl (by simp only[go_sem, *];try rfl) (by rfl) (by simp only[go_sem]) ?_
   repeat' (first|simp (disch:=first|assumption|omega) only[go_sem, *]|((first|apply gw_m|apply gw_q);focus (intro hs;(try simp only[nbs] at hs);simp (disch:=first|assumption|omega) only[go_sem, *];rfl))|((first|refine zAC ?_ ?_|refine zAB ?_ ?_|refine sp_C ?_ ?_|refine sp_G ?_ ?_)<;>(intro hs;try simp only[nbs] at hs)))
 ·have hb0:decide (ba=bb)=false:=decide_eq_false hb
  rw[hb0,Bool.false_and] at h
  refine zAF (md:=⟨true,false,false,false⟩) (fn:=Tryz.f36) (n:=39) (rs:=[.tmp 4]) rfl rfl rfl rfl rfl rfl rfl rfl (by simp only[go_sem, *];try rfl) (by rfl) (by simp only[go_sem]) ?_
  repeat' (first|simp (disch:=first|assumption|omega) only[go_sem, *]|((first|apply gw_m|apply gw_q);focus (intro hs;(try simp only[nbs] at hs);simp (disch:=first|assumption|omega) only[go_sem, *];rfl))|((first|refine zAC ?_ ?_|refine zAB ?_ ?_|refine sp_C ?_ ?_|refine sp_G ?_ ?_)<;>(intro hs;try simp only[nbs] at hs)))
theorem c9 {a b:Las}{s:Sto}(hl:a.st.length<1073741824)(hr:b.st.length<1073741824)(hkl:okS a.st)(hkr:okS b.st)
  {Q:CR→Sto→Prop} (h:Q (.ret (.bool (eqL a b))) s):C E1 9 [zAK a,zAK b] s Q:=by
 refine zAF (md:=⟨true,false,false,false⟩) (fn:=Tryz.f9) (n:=8) (rs:=[.tmp 4]) rfl rfl rfl rfl rfl rfl rfl rfl (by simp only[go_sem, *];try rfl) (by rfl) (by simp only[go_sem]) ?_
 repeat' (first|refine c36 hl hr hkl hkr ?_|simp (disch:=first|assumption|omega) only[go_sem, *]|((first|apply gw_m|apply gw_q);focus (intro hs;(try simp only[nbs] at hs);simp (disch:=first|assumption|omega) only[go_sem, *];rfl))|((first|refine zAC ?_ ?_|refine zAB ?_ ?_|refine sp_C ?_ ?_|refine sp_G ?_ ?_)<;>(intro hs;try simp only[nbs] at hs)))
end Go.Ab.X
namespace Go.Ab.X
open Go Go.Ab Go.Proofs Pl
set_option maxRecDepth 100000
set_option maxHeartbeats 4000000
def zEW (R:List AV):Prop:=∀y∈R,∃xs o,y=.sl 0 xs o
theorem zCF (l:List (List V)):zEW (l.map zAD):=fun y hy=>by
 obtain⟨x,_,rfl⟩:=List.mem_map.1 hy
 exact⟨_,_,rfl⟩
theorem rowOk_fits:∀{R:List AV},zEW R→zAZ 1 R=true
 | [],_=>rfl
 | a :: r,h=>by
  obtain⟨xs,o,rfl⟩:=h a (List.mem_cons_self ..)
  exact rowOk_fits (R:=r) fun y hy=>h y (List.mem_cons_of_mem _ hy)
theorem rowOk_tops:∀{R:List AV},zEW R→tops R=0
 | [],_=>rfl
 | a :: r,h=>by
  obtain⟨xs,o,rfl⟩:=h a (List.mem_cons_self ..)
  show max 0 (tops r)=0
  rw[rowOk_tops (R:=r) fun y hy=>h y (List.mem_cons_of_mem _ hy)];rfl
theorem zWO {R:List AV}(h:zEW R)(i:Nat)(x:List V):zEW (R.set i (zAD x)):=fun y hy=>by
 rcases List.mem_or_eq_of_mem_set hy with h1|rfl
 ·exact h y h1
 ·exact⟨_,_,rfl⟩
theorem zE9 {R T:List AV}(h:zEW R)(h2:zEW T):zEW (R++T):=fun y hy=>(List.mem_append.1 hy).elim (h y) (h2 y)
theorem zH1 {R T:List AV}(h:zEW R)(h2:∀y∈T,y∈R):zEW T:=fun y hy=>h y (h2 y hy)
theorem zSB (n:Nat):zEW (List.replicate n zS):=fun y hy=>by
 rw[List.eq_of_mem_replicate hy,zS_eq];exact⟨_,_,rfl⟩
theorem st_row {m k i:Nat}{g:Nat→Box}{u:List (Nat×Nat)}{R:List AV}(hk:k<m)(hg:g k=.row 35 1 R false)(hR:zEW R)(hi:i<R.length)(x:List V) :
  zEO (S m g u) (E1.types 35) (.eptr k i 0) (zAD x)=some (S m (updB g k (.row 35 1 (R.set i (zAD x)) false)) u):=by
 obtain⟨xs,o,hy⟩:=hR R[i] (List.getElem_mem hi)
 unfold zEO
 rw[zSA]
 dsimp only
 rw[zEM hk,hg]
 dsimp only
 rw[zCY,List.getElem?_eq_getElem hi,hy]
 dsimp only
 rw[zNW hk,zEI,tys35]
 show some ((S m (updB g k (.row 35 1 (R.set i (zAD x)) false)) u).note k 0)=_
 rw[zIO (by omega)]
theorem cl_row {m k o n:Nat}{g:Nat→Box}{u:List (Nat×Nat)}{R:List AV}(hk:k<m)(hg:g k=.row 35 1 R false)(hi:o+n≤R.length) :
  zMO E1 22 [.osl k o n] (S m g u)=.val undef (S m (updB g k (.row 35 1 (R.take o++(List.replicate n zS++R.drop (o+n))) false)) u):=by
 show(match(S m g u).get k with|.row ty es xs false=>bif Nat.ble (o+n) (llen xs)&&(zAZ es [zAP (E1.types 35)]&&Nat.beq es (E1.types 35).size) then Nx.val undef ((S m g u).put k (.row ty es (splice xs o (lrep (zAP (E1.types 35)) n)) false)) else .no|_=>.no)=_
 rw[zEM hk,hg]
 dsimp only
 rw[tys35,zAG,zA8,decide_eq_true hi,zNW hk]
 have:zAZ 1 [zAP (E1.types 35)]=true:=rowOk_fits (zSB 1)
 rw[this]
 simp only[splice,zBB,zA6,zBI,zAG,zDD,List.length_replicate]
 rfl
theorem c125 {L:List (List V)}{k m:Nat}{g:Nat→Box}{u:List (Nat×Nat)}(hu:zBS m u=true)(hu2:zAW m u=u)(hk:k<m)(hg:g k=.row 35 1 (L.map zAD) false)(h0:0<L.length)(hl:L.length<1000000)(hks:okS L)
  {Q:CR→Sto→Prop} (h:∀g' R,g' k=.row 35 1 R false→zEW R→R.length=L.length→R.take (Lf.dd L).length=(Lf.dd L).map zAD→(∀i,i≠k→g' i=g i)→Q (.ret (.osl k 0 (Lf.dd L).length)) (S m g' u)):C E1 125 [.osl k 0 L.length,.func 0 (.func 55) [] []] (S m g u) Q:=by
 have hone:∀x,L[0]?=some x→Lf.dd (L.take 1)=L.take 1:=fun x hx=>by
  rw[Lf.dd_new hx (.inl rfl),Lf.take_snoc hx];rfl
 have hx0:L[0]?=some L[0]:=List.getElem?_eq_getElem h0
 have hone:=hone _ hx0
 by_cases h2:L.length<2
 ·have hc:decide ((L.length:Int)<2)=true:=decide_eq_true (by omega)
  rw[List.take_of_length_le (by omega)] at hone
  have h:=h g _ hg (zCF L) (List.length_map ..) (by rw[hone,List.take_of_length_le (by simp)]) (fun _ _=>rfl)
  rw[hone] at h
  refine zAM (md:=⟨false,true,true,false⟩) (fn:=Tryz.f125) (n:=66) (rs:=[.tmp 4]) rfl rfl rfl rfl rfl rfl rfl rfl (by simp only[go_sem, *];try rfl) (by rfl) ?_
  repeat' (first|simp (disch:=first|assumption|omega) only[go_sem, *]|((first|apply gw_m|apply gw_q);focus (intro hs;(try simp only[nbs] at hs);simp (disch:=first|assumption|omega) only[go_sem, *];rfl))|((first|refine zAC ?_ ?_|refine zAB ?_ ?_|refine sp_C ?_ ?_|refine sp_G ?_ ?_)<;>(intro hs;try simp only[nbs] at hs)))
 ·have hc:decide ((L.length:Int)<2)=false:=decide_eq_false (by omega)
  refine zAM (md:=⟨false,true,true,false⟩) (fn:=Tryz.f125) (n:=66) (rs:=[.tmp 4]) rfl rfl rfl rfl rfl rfl rfl rfl (by simp only[go_sem, *];try rfl) (by rfl) ?_
  repeat' (first|simp (disch:=first|assumption|omega) only[go_sem, *]|((first|apply gw_m|apply gw_q);focus (intro hs;(try simp only[nbs] at hs);simp (disch:=first|assumption|omega) only[go_sem, *];rfl))|((first|refine zAC ?_ ?_|refine zAB ?_ ?_|refine sp_C ?_ ?_|refine sp_G ?_ ?_)<;>(intro hs;try simp only[nbs] at hs)))
  refine zA0 (ι:=Nat) (fun i=>[(0,.osl k 0 L.length),(1,.func 0 (.func 55) [] []),(5,.int .i64 i)]) (fun _=>S m g u) (fun i=>1≤i∧i≤L.length∧Lf.dd (L.take i)=L.take i) (fun i=>L.length-i) ?_ 1 ⟨Nat.le_refl _,by omega,hone⟩ ⟨rfl,rfl,rfl,trivial⟩ rfl
  clear hone hx0 h2 hc
  rintro i b ⟨hi1,hi,he⟩ hrec
  rcases Nat.lt_or_ge i L.length with hlt|hge
  ·have hc:decide ((i:Int)<L.length)=true:=decide_eq_true (by omega)
   have hd1:decide (i<L.length)=true:=decide_eq_true hlt
   have hd2:decide (i-1<L.length)=true:=decide_eq_true (by omega)
   have hsub:(i:Int)-1=((i-1:Nat):Int):=by omega
   have hx:L[i]?=some L[i]:=List.getElem?_eq_getElem hlt
   have hy:L[i-1]?=some L[i-1]:=List.getElem?_eq_getElem (by omega)
   generalize L[i]=x at hx
   generalize L[i-1]=y at hy
   have hkx:=zBN hks hx
   have hky:=zBN hks hy
   have hxa:L[0+i]?=some x:=by rw[Nat.zero_add];exact hx
   have hya:L[0+(i-1)]?=some y:=by rw[Nat.zero_add];exact hy
   by_cases hxy:x=y
   ·subst hxy
    have hde:decide (x=x)=true:=decide_eq_true rfl
    have hold:=Lf.dd_old hx hi1 hy
    rw[he] at hold
    have hs1:=@so_lo m k L.length i g u _ _ hk hg hi
    clear hrec he hy hx
    repeat' (first|refine c55e hkx hky ?_|simp (disch:=first|assumption|omega) only[go_sem, *]|((first|apply gw_m|apply gw_q);focus (intro hs;(try simp only[nbs] at hs);simp (disch:=first|assumption|omega) only[go_sem, *];rfl))|((first|refine zAC ?_ ?_|refine zAB ?_ ?_|refine sp_C ?_ ?_|refine sp_G ?_ ?_)<;>(intro hs;try simp only[nbs] at hs)))
    clear hs1 hya hxa hde hkx hky hsub hd1 hd2 hc
    refine zA0 (ι:=Nat×Nat×List AV×(Nat→Box)) (fun p=>[(0,.osl k 0 L.length),(1,.func 0 (.func 55) [] []),(5,.int .i64 p.2.1),(6,.osl k i (L.length-i)),(7,.int .i64 p.1)]) (fun p=>S m p.2.2.2 u)
     (fun p=>(1≤p.1∧i+p.1≤L.length∧p.2.1+1≤i+p.1)∧p.2.2.2 k=.row 35 1 p.2.2.1 false∧zEW p.2.2.1∧p.2.2.1.length=L.length∧(Lf.dd (L.take (i+p.1))).length=p.2.1∧p.2.2.1.take p.2.1=(Lf.dd (L.take (i+p.1))).map zAD∧(∀t,i+p.1≤t+1→p.2.2.1[t]?=(L[t]?).map zAD)∧∀t,t≠k→p.2.2.2 t=g t)
     (fun p=>L.length-p.1) ?_ (1,i,L.map zAD,g) ⟨by dsimp only;omega,hg,zCF L,List.length_map ..,by dsimp only;rw[hold,List.length_take];omega,by dsimp only;rw[hold,List.map_take],fun t _=>List.getElem?_map ..,fun _ _=>rfl⟩ ⟨rfl,rfl,rfl,rfl,rfl,trivial⟩ rfl
    rintro⟨kk,j,R,G⟩ b0 ⟨⟨hk1,hk2,hj1⟩,hG,hR,hRl,hjl,hRj,hRt,hGo⟩ hrec
    dsimp only at hk1 hk2 hj1 hG hR hRl hjl hRj hRt hGo hrec ⊢
    rcases Nat.lt_or_ge (i+kk) L.length with hlt2|hge2
    ·have hc:decide ((kk:Int)<((L.length-i:Nat):Int))=true:=decide_eq_true (by omega)
     have hd1:decide (kk<L.length-i)=true:=decide_eq_true (by omega)
     have hd2:decide (kk-1<L.length-i)=true:=decide_eq_true (by omega)
     have hd3:decide (j<L.length)=true:=decide_eq_true (by omega)
     have hsub:(kk:Int)-1=((kk-1:Nat):Int):=by omega
     have hx:L[i+kk]?=some L[i+kk]:=List.getElem?_eq_getElem hlt2
     have hy:L[i+kk-1]?=some L[i+kk-1]:=List.getElem?_eq_getElem (by omega)
     generalize L[i+kk]=x2 at hx
     generalize L[i+kk-1]=y2 at hy
     have hkx:=zBN hks hx
     have hky:=zBN hks hy
     have hxa:lnth R (i+kk)=some (zAD x2):=by rw[zCY,hRt _ (by omega),hx];rfl
     have hya:lnth R (i+(kk-1))=some (zAD y2):=by rw[zCY,hRt _ (by omega),show i+(kk-1)=i+kk-1 by omega,hy];rfl
     by_cases hxy:x2=y2
     ·subst hxy
      have hde:decide (x2=x2)=true:=decide_eq_true rfl
      have hold:=Lf.dd_old hx (by omega) hy
      repeat' (first|refine c55e hkx hky ?_|simp (disch:=first|assumption|omega) only[go_sem, *]|((first|apply gw_m|apply gw_q);focus (intro hs;(try simp only[nbs] at hs);simp (disch:=first|assumption|omega) only[go_sem, *];rfl))|((first|refine zAC ?_ ?_|refine zAB ?_ ?_|refine sp_C ?_ ?_|refine sp_G ?_ ?_)<;>(intro hs;try simp only[nbs] at hs)))
      exact hrec (kk+1,j,R,G) _ _ _ ⟨by dsimp only;omega,hG,hR,hRl,by dsimp only;rw[← Nat.add_assoc,hold];exact hjl,by dsimp only;rw[← Nat.add_assoc,hold];exact hRj,fun t ht=>hRt t (by dsimp only at ht;omega),hGo⟩ (by dsimp only;omega) ⟨rfl,rfl,rfl,rfl,rfl,trivial⟩ rfl
     ·have hde:decide (x2=y2)=false:=decide_eq_false hxy
      have hnew:=Lf.dd_new hx (.inr (by rw[hy];exact fun e=>hxy (Option.some.inj e).symm))
      have hst:=@st_row m k (0+j) G u R hk hG hR (by omega) x2
      rw[Nat.zero_add] at hst
      have hz:0+j=j:=Nat.zero_add j
      repeat' (first|refine c55e hkx hky ?_|simp (disch:=first|assumption|omega) only[go_sem, *]|((first|apply gw_m|apply gw_q);focus (intro hs;(try simp only[nbs] at hs);simp (disch:=first|assumption|omega) only[go_sem, *];rfl))|((first|refine zAC ?_ ?_|refine zAB ?_ ?_|refine sp_C ?_ ?_|refine sp_G ?_ ?_)<;>(intro hs;try simp only[nbs] at hs)))
      refine hrec (kk+1,j+1,R.set j (zAD x2),_) _ _ _ ⟨by dsimp only;omega,zAE,zWO hR _ _,by rw[← hRl];exact List.length_set,?_,?_,fun t ht=>?_,fun t ht=>?_⟩ (by dsimp only;omega) ⟨rfl,rfl,rfl,rfl,rfl,trivial⟩ rfl
      ·dsimp only;rw[← Nat.add_assoc,hnew,List.length_append,hjl];rfl
      ·dsimp only;rw[← Nat.add_assoc,hnew,List.map_append,← hRj,List.take_succ,List.take_set_of_le (Nat.le_refl _),List.getElem?_set_self (by omega)];rfl
      ·dsimp only at ht ⊢;rw[List.getElem?_set_ne (by omega)];exact hRt t (by omega)
      ·exact(zAA ht).trans (hGo t ht)
    ·have hc:decide ((kk:Int)<((L.length-i:Nat):Int))=false:=decide_eq_false (by omega)
     rw[List.take_of_length_le hge2] at hjl hRj
     have hs1:=@so_lo m k L.length j G u _ _ hk hG (by omega)
     have hcl:=@cl_row m k j (L.length-j) G u R hk hG (by omega)
     have hs2:=@so_hi m k L.length j (updB G k (.row 35 1 (R.take j++(List.replicate (L.length-j) zS++R.drop (j+(L.length-j)))) false)) u _ _ hk zAE (by omega)
     have h:=h (updB G k (.row 35 1 (R.take j++(List.replicate (L.length-j) zS++R.drop (j+(L.length-j)))) false)) _ zAE (zE9 (zH1 hR fun y hy=>List.mem_of_mem_take hy) (zE9 (zSB _) (zH1 hR fun y hy=>List.mem_of_mem_drop hy))) (by simp only[List.length_append,List.length_take,List.length_replicate,List.length_drop];omega) (by rw[hjl,List.take_append_of_le_length (by rw[List.length_take];omega),List.take_take,Nat.min_self];exact hRj) (fun t ht=>by rw[zAA ht];exact hGo t ht)
     rw[hjl] at h
     clear hrec hRj hRt
     repeat' (first|simp (disch:=first|assumption|omega) only[go_sem, *]|((first|apply gw_m|apply gw_q);focus (intro hs;(try simp only[nbs] at hs);simp (disch:=first|assumption|omega) only[go_sem, *];rfl))|((first|refine zAC ?_ ?_|refine zAB ?_ ?_|refine sp_C ?_ ?_|refine sp_G ?_ ?_)<;>(intro hs;try simp only[nbs] at hs)))
   ·have hde:decide (x=y)=false:=decide_eq_false hxy
    have hnew:=Lf.dd_new hx (.inr (by rw[hy];exact fun e=>hxy (Option.some.inj e).symm))
    rw[he,← Lf.take_snoc hx] at hnew
    repeat' (first|refine c55e hkx hky ?_|simp (disch:=first|assumption|omega) only[go_sem, *]|((first|apply gw_m|apply gw_q);focus (intro hs;(try simp only[nbs] at hs);simp (disch:=first|assumption|omega) only[go_sem, *];rfl))|((first|refine zAC ?_ ?_|refine zAB ?_ ?_|refine sp_C ?_ ?_|refine sp_G ?_ ?_)<;>(intro hs;try simp only[nbs] at hs)))
    exact hrec (i+1) _ _ _ ⟨by omega,hlt,hnew⟩ (by omega) ⟨rfl,rfl,rfl,trivial⟩ rfl
  ·have hc:decide ((i:Int)<L.length)=false:=decide_eq_false (by omega)
   rw[List.take_of_length_le hge] at he
   have h:=h g _ hg (zCF L) (List.length_map ..) (by rw[he,List.take_of_length_le (by simp)]) (fun _ _=>rfl)
   rw[he] at h
   repeat' (first|simp (disch:=first|assumption|omega) only[go_sem, *]|((first|apply gw_m|apply gw_q);focus (intro hs;(try simp only[nbs] at hs);simp (disch:=first|assumption|omega) only[go_sem, *];rfl))|((first|refine zAC ?_ ?_|refine zAB ?_ ?_|refine sp_C ?_ ?_|refine sp_G ?_ ?_)<;>(intro hs;try simp only[nbs] at hs)))
theorem c125n {m:Nat}{g:Nat→Box}{Q:CR→Sto→Prop}(h:Q (.ret (.sl 0 [] .clip)) (S m g [])):C E1 125 [.sl 0 [] .clip,.func 0 (.func 55) [] []] (S m g []) Q:=by
 have hu:zBS m []=true:=rfl
 have hu2:zAW m []=[]:=rfl
 refine zAM (md:=⟨false,true,true,false⟩) (fn:=Tryz.f125) (n:=66) (rs:=[.tmp 4]) rfl rfl rfl rfl rfl rfl rfl rfl (by simp only[go_sem, *];try rfl) (by rfl) ?_
 repeat' (first|simp (disch:=first|assumption|omega) only[go_sem, *]|((first|apply gw_m|apply gw_q);focus (intro hs;(try simp only[nbs] at hs);simp (disch:=first|assumption|omega) only[go_sem, *];rfl))|((first|refine zAC ?_ ?_|refine zAB ?_ ?_|refine sp_C ?_ ?_|refine sp_G ?_ ?_)<;>(intro hs;try simp only[nbs] at hs)))
theorem c87n {m:Nat}{g:Nat→Box}{Q:CR→Sto→Prop}(h:Q (.ret (.sl 0 [] .clip)) (S m g [])):C E1 87 [.sl 0 [] .shut] (S m g []) Q:=by
 have hu:zBS m []=true:=rfl
 have hu2:zAW m []=[]:=rfl
 have hcl:=fun s Q hq=>@c47n .shut s Q hq
 refine zAM (md:=⟨false,false,true,false⟩) (fn:=Tryz.f87) (n:=6) (rs:=[.tmp 2]) rfl rfl rfl rfl rfl rfl rfl rfl (by simp only[go_sem, *];try rfl) (by rfl) ?_
 repeat' (first|refine hcl _ _ ?_|refine c125n ?_|simp (disch:=first|assumption|omega) only[go_sem, *]|((first|apply gw_m|apply gw_q);focus (intro hs;(try simp only[nbs] at hs);simp (disch:=first|assumption|omega) only[go_sem, *];rfl))|((first|refine zAC ?_ ?_|refine zAB ?_ ?_|refine sp_C ?_ ?_|refine sp_G ?_ ?_)<;>(intro hs;try simp only[nbs] at hs)))
theorem c87 {L:List (List V)}{m:Nat}{g:Nat→Box}(h0:0<L.length)(hl:L.length<1000000)(hks:okS L)
  {Q:CR→Sto→Prop} (h:∀g' R,g' m=.row 35 1 R false→zEW R→R.length=L.length→R.take (Lf.dd L).length=(Lf.dd L).map zAD→(∀i,i<m→g' i=g i)→Q (.ret (.osl m 0 (Lf.dd L).length)) (S (m+1) g' [])):C E1 87 [.sl 0 (L.map zAD) .shut] (S m g []) Q:=by
 have hT:∀g u,(S (m+1) g u).done m (Nat.succ m)=S (m+1) g u:=fun _ _=>zHP (by omega)
 have hu:zBS m []=true:=rfl
 have hu2:zAW m []=[]:=rfl
 have hcl:=fun m g u Q hq=>@c47 L m g u h0 (by omega) Q hq
 have hcp:=fun Q hq=>@c125 L m (m+1) (updB g m (.row 35 1 (L.map zAD) false)) [] rfl rfl (Nat.lt_succ_self m) zAE h0 hl hks Q hq
 refine zAM (md:=⟨false,false,true,false⟩) (fn:=Tryz.f87) (n:=6) (rs:=[.tmp 2]) rfl rfl rfl rfl rfl rfl rfl rfl (by simp only[go_sem, *];try rfl) (by rfl) ?_
 repeat' (first|refine hcl _ _ _ _ ?_|refine hcp _ ?_|simp (disch:=first|assumption|omega) only[go_sem, *]|((first|apply gw_m|apply gw_q);focus (intro hs;(try simp only[nbs] at hs);simp (disch:=first|assumption|omega) only[go_sem, *];rfl))|((first|refine zAC ?_ ?_|refine zAB ?_ ?_|refine sp_C ?_ ?_|refine sp_G ?_ ?_)<;>(intro hs;try simp only[nbs] at hs)))
 intro g' R h1 h2 h3 h4 h5
 have h:=h g' R h1 h2 h3 h4 (fun i hi=>by rw[h5 i (by omega),zAA (by omega)])
 repeat' (first|simp (disch:=first|assumption|omega) only[go_sem, *]|((first|apply gw_m|apply gw_q);focus (intro hs;(try simp only[nbs] at hs);simp (disch:=first|assumption|omega) only[go_sem, *];rfl))|((first|refine zAC ?_ ?_|refine zAB ?_ ?_|refine sp_C ?_ ?_|refine sp_G ?_ ?_)<;>(intro hs;try simp only[nbs] at hs)))
end Go.Ab.X
end
