/- A part. -/
import Derived.Test.YtoolminfelljcaaGreatDoorK2
set_option linter.all false
noncomputable section
namespace Go.Ab
open Go
theorem zRU {a:Int}(h:0≤a∧a<18446744073709551616):IntKind.wrap .u64 a=a:=by
 unfold IntKind.wrap
 simp[IntKind.signed,IntKind.bits]
 omega
theorem wr_u64 {a:Int}(h:0≤a∧a<18446744073709551616):wr .u64 a=a:=by
 unfold wr
 rw[zRU h]
 cases inR .u64 a<;>rfl
theorem b_and32 {E:Env}{t:TypeId}{c:Bool}{a:Int}{s:Sto}(h:0≤a∧a<4294967296):binA E .and t c (.int .u64 a) (.int .u64 4294967295) s=some (.int .u64 a):=by
 obtain⟨n,rfl⟩:=Int.eq_ofNat_of_zero_le h.1
 have hn:n<4294967296:=by omega
 simp only[binA,isShift,zB6,cond_true,cond_false,arith]
 have e:(BitVec.ofInt 64 (n:Int) &&& BitVec.ofInt 64 4294967295).toNat=n:=by
  rw[BitVec.toNat_and]
  have h1:(BitVec.ofInt 64 (n:Int)).toNat=n:=by
   rw[BitVec.ofInt_natCast,BitVec.toNat_ofNat];omega
  have h2:(BitVec.ofInt 64 4294967295).toNat=2 ^ 32-1:=by decide
  rw[h1,h2,Nat.and_two_pow_sub_one_eq_mod];omega
 show some (AV.int .u64 (IntKind.wrap .u64 (((BitVec.ofInt 64 (n:Int) &&& BitVec.ofInt 64 4294967295).toNat:Nat):Int)))=_
 rw[e,zRU (by omega)]
theorem b_shr32 {E:Env}{t:TypeId}{c:Bool}{a:Int}{s:Sto}(h:0≤a∧a<4294967296):binA E .shr t c (.int .u64 a) (.int .u64 32) s=some (.int .u64 0):=by
 simp only[binA,isShift,cond_true,zR7]
 show(bif ilt 32 0 then none else some (AV.int .u64 (a.fdiv (2 ^ (min 32 64)))))=_
 rw[show ilt 32 0=false from rfl]
 simp only[cond_false]
 congr 2
 have:a.fdiv (2 ^ (min 32 64))=a / 4294967296:=by
  rw[Int.fdiv_eq_ediv_of_nonneg _ (by decide)];rfl
 rw[this];omega
theorem b_mulu {E:Env}{t:TypeId}{c:Bool}{a b:Int}{s:Sto}:binA E .mul t c (.int .u64 a) (.int .u64 b) s=some (.int .u64 (wr .u64 (a*b))):=by
 simp only[binA,isShift,zB6,cond_true,cond_false,arith]
theorem b_addu {E:Env}{t:TypeId}{c:Bool}{a b:Int}{s:Sto}:binA E .add t c (.int .u64 a) (.int .u64 b) s=some (.int .u64 (wr .u64 (a+b))):=by
 simp only[binA,isShift,zB6,cond_true,cond_false,arith]
theorem b_gtru {E:Env}{t:TypeId}{c:Bool}{a b:Int}{s:Sto}:binA E .gtr t c (.int .u64 a) (.int .u64 b) s=some (.bool (ilt b a)):=by
 simp only[binA,isShift,zB6,cond_true,cond_false,arith]
attribute [go_sem] wr_u64 b_and32 b_shr32 b_mulu b_addu b_gtru
end Go.Ab
namespace Go.Ab.X
open Go Go.Ab Go.Proofs Pl
set_option maxRecDepth 100000
set_option maxHeartbeats 2000000
theorem c124 {x y:Int}{s:Sto}(hx:0≤x∧x<65536)(hy:0≤y∧y<65536){Q:CR→Sto→Prop}(h:Q (.ret (.tuple [.int .u64 0,.int .u64 (x*y)])) s):C E1 124 [.int .u64 x,.int .u64 y] s Q:=by
 have hxy:0≤x*y∧x*y<4294967296:=⟨Int.mul_nonneg hx.1 hy.1,Int.lt_of_le_of_lt (Int.mul_le_mul (show x≤65535 by omega) (show y≤65535 by omega) hy.1 (by decide)) (by decide)⟩
 have h0:∀z:Int,0*z=0:=Int.zero_mul
 have h1:∀z:Int,z*0=0:=Int.mul_zero
 refine zAF (md:=⟨true,false,false,false⟩) (fn:=Tryz.f124) (n:=51) (rs:=[.tmp 4,.tmp 5]) rfl rfl rfl rfl rfl rfl rfl rfl (by simp only[go_sem, *];try rfl) (by rfl) (by simp only[go_sem]) ?_
 repeat' (first|simp (disch:=first|assumption|omega) only[go_sem, *]|((first|apply gw_m|apply gw_q);focus (intro hs;(try simp only[nbs] at hs);simp (disch:=first|assumption|omega) only[go_sem, *];rfl))|((first|refine zAC ?_ ?_|refine zAB ?_ ?_|refine sp_C ?_ ?_|refine sp_G ?_ ?_)<;>(intro hs;try simp only[nbs] at hs)))
theorem c86 {x y:Int}{s:Sto}(hx:0≤x∧x<65536)(hy:0≤y∧y<65536){Q:CR→Sto→Prop}(h:Q (.ret (.tuple [.int .u64 0,.int .u64 (x*y)])) s):C E1 86 [.int .u64 x,.int .u64 y] s Q:=by
 refine zAF (md:=⟨true,false,false,false⟩) (fn:=Tryz.f86) (n:=30) (rs:=[.tmp 4,.tmp 5]) rfl rfl rfl rfl rfl rfl rfl rfl (by simp only[go_sem, *];try rfl) (by rfl) (by simp only[go_sem]) ?_
 repeat' (first|refine c124 hx hy ?_|simp (disch:=first|assumption|omega) only[go_sem, *]|((first|apply gw_m|apply gw_q);focus (intro hs;(try simp only[nbs] at hs);simp (disch:=first|assumption|omega) only[go_sem, *];rfl))|((first|refine zAC ?_ ?_|refine zAB ?_ ?_|refine sp_C ?_ ?_|refine sp_G ?_ ?_)<;>(intro hs;try simp only[nbs] at hs)))
end Go.Ab.X
namespace Lf
theorem reps_take {α:Type}[DecidableEq α](x:List α)(T n c:Nat)(hx:0<x.length)(hd:x.length ∣ n)(hn:n+c≤T*x.length):(reps T x).take (n+c)=(reps T x).take n++((reps T x).take n).take c∨n<c:=by
 by_cases h:n<c
 ·exact .inr h
 ·refine .inl ?_
  apply List.ext_getElem?
  intro i
  have hl:=reps_len x T
  have hln:((reps T x).take n).length=n:=by rw[List.length_take,hl];omega
  by_cases h1:i<n
  ·rw[List.getElem?_append_left (by omega),List.getElem?_take,List.getElem?_take,if_pos (by omega),if_pos h1]
  ·rw[List.getElem?_append_right (by omega),hln,List.getElem?_take,List.getElem?_take,List.getElem?_take]
   by_cases h2:i<n+c
   ·rw[if_pos h2,if_pos (by omega),if_pos (by omega),zM3 _ _ _ (by omega),zM3 _ _ _ (by omega)]
    obtain⟨q,rfl⟩:=hd
    congr 1
    rw[show i=(i-x.length*q)+x.length*q by omega,Nat.add_mul_mod_self_left]
    congr 1;omega
   ·rw[if_neg h2,if_neg (by omega)]
end Lf
namespace Go.Ab.X
open Go Go.Ab Go.Proofs Pl
set_option maxRecDepth 100000
set_option maxHeartbeats 2000000
theorem conv_iu {n:Int}{s:Sto}(h:0≤n∧n<9223372036854775808):zFP E1 3 138 (some (.int .i64 n)) s=.val (.int .u64 n) s:=by
 show Nx.val (.int .u64 (wr .u64 n)) s=_
 rw[wr_u64 (by omega)]
theorem conv_ui {n:Int}{s:Sto}(h:0≤n∧n<9223372036854775808):zFP E1 138 3 (some (.int .u64 n)) s=.val (.int .i64 n) s:=by
 show Nx.val (.int .i64 (wr .i64 n)) s=_
 rw[wr_id (by omega)]
theorem mk_St {N m:Nat}{g:Nat→Box}{u:List (Nat×Nat)}(h:N<100000000):zB1 E1 22 (some (.int .i64 N)) (some (.int .i64 N)) (S m g u)=.val (.osl m 0 N) (S (m+1) (updB g m (.row 35 1 (List.replicate N zS) false)) u):=by
 show(bif Nat.ble N N&&(Nat.ble (N*24) limit&&Nat.ble N limit) then Nx.val (.osl (S m g u).n 0 N) ((S m g u).alloc (.row 35 1 (lrep zS N) false)) else .no)=_
 rw[limit_eq,zA8,zA8,zA8,decide_eq_true (Nat.le_refl N),decide_eq_true (show N*24≤140737488355328 by omega),decide_eq_true (show N≤140737488355328 by omega),zDD,zJA,S_n]
 rfl
theorem cp_gen {m k o dl:Nat}{g:Nat→Box}{u:List (Nat×Nat)}{xs ys:List AV}{y:AV}(hk:k<m)(hg:g k=.row 35 1 xs false)(hf:zAZ 1 ys=true)(hyl:ys.length≤dl)(hl:o+dl≤xs.length)(ht:tops ys=0)(he:zPA dl (S m g u) y=some (ys,S m g u)) :
  zPN E1 22 [.osl k o dl,y] (S m g u)=.val (.int .i64 ys.length) (S m (updB g k (.row 35 1 (xs.take o++(ys++xs.drop (o+ys.length))) false)) u):=by
 show(match zPA dl (S m g u) y with|some (ys,s)=>(match s.get k with|.row ty es xs false=>bif zAZ es ys&&(Nat.ble (llen ys) dl&&(Nat.ble (o+llen ys) (llen xs)&&Nat.beq es 1)) then Nx.val (.int .i64 (.ofNat (llen ys))) ((s.put k (.row ty es (splice xs o ys) false)).note k (tops ys)) else .no|_=>.no)|none=>.no)=_
 rw[he]
 dsimp only
 rw[zEM hk,hg]
 dsimp only
 rw[hf,zAG,zAG,zA8,zA8,decide_eq_true hyl,decide_eq_true (show o+ys.length≤xs.length by omega),zNW hk,zIO (by rw[ht];omega)]
 simp only[splice,zBB,zA6,zBI,zAG]
 rfl
theorem zVK {xs:List AV}(h:tops xs=0)(n o:Nat):tops ((xs.drop o).take n)=0:=Nat.le_zero.1 (zAR.2 fun y hy=>zAR.1 (Nat.le_of_eq h) y (List.mem_of_mem_drop (List.mem_of_mem_take hy)))
theorem zYJ {es:Nat}:∀{xs:List AV},zAZ es xs=true→∀ys:List AV,(∀y∈ys,y∈xs)→zAZ es ys=true:=by
 intro xs h ys
 induction ys with
 | nil=>intro _;rfl
 | cons a r ih=>
  intro hm
  have h1:=zC0 h a (hm a (List.mem_cons_self ..))
  have h2:=ih fun y hy=>hm y (List.mem_cons_of_mem _ hy)
  show(bif Nat.beq (llen (cellsOf a)) es&&flatC (cellsOf a) then zAZ es r else false)=true
  rw[zAG,h1.1,h1.2,Nat.beq_refl,h2];rfl
theorem cp_sl {m k o dl:Nat}{g:Nat→Box}{u:List (Nat×Nat)}{xs ys:List AV}(hk:k<m)(hg:g k=.row 35 1 xs false)(hf:zAZ 1 ys=true)(hl:o+dl≤xs.length)(ht:tops ys=0) :
  zPN E1 22 [.osl k o dl,.sl 0 ys .shut] (S m g u)=.val (.int .i64 (min ys.length dl:Nat)) (S m (updB g k (.row 35 1 (xs.take o++(ys.take (min ys.length dl)++xs.drop (o+min ys.length dl))) false)) u):=by
 have h0:(ys.take (min ys.length dl)).length=min ys.length dl:=by rw[List.length_take];omega
 have:=cp_gen (u:=u) (y:=.sl 0 ys .shut) (ys:=ys.take (min ys.length dl)) hk hg (zYJ hf _ fun y hy=>List.mem_of_mem_take hy) (by omega) hl (by have:=zVK ht (min ys.length dl) 0;rwa [List.drop_zero] at this) (by
  show some (ltake ys (Nat.min (llen ys) dl),S m g u)=_
  rw[zA6,zAG])
 rw[h0] at this;exact this
theorem cp_osl {m k o dl o2 n2:Nat}{g:Nat→Box}{u:List (Nat×Nat)}{xs:List AV}(hk:k<m)(hg:g k=.row 35 1 xs false)(hf:zAZ 1 xs=true)(hl:o+dl≤xs.length)(h2:o2+n2≤xs.length)(ht:tops xs=0) :
  zPN E1 22 [.osl k o dl,.osl k o2 n2] (S m g u)=.val (.int .i64 (min n2 dl:Nat)) (S m (updB g k (.row 35 1 (xs.take o++((xs.drop o2).take (min n2 dl)++xs.drop (o+min n2 dl))) false)) u):=by
 have h0:((xs.drop o2).take (min n2 dl)).length=min n2 dl:=by rw[List.length_take,List.length_drop];omega
 have:=cp_gen (u:=u) (y:=.osl k o2 n2) (ys:=(xs.drop o2).take (min n2 dl)) hk hg (zYJ hf _ fun y hy=>List.mem_of_mem_drop (List.mem_of_mem_take hy)) (by omega) hl (zVK ht _ _) (by
  show(match(S m g u).get k with|.row _ _ xs _=>bif Nat.ble (o2+n2) (llen xs) then some (ltake (ldrop xs o2) (Nat.min n2 dl),S m g u) else none|_=>none)=_
  rw[zEM hk,hg]
  dsimp only
  rw[zA8,zAG,decide_eq_true h2,zA6,zBI];rfl)
 rw[h0] at this;exact this
theorem so_lo {m k N n:Nat}{g:Nat→Box}{u:List (Nat×Nat)}{xs:List AV}{sl:Bool}(hk:k<m)(hg:g k=.row 35 1 xs sl)(hn:n≤N):zC8 1 (.osl k 0 N) (some n) none none (S m g u)=some (.osl k n (N-n),S m g u):=by
 show zBQ 1 k 0 N (some n) none none _=_
 unfold zBQ
 rw[zEM hk,hg]
 simp only[Nat.beq_refl,cond_true,zBO,zA8,Nat.le_refl,hn,decide_true,Bool.and_self,Nat.zero_add]
theorem so_hi {m k N n:Nat}{g:Nat→Box}{u:List (Nat×Nat)}{xs:List AV}{sl:Bool}(hk:k<m)(hg:g k=.row 35 1 xs sl)(hn:n≤N):zC8 1 (.osl k 0 N) none (some n) none (S m g u)=some (.osl k 0 n,S m g u):=by
 show zBQ 1 k 0 N none (some n) none _=_
 unfold zBQ
 rw[zEM hk,hg]
 simp only[Nat.beq_refl,cond_true,zBO,zA8,hn,Nat.zero_le,decide_true,Bool.and_self,Nat.zero_add,Nat.sub_zero]
end Go.Ab.X
namespace Go.Ab.X
open Go Go.Ab Go.Proofs Pl
set_option maxRecDepth 100000
set_option maxHeartbeats 2000000
attribute [go_sem] conv_iu conv_ui
theorem top_zS:top zS=0:=by rw[zS_eq];rfl
theorem fits_mix (l:List (List V))(n:Nat):zAZ 1 (l.map zAD++List.replicate n zS)=true:=by
 induction l with
 | nil=>exact zYI n
 | cons a l ih=>exact ih
theorem tops_mix (l:List (List V))(n:Nat):tops (l.map zAD++List.replicate n zS)=0:=by
 rw[tops_apd,zA2,zVJ];rfl
theorem c48 {x:List (List V)}{T:Nat}{m:Nat}{g:Nat→Box}{u:List (Nat×Nat)}(h0:0<x.length)(hx:x.length<2000)(hT:T<2000){Q:CR→Sto→Prop}
  (h:∀g':Nat→Box,g' m=.row 35 1 ((Lf.reps T x).map zAD) false→(∀i,i<m→g' i=g i)→Q (.ret (.osl m 0 (x.length*T))) (S (m+1) g' u)):C E1 48 [.sl 0 (x.map zAD) .shut,.int .i64 T] (S m g u) Q:=by
 have hdn:∀g u,(S (m+1) g u).done m (Nat.succ m)=S (m+1) g u:=fun _ _=>zHP (by omega)
 obtain⟨N,hN⟩:∃N,x.length*T=N:=⟨_,rfl⟩
 have hNl:N<4000000:=by
  rw[← hN]
  exact Nat.lt_of_le_of_lt (Nat.mul_le_mul (Nat.le_of_lt_succ hx) (Nat.le_of_lt_succ hT)) (by decide)
 have hNi:(x.length:Int)*(T:Int)=(N:Int):=by rw[← hN];push_cast;rfl
 have hrl:(Lf.reps T x).length=N:=by rw[Lf.reps_len,← hN,Nat.mul_comm]
 have hneg:decide ((T:Int)<0)=false:=decide_eq_false (by omega)
 have hm:ilt 0 (0:Int)=false:=rfl
 have hmx:ilt 9223372036854775807 (N:Int)=false:=by rw[zGD];exact decide_eq_false (by omega)
 have hmx2:decide ((9223372036854775807:Int)<N)=false:=decide_eq_false (by omega)
 have hmk:=fun g=>@mk_St N m g u (by omega)
 have hc1:∀n:Nat,n≤N→(n=N∨x.length ∣ n)→n<N→n≤N-n∨N-n<n:=fun n _ _ _=>by omega
 rw[hN] at h
 refine zAM (md:=⟨false,false,true,false⟩) (fn:=Tryz.f48) (n:=48) (rs:=[.tmp 4]) rfl rfl rfl rfl rfl rfl rfl rfl (by simp only[go_sem, *];try rfl) (by rfl) ?_
 repeat' (first|refine c86 (by omega) (by omega) ?_|simp (disch:=first|assumption|omega) only[go_sem, *]|((first|apply gw_m|apply gw_q);focus (intro hs;(try simp only[nbs] at hs);simp (disch:=first|assumption|omega) only[go_sem, *];rfl))|((first|refine zAC ?_ ?_|refine zAB ?_ ?_|refine sp_C ?_ ?_|refine sp_G ?_ ?_)<;>(intro hs;try simp only[nbs] at hs)))
 have hcp:=@cp_sl (m+1) m 0 N (updB g m (.row 35 1 (List.replicate N zS) false)) u (List.replicate N zS) (x.map zAD) (Nat.lt_succ_self m) zAE (zCZ x) (by rw[List.length_replicate];omega) (zA2 x)
 rw[hcp]
 clear hcp
 rw[List.length_map,List.take_zero,List.nil_append,Nat.zero_add,List.drop_replicate,← List.map_take]
 repeat' (first|simp (disch:=first|assumption|omega) only[go_sem, *]|((first|apply gw_m|apply gw_q);focus (intro hs;(try simp only[nbs] at hs);simp (disch:=first|assumption|omega) only[go_sem, *];rfl))|((first|refine zAC ?_ ?_|refine zAB ?_ ?_|refine sp_C ?_ ?_|refine sp_G ?_ ?_)<;>(intro hs;try simp only[nbs] at hs)))
 refine zA0 (ι:=Nat×(Nat→Box)) (fun p=>[(7,.osl m 0 N),(8,.int .i64 p.1)]) (fun p=>S (m+1) p.2 u) (fun p=>p.1≤N∧(p.1=N∨x.length ∣ p.1∧0<p.1)∧p.2 m=.row 35 1 (((Lf.reps T x).take p.1).map zAD++List.replicate (N-p.1) zS) false∧∀i,i<m→p.2 i=g i) (fun p=>N-p.1) ?_ (min x.length N,_) ⟨Nat.min_le_right ..,?_,?_,fun i hi=>?_⟩ ⟨rfl,rfl,trivial⟩ rfl
 ·rintro⟨n,G⟩ b ⟨hn,hd,hGm,hlow⟩ hrec
  dsimp only at hn hd hGm hlow hrec ⊢
  rcases Nat.lt_or_ge n N with hlt|hge
  ·have hc:decide ((n:Int)<N)=true:=decide_eq_true (by omega)
   have hd:x.length ∣ n∧0<n:=by rcases hd with h|h<;>first|exact h|omega
   have hs1:=@so_lo (m+1) m N n G u _ _ (Nat.lt_succ_self m) hGm hn
   have hs2:=@so_hi (m+1) m N n G u _ _ (Nat.lt_succ_self m) hGm hn
   have hll:(((Lf.reps T x).take n).map zAD++List.replicate (N-n) zS).length=N:=by rw[List.length_append,List.length_map,List.length_take,List.length_replicate,hrl];omega
   have hcp:=@cp_osl (m+1) m n (N-n) 0 n G u _ (Nat.lt_succ_self m) hGm (fits_mix _ _) (by rw[hll];omega) (by rw[hll];omega) (tops_mix _ _)
   have hrow:(((Lf.reps T x).take n).map zAD++List.replicate (N-n) zS).take n++(((((Lf.reps T x).take n).map zAD++List.replicate (N-n) zS).drop 0).take (min n (N-n))++(((Lf.reps T x).take n).map zAD++List.replicate (N-n) zS).drop (n+min n (N-n)))=((Lf.reps T x).take (n+min n (N-n))).map zAD++List.replicate (N-(n+min n (N-n))) zS:=by
    have hl1:(((Lf.reps T x).take n).map zAD).length=n:=by rw[List.length_map,List.length_take,hrl];omega
    rw[List.drop_zero,List.take_append_of_le_length (by omega),List.take_of_length_le (by omega),List.take_append_of_le_length (by omega),List.drop_append,List.drop_eq_nil_of_le (by omega),List.nil_append,hl1,List.drop_replicate,← List.map_take,← List.append_assoc,← List.map_append]
    rcases Lf.reps_take x T n (min n (N-n)) h0 hd.1 (by rw[Nat.mul_comm,hN];omega) with e|e
    ·rw[← e];congr 2;omega
    ·omega
   rw[hrow] at hcp
   clear hrow hll hmk hc1 h
   repeat' (first|simp (disch:=first|assumption|omega) only[go_sem, *]|((first|apply gw_m|apply gw_q);focus (intro hs;(try simp only[nbs] at hs);simp (disch:=first|assumption|omega) only[go_sem, *];rfl))|((first|refine zAC ?_ ?_|refine zAB ?_ ?_|refine sp_C ?_ ?_|refine sp_G ?_ ?_)<;>(intro hs;try simp only[nbs] at hs)))
   refine hrec (n+min n (N-n),_) _ _ _ ⟨by dsimp only;omega,?_,zAE,fun i hi=>?_⟩ (by dsimp only;omega) ⟨rfl,congrArg (fun z=>some (AV.int .i64 z)) (by dsimp only;omega),trivial⟩ rfl
   ·dsimp only
    by_cases h2:n≤N-n
    ·exact .inr ⟨by rw[Nat.min_eq_left h2];exact Nat.dvd_add hd.1 hd.1,by omega⟩
    ·exact .inl (by omega)
   ·show updB G m _ i=g i
    rw[zAA (by omega)];exact hlow i hi
  ·have hc:decide ((n:Int)<N)=false:=decide_eq_false (by omega)
   have hnN:n=N:=by omega
   subst hnN
   rw[Nat.sub_self,List.replicate_zero,List.append_nil,List.take_of_length_le (by omega)] at hGm
   have hq:=h G hGm hlow
   clear h hrec
   repeat' (first|simp (disch:=first|assumption|omega) only[go_sem, *]|((first|apply gw_m|apply gw_q);focus (intro hs;(try simp only[nbs] at hs);simp (disch:=first|assumption|omega) only[go_sem, *];rfl))|((first|refine zAC ?_ ?_|refine zAB ?_ ?_|refine sp_C ?_ ?_|refine sp_G ?_ ?_)<;>(intro hs;try simp only[nbs] at hs)))
 ·dsimp only
  rcases Nat.eq_zero_or_pos T with e|e
  ·exact .inl (by rw[← hN,e];simp)
  ·have:x.length≤N:=by rw[← hN];exact Nat.le_mul_of_pos_right _ e
   exact .inr ⟨by rw[Nat.min_eq_left this];exact Nat.dvd_refl _,by omega⟩
 ·show updB _ m _ m=_
  rw[zAE]
  congr 2
  rcases Nat.eq_zero_or_pos T with e|e
  ·have:N=0:=by rw[← hN,e];simp
   rw[this];simp
  ·obtain⟨t,rfl⟩:∃t,T=t+1:=⟨T-1,by omega⟩
   have:x.length≤N:=by rw[← hN];exact Nat.le_mul_of_pos_right _ e
   rw[Nat.min_eq_left this,List.take_length]
   show _=((x++Lf.reps t x).take x.length).map zAD
   rw[List.take_left]
 ·show updB (updB g m _) m _ i=g i
  rw[zAA (by omega),zAA (by omega)]
end Go.Ab.X
namespace Pl
def stuX (a:Las)(i t:Nat)(x:List V):Las:=⟨a.st.take i++(List.replicate t x++a.st.drop i),if(i:Int)<a.back then a.back+t else a.back⟩
def stuL (a:Las)(n t:Int):Las×Int:=if isL a=false then(zLas,130) else if n<0∨(a.st.length:Int)≤n∨t<0∨1000<t then(zLas,1) else if 1000<(a.st.length:Int)+t then(zLas,2) else(stuX a n.toNat t.toNat (a.st.getD n.toNat []),0)
end Pl
namespace Go.Ab.X
open Go Go.Ab Go.Proofs Pl
set_option maxRecDepth 100000
set_option maxHeartbeats 2000000
theorem c46 {l y:List (List V)}{m k k2 i n p:Nat}{g:Nat→Box}{u:List (Nat×Nat)}(hk:k<m)(hk2:k2<m)(hne:k≠k2)(hg:g k=.row 35 1 (l.map zAD) false)(hg2:g k2=.row 35 1 (y.map zAD) false)(hn:n=l.length)(hp:p=y.length)(hi:i<l.length)(hy:0<y.length)(hb:l.length+y.length≤1048576)
  {Q:CR→Sto→Prop} (h:Q (.ret (.osl m 0 (n+p))) (S (m+1) (updB (updB g k .dead) m (.row 35 1 ((l.take i++(y++l.drop i)).map zAD) false)) u)):C E1 46 [.osl k 0 n,.int .i64 i,.osl k2 0 p] (S m g u) Q:=by
 subst hn;subst hp
 refine C_ins (e:=35) rfl rfl ?_ h
 show zME 35 i y.length l.length k k2 (S m g u)=_
 unfold zME
 rw[zEM hk,hg]
 dsimp only
 rw[zEM hk2,hg2]
 dsimp only
 have e1:Nat.beq k k2=false:=by rw[zI8];exact decide_eq_false hne
 have e2:Nat.blt i l.length=true:=by rw[Nat.blt_eq];exact hi
 have e3:Nat.blt 0 y.length=true:=by rw[Nat.blt_eq];exact hy
 have e4:Nat.ble (l.length+y.length) 1048576=true:=Nat.ble_eq_true_of_le hb
 rw[zAG,zAG,List.length_map,List.length_map,Nat.beq_refl,Nat.beq_refl,e1,e2,e3,e4,zCZ,zCZ,Nat.beq_refl,Nat.beq_refl]
 simp only[Bool.not_false,Bool.and_self,cond_true,zNW hk,zJA,S_n,zBB,zA6,zBI]
 rw[← List.map_take,← List.map_drop,← List.map_append,← List.map_append,zIO (by rw[zA2];omega)]
theorem c46n {l:List (List V)}{i:Nat}{s:Sto}(hi:i≤l.length){Q:CR→Sto→Prop}(h:Q (.ret (.sl 0 (l.map zAD) .shut)) s):C E1 46 [.sl 0 (l.map zAD) .shut,.int .i64 i,.sl 0 [] .shut] s Q:=by
 refine zAF (md:=⟨true,false,false,false⟩) (fn:=Tryz.f46) (n:=95) (rs:=[.tmp 6]) rfl rfl rfl rfl rfl rfl rfl rfl (by simp only[go_sem, *];try rfl) (by rfl) (by simp only[go_sem]) ?_
 repeat' (first|simp (disch:=first|assumption|omega) only[go_sem, *]|((first|apply gw_m|apply gw_q);focus (intro hs;(try simp only[nbs] at hs);simp (disch:=first|assumption|omega) only[go_sem, *];rfl))|((first|refine zAC ?_ ?_|refine zAB ?_ ?_|refine sp_C ?_ ?_|refine sp_G ?_ ?_)<;>(intro hs;try simp only[nbs] at hs)))
end Go.Ab.X
namespace Go.Ab.X
open Go Go.Ab Go.Proofs Pl
set_option maxRecDepth 100000
set_option maxHeartbeats 2000000
theorem c46z {l:List (List V)}{m k k2 i n:Nat}{g:Nat→Box}{u:List (Nat×Nat)}(hk:k<m)(hk2:k2<m)(hne:k≠k2)(hg:g k=.row 35 1 (l.map zAD) false)(hg2:g k2=.row 35 1 [] false)(hn:n=l.length)(hi:i≤l.length)
  {Q:CR→Sto→Prop} (h:Q (.ret (.sl 0 (l.map zAD) .shut)) (S m (updB (updB g k (.row 35 1 (l.map zAD) true)) k2 (.row 35 1 [] true)) u)):C E1 46 [.osl k 0 n,.int .i64 i,.osl k2 0 0] (S m g u) Q:=by
 have h1:=zEQ (n:=n) (u:=u) hk hg (by rw[List.length_map];exact hn) (zA2 l)
 have h2:=zEQ (n:=0) (u:=u) (g:=updB g k (.row 35 1 (l.map zAD) true)) hk2 (by rw[zAA (Ne.symm hne)];exact hg2) rfl rfl
 have hs:zBJ (S m g u) [.osl k 0 n,.int .i64 i,.osl k2 0 0]=some ([.sl 0 (l.map zAD) .shut,.int .i64 i,.sl 0 [] .shut],S m (updB (updB g k (.row 35 1 (l.map zAD) true)) k2 (.row 35 1 [] true)) u):=by
  unfold zBJ;rw[h1]
  dsimp only
  unfold zBJ;rw[zR8]
  dsimp only
  unfold zBJ;rw[h2]
  rfl
 refine zF0 (args1:=[.sl 0 (l.map zAD) .shut,.int .i64 i,.sl 0 [] .shut]) rfl rfl ?_ rfl rfl hs rfl (c46n hi h)
 show zME 35 i 0 n k k2 (S m g u)=none
 unfold zME
 rw[zEM hk,hg]
 dsimp only
 rw[zEM hk2,hg2]
 dsimp only
 have e3:Nat.blt 0 0=false:=rfl
 rw[e3]
 simp
theorem zSE {α:Type}[DecidableEq α](x:α):∀t,Lf.reps t [x]=List.replicate t x
 | 0=>rfl
 | t+1=>by rw[Lf.reps,zSE x t];rfl
theorem c48o {y:List V}{T m:Nat}{g:Nat→Box}{u:List (Nat×Nat)}(hT:T<2000){Q:CR→Sto→Prop}
  (h:∀g':Nat→Box,g' m=.row 35 1 ((List.replicate T y).map zAD) false→(∀i,i<m→g' i=g i)→Q (.ret (.osl m 0 T)) (S (m+1) g' u)):C E1 48 [.sl 0 [zAD y] .clip,.int .i64 T] (S m g u) Q:=by
 refine zF0 (args1:=[.sl 0 ([y].map zAD) .shut,.int .i64 T]) rfl rfl rfl rfl rfl rfl rfl ?_
 refine c48 (x:=[y]) (by simp) (by simp) hT ?_
 rw[zSE,show [y].length*T=T by simp];exact h
theorem stuL_1 {st:List (List V)}{b:Int}{n t:Int}(hb:isL ⟨st,b⟩=false):stuL ⟨st,b⟩ n t=(zLas,130):=by unfold stuL;rw[if_pos hb]
theorem stuL_2 {st:List (List V)}{b:Int}{n t:Int}(hb:isL ⟨st,b⟩=true)(h:n<0∨(st.length:Int)≤n∨t<0∨1000<t):stuL ⟨st,b⟩ n t=(zLas,1):=by unfold stuL;rw[if_neg (by rw[hb];simp),if_pos h]
theorem stuL_3 {st:List (List V)}{b:Int}{n t:Int}(hb:isL ⟨st,b⟩=true)(h:¬ (n<0∨(st.length:Int)≤n∨t<0∨1000<t))(h2:1000<(st.length:Int)+t):stuL ⟨st,b⟩ n t=(zLas,2):=by unfold stuL;rw[if_neg (by rw[hb];simp),if_neg h,if_pos h2]
theorem stuL_4 {st:List (List V)}{b:Int}{i t:Nat}(hb:isL ⟨st,b⟩=true)(h:i<st.length)(h2:st.length+t≤1000):stuL ⟨st,b⟩ i t=(stuX ⟨st,b⟩ i t st[i],0):=by
 unfold stuL;rw[if_neg (by rw[hb];simp),if_neg (by simp;omega),if_neg (by simp;omega)]
 show(stuX ⟨st,b⟩ i t (st.getD i []),(0:Int))=_
 rw[List.getD_eq_getElem?_getD,List.getElem?_eq_getElem h];rfl
theorem c10 {a:Las}{n t:Int}{s:Sto}(hl:a.st.length<1073741824)(ht:-9223372036854775808≤t∧t<9223372036854775808){Q:CR→Sto→Prop}(h:Q (.ret (.tuple [zAK (stuL a n t).1,.int .i64 (stuL a n t).2])) s):C E1 10 [zAK a,.int .i64 n,.int .i64 t] s Q:=by
 obtain⟨st,b⟩:=a
 have hl:st.length<1073741824:=hl
 refine zE1 (st:=st) (b:=b) (fun hb=>?_) (fun j hj h1 h2 h3=>?_)
 ·rw[stuL_1 hb] at h
  have h:Q (.ret (.tuple [.agg [.sl 0 [] .shut,.int .i64 0],.int .i64 130])) s:=h
  have ha:∀r z,askE ⟨st,b⟩ r z=130:=fun r z=>by unfold askE;rw[if_pos hb]
  refine zAF (md:=⟨true,false,false,false⟩) (fn:=Tryz.f10) (n:=66) (rs:=[.cell 6 24,.tmp 7]) rfl rfl rfl rfl rfl rfl rfl rfl (by simp only[go_sem, *];try rfl) (by rfl) (by simp only[go_sem]) ?_
  repeat' (first|refine c43 hl ?_|simp (disch:=first|assumption|omega) only[go_sem, *]|((first|apply gw_m|apply gw_q);focus (intro hs;(try simp only[nbs] at hs);simp (disch:=first|assumption|omega) only[go_sem, *];rfl))|((first|refine zAC ?_ ?_|refine zAB ?_ ?_|refine sp_C ?_ ?_|refine sp_G ?_ ?_)<;>(intro hs;try simp only[nbs] at hs)))
 ·subst hj
  have hb:=zG1 h1 h2 h3
  by_cases hn:n<0∨(st.length:Int)≤n∨t<0∨1000<t
  ·rw[stuL_2 hb hn] at h
   have h:Q (.ret (.tuple [.agg [.sl 0 [] .shut,.int .i64 0],.int .i64 1])) s:=h
   have ha:∀z,askE ⟨st,j⟩ false z=1:=fun z=>by unfold askE;rw[if_neg (by rw[hb];simp),if_pos rfl]
   have hc:((((decide (0≤n)&&decide (n<st.length))&&decide (0≤t))&&decide (t≤1000)))=false:=by
    rw[← Bool.not_eq_true];simp;omega
   refine zAF (md:=⟨true,false,false,false⟩) (fn:=Tryz.f10) (n:=66) (rs:=[.cell 6 24,.tmp 7]) rfl rfl rfl rfl rfl rfl rfl rfl (by simp only[go_sem, *];try rfl) (by rfl) (by simp only[go_sem]) ?_
   repeat' (first|refine c43 hl ?_|simp (disch:=first|assumption|omega) only[go_sem, *]|((first|apply gw_m|apply gw_q);focus (intro hs;(try simp only[nbs] at hs);simp (disch:=first|assumption|omega) only[go_sem, *];rfl))|((first|refine zAC ?_ ?_|refine zAB ?_ ?_|refine sp_C ?_ ?_|refine sp_G ?_ ?_)<;>(intro hs;try simp only[nbs] at hs)))
  ·have hbnd:0≤n∧n<st.length∧0≤t∧t≤1000:=by omega
   obtain⟨i,rfl⟩:=Int.eq_ofNat_of_zero_le hbnd.1
   obtain⟨k,rfl⟩:=Int.eq_ofNat_of_zero_le hbnd.2.2.1
   have hil:i<st.length:=by omega
   have hc1:decide ((0:Int)≤i)=true:=by simp
   have hc2:decide ((i:Int)<st.length)=true:=by simp;omega
   have hc3:decide ((0:Int)≤k)=true:=by simp
   have hc4:decide ((k:Int)≤1000)=true:=by simp;omega
   by_cases hbig:1000<(st.length:Int)+k
   ·rw[stuL_3 hb hn hbig] at h
    have h:Q (.ret (.tuple [.agg [.sl 0 [] .shut,.int .i64 0],.int .i64 2])) s:=h
    have ha:askE ⟨st,j⟩ true ((st.length:Int)+k)=2:=by unfold askE;rw[if_neg (by rw[hb];simp),if_neg (by simp),if_pos hbig]
    refine zAF (md:=⟨true,false,false,false⟩) (fn:=Tryz.f10) (n:=66) (rs:=[.cell 6 24,.tmp 7]) rfl rfl rfl rfl rfl rfl rfl rfl (by simp only[go_sem, *];try rfl) (by rfl) (by simp only[go_sem]) ?_
    repeat' (first|refine c43 hl ?_|simp (disch:=first|assumption|omega) only[go_sem, *]|((first|apply gw_m|apply gw_q);focus (intro hs;(try simp only[nbs] at hs);simp (disch:=first|assumption|omega) only[go_sem, *];rfl))|((first|refine zAC ?_ ?_|refine zAB ?_ ?_|refine sp_C ?_ ?_|refine sp_G ?_ ?_)<;>(intro hs;try simp only[nbs] at hs)))
   ·rw[stuL_4 hb hil (by omega)] at h
    have ha:askE ⟨st,j⟩ true ((st.length:Int)+k)=0:=by unfold askE;rw[if_neg (by rw[hb];simp),if_neg (by simp),if_neg hbig]
    have hx:st[i]?=some st[i]:=List.getElem?_eq_getElem hil
    generalize st[i]=x at h hx
    have hcl:=fun m g u Q hq=>@c47 st m g u (by omega) (by omega) Q hq
    have hrp:=fun m g u Q hq=>@c48o x k m g u (by omega) Q hq
    have hpre:∀z,z=0∨0<z:=fun z=>Nat.eq_zero_or_pos z
    have hst:stuX ⟨st,j⟩ i k x=⟨st.take i++(List.replicate k x++st.drop i),if(i:Int)<j then(j:Int)+k else j⟩:=rfl
    rw[hst] at h
    clear hst
    have hln:(st.take i++(List.replicate k x++st.drop i)).length=st.length+k:=by simp only[List.length_append,List.length_take,List.length_drop,List.length_replicate];omega
    rcases hpre k with hk0|hk0
    ·subst hk0
     have he:st.take i++(List.replicate 0 x++st.drop i)=st:=by rw[List.replicate_zero,List.nil_append,List.take_append_drop]
     rw[he] at h
     have ha0:askE ⟨st,j⟩ true ((st.length:Int)+0)=0:=ha
     have h:Q (.ret (.tuple [.agg [.sl 0 (st.map zAD) .shut,.int .i64 (if(i:Int)<j then(j:Int)+0 else j)],.int .i64 0])) s:=h
     clear hpre he hln
     refine zAF (md:=⟨true,false,false,false⟩) (fn:=Tryz.f10) (n:=66) (rs:=[.cell 6 24,.tmp 7]) rfl rfl rfl rfl rfl rfl rfl rfl (by simp only[go_sem, *];try rfl) (by rfl) (by simp only[go_sem]) ?_
     repeat' (first|refine c43 hl ?_|refine hcl _ _ _ _ ?_|refine hrp _ _ _ _ ?_|simp (disch:=first|assumption|omega) only[go_sem, *]|((first|apply gw_m|apply gw_q);focus (intro hs;(try simp only[nbs] at hs);simp (disch:=first|assumption|omega) only[go_sem, *];rfl))|((first|refine zAC ?_ ?_|refine zAB ?_ ?_|refine sp_C ?_ ?_|refine sp_G ?_ ?_)<;>(intro hs;try simp only[nbs] at hs)))
     intro g' hg1 hg2
     have h00:=hg2 0 (by omega)
     have h01:=hg2 1 (by omega)
     have h02:=hg2 2 (by omega)
     rw[zAA (by omega),zAA (by omega),zAE] at h00
     rw[zAA (by omega),zAE] at h01
     rw[zAE] at h02
     have hz:=fun u Q hq=>@c46z st 4 2 3 i st.length g' u (by omega) (by omega) (by omega) h02 hg1 rfl (by omega) Q hq
     clear hg2 hcl hrp
     repeat' (first|refine hz _ _ ?_|simp (disch:=first|assumption|omega) only[go_sem, *]|((first|apply gw_m|apply gw_q);focus (intro hs;(try simp only[nbs] at hs);simp (disch:=first|assumption|omega) only[go_sem, *];rfl))|((first|refine zAC ?_ ?_|refine zAB ?_ ?_|refine sp_C ?_ ?_|refine sp_G ?_ ?_)<;>(intro hs;try simp only[nbs] at hs)))
     ·rw[if_pos hs] at h
      repeat' (first|simp (disch:=first|assumption|omega) only[go_sem, *]|((first|apply gw_m|apply gw_q);focus (intro hs;(try simp only[nbs] at hs);simp (disch:=first|assumption|omega) only[go_sem, *];rfl))|((first|refine zAC ?_ ?_|refine zAB ?_ ?_|refine sp_C ?_ ?_|refine sp_G ?_ ?_)<;>(intro hs;try simp only[nbs] at hs)))
     ·rw[if_neg hs] at h
      repeat' (first|simp (disch:=first|assumption|omega) only[go_sem, *]|((first|apply gw_m|apply gw_q);focus (intro hs;(try simp only[nbs] at hs);simp (disch:=first|assumption|omega) only[go_sem, *];rfl))|((first|refine zAC ?_ ?_|refine zAB ?_ ?_|refine sp_C ?_ ?_|refine sp_G ?_ ?_)<;>(intro hs;try simp only[nbs] at hs)))
    ·clear hpre
     refine zAF (md:=⟨true,false,false,false⟩) (fn:=Tryz.f10) (n:=66) (rs:=[.cell 6 24,.tmp 7]) rfl rfl rfl rfl rfl rfl rfl rfl (by simp only[go_sem, *];try rfl) (by rfl) (by simp only[go_sem]) ?_
     repeat' (first|refine c43 hl ?_|refine hcl _ _ _ _ ?_|refine hrp _ _ _ _ ?_|simp (disch:=first|assumption|omega) only[go_sem, *]|((first|apply gw_m|apply gw_q);focus (intro hs;(try simp only[nbs] at hs);simp (disch:=first|assumption|omega) only[go_sem, *];rfl))|((first|refine zAC ?_ ?_|refine zAB ?_ ?_|refine sp_C ?_ ?_|refine sp_G ?_ ?_)<;>(intro hs;try simp only[nbs] at hs)))
     intro g' hg1 hg2
     have h00:=hg2 0 (by omega)
     have h01:=hg2 1 (by omega)
     have h02:=hg2 2 (by omega)
     rw[zAA (by omega),zAA (by omega),zAE] at h00
     rw[zAA (by omega),zAE] at h01
     rw[zAE] at h02
     have hz:=fun u Q hq=>@c46 st (List.replicate k x) 4 2 3 i st.length k g' u (by omega) (by omega) (by omega) h02 hg1 rfl (by rw[List.length_replicate]) (by omega) (by rw[List.length_replicate];omega) (by rw[List.length_replicate];omega) Q hq
     clear hg2 hcl hrp
     repeat' (first|refine hz _ _ ?_|simp (disch:=first|assumption|omega) only[go_sem, *]|((first|apply gw_m|apply gw_q);focus (intro hs;(try simp only[nbs] at hs);simp (disch:=first|assumption|omega) only[go_sem, *];rfl))|((first|refine zAC ?_ ?_|refine zAB ?_ ?_|refine sp_C ?_ ?_|refine sp_G ?_ ?_)<;>(intro hs;try simp only[nbs] at hs)))
     ·rw[if_pos hs] at h
      rw[zBV (l:=st.take i++(List.replicate k x++st.drop i)) (sl:=false) (by omega) (by simp (disch:=first|assumption|omega) only[go_sem, *]) hln.symm]
      repeat' (first|simp (disch:=first|assumption|omega) only[go_sem, *]|((first|apply gw_m|apply gw_q);focus (intro hs;(try simp only[nbs] at hs);simp (disch:=first|assumption|omega) only[go_sem, *];rfl))|((first|refine zAC ?_ ?_|refine zAB ?_ ?_|refine sp_C ?_ ?_|refine sp_G ?_ ?_)<;>(intro hs;try simp only[nbs] at hs)))
     ·rw[if_neg hs] at h
      rw[zBV (l:=st.take i++(List.replicate k x++st.drop i)) (sl:=false) (by omega) (by simp (disch:=first|assumption|omega) only[go_sem, *]) hln.symm]
      repeat' (first|simp (disch:=first|assumption|omega) only[go_sem, *]|((first|apply gw_m|apply gw_q);focus (intro hs;(try simp only[nbs] at hs);simp (disch:=first|assumption|omega) only[go_sem, *];rfl))|((first|refine zAC ?_ ?_|refine zAB ?_ ?_|refine sp_C ?_ ?_|refine sp_G ?_ ?_)<;>(intro hs;try simp only[nbs] at hs)))
end Go.Ab.X
namespace Go.Ab.X
open Go Go.Ab Go.Proofs Pl
set_option maxRecDepth 100000
set_option maxHeartbeats 4000000
theorem ap_one (X:List (List V))(x:List V)(hn:X.length<100000000){q n:Nat}{g:Nat→Box}{u:List (Nat×Nat)}(hg:g q=.row 35 1 (X.map zAD) false)(hl:n=X.length):zAX 35 1 24 (.osl q 0 n) [zAD x] (S (q+1) g u)=some (.osl (q+1) 0 (n+1),S (q+1+1) (updB (updB g q .dead) (q+1) (.row 35 1 ((X++[x]).map zAD) false)) u):=by
 have:=zPT X [x] (by simp) (by simp;omega) (m:=q+1) (n:=n) (u:=u) (Nat.lt_succ_self q) hg hl
 exact this
theorem ap_nil (q n:Nat)(s:Sto):zAX 35 1 24 (.osl q 0 n) [] s=some (.osl q 0 n,s):=rfl
theorem stu_eq {st:List (List V)}{i k:Nat}{x:List V}(hx:st[i]?=some x):st.take i++(List.replicate k x++st.drop i)=st.take (i+1)++List.replicate k x++st.drop (i+1):=by
 have hi:i<st.length:=by
  rcases Nat.lt_or_ge i st.length with h|h
  ·exact h
  ·rw[List.getElem?_eq_none h] at hx;cases hx
 rw[List.getElem?_eq_getElem hi] at hx
 have e:=Option.some.inj hx
 rw[List.drop_eq_getElem_cons hi,List.take_succ_eq_append_getElem hi,e]
 have:List.replicate k x++x :: st.drop (i+1)=x :: (List.replicate k x++st.drop (i+1)):=by
  rw[← List.cons_append,← List.replicate_succ,List.replicate_succ'];simp
 rw[this];simp
theorem c11 {a:Las}{n t:Int}{s:Sto}(hl:a.st.length<1073741824){Q:CR→Sto→Prop}(h:Q (.ret (.tuple [zAK (stuL a n t).1,.int .i64 (stuL a n t).2])) s):C E1 11 [zAK a,.int .i64 n,.int .i64 t] s Q:=by
 obtain⟨st,b⟩:=a
 have hl:st.length<1073741824:=hl
 refine zE1 (st:=st) (b:=b) (fun hb=>?_) (fun j hj h1 h2 h3=>?_)
 ·rw[stuL_1 hb] at h
  have h:Q (.ret (.tuple [.agg [.sl 0 [] .shut,.int .i64 0],.int .i64 130])) s:=h
  refine zAF (md:=⟨true,false,false,false⟩) (fn:=Tryz.f11) (n:=85) (rs:=[.cell 6 24,.tmp 7]) rfl rfl rfl rfl rfl rfl rfl rfl (by simp only[go_sem, *];try rfl) (by rfl) (by simp only[go_sem]) ?_
  repeat' (first|refine c20 hl ?_|simp (disch:=first|assumption|omega) only[go_sem, *]|((first|apply gw_m|apply gw_q);focus (intro hs;(try simp only[nbs] at hs);simp (disch:=first|assumption|omega) only[go_sem, *];rfl))|((first|refine zAC ?_ ?_|refine zAB ?_ ?_|refine sp_C ?_ ?_|refine sp_G ?_ ?_)<;>(intro hs;try simp only[nbs] at hs)))
 ·subst hj
  have hb:=zG1 h1 h2 h3
  by_cases hn:n<0∨(st.length:Int)≤n∨t<0∨1000<t
  ·rw[stuL_2 hb hn] at h
   have h:Q (.ret (.tuple [.agg [.sl 0 [] .shut,.int .i64 0],.int .i64 1])) s:=h
   have hc:(((decide (n<0)||decide ((st.length:Int)≤n))||decide (t<0))||decide (1000<t))=true:=by
    simp;omega
   refine zAF (md:=⟨true,false,false,false⟩) (fn:=Tryz.f11) (n:=85) (rs:=[.cell 6 24,.tmp 7]) rfl rfl rfl rfl rfl rfl rfl rfl (by simp only[go_sem, *];try rfl) (by rfl) (by simp only[go_sem]) ?_
   repeat' (first|refine c20 hl ?_|simp (disch:=first|assumption|omega) only[go_sem, *]|((first|apply gw_m|apply gw_q);focus (intro hs;(try simp only[nbs] at hs);simp (disch:=first|assumption|omega) only[go_sem, *];rfl))|((first|refine zAC ?_ ?_|refine zAB ?_ ?_|refine sp_C ?_ ?_|refine sp_G ?_ ?_)<;>(intro hs;try simp only[nbs] at hs)))
  ·have hbnd:0≤n∧n<st.length∧0≤t∧t≤1000:=by omega
   obtain⟨i,rfl⟩:=Int.eq_ofNat_of_zero_le hbnd.1
   obtain⟨k,rfl⟩:=Int.eq_ofNat_of_zero_le hbnd.2.2.1
   have hil:i<st.length:=by omega
   have hc1:decide ((i:Int)<0)=false:=by simp
   have hc2:decide ((st.length:Int)≤i)=false:=by simp;omega
   have hc3:decide ((k:Int)<0)=false:=by simp
   have hc4:decide ((1000:Int)<k)=false:=by simp;omega
   by_cases hbig:1000<(st.length:Int)+k
   ·rw[stuL_3 hb hn hbig] at h
    have h:Q (.ret (.tuple [.agg [.sl 0 [] .shut,.int .i64 0],.int .i64 2])) s:=h
    have hc5:decide ((1000:Int)<(st.length:Int)+k)=true:=decide_eq_true hbig
    refine zAF (md:=⟨true,false,false,false⟩) (fn:=Tryz.f11) (n:=85) (rs:=[.cell 6 24,.tmp 7]) rfl rfl rfl rfl rfl rfl rfl rfl (by simp only[go_sem, *];try rfl) (by rfl) (by simp only[go_sem]) ?_
    repeat' (first|refine c20 hl ?_|simp (disch:=first|assumption|omega) only[go_sem, *]|((first|apply gw_m|apply gw_q);focus (intro hs;(try simp only[nbs] at hs);simp (disch:=first|assumption|omega) only[go_sem, *];rfl))|((first|refine zAC ?_ ?_|refine zAB ?_ ?_|refine sp_C ?_ ?_|refine sp_G ?_ ?_)<;>(intro hs;try simp only[nbs] at hs)))
   ·rw[stuL_4 hb hil (by omega)] at h
    have hx:st[i]?=some st[i]:=List.getElem?_eq_getElem hil
    generalize st[i]=x at h hx
    have hst:stuX ⟨st,j⟩ i k x=⟨st.take (i+1)++List.replicate k x++st.drop (i+1),if(i:Int)<j then(j:Int)+k else j⟩:=by rw[← stu_eq hx];rfl
    rw[hst] at h
    clear hst
    have hc5:decide ((1000:Int)<(st.length:Int)+k)=false:=decide_eq_false hbig
    have hi1:(i:Int)+1=((i+1:Nat):Int):=rfl
    have hi2:i+1≤st.length:=hil
    have htl:(st.take (i+1)).length=i+1:=by rw[List.length_take];omega
    have hap:=zTB (st.take (i+1)) (by omega) (by omega)
    rw[htl] at hap
    refine zAF (md:=⟨true,false,false,false⟩) (fn:=Tryz.f11) (n:=85) (rs:=[.cell 6 24,.tmp 7]) rfl rfl rfl rfl rfl rfl rfl rfl (by simp only[go_sem, *];try rfl) (by rfl) (by simp only[go_sem]) ?_
    repeat' (first|refine c20 hl ?_|simp (disch:=first|assumption|omega) only[go_sem, *]|((first|apply gw_m|apply gw_q);focus (intro hs;(try simp only[nbs] at hs);simp (disch:=first|assumption|omega) only[go_sem, *];rfl))|((first|refine zAC ?_ ?_|refine zAB ?_ ?_|refine sp_C ?_ ?_|refine sp_G ?_ ?_)<;>(intro hs;try simp only[nbs] at hs)))
    clear hap
    generalize hG:updB _ 2 (Box.cells 24 [AV.osl 3 0 (i+1),AV.int .i64 j])=G0
    have e0:G0 0=.cells 24 (zAN ⟨st,j⟩):=by rw[← hG];simp (disch:=first|assumption|omega) only[go_sem]
    have e1:G0 1=.cells 24 [.sl 0 [] .nil,.int .i64 0]:=by rw[← hG];simp (disch:=first|assumption|omega) only[go_sem]
    have e2:G0 2=.cells 24 [.osl 3 0 (i+1+0),.int .i64 j]:=by rw[← hG];simp (disch:=first|assumption|omega) only[go_sem]
    have e3:G0 3=.row 35 1 ((st.take (i+1)++List.replicate 0 x).map zAD) false:=by rw[← hG,List.replicate_zero,List.append_nil];simp (disch:=first|assumption|omega) only[go_sem]
    clear hG
    refine zA0 (ι:=Nat×Nat×(Nat→Box)×List (Nat×Nat)) (fun p=>[(1,.int .i64 i),(2,.int .i64 k),(3,.ptr 0 0),(6,.ptr 1 0),(8,.ptr 2 0),(9,.int .i64 p.1)]) (fun p=>S (p.2.1+1) p.2.2.1 p.2.2.2)
     (fun p=>p.1≤k∧3≤p.2.1∧p.2.2.1 0=.cells 24 (zAN ⟨st,j⟩)∧p.2.2.1 1=.cells 24 [.sl 0 [] .nil,.int .i64 0]∧p.2.2.1 2=.cells 24 [.osl p.2.1 0 (i+1+p.1),.int .i64 j]∧p.2.2.1 p.2.1=.row 35 1 ((st.take (i+1)++List.replicate p.1 x).map zAD) false) (fun p=>k-p.1) ?_ (0,3,G0,_) ⟨Nat.zero_le _,Nat.le_refl _,e0,e1,e2,e3⟩ ⟨rfl,rfl,rfl,rfl,rfl,rfl,trivial⟩ rfl
    rintro⟨c,q,g,u⟩ b0 ⟨hck,hq3,g0',g1',g2',gq'⟩ hrec
    dsimp only at hck hq3 g0' g1' g2' gq' hrec ⊢
    have hXl:(st.take (i+1)++List.replicate c x).length=i+1+c:=by rw[List.length_append,htl,List.length_replicate]
    rcases Nat.lt_or_ge c k with hlt|hge
    ·have hc:decide ((c:Int)<k)=true:=decide_eq_true (by omega)
     have hap:=ap_one _ x (by omega) (u:=u) gq' hXl.symm
     repeat' (first|simp (disch:=first|assumption|omega) only[go_sem, *]|((first|apply gw_m|apply gw_q);focus (intro hs;(try simp only[nbs] at hs);simp (disch:=first|assumption|omega) only[go_sem, *];rfl))|((first|refine zAC ?_ ?_|refine zAB ?_ ?_|refine sp_C ?_ ?_|refine sp_G ?_ ?_)<;>(intro hs;try simp only[nbs] at hs)))
     generalize hG:updB _ 2 (Box.cells 24 [AV.osl (q+1) 0 (i+1+c+1),AV.int .i64 j])=G1
     have f0:G1 0=.cells 24 (zAN ⟨st,j⟩):=by rw[← hG,zAA (by omega),zAA (by omega),zAA (by omega)];exact g0'
     have f1:G1 1=.cells 24 [.sl 0 [] .nil,.int .i64 0]:=by rw[← hG,zAA (by omega),zAA (by omega),zAA (by omega)];exact g1'
     have f2:G1 2=.cells 24 [.osl (q+1) 0 (i+1+(c+1)),.int .i64 j]:=by rw[← hG,zAE];rfl
     have f3:G1 (q+1)=.row 35 1 ((st.take (i+1)++List.replicate (c+1) x).map zAD) false:=by rw[← hG,zAA (by omega),zAE,List.replicate_succ',List.append_assoc]
     exact hrec (c+1,q+1,G1,_) _ _ _ ⟨hlt,by dsimp only;omega,f0,f1,f2,f3⟩ (by dsimp only;omega) ⟨rfl,rfl,rfl,rfl,rfl,rfl,trivial⟩ rfl
    ·have hc:decide ((c:Int)<k)=false:=decide_eq_false (by omega)
     have hck:c=k:=by omega
     subst hck
     have hdl:(st.drop (i+1)).length=st.length-(i+1):=List.length_drop
     rcases Nat.lt_or_ge (i+1) st.length with hd|hd
     ·have hap:=@zPT (st.take (i+1)++List.replicate c x) (st.drop (i+1)) (by omega) (by omega) (q+1) q (i+1+c) g u (Nat.lt_succ_self q) gq' hXl.symm
      rw[hdl] at hap
      have hfl:(st.take (i+1)++List.replicate c x++st.drop (i+1)).length=i+1+c+(st.length-(i+1)):=by rw[List.length_append,hXl,hdl]
      clear hXl hdl
      repeat' (first|simp (disch:=first|assumption|omega) only[go_sem, *]|((first|apply gw_m|apply gw_q);focus (intro hs;(try simp only[nbs] at hs);simp (disch:=first|assumption|omega) only[go_sem, *];rfl))|((first|refine zAC ?_ ?_|refine zAB ?_ ?_|refine sp_C ?_ ?_|refine sp_G ?_ ?_)<;>(intro hs;try simp only[nbs] at hs)))
      ·rw[if_pos hs] at h
       rw[zBV (l:=st.take (i+1)++List.replicate c x++st.drop (i+1)) (sl:=false) (by omega) (by simp (disch:=first|assumption|omega) only[go_sem, *]) hfl.symm]
       repeat' (first|simp (disch:=first|assumption|omega) only[go_sem, *]|((first|apply gw_m|apply gw_q);focus (intro hs;(try simp only[nbs] at hs);simp (disch:=first|assumption|omega) only[go_sem, *];rfl))|((first|refine zAC ?_ ?_|refine zAB ?_ ?_|refine sp_C ?_ ?_|refine sp_G ?_ ?_)<;>(intro hs;try simp only[nbs] at hs)))
      ·rw[if_neg hs] at h
       rw[zBV (l:=st.take (i+1)++List.replicate c x++st.drop (i+1)) (sl:=false) (by omega) (by simp (disch:=first|assumption|omega) only[go_sem, *]) hfl.symm]
       repeat' (first|simp (disch:=first|assumption|omega) only[go_sem, *]|((first|apply gw_m|apply gw_q);focus (intro hs;(try simp only[nbs] at hs);simp (disch:=first|assumption|omega) only[go_sem, *];rfl))|((first|refine zAC ?_ ?_|refine zAB ?_ ?_|refine sp_C ?_ ?_|refine sp_G ?_ ?_)<;>(intro hs;try simp only[nbs] at hs)))
     ·have hd0:st.drop (i+1)=[]:=List.drop_eq_nil_of_le hd
      rw[hd0,List.append_nil] at h
      have hap:∀s,zAX 35 1 24 (.osl q 0 (i+1+c)) ((st.drop (i+1)).map zAD) s=some (.osl q 0 (i+1+c),s):=fun s=>by rw[hd0];rfl
      clear hdl hd0
      repeat' (first|simp (disch:=first|assumption|omega) only[go_sem, *]|((first|apply gw_m|apply gw_q);focus (intro hs;(try simp only[nbs] at hs);simp (disch:=first|assumption|omega) only[go_sem, *];rfl))|((first|refine zAC ?_ ?_|refine zAB ?_ ?_|refine sp_C ?_ ?_|refine sp_G ?_ ?_)<;>(intro hs;try simp only[nbs] at hs)))
      ·rw[if_pos hs] at h
       rw[zBV (l:=st.take (i+1)++List.replicate c x) (sl:=false) (by omega) (by simp (disch:=first|assumption|omega) only[go_sem, *]) hXl.symm]
       repeat' (first|simp (disch:=first|assumption|omega) only[go_sem, *]|((first|apply gw_m|apply gw_q);focus (intro hs;(try simp only[nbs] at hs);simp (disch:=first|assumption|omega) only[go_sem, *];rfl))|((first|refine zAC ?_ ?_|refine zAB ?_ ?_|refine sp_C ?_ ?_|refine sp_G ?_ ?_)<;>(intro hs;try simp only[nbs] at hs)))
      ·rw[if_neg hs] at h
       rw[zBV (l:=st.take (i+1)++List.replicate c x) (sl:=false) (by omega) (by simp (disch:=first|assumption|omega) only[go_sem, *]) hXl.symm]
       repeat' (first|simp (disch:=first|assumption|omega) only[go_sem, *]|((first|apply gw_m|apply gw_q);focus (intro hs;(try simp only[nbs] at hs);simp (disch:=first|assumption|omega) only[go_sem, *];rfl))|((first|refine zAC ?_ ?_|refine zAB ?_ ?_|refine sp_C ?_ ?_|refine sp_G ?_ ?_)<;>(intro hs;try simp only[nbs] at hs)))
end Go.Ab.X
namespace Pl
def zCV (st:List (List V))(j:Nat):Nat→List (List V)
 | 0=>st
 | k+1=>zCV st j k++[(zCV st j k).getD (j+k) []]
theorem zE4 (st:List (List V))(j:Nat):∀k,(zCV st j k).length=st.length+k
 | 0=>rfl
 | k+1=>by rw[zCV,List.length_append,zE4 st j k];simp;omega
theorem zHQ {st:List (List V)}{j k:Nat}(h:j<st.length):(zCV st j k)[j+k]?=some ((zCV st j k).getD (j+k) []):=by
 rw[List.getD_eq_getElem?_getD,List.getElem?_eq_getElem (by rw[zE4];omega)];rfl
def zEN (a:Las)(n:Int):Las×Int:=if isL a=false then(zLas,130) else if n<0∨1000<n then(zLas,1) else if 1000<(a.st.length:Int)+n then(zLas,2) else(⟨zCV a.st a.back.toNat n.toNat,a.back+n⟩,0)
theorem zVI {st:List (List V)}{b:Int}{n:Int}(hb:isL ⟨st,b⟩=false):zEN ⟨st,b⟩ n=(zLas,130):=by unfold zEN;rw[if_pos hb]
theorem zVH {st:List (List V)}{b:Int}{n:Int}(hb:isL ⟨st,b⟩=true)(h:n<0∨1000<n):zEN ⟨st,b⟩ n=(zLas,1):=by unfold zEN;rw[if_neg (by rw[hb];simp),if_pos h]
theorem zVG {st:List (List V)}{b:Int}{n:Int}(hb:isL ⟨st,b⟩=true)(h:¬ (n<0∨1000<n))(h2:1000<(st.length:Int)+n):zEN ⟨st,b⟩ n=(zLas,2):=by unfold zEN;rw[if_neg (by rw[hb];simp),if_neg h,if_pos h2]
theorem zVF {st:List (List V)}{j k:Nat}(hb:isL ⟨st,j⟩=true)(h2:st.length+k≤1000):zEN ⟨st,j⟩ k=(⟨zCV st j k,((j+k:Nat):Int)⟩,0):=by
 unfold zEN;rw[if_neg (by rw[hb];simp),if_neg (by simp;omega),if_neg (by simp;omega)];rfl
end Pl
namespace Go.Ab.X
open Go Go.Ab Go.Proofs Pl
set_option maxRecDepth 100000
set_option maxHeartbeats 4000000
theorem ap_onek (X:List (List V))(x:List V)(hn:X.length<100000000){k m n:Nat}{g:Nat→Box}{u:List (Nat×Nat)}(hk:k<m)(hg:g k=.row 35 1 (X.map zAD) false)(hl:n=X.length):zAX 35 1 24 (.osl k 0 n) [zAD x] (S m g u)=some (.osl m 0 (n+1),S (m+1) (updB (updB g k .dead) m (.row 35 1 ((X++[x]).map zAD) false)) u):=
 zPT X [x] (by simp) (by simp;omega) (m:=m) (n:=n) (u:=u) hk hg hl
theorem c13 {a:Las}{n:Int}{s:Sto}(hl:a.st.length<1073741824){Q:CR→Sto→Prop}(h:Q (.ret (.tuple [zAK (zEN a n).1,.int .i64 (zEN a n).2])) s):C E1 13 [zAK a,.int .i64 n] s Q:=by
 obtain⟨st,b⟩:=a
 have hl:st.length<1073741824:=hl
 refine zE1 (st:=st) (b:=b) (fun hb=>?_) (fun j hj h1 h2 h3=>?_)
 ·rw[zVI hb] at h
  have h:Q (.ret (.tuple [.agg [.sl 0 [] .shut,.int .i64 0],.int .i64 130])) s:=h
  refine zAF (md:=⟨true,false,false,false⟩) (fn:=Tryz.f13) (n:=56) (rs:=[.cell 4 24,.tmp 5]) rfl rfl rfl rfl rfl rfl rfl rfl (by simp only[go_sem, *];try rfl) (by rfl) (by simp only[go_sem]) ?_
  repeat' (first|refine c20 hl ?_|simp (disch:=first|assumption|omega) only[go_sem, *]|((first|apply gw_m|apply gw_q);focus (intro hs;(try simp only[nbs] at hs);simp (disch:=first|assumption|omega) only[go_sem, *];rfl))|((first|refine zAC ?_ ?_|refine zAB ?_ ?_|refine sp_C ?_ ?_|refine sp_G ?_ ?_)<;>(intro hs;try simp only[nbs] at hs)))
 ·subst hj
  have hb:=zG1 h1 h2 h3
  by_cases hn:n<0∨1000<n
  ·rw[zVH hb hn] at h
   have h:Q (.ret (.tuple [.agg [.sl 0 [] .shut,.int .i64 0],.int .i64 1])) s:=h
   have hc:(decide (n<0)||decide (1000<n))=true:=by
    simp;omega
   refine zAF (md:=⟨true,false,false,false⟩) (fn:=Tryz.f13) (n:=56) (rs:=[.cell 4 24,.tmp 5]) rfl rfl rfl rfl rfl rfl rfl rfl (by simp only[go_sem, *];try rfl) (by rfl) (by simp only[go_sem]) ?_
   repeat' (first|refine c20 hl ?_|simp (disch:=first|assumption|omega) only[go_sem, *]|((first|apply gw_m|apply gw_q);focus (intro hs;(try simp only[nbs] at hs);simp (disch:=first|assumption|omega) only[go_sem, *];rfl))|((first|refine zAC ?_ ?_|refine zAB ?_ ?_|refine sp_C ?_ ?_|refine sp_G ?_ ?_)<;>(intro hs;try simp only[nbs] at hs)))
  ·have hbnd:0≤n∧n≤1000:=by omega
   obtain⟨k,rfl⟩:=Int.eq_ofNat_of_zero_le hbnd.1
   have hc3:decide ((k:Int)<0)=false:=by simp
   have hc4:decide ((1000:Int)<k)=false:=by simp;omega
   by_cases hbig:1000<(st.length:Int)+k
   ·rw[zVG hb hn hbig] at h
    have h:Q (.ret (.tuple [.agg [.sl 0 [] .shut,.int .i64 0],.int .i64 2])) s:=h
    have hc5:decide ((1000:Int)<(st.length:Int)+k)=true:=decide_eq_true hbig
    refine zAF (md:=⟨true,false,false,false⟩) (fn:=Tryz.f13) (n:=56) (rs:=[.cell 4 24,.tmp 5]) rfl rfl rfl rfl rfl rfl rfl rfl (by simp only[go_sem, *];try rfl) (by rfl) (by simp only[go_sem]) ?_
    repeat' (first|refine c20 hl ?_|simp (disch:=first|assumption|omega) only[go_sem, *]|((first|apply gw_m|apply gw_q);focus (intro hs;(try simp only[nbs] at hs);simp (disch:=first|assumption|omega) only[go_sem, *];rfl))|((first|refine zAC ?_ ?_|refine zAB ?_ ?_|refine sp_C ?_ ?_|refine sp_G ?_ ?_)<;>(intro hs;try simp only[nbs] at hs)))
   ·rw[zVF hb (by omega)] at h
    have hc5:decide ((1000:Int)<(st.length:Int)+k)=false:=decide_eq_false hbig
    have hap:=zTB st (by omega) (by omega)
    refine zAF (md:=⟨true,false,false,false⟩) (fn:=Tryz.f13) (n:=56) (rs:=[.cell 4 24,.tmp 5]) rfl rfl rfl rfl rfl rfl rfl rfl (by simp only[go_sem, *];try rfl) (by rfl) (by simp only[go_sem]) ?_
    repeat' (first|refine c20 hl ?_|simp (disch:=first|assumption|omega) only[go_sem, *]|((first|apply gw_m|apply gw_q);focus (intro hs;(try simp only[nbs] at hs);simp (disch:=first|assumption|omega) only[go_sem, *];rfl))|((first|refine zAC ?_ ?_|refine zAB ?_ ?_|refine sp_C ?_ ?_|refine sp_G ?_ ?_)<;>(intro hs;try simp only[nbs] at hs)))
    clear hap
    generalize hG:updB _ 2 (Box.cells 24 [AV.osl 3 0 st.length,AV.int .i64 j])=G0
    have e1:G0 1=.cells 24 [.sl 0 [] .nil,.int .i64 0]:=by rw[← hG];simp (disch:=first|assumption|omega) only[go_sem]
    have e2:G0 2=.cells 24 [.osl 3 0 (st.length+0),.int .i64 ((j+0:Nat):Int)]:=by rw[← hG];simp (disch:=first|assumption|omega) only[go_sem];rfl
    have e3:G0 3=.row 35 1 ((zCV st j 0).map zAD) false:=by rw[← hG];simp (disch:=first|assumption|omega) only[go_sem];rfl
    clear hG
    refine zA0 (ι:=Nat×Nat×(Nat→Box)×List (Nat×Nat)) (fun p=>[(1,.int .i64 k),(4,.ptr 1 0),(6,.ptr 2 0),(7,.int .i64 p.1)]) (fun p=>S (p.2.1+1) p.2.2.1 p.2.2.2)
     (fun p=>p.1≤k∧3≤p.2.1∧p.2.2.1 1=.cells 24 [.sl 0 [] .nil,.int .i64 0]∧p.2.2.1 2=.cells 24 [.osl p.2.1 0 (st.length+p.1),.int .i64 ((j+p.1:Nat):Int)]∧p.2.2.1 p.2.1=.row 35 1 ((zCV st j p.1).map zAD) false) (fun p=>k-p.1) ?_ (0,3,G0,_) ⟨Nat.zero_le _,Nat.le_refl _,e1,e2,e3⟩ ⟨rfl,rfl,rfl,rfl,trivial⟩ rfl
    rintro⟨c,q,g,u⟩ b0 ⟨hck,hq3,g1',g2',gq'⟩ hrec
    dsimp only at hck hq3 g1' g2' gq' hrec ⊢
    have hXl:=zE4 st j c
    rcases Nat.lt_or_ge c k with hlt|hge
    ·have hc:decide ((c:Int)<k)=true:=decide_eq_true (by omega)
     have hx:=zHQ (st:=st) (j:=j) (k:=c) (by omega)
     have hnx:zCV st j (c+1)=zCV st j c++[(zCV st j c).getD (j+c) []]:=rfl
     generalize (zCV st j c).getD (j+c) []=x at hx hnx
     have hap:=ap_one _ x (by omega) (u:=u) gq' hXl.symm
     rw[← Nat.zero_add (j+c)] at hx
     have hd:decide (j+c<st.length+c)=true:=decide_eq_true (by omega)
     have hi1:((j+c:Nat):Int)+1=((j+(c+1):Nat):Int):=rfl
     repeat' (first|simp (disch:=first|assumption|omega) only[go_sem, *]|((first|apply gw_m|apply gw_q);focus (intro hs;(try simp only[nbs] at hs);simp (disch:=first|assumption|omega) only[go_sem, *];rfl))|((first|refine zAC ?_ ?_|refine zAB ?_ ?_|refine sp_C ?_ ?_|refine sp_G ?_ ?_)<;>(intro hs;try simp only[nbs] at hs)))
     generalize hG:updB _ 2 (Box.cells 24 [AV.osl (q+1) 0 (st.length+c+1),_])=G1
     have f1:G1 1=.cells 24 [.sl 0 [] .nil,.int .i64 0]:=by rw[← hG,zAA (by omega),zAA (by omega),zAA (by omega),zAA (by omega)];exact g1'
     have f2:G1 2=.cells 24 [.osl (q+1) 0 (st.length+(c+1)),.int .i64 ((j+(c+1):Nat):Int)]:=by rw[← hG,zAE];rfl
     have f3:G1 (q+1)=.row 35 1 ((zCV st j (c+1)).map zAD) false:=by rw[← hG,zAA (by omega),zAA (by omega),zAE,hnx]
     exact hrec (c+1,q+1,G1,_) _ _ _ ⟨hlt,by dsimp only;omega,f1,f2,f3⟩ (by dsimp only;omega) ⟨rfl,rfl,rfl,rfl,trivial⟩ rfl
    ·have hc:decide ((c:Int)<k)=false:=decide_eq_false (by omega)
     have hck:c=k:=by omega
     subst hck
     repeat' (first|simp (disch:=first|assumption|omega) only[go_sem, *]|((first|apply gw_m|apply gw_q);focus (intro hs;(try simp only[nbs] at hs);simp (disch:=first|assumption|omega) only[go_sem, *];rfl))|((first|refine zAC ?_ ?_|refine zAB ?_ ?_|refine sp_C ?_ ?_|refine sp_G ?_ ?_)<;>(intro hs;try simp only[nbs] at hs)))
     rw[zBV (l:=zCV st j c) (sl:=false) (by omega) (by simp (disch:=first|assumption|omega) only[go_sem, *]) hXl.symm]
     repeat' (first|simp (disch:=first|assumption|omega) only[go_sem, *]|((first|apply gw_m|apply gw_q);focus (intro hs;(try simp only[nbs] at hs);simp (disch:=first|assumption|omega) only[go_sem, *];rfl))|((first|refine zAC ?_ ?_|refine zAB ?_ ?_|refine sp_C ?_ ?_|refine sp_G ?_ ?_)<;>(intro hs;try simp only[nbs] at hs)))
theorem c12 {a:Las}{n:Int}{s:Sto}(hl:a.st.length<1073741824)(ht:-9223372036854775808≤n∧n<9223372036854775808){Q:CR→Sto→Prop}(h:Q (.ret (.tuple [zAK (zEN a n).1,.int .i64 (zEN a n).2])) s):C E1 12 [zAK a,.int .i64 n] s Q:=by
 obtain⟨st,b⟩:=a
 have hl:st.length<1073741824:=hl
 refine zE1 (st:=st) (b:=b) (fun hb=>?_) (fun j hj h1 h2 h3=>?_)
 ·rw[zVI hb] at h
  have h:Q (.ret (.tuple [.agg [.sl 0 [] .shut,.int .i64 0],.int .i64 130])) s:=h
  have ha:∀r z,askE ⟨st,b⟩ r z=130:=fun r z=>by unfold askE;rw[if_pos hb]
  refine zAF (md:=⟨true,false,false,false⟩) (fn:=Tryz.f12) (n:=51) (rs:=[.cell 4 24,.tmp 5]) rfl rfl rfl rfl rfl rfl rfl rfl (by simp only[go_sem, *];try rfl) (by rfl) (by simp only[go_sem]) ?_
  repeat' (first|refine c43 hl ?_|simp (disch:=first|assumption|omega) only[go_sem, *]|((first|apply gw_m|apply gw_q);focus (intro hs;(try simp only[nbs] at hs);simp (disch:=first|assumption|omega) only[go_sem, *];rfl))|((first|refine zAC ?_ ?_|refine zAB ?_ ?_|refine sp_C ?_ ?_|refine sp_G ?_ ?_)<;>(intro hs;try simp only[nbs] at hs)))
 ·subst hj
  have hb:=zG1 h1 h2 h3
  by_cases hn:n<0∨1000<n
  ·rw[zVH hb hn] at h
   have h:Q (.ret (.tuple [.agg [.sl 0 [] .shut,.int .i64 0],.int .i64 1])) s:=h
   have ha:∀z,askE ⟨st,j⟩ false z=1:=fun z=>by unfold askE;rw[if_neg (by rw[hb];simp),if_pos rfl]
   have hc:(decide (0≤n)&&decide (n≤1000))=false:=by
    rw[← Bool.not_eq_true];simp;omega
   refine zAF (md:=⟨true,false,false,false⟩) (fn:=Tryz.f12) (n:=51) (rs:=[.cell 4 24,.tmp 5]) rfl rfl rfl rfl rfl rfl rfl rfl (by simp only[go_sem, *];try rfl) (by rfl) (by simp only[go_sem]) ?_
   repeat' (first|refine c43 hl ?_|simp (disch:=first|assumption|omega) only[go_sem, *]|((first|apply gw_m|apply gw_q);focus (intro hs;(try simp only[nbs] at hs);simp (disch:=first|assumption|omega) only[go_sem, *];rfl))|((first|refine zAC ?_ ?_|refine zAB ?_ ?_|refine sp_C ?_ ?_|refine sp_G ?_ ?_)<;>(intro hs;try simp only[nbs] at hs)))
  ·have hbnd:0≤n∧n≤1000:=by omega
   obtain⟨k,rfl⟩:=Int.eq_ofNat_of_zero_le hbnd.1
   have hc3:decide ((0:Int)≤k)=true:=by simp
   have hc4:decide ((k:Int)≤1000)=true:=by simp;omega
   by_cases hbig:1000<(st.length:Int)+k
   ·rw[zVG hb hn hbig] at h
    have h:Q (.ret (.tuple [.agg [.sl 0 [] .shut,.int .i64 0],.int .i64 2])) s:=h
    have ha:askE ⟨st,j⟩ true ((st.length:Int)+k)=2:=by unfold askE;rw[if_neg (by rw[hb];simp),if_neg (by simp),if_pos hbig]
    refine zAF (md:=⟨true,false,false,false⟩) (fn:=Tryz.f12) (n:=51) (rs:=[.cell 4 24,.tmp 5]) rfl rfl rfl rfl rfl rfl rfl rfl (by simp only[go_sem, *];try rfl) (by rfl) (by simp only[go_sem]) ?_
    repeat' (first|refine c43 hl ?_|simp (disch:=first|assumption|omega) only[go_sem, *]|((first|apply gw_m|apply gw_q);focus (intro hs;(try simp only[nbs] at hs);simp (disch:=first|assumption|omega) only[go_sem, *];rfl))|((first|refine zAC ?_ ?_|refine zAB ?_ ?_|refine sp_C ?_ ?_|refine sp_G ?_ ?_)<;>(intro hs;try simp only[nbs] at hs)))
   ·rw[zVF hb (by omega)] at h
    have ha:askE ⟨st,j⟩ true ((st.length:Int)+k)=0:=by unfold askE;rw[if_neg (by rw[hb];simp),if_neg (by simp),if_neg hbig]
    have hcl:=fun m g u Q hq=>@c47 st m g u (by omega) (by omega) Q hq
    refine zAF (md:=⟨true,false,false,false⟩) (fn:=Tryz.f12) (n:=51) (rs:=[.cell 4 24,.tmp 5]) rfl rfl rfl rfl rfl rfl rfl rfl (by simp only[go_sem, *];try rfl) (by rfl) (by simp only[go_sem]) ?_
    repeat' (first|refine c43 hl ?_|refine hcl _ _ _ _ ?_|simp (disch:=first|assumption|omega) only[go_sem, *]|((first|apply gw_m|apply gw_q);focus (intro hs;(try simp only[nbs] at hs);simp (disch:=first|assumption|omega) only[go_sem, *];rfl))|((first|refine zAC ?_ ?_|refine zAB ?_ ?_|refine sp_C ?_ ?_|refine sp_G ?_ ?_)<;>(intro hs;try simp only[nbs] at hs)))
    clear hcl
    generalize hG:updB _ 3 (Box.cells 24 [AV.osl 2 0 st.length,AV.int .i64 j])=G0
    have e1:G0 1=.cells 24 [.sl 0 [] .nil,.int .i64 0]:=by rw[← hG];simp (disch:=first|assumption|omega) only[go_sem]
    have e2:G0 3=.cells 24 [.osl 2 0 (st.length+0),.int .i64 ((j+0:Nat):Int)]:=by rw[← hG];simp (disch:=first|assumption|omega) only[go_sem];rfl
    have e3:G0 2=.row 35 1 ((zCV st j 0).map zAD) false:=by rw[← hG];simp (disch:=first|assumption|omega) only[go_sem];rfl
    clear hG
    refine zA0 (ι:=Nat×Nat×Nat×(Nat→Box)×List (Nat×Nat)) (fun p=>[(4,.ptr 1 0),(7,.ptr 3 0),(31,.int .i64 k),(32,.int .i64 p.1)]) (fun p=>S p.2.2.1 p.2.2.2.1 p.2.2.2.2)
     (fun p=>p.1≤k∧(2≤p.2.1∧p.2.1≠3∧p.2.1<p.2.2.1∧4≤p.2.2.1)∧p.2.2.2.1 1=.cells 24 [.sl 0 [] .nil,.int .i64 0]∧p.2.2.2.1 3=.cells 24 [.osl p.2.1 0 (st.length+p.1),.int .i64 ((j+p.1:Nat):Int)]∧p.2.2.2.1 p.2.1=.row 35 1 ((zCV st j p.1).map zAD) false) (fun p=>k-p.1) ?_ (0,2,4,G0,_) ⟨Nat.zero_le _,by dsimp only;omega,e1,e2,e3⟩ ⟨rfl,rfl,rfl,rfl,trivial⟩ rfl
    rintro⟨c,q,m,g,u⟩ b0 ⟨hck,⟨hq3,hq4,hq5,hq6⟩,g1',g2',gq'⟩ hrec
    dsimp only at hck hq3 hq4 hq5 hq6 g1' g2' gq' hrec ⊢
    have hXl:=zE4 st j c
    rcases Nat.lt_or_ge c k with hlt|hge
    ·have hc:decide ((c:Int)<k)=true:=decide_eq_true (by omega)
     have hx:=zHQ (st:=st) (j:=j) (k:=c) (by omega)
     have hnx:zCV st j (c+1)=zCV st j c++[(zCV st j c).getD (j+c) []]:=rfl
     generalize (zCV st j c).getD (j+c) []=x at hx hnx
     have hap:=ap_onek _ x (by omega) (u:=u) hq5 gq' hXl.symm
     rw[← Nat.zero_add (j+c)] at hx
     have hd:decide (j+c<st.length+c)=true:=decide_eq_true (by omega)
     have hi1:((j+c:Nat):Int)+1=((j+(c+1):Nat):Int):=rfl
     repeat' (first|simp (disch:=first|assumption|omega) only[go_sem, *]|((first|apply gw_m|apply gw_q);focus (intro hs;(try simp only[nbs] at hs);simp (disch:=first|assumption|omega) only[go_sem, *];rfl))|((first|refine zAC ?_ ?_|refine zAB ?_ ?_|refine sp_C ?_ ?_|refine sp_G ?_ ?_)<;>(intro hs;try simp only[nbs] at hs)))
     generalize hG:updB _ 3 (Box.cells 24 [AV.osl m 0 (st.length+c+1),_])=G1
     have f1:G1 1=.cells 24 [.sl 0 [] .nil,.int .i64 0]:=by rw[← hG,zAA (by omega),zAA (by omega),zAA (by omega),zAA (by omega)];exact g1'
     have f2:G1 3=.cells 24 [.osl m 0 (st.length+(c+1)),.int .i64 ((j+(c+1):Nat):Int)]:=by rw[← hG,zAE];rfl
     have f3:G1 m=.row 35 1 ((zCV st j (c+1)).map zAD) false:=by rw[← hG,zAA (by omega),zAA (by omega),zAE,hnx]
     exact hrec (c+1,m,m+1,G1,_) _ _ _ ⟨hlt,by dsimp only;omega,f1,f2,f3⟩ (by dsimp only;omega) ⟨rfl,rfl,rfl,rfl,trivial⟩ rfl
    ·have hc:decide ((c:Int)<k)=false:=decide_eq_false (by omega)
     have hck:c=k:=by omega
     subst hck
     repeat' (first|simp (disch:=first|assumption|omega) only[go_sem, *]|((first|apply gw_m|apply gw_q);focus (intro hs;(try simp only[nbs] at hs);simp (disch:=first|assumption|omega) only[go_sem, *];rfl))|((first|refine zAC ?_ ?_|refine zAB ?_ ?_|refine sp_C ?_ ?_|refine sp_G ?_ ?_)<;>(intro hs;try simp only[nbs] at hs)))
     rw[zBV (l:=zCV st j c) (sl:=false) (by omega) (by simp (disch:=first|assumption|omega) only[go_sem, *]) hXl.symm]
     repeat' (first|simp (disch:=first|assumption|omega) only[go_sem, *]|((first|apply gw_m|apply gw_q);focus (intro hs;(try simp only[nbs] at hs);simp (disch:=first|assumption|omega) only[go_sem, *];rfl))|((first|refine zAC ?_ ?_|refine zAB ?_ ?_|refine sp_C ?_ ?_|refine sp_G ?_ ?_)<;>(intro hs;try simp only[nbs] at hs)))
end Go.Ab.X
end
