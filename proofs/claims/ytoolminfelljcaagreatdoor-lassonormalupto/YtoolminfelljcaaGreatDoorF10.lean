/- A part. -/
import Derived.Test.YtoolminfelljcaaGreatDoorF9
set_option linter.all false
noncomputable section
namespace Go.Ab
open Go Pl
theorem wr_id {a:Int}(h:-9223372036854775808≤a∧a<9223372036854775808):wr .i64 a=a:=by
 unfold wr
 have:inR .i64 a=true:=by
  cases a with
  | ofNat a=>simp only[inR,Nat.blt_eq];have:=h.2;simp only[Int.ofNat_eq_natCast] at this;omega
  | negSucc a=>simp only[inR,Nat.blt_eq];have:=h.1;omega
 rw[this];rfl
theorem zJ0 {α:Type}{h:α→AV}(l:List α):llen (l.map h)=l.length:=by rw[zAG,List.length_map]
theorem llen_X (e:X):llen (zA1 e)=11:=(rfl)
theorem llen_V (e:V):llen (zBY e)=7:=(rfl)
theorem llen_T (e:T):llen (zS6 e)=24:=(rfl)
theorem llen_Def (e:Pl.Def):llen (zCU e)=14:=(rfl)
theorem llen_Var (e:Pl.Var):llen (zET e)=12:=(rfl)
theorem zUN (e:Pl.Const):llen (zC5 e)=8:=(rfl)
theorem zUM (e:Pl.Named):llen (zC4 e)=12:=(rfl)
theorem zXU (e:Pl.Fair):llen (zCR e)=23:=(rfl)
theorem llen_Prp (e:Pl.Prp):llen (zGS e)=25:=(rfl)
theorem zXT (e:Pl.Spec):llen (zAL e)=35:=(rfl)
theorem lnth_0 (a:AV)(l:List AV):lnth (a :: l) 0=some a:=rfl
theorem lnth_s (a:AV)(l:List AV)(n:Nat):lnth (a :: l) (n+1)=lnth l n:=rfl
theorem lnth_nil (n:Nat):lnth [] n=none:=rfl
theorem zXR {α:Type}(a:α)(l:List α):llen (a :: l)=llen l+1:=(rfl)
theorem llen_nil {α:Type}:llen ([]:List α)=0:=(rfl)
theorem zA8 (a b:Nat):Nat.ble a b=decide (a≤b):=by rw[Bool.eq_iff_iff];simp
theorem zHM (a b:Nat):Nat.blt a b=decide (a<b):=by rw[Bool.eq_iff_iff];simp
theorem zI8 (a b:Nat):Nat.beq a b=decide (a=b):=by rw[Bool.eq_iff_iff];simp
def ldB (b:Box)(ti:TI)(o:Nat):Option AV:=match b with|.cells _ cs=>pick1 ti cs o|_=>none
def ldX (ti:TI)(o:Nat)(x:Option AV):Option AV:=match x with|some x=>pick1 ti (cellsOf x) o|none=>none
def ldR (b:Box)(ti:TI)(i o:Nat):Option AV:=match b with|.row _ _ xs _=>ldX ti o (lnth xs i)|_=>none
section
variable {m:Nat}{g:Nat→Box}{u:List (Nat×Nat)}{ti:TI}{k o i:Nat}{s:Sto}
theorem loadA_p (h:k<m):zGV (S m g u) ti (.ptr k o)=ldB (g k) ti o:=by simp only[zGV,zEM h];unfold ldB;cases g k<;>rfl
theorem loadA_e (h:k<m):zGV (S m g u) ti (.eptr k i o)=ldR (g k) ti i o:=by
 simp only[zGV,zEM h];unfold ldR ldX;cases g k with
 | row a b xs d=>simp only;cases lnth xs i<;>rfl
 | _=>rfl
theorem loadA_r {t:Nat}{cs:List AV}:zGV s ti (.rptr t cs)=pick1 ti cs 0:=(rfl)
theorem zXZ {ty:TypeId}{cs:List AV}:ldB (.cells ty cs) ti o=pick1 ti cs o:=(rfl)
theorem ldR_row {ty:TypeId}{es:Nat}{xs:List AV}{sl:Bool}:ldR (.row ty es xs sl) ti i o=ldX ti o (lnth xs i):=(rfl)
theorem ldX_some {x:AV}:ldX ti o (some x)=pick1 ti (cellsOf x) o:=(rfl)
theorem zAE {b:Box}:updB g k b k=b:=if_pos rfl
theorem zAA {b:Box}{j:Nat}(h:k≠j):updB g j b k=g k:=if_neg h
theorem zA5 (h1:ti.size=1)(h2:ti.agg=false)(cs:List AV):pick1 ti cs o=lnth cs o:=by
 unfold pick1;rw[h1,h2,zCY,zAG,zA8]
 by_cases h:o+1≤cs.length
 ·rw[decide_eq_true h];rfl
 ·rw[decide_eq_false h];simp only[cond_false];rw[List.getElem?_eq_none (by omega)]
def stB (m:Nat)(g:Nat→Box)(u:List (Nat×Nat))(k:Nat)(b:Box)(ti:TI)(o:Nat)(v:AV):Option Sto:=
 match b with
 | .cells ty cs=>bif Nat.beq (llen (cellsOf v)) ti.size&&(Nat.ble (o+ti.size) (llen cs)&&flatC (cellsOf v)) then some ((S m (updB g k (.cells ty (splice cs o (cellsOf v)))) u).note k (top v)) else none
 | _=>none
theorem storeA_p {v:AV}(h:k<m):zEO (S m g u) ti (.ptr k o) v=stB m g u k (g k) ti o v:=by
 simp only[zEO,zEM h];unfold stB;cases g k with
 | cells ty cs=>simp only;rw[zNW h]
 | _=>rfl
theorem zV2 {v:AV}{ty:TypeId}{cs:List AV}:stB m g u k (.cells ty cs) ti o v=bif Nat.beq (llen (cellsOf v)) ti.size&&(Nat.ble (o+ti.size) (llen cs)&&flatC (cellsOf v)) then some ((S m (updB g k (.cells ty (splice cs o (cellsOf v)))) u).note k (top v)) else none:=(rfl)
def faV (x:AV)(s:Sto)(q:Option (Nat×TypeId)):Nx:=
 match q with
 | some (off,_)=>(match x with
   | .ptr k o=>.val (.ptr k (o+off)) s
   | .eptr k j o=>.val (.eptr k j (o+off)) s
   | .rptr t cs=>bif Nat.ble off (llen cs) then .val (.rptr t (ldrop cs off)) s else .no
   | _=>.no)
 | none=>.no
theorem faddr_eq {fs:List (Nat×TypeId)}{x:AV}:zBU (.struct fs) (some x) i s=faV x s (zBW fs i):=by
 unfold zBU faV;simp only;cases zBW fs i with
 | none=>rfl
 | some q=>obtain⟨a,b⟩:=q;cases x<;>rfl
theorem faV_p {off:Nat}{ft:TypeId}:faV (.ptr k o) s (some (off,ft))=.val (.ptr k (o+off)) s:=(rfl)
theorem faV_e {off:Nat}{ft:TypeId}:faV (.eptr k i o) s (some (off,ft))=.val (.eptr k i (o+off)) s:=(rfl)
theorem faV_r {off:Nat}{ft:TypeId}{t:Nat}{cs:List AV}:faV (.rptr t cs) s (some (off,ft))=bif Nat.ble off (llen cs) then .val (.rptr t (ldrop cs off)) s else .no:=(rfl)
theorem zZH {k:IntKind}{j:Nat}:asNat (.int k (j:Int))=some j:=(rfl)
theorem zZI {k:IntKind}{z:Int}(h:0≤z):asNat (.int k z)=some z.toNat:=by cases z with
 | ofNat a=>rfl
 | negSucc a=>omega
def ixX (es tp:Nat)(s:Sto)(x:Option AV):Nx:=match x with|some x=>bif Nat.beq (llen (cellsOf x)) es then .val (.rptr tp (cellsOf x)) s else .no|none=>.no
theorem ixSl_eq {es tp:Nat}{xs:List AV}:ixSl es i tp xs s=ixX es tp s (lnth xs i):=by unfold ixSl ixX;cases lnth xs i<;>rfl
theorem ixX_some {es tp:Nat}{x:AV}:ixX es tp s (some x)=bif Nat.beq (llen (cellsOf x)) es then .val (.rptr tp (cellsOf x)) s else .no:=(rfl)
def ixO (es i k off len m:Nat)(g:Nat→Box)(u:List (Nat×Nat))(b:Box):Nx:=match b with|.row _ es' _ _=>bif Nat.blt i len&&Nat.beq es es' then .val (.eptr k (off+i) 0) (S m g u) else .no|_=>.no
theorem ixOsl_eq {es off len:Nat}(h:k<m):zQT es i k off len (S m g u)=ixO es i k off len m g u (g k):=by unfold zQT ixO;rw[zEM h];cases g k<;>rfl
theorem ixO_row {es es' off len:Nat}{ty:TypeId}{xs:List AV}{sl:Bool}:ixO es i k off len m g u (.row ty es' xs sl)=bif Nat.blt i len&&Nat.beq es es' then .val (.eptr k (off+i) 0) (S m g u) else .no:=(rfl)
theorem zXQ {α:Type}{h:α→AV}{l:List α}:lnth (l.map h) i=(l[i]?).map h:=by rw[zCY,List.getElem?_map]
end
theorem seal_V (s:Sto)(v:V):zBA s (encV v)=some (encV v,s):=by rw[zE2];rfl
theorem seal_X (s:Sto)(v:X):zBA s (encX v)=some (encX v,s):=by rw[zB7];rfl
theorem zV7 (s:Sto)(v:Pl.Spec):zBA s (zFS v)=some (zFS v,s):=(rfl)
theorem seal_Def (s:Sto)(v:Pl.Def):zBA s (zGH v)=some (zGH v,s):=(rfl)
theorem zTU (s:Sto)(v:Pl.Const):zBA s (zD9 v)=some (zD9 v,s):=(rfl)
theorem seal_Var (s:Sto)(v:Pl.Var):zBA s (zIF v)=some (zIF v,s):=(rfl)
theorem zTT (s:Sto)(v:Pl.Named):zBA s (zD8 v)=some (zD8 v,s):=(rfl)
theorem seal_Prp (s:Sto)(v:Pl.Prp):zBA s (zIG v)=some (zIG v,s):=(rfl)
theorem zR8 (s:Sto)(k:IntKind)(n:Int):zBA s (.int k n)=some (.int k n,s):=(rfl)
theorem zV6 (s:Sto)(b:Bool):zBA s (.bool b)=some (.bool b,s):=(rfl)
theorem seal_str (s:Sto)(b:Str):zBA s (.str b)=some (.str b,s):=(rfl)
theorem seal_sl (s:Sto)(t:Nat)(xs:List AV)(o:Own):zBA s (.sl t xs o)=some (.sl t xs .shut,s):=(rfl)
theorem seal_ptr (s:Sto)(k o:Nat):zBA s (.ptr k o)=some (.ptr k o,s):=(rfl)
theorem seal_map (s:Sto)(k:Nat):zBA s (.map k)=some (.map k,s):=(rfl)
theorem zV5 (s:Sto)(t:Nat)(f:Fn)(a b:List AV):zBA s (.func t f a b)=some (.func t f a b,s):=(rfl)
theorem top_int (k:IntKind)(n:Int):top (.int k n)=0:=(rfl)
theorem top_bool (b:Bool):top (.bool b)=0:=(rfl)
theorem top_str (b:Str):top (.str b)=0:=(rfl)
theorem top_sl (t:Nat)(xs:List AV)(o:Own):top (.sl t xs o)=t:=(rfl)
theorem top_ptr (k o:Nat):top (.ptr k o)=k+1:=(rfl)
theorem top_osl (k o n:Nat):top (.osl k o n)=k+1:=(rfl)
theorem top_map (k:Nat):top (.map k)=k+1:=(rfl)
theorem top_rptr (t:Nat)(cs:List AV):top (.rptr t cs)=t:=(rfl)
theorem top_func (t:Nat)(f:Fn)(a b:List AV):top (.func t f a b)=t:=(rfl)
theorem max0 (n:Nat):Nat.max 0 n=n:=Nat.zero_max n
theorem maxn (n:Nat):Nat.max n 0=n:=Nat.max_zero n
theorem top_Def (d:Pl.Def):top (zGH d)=0:=(rfl)
theorem top_Var (d:Pl.Var):top (zIF d)=0:=(rfl)
theorem zVN (d:Pl.Const):top (zD9 d)=0:=(rfl)
theorem zVM (d:Pl.Named):top (zD8 d)=0:=(rfl)
theorem top_Fair (d:Pl.Fair):top (zHH d)=0:=(rfl)
theorem top_Prp (d:Pl.Prp):top (zIG d)=0:=(rfl)
theorem top_Spec (d:Pl.Spec):top (zFS d)=0:=(rfl)
theorem zZC (d:Pl.Def):cellsOf (zGH d)=zCU d:=(rfl)
theorem zY9 (d:Pl.Var):cellsOf (zIF d)=zET d:=(rfl)
theorem zRH (d:Pl.Const):cellsOf (zD9 d)=zC5 d:=(rfl)
theorem zRG (d:Pl.Named):cellsOf (zD8 d)=zC4 d:=(rfl)
theorem zUZ (d:Pl.Fair):cellsOf (zHH d)=zCR d:=(rfl)
theorem zZA (d:Pl.Prp):cellsOf (zIG d)=zGS d:=(rfl)
theorem zUY (d:Pl.Spec):cellsOf (zFS d)=zAL d:=(rfl)
section
variable {E:Env}{t:TypeId}{c:Bool}{k:IntKind}{a b:Int}{s:Sto}{x y:Str}{p q:Bool}
theorem b_eq:binA E .eql t c (.int k a) (.int k b) s=some (.bool (decide (a=b))):=by simp only[binA,isShift,zB6,cond_true,cond_false,arith,zJL]
theorem b_ne:binA E .neq t c (.int k a) (.int k b) s=some (.bool (!decide (a=b))):=by simp only[binA,isShift,zB6,cond_true,cond_false,arith,zJL]
theorem b_lt:binA E .lss t c (.int k a) (.int k b) s=some (.bool (decide (a<b))):=by simp only[binA,isShift,zB6,cond_true,cond_false,arith,zGD]
theorem b_gt:binA E .gtr t c (.int k a) (.int k b) s=some (.bool (decide (b<a))):=by simp only[binA,isShift,zB6,cond_true,cond_false,arith,zGD]
theorem b_le:binA E .leq t c (.int k a) (.int k b) s=some (.bool (decide (a≤b))):=by
 simp only[binA,isShift,zB6,cond_true,cond_false,arith,zGD];congr 2;rw[Bool.eq_iff_iff];simp
theorem b_ge:binA E .geq t c (.int k a) (.int k b) s=some (.bool (decide (b≤a))):=by
 simp only[binA,isShift,zB6,cond_true,cond_false,arith,zGD];congr 2;rw[Bool.eq_iff_iff];simp
theorem b_add:binA E .add t c (.int k a) (.int k b) s=some (.int k (wr k (a+b))):=by simp only[binA,isShift,zB6,cond_true,cond_false,arith]
theorem b_sub:binA E .sub t c (.int k a) (.int k b) s=some (.int k (wr k (a-b))):=by simp only[binA,isShift,zB6,cond_true,cond_false,arith]
theorem b_seq:binA E .eql t c (.str x) (.str y) s=some (.bool (decide (x=y))):=by simp only[binA,zP2,zDM]
theorem b_sne:binA E .neq t c (.str x) (.str y) s=some (.bool (!decide (x=y))):=by simp only[binA,zP2,zDM]
theorem b_beq:binA E .eql t c (.bool p) (.bool q) s=eqTy E .eql (E.types t).d c (.bool p) (.bool q) s:=(rfl)
theorem b_bne:binA E .neq t c (.bool p) (.bool q) s=eqTy E .neq (E.types t).d c (.bool p) (.bool q) s:=(rfl)
theorem e_beq:eqTy E .eql .bool c (.bool p) (.bool q) s=some (.bool (decide (p=q))):=by cases p<;>cases q<;>rfl
theorem e_bne:eqTy E .neq .bool c (.bool p) (.bool q) s=some (.bool (!decide (p=q))):=by cases p<;>cases q<;>rfl
theorem u_not:oUn .not (some (.bool p)) s=.val (.bool (!p)) s:=(rfl)
theorem lenA_sl {e:TypeId}{tp:Nat}{xs:List AV}{o:Own}:lenA (.slice e) (.sl tp xs o) s=some (llen xs):=(rfl)
theorem lenA_osl {e:TypeId}{j o n:Nat}:lenA (.slice e) (.osl j o n) s=some n:=(rfl)
theorem lenA_str:lenA .str (.str x) s=some x.length:=by simp only[lenA,zAG]
theorem max_2 {a b:Int}:bMax [.int k a,.int k b] s=.val (.int k (max a b)) s:=by
 simp only[bMax,foldMax,zGD,cond_eq_ite,decide_eq_true_eq];congr 2;simp only[Int.max_def];split<;>split<;>omega
theorem min_2 {a b:Int}:bMin [.int k a,.int k b] s=.val (.int k (min a b)) s:=by
 simp only[bMin,foldMin,zGD,cond_eq_ite,decide_eq_true_eq];congr 2;simp only[Int.min_def];split<;>split<;>omega
theorem zVD {v:AV}:valOf (.val v s)=some v:=(rfl)
theorem pick_t {o1 o2:AV}:zF6 (some (.bool true)) (some o1) (some o2) s=.val o1 s:=(rfl)
theorem pick_f {o1 o2:AV}:zF6 (some (.bool false)) (some o1) (some o2) s=.val o2 s:=(rfl)
theorem pick_bb {b p q:Bool}:zF6 (some (.bool b)) (some (.bool p)) (some (.bool q)) s=.val (.bool (if b=true then p else q)) s:=by cases b<;>rfl
end
attribute [go_sem] iv slS mg_t mg_f gvalB_u gvalB_mt gvalB_mf pk_and pk_or pk_nand pk_nor Bool.not_not
theorem fl_b (b:Bool):flat1 (.bool b)=true:=rfl
theorem fl_i (k:IntKind)(n:Int):flat1 (.int k n)=true:=rfl
theorem fl_s (b:Str):flat1 (.str b)=true:=rfl
theorem fl_np:flat1 .nilptr=true:=rfl
theorem fl_p (k o:Nat):flat1 (.ptr k o)=true:=rfl
theorem fl_e (k i o:Nat):flat1 (.eptr k i o)=true:=rfl
theorem fl_r (t:Nat)(cs:List AV):flat1 (.rptr t cs)=true:=rfl
theorem fl_sl (t:Nat)(xs:List AV)(o:Own):flat1 (.sl t xs o)=true:=rfl
theorem fl_o (k o n:Nat):flat1 (.osl k o n)=true:=rfl
theorem fl_nm:flat1 .nilmap=true:=rfl
theorem fl_m (k:Nat):flat1 (.map k)=true:=rfl
theorem fl_f (t:Nat)(f:Fn)(a b:List AV):flat1 (.func t f a b)=true:=rfl
theorem fl_nf:flat1 .nilfunc=true:=rfl
theorem fl_if (t:TypeId)(v:AV):flat1 (.iface t v)=true:=rfl
theorem fl_ni:flat1 .niliface=true:=rfl
theorem fl_a (cs:List AV):flat1 (.agg cs)=false:=rfl
attribute [go_sem] WP_skip WP_label WP_ret WP_exit zZN WP_draw WP_seq WP_block WP_scope WP_cond WP_loop WP_range zZO TQ_ret TQ_exit TQ_panic zZU BQ_ret BQ_panic BQ_exit DQ_normal DQ_panic CW_true CW_false
 nthO_0 nthO_s RP_cons RP_nil RW_nil RW_cons RW_pnil PW_some RW_loud RW_quiet RW_chk RW_apart WG_none WG_some gdst_0 gdst_s zYE gvalB_t gvalB_f GW_0t GW_0f GW_1t GW_1f GW_2t GW_2f SV_val SV_call SV_round SV_panic SQ_some SC_some KR_ret KR_panic
 Fl_put' Fl_putN at_nil at_cons Fl_tmp Fl_get Fl_const Fl_func Fl_defers FD_Fl FE_ret zZS FE_panic FN_iso FN_not zWB zWC resV_0 resV_1 resV_2 zVQ zTH zP0 zN3 argL ub
 zY8 zDF zLB cells_T zY7 zUW zY5 cells_sl zY6 zUV zZC zY9 zRH zRG zUZ zZA zUY
 top_V top_X top_T top_int top_bool top_str top_sl top_ptr top_osl top_map top_rptr top_func zC7 zCH tops_nil zAT max0 maxn top_Def top_Var zVN zVM top_Fair top_Prp top_Spec
 seal_V seal_X zV7 seal_Def zTU seal_Var zTT seal_Prp zR8 zV6 seal_str seal_sl seal_ptr seal_map zV5 zBJ zTW cond_false cond_true
 zJ0 llen_X llen_V llen_T llen_Def llen_Var zUN zUM zXU llen_Prp zXT zA8 zHM zI8
 loadA_p loadA_e loadA_r zXZ ldR_row ldX_some zAE zAA storeA_p zV2 faddr_eq faV_p faV_e faV_r zZH zZI ixSl_eq ixX_some ixOsl_eq ixO_row zXQ
 b_eq b_ne b_lt b_gt b_le b_ge b_add b_sub b_seq b_sne b_beq b_bne e_beq e_bne u_not max_2 min_2 zVD pick_t pick_f pick_bb wr_id
 opA opQ oBin zQI zL4 oBox oNil zM7 zDO zB9 zCE zF7 zFT bLen lenA_sl lenA_osl lenA_str hd0 nv nvs ns zBK zCA ofConst ofValue zT8 zJY splice flatC fl_b fl_i fl_s fl_np fl_p fl_e fl_r fl_sl fl_o fl_nm fl_m fl_f fl_nf fl_if fl_ni fl_a
 S_n zJA zIO S_done zEM
 zCS zXR llen_nil lnth_0 lnth_s lnth_nil zA6 zBI zBB List.length_cons List.length_nil List.getElem?_cons_succ List.getElem?_cons_zero List.take_succ_cons List.take_zero List.drop_succ_cons List.drop_zero List.take_nil List.drop_nil
 List.cons_append List.nil_append List.append_nil List.toList_toArray Option.map_some Int.toNat_natCast Int.cast_ofNat_Int Int.ofNat_eq_natCast decide_true decide_false Bool.and_true Bool.true_and Bool.and_false Bool.false_and Bool.not_true Bool.not_false Bool.or_false Bool.false_or Bool.or_true Bool.true_or if_true if_false Bool.false_eq_true true_and and_true
theorem zFC {α:Type}{h:α→AV}{es:Nat}(hh:∀a,llen (cellsOf (h a))=es)(l:List α):zIE es (l.map h)=true:=by
 cases l with
 | nil=>rfl
 | cons a r=>show Nat.beq (llen (cellsOf (h a))) es=true;rw[hh];simp
theorem hasEs_S (l:List Str):zIE 1 (l.map AV.str)=true:=zFC (h:=AV.str) (fun _=>rfl) l
theorem hasEs_I (l:List Int):zIE 1 (l.map iv)=true:=zFC (h:=iv) (fun _=>rfl) l
theorem hasEs_X (l:List X):zIE 11 (l.map encX)=true:=zFC (fun _=>by rw[zLB];rfl) l
theorem hasEs_V (l:List V):zIE 7 (l.map encV)=true:=zFC (fun _=>by rw[zDF];rfl) l
theorem zYD (l:List Pl.Def):zIE 14 (l.map zGH)=true:=zFC (h:=zGH) (fun _=>rfl) l
theorem fits_S (l:List Str):zAZ 1 (l.map AV.str)=true:=zEA (fun _=>rfl) l
theorem fits_I (l:List Int):zAZ 1 (l.map iv)=true:=zEA (fun _=>rfl) l
theorem fits_X (l:List X):zAZ 11 (l.map encX)=true:=zEA (fun a=>by rw[zLB];rfl) l
theorem fits_V (l:List V):zAZ 7 (l.map encV)=true:=zEA (fun a=>by rw[zDF];rfl) l
theorem sl_pre {α:Type}{h:α→AV}{l:List α}{es i:Nat}{s:Sto}(hi:i≤l.length):zC8 es (.sl 0 (l.map h) .shut) none (some i) none s=bif zIE es (l.map h) then some (.sl 0 ((l.take i).map h) .shut,s) else none:=by
 simp only[zC8,zG5,zBO,zJ0,zA8,Nat.zero_le,decide_true,hi,Bool.true_and,Bool.and_true,cond_true]
 cases zIE es (l.map h) with
 | false=>rfl
 | true=>
  simp only[cond_true]
  have e:zG2 (l.map h) 0 i l.length=(l.take i).map h:=by
   unfold zG2
   rw[show Nat.beq 0 0=true from rfl,zI8,Bool.true_and]
   by_cases e:i=l.length
   ·rw[decide_eq_true e,e,List.take_length];rfl
   ·rw[decide_eq_false e];simp only[cond_false,zA6,zBI,List.drop_zero,Nat.sub_zero,List.map_take]
  rw[e]
  cases Nat.beq i l.length<;>rfl
theorem limit_eq:limit=140737488355328:=rfl
theorem zHO {ty:TypeId}{es b m:Nat}{g:Nat→Box}{u:List (Nat×Nat)}{ys:List AV}(hf:zAZ es ys=true)(hn:0<ys.length)(hb:ys.length*b≤140737488355328∧ys.length≤140737488355328)(ht:tops ys=0) :
  zAX ty es b (.sl 0 [] .nil) ys (S m g u)=some (.osl m 0 ys.length,S (m+1) (updB g m (.row ty es ys false)) u):=by
 cases ys with
 | nil=>simp at hn
 | cons a r=>
  simp only[zAX,hf,cond_true]
  rw[show zAZ es []=true from rfl]
  simp only[cond_true,zHF]
  rw[show lapp [] (a :: r)=a :: r from rfl,show llen ([]:List AV)=0 from rfl,zAG,limit_eq,zA8,zA8,decide_eq_true hb.1,decide_eq_true hb.2]
  simp only[Bool.and_self,cond_true,Nat.zero_add,S_n,zJA]
  rw[zIO (by rw[ht];omega)]
theorem zNU {ty:TypeId}{es b m:Nat}{g:Nat→Box}{u:List (Nat×Nat)}{xs ys:List AV}{t:Nat}(hx:zAZ es xs=true)(hf:zAZ es ys=true)(hn:0<ys.length)(hb:(xs.length+ys.length)*b≤140737488355328∧xs.length+ys.length≤140737488355328)(ht:tops (xs++ys)=0) :
  zAX ty es b (.sl t xs .clip) ys (S m g u)=some (.osl m 0 (xs.length+ys.length),S (m+1) (updB g m (.row ty es (xs++ys) false)) u):=by
 cases ys with
 | nil=>simp at hn
 | cons a r=>
  simp only[zAX,hf,hx,cond_true,zHF,zBB]
  rw[zAG,zAG,zAG,limit_eq,zA8,zA8,List.length_append,decide_eq_true hb.1,decide_eq_true hb.2]
  simp only[Bool.and_self,cond_true,S_n,zJA]
  rw[zIO (by rw[ht];omega)]
theorem zNT {ty:TypeId}{es b m k n:Nat}{g:Nat→Box}{u:List (Nat×Nat)}{xs ys:List AV}(hk:k<m)(hg:g k=.row ty es xs false)(hn:0<ys.length)(hf:zAZ es ys=true)(hl:n=xs.length)(hb:(xs.length+ys.length)*b≤140737488355328∧xs.length+ys.length≤140737488355328)(ht:tops (xs++ys)=0) :
  zAX ty es b (.osl k 0 n) ys (S m g u)=some (.osl m 0 (n+ys.length),S (m+1) (updB (updB g k .dead) m (.row ty es (xs++ys) false)) u):=by
 subst hl
 cases ys with
 | nil=>simp at hn
 | cons a r=>
  simp only[zAX,hf,cond_true,zIN,zEM hk,hg,Nat.beq_refl,Bool.true_and,zAG,Nat.zero_add,zA8,Nat.le_refl,decide_true]
  rw[decide_eq_false (by simp)]
  simp only[cond_false,Bool.and_self,cond_true,zHF,zBB,zA6,List.take_length,zAG,limit_eq,zA8,List.length_append,decide_eq_true hb.1,decide_eq_true hb.2,zNW hk,S_n,zJA]
  rw[zIO (by rw[ht];omega)]
theorem zEQ {ty:TypeId}{es m k n:Nat}{g:Nat→Box}{u:List (Nat×Nat)}{xs:List AV}{sl:Bool}(hk:k<m)(hg:g k=.row ty es xs sl)(hl:n=xs.length)(ht:tops xs=0) :
  zBA (S m g u) (.osl k 0 n)=some (.sl 0 xs .shut,S m (updB g k (.row ty es xs true)) u):=by
 subst hl
 show seal1 (S m g u) (.osl k 0 xs.length)=_
 simp only[seal1,zEM hk,hg,Nat.zero_add,zAG,zA8,Nat.le_refl,decide_true,cond_true,zA6,zBI,List.drop_zero,List.take_length,ht,zNW hk]
def zRI (sp:Pl.Spec)(d:Int)(sc:List Int):List AV:=zAL sp++[.int .i64 d,.sl 0 (sc.map iv) .shut]
def encPl (sp:Pl.Spec)(d:Int)(sc:List Int):AV:=.agg (zRI sp d sc)
theorem llen_Pl (sp:Pl.Spec)(d:Int)(sc:List Int):llen (zRI sp d sc)=37:=(rfl)
theorem top_Pl (sp:Pl.Spec)(d:Int)(sc:List Int):top (encPl sp d sc)=0:=(rfl)
theorem cells_Pl (sp:Pl.Spec)(d:Int)(sc:List Int):cellsOf (encPl sp d sc)=zRI sp d sc:=(rfl)
theorem seal_Pl (s:Sto)(sp:Pl.Spec)(d:Int)(sc:List Int):zBA s (encPl sp d sc)=some (encPl sp d sc,s):=(rfl)
theorem lrep_0 (v:AV):lrep v 0=[]:=(rfl)
theorem lrep_s (v:AV)(n:Nat):lrep v (n+1)=v :: lrep v n:=(rfl)
theorem lset_0 (v a:AV)(l:List AV):lset v (a :: l) 0=v :: l:=(rfl)
theorem lset_s (v a:AV)(l:List AV)(n:Nat):lset v (a :: l) (n+1)=a :: lset v l n:=(rfl)
theorem fits_nil (es:Nat):zAZ es []=true:=(rfl)
theorem zYK (es:Nat)(x:AV)(r:List AV):zAZ es (x :: r)=bif Nat.beq (llen (cellsOf x)) es&&flatC (cellsOf x) then zAZ es r else false:=(rfl)
theorem u_neg {k:IntKind}{n:Int}{s:Sto}:oUn .neg (some (.int k n)) s=.val (.int k (wr k (0-n))) s:=(rfl)
attribute [go_sem] lrep_0 lrep_s lset_0 lset_s fits_nil zYK u_neg zB4 zKA zFX zDL eq_self
attribute [go_sem] llen_Pl top_Pl cells_Pl seal_Pl
attribute [go_sem] hasEs_S hasEs_I hasEs_X hasEs_V zYD fits_S fits_I fits_X fits_V sl_pre zFZ zFY zI9 isIntD isSeqD zGI
attribute [go_sem] Nat.reduceLT Nat.reduceLeDiff Nat.reduceEqDiff Nat.reduceAdd Nat.reduceSub Nat.reduceMul Int.reduceNeg Int.reduceLT Int.reduceLE Int.reduceEq Int.reduceAdd Int.reduceSub Int.reduceToNat
attribute [go_sem ↓] reduceIte
theorem ix_in {α:Type}{l:List α}{i:Nat}(h:i<l.length):l[i]?=some l[i]∧l[i]∈l∧decide ((i:Int)<l.length)=true:=⟨List.getElem?_eq_getElem h,List.getElem_mem h,by simpa using h⟩
theorem zSU {α:Type}{l:List α}{i:Nat}(h:l.length≤i):decide ((i:Int)<l.length)=false:=by simpa using h
theorem leafB {Q:CR→Sto→Prop}{s:Sto}{a b:Bool}(h:Q (.ret (.bool a)) s)(e:a=b):Q (.ret (.bool b)) s:=e ▸ h
theorem zDX {Q:CR→Sto→Prop}{s:Sto}{a b:Int}(h:Q (.ret (.int .i64 a)) s)(e:a=b):Q (.ret (.int .i64 b)) s:=e ▸ h
theorem nbw:(∀b:Bool,((!b)=true)=(b=false))∧(∀a b:Bool,((a&&b)=true)=(a=true∧b=true))∧∀b:Bool,((!b)=false)=(b=true):=
 ⟨fun b=>by simp,fun a b=>by simp,fun b=>by simp⟩
theorem nbs:(∀b:Bool,((!b)=true)=(b=false))∧(∀a b:Bool,((a&&b)=true)=(a=true∧b=true))∧(∀a b:Bool,((a||b)=false)=(a=false∧b=false))∧(∀(p:Prop) [Decidable p],(decide p=true)=p)∧
  (∀(p:Prop) [Decidable p],(decide p=false)=¬p)∧∀b:Bool,((!b)=false)=(b=true):=
 ⟨fun b=>by simp,fun a b=>by simp,fun a b=>by simp,fun p _=>by simp,fun p _=>by simp,fun b=>by simp⟩
end Go.Ab
namespace Lf
section
set_option linter.unusedSectionVars false
variable {α:Type}[DecidableEq α]
def ddp (p:Option α):List α→List α
 | []=>[]
 | x :: r=>if p=some x then ddp (some x) r else x :: ddp (some x) r
def dd (l:List α):List α:=ddp none l
theorem zAV (p:Option α)(x:α)(r:List α):ddp p (x :: r)=if p=some x then ddp (some x) r else x :: ddp (some x) r:=rfl
def la (p:Option α):List α→Option α
 | []=>p
 | x :: r=>la (some x) r
theorem zOW (p:Option α):∀X Y:List α,la p (X++Y)=la (la p X) Y
 | [],_=>rfl
 | x :: X,Y=>zOW (some x) X Y
theorem la_none:∀(X:List α),la none X=X.getLast?
 | []=>rfl
 | [x]=>rfl
 | x :: y :: r=>by
  have:∀(p:Option α) (y:α)(r:List α),la p (y :: r)=(y :: r).getLast?:=by
   intro p y r
   induction r generalizing p y with
   | nil=>rfl
   | cons z r ih=>show la (some y) (z :: r)=_;rw[ih];rfl
  exact this none x (y :: r)
theorem zI0 (p:Option α)(y:α)(r:List α):la p (y :: r)=(y :: r).getLast?:=la_none (y :: r)
theorem zCM (p:Option α):∀X Y:List α,ddp p (X++Y)=ddp p X++ddp (la p X) Y
 | [],_=>rfl
 | x :: X,Y=>by
  show ddp p (x :: (X++Y))=ddp p (x :: X)++ddp (la (some x) X) Y
  rw[zAV,zAV]
  split<;>simp[zCM (some x) X Y]
theorem zKW (p:Option α):∀X:List α,la p (ddp p X)=la p X
 | []=>rfl
 | x :: X=>by
  rw[zAV]
  split
  ·rename_i h;subst h;exact zKW (some x) X
  ·exact zKW (some x) X
theorem zI4 (p q:Option α)(h:q=none∨q=p):∀X:List α,ddp p (ddp q X)=ddp p X
 | []=>rfl
 | x :: X=>by
  by_cases e:q=some x
  ·have hp:p=some x:=by
    cases h with
    | inl h=>rw[h] at e;cases e
    | inr h=>rw[← h];exact e
   subst hp
   rw[zAV,zAV,if_pos e,if_pos rfl]
   exact zI4 (some x) (some x) (Or.inr rfl) X
  ·rw[zAV q,if_neg e,zAV,zAV]
   split
   ·exact zI4 (some x) (some x) (Or.inr rfl) X
   ·rw[zI4 (some x) (some x) (Or.inr rfl) X]
theorem dd_dd (X:List α):dd (dd X)=dd X:=zI4 none none (Or.inl rfl) X
theorem zS3 (x:α):∀(X:List α) (y:α)(r:List α),ddp (some x) X=y :: r→y≠x
 | [],_,_,h=>by cases h
 | z :: X,y,r,h=>by
  rw[zAV] at h
  split at h
  ·rename_i e;cases e;exact zS3 x X y r h
  ·rename_i e;cases h;intro e2;exact e (by rw[e2])
theorem zNO (p:Option α):∀(X:List α) (Y:List α) (x:α),ddp p X=Y++[x]→la p Y≠some x
 | [],Y,x,h=>by cases Y<;>cases h
 | z :: X,Y,x,h=>by
  rw[zAV] at h
  split at h
  ·rename_i e;subst e;exact zNO (some z) X Y x h
  ·rename_i e
   cases Y with
   | nil=>injection h with h1 h2;subst h1;exact e
   | cons y Y=>injection h with h1 h2;subst h1;exact zNO (some z) X Y x h2
theorem dd_len (p:Option α):∀X:List α,(ddp p X).length≤X.length
 | []=>Nat.le_refl 0
 | x :: X=>by
  have:=dd_len (some x) X
  rw[zAV];split<;>simp<;>omega
def shift (S:List α):List α→List α×List α
 | x :: y :: r=>if(y :: r).getLast?=some x then shift (S++[x]) (y :: r) else(S,x :: y :: r)
 | L=>(S,L)
def perFrom (l:List α):Nat→Nat→Nat
 | 0,_=>l.length
 | f+1,n=>if l.length % n=0∧l.drop n=l.take (l.length-n) then n else perFrom l f (n+1)
def per (l:List α):Nat:=perFrom l (l.length-1) 1
def pull:List α→List α→List α×List α
 | [],L=>([],L)
 | x :: r,L=>if L.getLast?=some x then pull r (x :: L.dropLast) else(x :: r,L)
theorem zDC (x:α)(r L:List α):pull (x :: r) L=if L.getLast?=some x then pull r (x :: L.dropLast) else(x :: r,L):=rfl
def cut (P:List α)(L:List α):List α:=if P≠[]∧P.getLast?=L.head? then P.dropLast else P
def normP (S:List α)(b:Nat):List α×List α:=
 let x:=shift (dd (S.take b)) (dd (S.drop b))
 pull (cut (dd x.1) x.2).reverse (x.2.take (per x.2))
def cyc (B:List α):List α:=ddp B.getLast? B
def normR (S:List α)(b:Nat):List α×List α:=
 if cyc (S.drop b)=[] then((dd S).dropLast.reverse,(dd S).drop ((dd S).length-1))
 else pull (dd S).reverse ((cyc (S.drop b)).take (per (cyc (S.drop b))))
theorem pull_rot:∀(Y X S:List α),pull (Y++S) (X++Y.reverse)=pull S (Y.reverse++X)
 | [],X,S=>by simp
 | y :: Y,X,S=>by
  have e:X++(y :: Y).reverse=(X++Y.reverse)++[y]:=by simp
  rw[e]
  show pull (y :: (Y++S)) ((X++Y.reverse)++[y])=_
  rw[zDC,if_pos (by simp)]
  rw[List.dropLast_concat]
  have:=pull_rot Y (y :: X) S
  rw[show y :: (X++Y.reverse)=(y :: X)++Y.reverse from rfl,this]
  simp
theorem zSH (Q S:List α):pull (S++Q).reverse Q=pull S.reverse Q:=by
 have:=pull_rot Q.reverse [] S.reverse
 simp at this
 rw[List.reverse_append];exact this
theorem zJF (l:List α):∀f n,n+f=l.length→(perFrom l f n≤l.length∧n≤perFrom l f n)∧l.length % perFrom l f n=0∧l.drop (perFrom l f n)=l.take (l.length-perFrom l f n)
 | 0,n,h=>by simp[perFrom];omega
 | f+1,n,h=>by
  unfold perFrom
  split
  ·rename_i e;exact⟨⟨by omega,Nat.le_refl n⟩,e.1,e.2⟩
  ·have:=zJF l f (n+1) (by omega)
   exact⟨⟨this.1.1,by omega⟩,this.2⟩
theorem per_spec (l:List α)(h:l≠[]):(per l≤l.length∧1≤per l)∧l.length % per l=0∧l.drop (per l)=l.take (l.length-per l):=by
 have:0<l.length:=List.length_pos_iff.2 h
 exact zJF l (l.length-1) 1 (by omega)
theorem zOG (p:Nat)(Q:List α)(hQ:Q.length=p):∀(k:Nat) (L:List α),L.length=k*p→(∀i,i<L.length→L[i]?=Q[i % p]?)→∀S:List α,pull (S++L).reverse Q=pull S.reverse Q
 | 0,L,hl,_,S=>by
  have:L=[]:=List.length_eq_zero_iff.1 (by omega)
  subst this;simp
 | k+1,L,hl,hg,S=>by
  have hk:(k+1)*p=k*p+p:=Nat.succ_mul k p
  have e:L=L.take (k*p)++Q:=by
   have:L.drop (k*p)=Q:=by
    apply List.ext_getElem?
    intro i
    rw[List.getElem?_drop]
    by_cases hi:i<p
    ·rw[hg _ (by omega),Nat.mul_add_mod_self_right,Nat.mod_eq_of_lt hi]
    ·rw[List.getElem?_eq_none (by omega),List.getElem?_eq_none (by omega)]
   rw[← this,List.take_append_drop]
  rw[e,← List.append_assoc,zSH]
  refine zOG p Q hQ k _ (by simp;omega) ?_ S
  intro i hi
  simp at hi
  rw[List.getElem?_take,if_pos (by omega)]
  exact hg i (by omega)
theorem zJX (L:List α)(p:Nat)(hp:1≤p)(hd:L.drop p=L.take (L.length-p)):∀i,i<L.length→L[i]?=(L.take p)[i % p]?:=by
 intro i
 induction i using Nat.strongRecOn with
 | ind i ih=>
  intro hi
  by_cases h:i<p
  ·rw[Nat.mod_eq_of_lt h,List.getElem?_take,if_pos h]
  ·have e1:L[i]?=(L.drop p)[i-p]?:=by rw[List.getElem?_drop];congr 1;omega
   rw[e1,hd,List.getElem?_take,if_pos (by omega),ih (i-p) (by omega) (by omega)]
   congr 1
   rw[← Nat.mod_eq_sub_mod (by omega)]
theorem zM5 (L S:List α)(h:L≠[]):pull (S++L).reverse (L.take (per L))=pull S.reverse (L.take (per L)):=by
 have hs:=per_spec L h
 refine zOG (per L) _ (by rw[List.length_take];omega) (L.length / per L) L ?_ (zJX L _ hs.1.2 hs.2.2) S
 exact(Nat.div_mul_cancel (Nat.dvd_of_mod_eq_zero hs.2.1)).symm
theorem zWX {L:List α}:∀{r:List α},r.head?≠L.getLast?→L≠[]→pull r L=(r,L)
 | [],_,_=>rfl
 | x :: r,h,hl=>by
  rw[zDC,if_neg]
  intro e;exact h (by rw[e];rfl)
theorem zV3 (S:List α)(D:List α)(h:D.length≤1):shift S D=(S,D):=by
 match D,h with
 | [],_=>rfl
 | [x],_=>rfl
theorem norm_eq (S:List α)(b:Nat)(h:b<S.length):normP S b=normR S b:=by
 obtain⟨A,B,hS,hA,hB⟩:∃A B,S=A++B∧A=S.take b∧B=S.drop b:=⟨_,_,(List.take_append_drop b S).symm,rfl,rfl⟩
 have hne:B≠[]:=by rw[hB];intro e;rw[List.drop_eq_nil_iff] at e;omega
 unfold normP normR
 rw[← hA,← hB]
 clear hA hB h
 subst hS
 cases B with
 | nil=>exact absurd rfl hne
 | cons x B'=>
 obtain⟨z,hz⟩:∃z,(x :: B').getLast?=some z:=⟨_,List.getLast?_eq_some_getLast (by simp)⟩
 have hzl:la (some x) B'=some z:=by rw[← hz,← la_none];rfl
 have hT:dd (x :: B')=x :: ddp (some x) B':=by unfold dd;rw[zAV,if_neg (by simp)]
 have hc:cyc (x :: B')=if z=x then ddp (some x) B' else x :: ddp (some x) B':=by
  unfold cyc;rw[hz,zAV]
  by_cases e:z=x
  ·subst e;simp
  ·rw[if_neg (fun h=>e (Option.some.inj h)),if_neg e]
 have hdd:∀X:List α,dd (X++x :: B')=dd (X++[x])++ddp (some x) B':=by
  intro X
  unfold dd
  rw[show X++x :: B'=(X++[x])++B' by simp,zCM,zOW];rfl
 have hAx:dd (A++[x])=if A.getLast?=some x then dd A else dd A++[x]:=by
  unfold dd
  rw[zCM,la_none]
  simp only[ddp]
  split<;>simp
 have hlast:(dd A).getLast?=A.getLast?:=by rw[← la_none,← la_none];exact zKW none A
 generalize hTT:ddp (some x) B'=T at hT hc hdd
 have hlT:(x :: T).getLast?=some z:=by
  rw[← la_none];show la (some x) T=some z;rw[← hTT,zKW];exact hzl
 have hh:∀y r,T=y :: r→y≠x:=fun y r e=>zS3 x B' y r (by rw[hTT];exact e)
 rw[hT,hc,hdd A,hAx]
 cases T with
 | nil=>
  have hzx:z=x:=by simp at hlT;exact hlT.symm
  subst hzx
  rw[if_pos rfl,if_pos rfl,zV3 _ _ (by simp)]
  simp only[dd_dd,List.append_nil]
  have hp:per [z]=1:=rfl
  have hpl:pull (cut (dd A) [z]).reverse ([z].take (per [z]))=((cut (dd A) [z]).reverse,[z]):=by
   rw[hp]
   refine zWX ?_ (by simp)
   rw[List.head?_reverse]
   simp only[List.take_succ_cons,List.take_nil,List.getLast?_singleton]
   unfold cut
   split
   ·rename_i hcut
    obtain⟨w,hw⟩:∃w,(dd A).getLast?=some w:=⟨_,List.getLast?_eq_some_getLast hcut.1⟩
    have hwz:w=z:=by rw[hw] at hcut;simpa using hcut.2
    subst hwz
    have e:dd A=(dd A).dropLast++[w]:=by
     have:=List.dropLast_concat_getLast (l:=dd A) hcut.1
     rw[List.getLast?_eq_some_getLast hcut.1] at hw
     rw[Option.some.inj hw] at this;exact this.symm
    rw[← la_none]
    exact zNO none A _ w e
   ·rename_i hcut
    intro e
    refine hcut ⟨?_,?_⟩
    ·intro e2;rw[e2] at e;cases e
    ·rw[e];rfl
  rw[hpl]
  unfold cut
  by_cases e:A.getLast?=some z
  ·have hne:dd A≠[]:=by intro e2;rw[e2] at hlast;rw[e] at hlast;cases hlast
   rw[if_pos ⟨hne,by rw[hlast,e];rfl⟩,if_pos e]
   congr 1
   have h2:=List.dropLast_concat_getLast (l:=dd A) hne
   have h3:(dd A).getLast hne=z:=by
    have:=List.getLast?_eq_some_getLast hne
    rw[hlast,e] at this;exact(Option.some.inj this).symm
   rw[h3] at h2
   conv=>rhs;rw[← h2]
   simp
  ·rw[if_neg (fun hh=>e (by rw[← hlast];exact hh.2)),if_neg e]
   simp
 | cons y r=>
  have hyx:=hh y r rfl
  have hlT':(y :: r).getLast?=some z:=by
   rw[← la_none];rw[← la_none] at hlT;exact hlT
  by_cases hzx:z=x
  ·subst hzx
   rw[if_pos rfl,if_neg (by simp)]
   have hsh:shift (dd A) (z :: y :: r)=(dd A++[z],y :: r):=by
    unfold shift
    rw[if_pos hlT']
    cases r with
    | nil=>rfl
    | cons w r=>
     unfold shift
     rw[if_neg]
     intro e
     have:(w :: r).getLast?=some z:=by rw[← la_none];rw[← la_none] at hlT';exact hlT'
     rw[this] at e;exact hyx (Option.some.inj e).symm
   rw[hsh]
   simp only
   have hP:dd (dd A++[z])=dd (A++[z]):=by
    unfold dd
    rw[zCM,zCM,la_none,la_none,zI4 none none (Or.inl rfl)]
    have:=hlast;unfold dd at this;rw[this]
   rw[hP,hAx]
   have hcut:cut (if A.getLast?=some z then dd A else dd A++[z]) (y :: r)=(if A.getLast?=some z then dd A else dd A++[z]):=by
    unfold cut
    rw[if_neg]
    intro hh2
    have:(if A.getLast?=some z then dd A else dd A++[z]).getLast?=some z:=by
     split
     ·rw[hlast];assumption
     ·simp
    rw[this] at hh2
    exact hyx (Option.some.inj hh2.2).symm
   rw[hcut]
   rw[zM5 _ _ (by simp)]
  ·rw[if_neg hzx,if_neg (by simp)]
   have hsh:shift (dd A) (x :: y :: r)=(dd A,x :: y :: r):=by
    unfold shift
    rw[if_neg]
    rw[hlT'];intro e;exact hzx (Option.some.inj e)
   rw[hsh]
   simp only[dd_dd]
   have e:(if A.getLast?=some x then dd A else dd A++[x])++y :: r=cut (dd A) (x :: y :: r)++x :: y :: r:=by
    unfold cut
    by_cases e:A.getLast?=some x
    ·have hne:dd A≠[]:=by intro e2;rw[e2] at hlast;rw[e] at hlast;cases hlast
     rw[if_pos e,if_pos ⟨hne,by rw[hlast,e];rfl⟩]
     have h2:=List.dropLast_concat_getLast (l:=dd A) hne
     have h3:(dd A).getLast hne=x:=by
      have:=List.getLast?_eq_some_getLast hne
      rw[hlast,e] at this;exact(Option.some.inj this).symm
     rw[h3] at h2
     conv=>lhs;rw[← h2]
     simp
    ·rw[if_neg e,if_neg (fun hh=>e (by rw[← hlast];exact hh.2))]
     simp
   rw[e,zM5 _ _ (by simp)]
end
section
set_option linter.unusedSectionVars false
def Prd {β:Type}(w:Nat→β)(n:Nat):Prop:=∀i,w (i+n)=w i
theorem Prd.mul {β:Type}{w:Nat→β}{n:Nat}(h:Prd w n)(k:Nat):Prd w (n*k):=by
 induction k with
 | zero=>intro i;rfl
 | succ k ih=>intro i;rw[Nat.mul_succ,← Nat.add_assoc,h,ih]
theorem Prd.gcd {β:Type}{w:Nat→β}(m n:Nat):Prd w m→Prd w n→Prd w (Nat.gcd m n):=by
 induction m,n using Nat.gcd.induction with
 | H0 n=>intro _ h;rw[Nat.gcd_zero_left];exact h
 | H1 m n hm ih=>
  intro h1 h2
  rw[Nat.gcd_rec]
  refine ih ?_ h1
  intro i
  have e:=h1.mul (n / m) (i+n % m)
  rw[← e,Nat.add_assoc,Nat.mod_add_div];exact h2 i
variable {α:Type}[DecidableEq α]
def wl (L:List α)(i:Nat):Option α:=L[i % L.length]?
theorem zKL (l:List α):∀f n m,n+f=l.length→n≤m→m<l.length→l.length % m=0→l.drop m=l.take (l.length-m)→perFrom l f n≤m
 | 0,n,m,h,h1,h2,_,_=>by omega
 | f+1,n,m,h,h1,h2,h3,h4=>by
  unfold perFrom
  split
  ·exact h1
  ·rename_i hne
   by_cases e:n=m
   ·subst e;exact absurd ⟨h3,h4⟩ hne
   ·exact zKL l f (n+1) m (by omega) (by omega) h2 h3 h4
theorem zPW (L:List α)(h:L≠[])(i:Nat):wl (L.take (per L)) i=wl L i:=by
 have hs:=per_spec L h
 have hl:0<L.length:=List.length_pos_iff.2 h
 unfold wl
 rw[zJX L _ hs.1.2 hs.2.2 _ (Nat.mod_lt _ hl),List.length_take,Nat.min_eq_left hs.1.1]
 rw[Nat.mod_mod_of_dvd _ (Nat.dvd_of_mod_eq_zero hs.2.1)]
theorem wl_per (L:List α)(h:L≠[]):Prd (wl L) (per L):=by
 have hs:=per_spec L h
 intro i
 rw[← zPW L h,← zPW L h]
 unfold wl
 rw[List.length_take,Nat.min_eq_left hs.1.1,Nat.add_mod_right]
theorem wl_len (L:List α):Prd (wl L) L.length:=by
 intro i;unfold wl;rw[Nat.add_mod_right]
theorem per_le (L:List α)(h:L≠[])(n:Nat)(hn:1≤n)(hp:Prd (wl L) n):per L≤n:=by
 have hl:0<L.length:=List.length_pos_iff.2 h
 have hg:=Prd.gcd n L.length hp (wl_len L)
 have hd:Nat.gcd n L.length ∣ L.length:=Nat.gcd_dvd_right ..
 have hgn:Nat.gcd n L.length≤n:=Nat.le_of_dvd hn (Nat.gcd_dvd_left ..)
 have hgl:Nat.gcd n L.length≤L.length:=Nat.le_of_dvd hl hd
 have hg1:1≤Nat.gcd n L.length:=Nat.gcd_pos_of_pos_left _ hn
 generalize Nat.gcd n L.length=g at *
 refine Nat.le_trans ?_ hgn
 by_cases e:g=L.length
 ·have:=per_spec L h;omega
 ·refine zKL L _ 1 g (by omega) hg1 (by omega) (Nat.mod_eq_zero_of_dvd hd) ?_
  apply List.ext_getElem?
  intro i
  rw[List.getElem?_drop]
  by_cases hi:i<L.length-g
  ·rw[List.getElem?_take,if_pos hi]
   have:=hg i
   unfold wl at this
   rw[Nat.mod_eq_of_lt (by omega),Nat.mod_eq_of_lt (by omega)] at this
   rw[Nat.add_comm];exact this
  ·rw[List.getElem?_eq_none (by omega),List.getElem?_eq_none (by simp;omega)]
theorem zOI (L M:List α)(hL:L≠[])(hM:M≠[])(h:∀n,Prd (wl L) n↔Prd (wl M) n):per L=per M:=
 Nat.le_antisymm (per_le L hL _ (per_spec M hM).1.2 ((h _).2 (wl_per M hM))) (per_le M hM _ (per_spec L hL).1.2 ((h _).1 (wl_per L hL)))
theorem zSJ (L M:List α)(hL:L≠[])(hM:M≠[])(h:∀i,wl L i=wl M i):per L=per M:=by
 refine zOI L M hL hM fun n=>?_
 rw[show wl L=wl M from funext h]
theorem zVA (x:α)(T:List α)(i:Nat):wl (T++[x]) i=wl (x :: T) (i+1):=by
 unfold wl
 simp only[List.length_append,List.length_cons,List.length_nil,Nat.zero_add]
 generalize hn:T.length+1=n
 have hlt:i % n<n:=Nat.mod_lt _ (by omega)
 rw[Nat.add_mod]
 by_cases h:i % n+1=n
 ·have e:i % n=T.length:=by omega
  have e2:(i % n+1 % n) % n=0:=by
   by_cases h1:n=1
   ·subst h1;omega
   ·rw[Nat.mod_eq_of_lt (show 1<n by omega),h,Nat.mod_self]
  rw[e2,e];simp
 ·have e2:(i % n+1 % n) % n=i % n+1:=by
   rw[Nat.mod_eq_of_lt (show 1<n by omega),Nat.mod_eq_of_lt (by omega)]
  rw[e2,List.getElem?_cons_succ,List.getElem?_append_left (by omega)]
theorem zW2 (x:α)(T:List α):per (T++[x])=per (x :: T):=by
 refine zOI _ _ (by simp) (by simp) fun n=>?_
 constructor
 ·intro h i
  have e:∀j,wl (x :: T) j=wl (T++[x]) (j+T.length):=by
   intro j;rw[zVA,Nat.add_assoc];exact(wl_len (x :: T) j).symm
  rw[e,e,Nat.add_right_comm];exact h _
 ·intro h i
  rw[zVA,zVA,Nat.add_right_comm];exact h _
theorem per_take (L:List α)(h:L≠[]):per (L.take (per L))=(L.take (per L)).length:=by
 have hs:=per_spec L h
 have hne:L.take (per L)≠[]:=by
  intro e
  have:=congrArg List.length e
  rw[List.length_take,List.length_nil] at this
  have hl:0<L.length:=List.length_pos_iff.2 h
  omega
 rw[zSJ _ L hne h (zPW L h),List.length_take];omega
def reps (k:Nat)(B:List α):List α:=match k with
 | 0=>[]
 | k+1=>B++reps k B
theorem reps_len (B:List α):∀k,(reps k B).length=k*B.length
 | 0=>by simp[reps]
 | k+1=>by simp[reps,reps_len B k,Nat.succ_mul,Nat.add_comm]
theorem zM3 (B:List α):∀k i,i<k*B.length→(reps k B)[i]?=B[i % B.length]?
 | 0,i,h=>by omega
 | k+1,i,h=>by
  have hk:(k+1)*B.length=k*B.length+B.length:=Nat.succ_mul ..
  unfold reps
  by_cases e:i<B.length
  ·rw[List.getElem?_append_left e,Nat.mod_eq_of_lt e]
  ·rw[List.getElem?_append_right (by omega),zM3 B k _ (by omega),← Nat.mod_eq_sub_mod (by omega)]
theorem wl_reps (B:List α)(k:Nat)(hk:1≤k)(hB:B≠[])(i:Nat):wl (reps k B) i=wl B i:=by
 have hl:0<B.length:=List.length_pos_iff.2 hB
 have:0<k*B.length:=Nat.mul_pos hk hl
 unfold wl
 rw[reps_len,zM3 _ _ _ (Nat.mod_lt _ this),Nat.mod_mod_of_dvd _ (Nat.dvd_mul_left ..)]
theorem zWS (B:List α)(k:Nat)(hk:1≤k)(hB:B≠[]):reps k B≠[]:=by
 intro e
 have:=congrArg List.length e
 rw[reps_len] at this
 have hl:0<B.length:=List.length_pos_iff.2 hB
 have:0<k*B.length:=Nat.mul_pos hk hl
 simp at *;omega
theorem per_reps (B:List α)(k:Nat)(hk:1≤k)(hB:B≠[]):per (reps k B)=per B:=
 zSJ _ _ (zWS B k hk hB) hB (wl_reps B k hk hB)
theorem zNP {p:Option α}{X Y:List α}(h:ddp p (X++Y)=X++Y):ddp p X=X∧ddp (la p X) Y=Y:=by
 rw[zCM] at h
 have h1:=dd_len p X
 have h2:=dd_len (la p X) Y
 have h3:=congrArg List.length h
 simp only[List.length_append] at h3
 exact List.append_inj h (by omega)
theorem ddp_fix' {p:Option α}{X Y:List α}(h1:ddp p X=X)(h2:ddp (la p X) Y=Y):ddp p (X++Y)=X++Y:=by rw[zCM,h1,h2]
theorem ddp_one {p:Option α}{x:α}:ddp p [x]=[x]↔p≠some x:=by
 rw[zAV]
 by_cases e:p=some x
 ·simp[e,ddp]
 ·simp[e,ddp]
theorem cyc_rot (x:α)(T:List α)(h:cyc (T++[x])=T++[x]):cyc (x :: T)=x :: T:=by
 unfold cyc at h ⊢
 rw[List.getLast?_concat] at h
 have h1:=zNP h
 have h2:=ddp_one.1 h1.2
 cases T with
 | nil=>exact absurd rfl h2
 | cons y r=>
  have e:(x :: y :: r).getLast?=la (some x) (y :: r):=by rw[← la_none];rfl
  rw[e,zAV,if_neg h2,h1.1]
theorem zYZ (B:List α):cyc B≠[]→(cyc B).getLast?=B.getLast?:=by
 intro h
 have:la B.getLast? (cyc B)=la B.getLast? B:=zKW _ B
 cases hb:B with
 | nil=>rw[hb] at h;exact absurd rfl h
 | cons x r=>
  rw[hb] at this
  cases hc:cyc B with
  | nil=>exact absurd hc h
  | cons y s=>
   rw[hb] at hc
   rw[hc,zI0,zI0] at this
   rw[hc];exact this
theorem cyc_fix (B:List α)(h:cyc B≠[]):cyc (cyc B)=cyc B:=by
 show ddp (cyc B).getLast? (cyc B)=cyc B
 rw[zYZ B h]
 exact zI4 _ _ (Or.inr rfl) B
theorem cyc_take (L:List α)(h:L≠[])(hc:cyc L=L):cyc (L.take (per L))=L.take (per L):=by
 have hs:=per_spec L h
 have hl:0<L.length:=List.length_pos_iff.2 h
 obtain⟨z,hz⟩:∃z,L.getLast?=some z:=⟨_,List.getLast?_eq_some_getLast h⟩
 have e:(L.take (per L)).getLast?=some z:=by
  rw[List.getLast?_eq_getElem?,List.length_take,Nat.min_eq_left hs.1.1]
  rw[List.getLast?_eq_getElem?] at hz
  have:=zJX L _ hs.1.2 hs.2.2 (L.length-1) (by omega)
  rw[hz] at this
  rw[this]
  congr 1
  obtain⟨k,hk⟩:=Nat.dvd_of_mod_eq_zero hs.2.1
  cases k with
  | zero=>omega
  | succ k=>
   rw[show L.length-1=(per L-1)+per L*k by rw[hk,Nat.mul_succ];omega,Nat.add_mul_mod_self_left,Nat.mod_eq_of_lt (by omega)]
 unfold cyc at hc ⊢
 rw[e]
 rw[hz] at hc
 have h2:ddp (some z) (L.take (per L)++L.drop (per L))=L.take (per L)++L.drop (per L):=by rw[List.take_append_drop];exact hc
 exact(zNP h2).1
structure Nrm (r Q:List α):Prop where
 ne:Q≠[]
 cy:cyc Q=Q
 pe:per Q=Q.length
 st:dd (r.reverse++Q)=r.reverse++Q
theorem Nrm.pull {r:List α}:∀{Q:List α},Nrm r Q→Nrm (pull r Q).1 (pull r Q).2∧(Lf.pull r Q).1.head?≠(Lf.pull r Q).2.getLast?:=by
 induction r with
 | nil=>
  intro Q h
  refine⟨h,?_⟩
  show none≠Q.getLast?
  rw[List.getLast?_eq_some_getLast h.ne];simp
 | cons x r ih=>
  intro Q h
  rw[zDC]
  split
  ·rename_i e
   refine ih ?_
   have e2:Q=Q.dropLast++[x]:=by
    have h2:=List.dropLast_concat_getLast (l:=Q) h.ne
    rw[List.getLast?_eq_some_getLast h.ne] at e
    rw[Option.some.inj e] at h2;exact h2.symm
   refine⟨by simp,?_,?_,?_⟩
   ·exact cyc_rot x _ (by rw[← e2];exact h.cy)
   ·rw[← zW2,← e2,h.pe];conv=>lhs;rw[e2]
    simp
   ·have hs:=h.st
    rw[e2] at hs
    have e3:(x :: r).reverse++(Q.dropLast++[x])=(r.reverse++(x :: Q.dropLast))++[x]:=by simp
    rw[e3] at hs
    exact(zNP hs).1
  ·rename_i e
   exact⟨h,fun e2=>e e2.symm⟩
theorem Nrm.start (S:List α)(b:Nat)(hb:b<S.length)(hc:cyc (S.drop b)≠[]):Nrm (dd S).reverse ((cyc (S.drop b)).take (per (cyc (S.drop b)))):=by
 have hf:=cyc_fix _ hc
 have hl:(cyc (S.drop b)).getLast?=(dd S).getLast?:=by
  rw[zYZ _ hc,← la_none (dd S),show la none (dd S)=la none S from zKW none S,la_none,List.getLast?_drop,if_neg (by omega)]
 generalize cyc (S.drop b)=L at *
 have hs:=per_spec L hc
 have hlen:0<L.length:=List.length_pos_iff.2 hc
 refine⟨?_,cyc_take L hc hf,per_take L hc,?_⟩
 ·intro e
  have:=congrArg List.length e
  rw[List.length_take,List.length_nil] at this
  omega
 ·rw[List.reverse_reverse]
  refine ddp_fix' (dd_dd S) ?_
  rw[la_none,← hl]
  have h2:ddp L.getLast? (L.take (per L)++L.drop (per L))=L.take (per L)++L.drop (per L):=by rw[List.take_append_drop];exact hf
  exact(zNP h2).1
theorem norm_norm (S:List α)(b:Nat)(hb:b<S.length):normR ((normR S b).1.reverse++(normR S b).2) (normR S b).1.length=normR S b:=by
 by_cases hc:cyc (S.drop b)=[]
 ·have e:normR S b=((dd S).dropLast.reverse,(dd S).drop ((dd S).length-1)):=by unfold normR;rw[if_pos hc]
  have hne:dd S≠[]:=by
   intro e2
   have h1:la none (dd S)=la none S:=zKW none S
   rw[e2] at h1
   have:S≠[]:=by intro e3;rw[e3] at hb;simp at hb
   have h1:la none S=none:=h1.symm
   rw[la_none,List.getLast?_eq_some_getLast this] at h1;cases h1
  have hd:(dd S).drop ((dd S).length-1)=[(dd S).getLast hne]:=by
   have:=List.dropLast_concat_getLast (l:=dd S) hne
   conv=>lhs;rw[← this]
   simp
  have h0:(dd S).dropLast++(dd S).drop ((dd S).length-1)=dd S:=by rw[hd];exact List.dropLast_concat_getLast hne
  rw[e]
  simp only[List.reverse_reverse,List.length_reverse,h0,List.length_dropLast]
  unfold normR
  rw[hd,dd_dd,if_pos (by simp[cyc,ddp])]
  rw[hd]
 ·have e:normR S b=pull (dd S).reverse ((cyc (S.drop b)).take (per (cyc (S.drop b)))):=by unfold normR;rw[if_neg hc]
  obtain⟨hn,hx⟩:=(Nrm.start S b hb hc).pull
  rw[← e] at hn hx
  generalize (normR S b)=x at *
  obtain⟨r,Q⟩:=x
  simp only at hn hx ⊢
  unfold normR
  have e1:(r.reverse++Q).drop r.length=Q:=by rw[← List.length_reverse (as:=r)];exact List.drop_left
  rw[e1,hn.cy,if_neg hn.ne,hn.st,hn.pe,List.take_length,zSH,List.reverse_reverse]
  exact zWX hx hn.ne
theorem norm_turn (S:List α)(b:Nat)(x:α)(hx:S[b]?=some x):normR (S++[x]) (b+1)=normR S b:=by
 have hb:b<S.length:=by
  rcases Nat.lt_or_ge b S.length with h|h
  ·exact h
  ·rw[List.getElem?_eq_none h] at hx;cases hx
 obtain⟨B',hB⟩:∃B',S.drop b=x :: B':=by
  rw[List.drop_eq_getElem_cons hb]
  rw[List.getElem?_eq_getElem hb] at hx
  rw[Option.some.inj hx];exact⟨_,rfl⟩
 have hd1:(S++[x]).drop (b+1)=B'++[x]:=by
  rw[List.drop_append_of_le_length (by omega),show S.drop (b+1)=(S.drop b).drop 1 by rw[List.drop_drop],hB];rfl
 obtain⟨z,hz⟩:∃z,(x :: B').getLast?=some z:=⟨_,List.getLast?_eq_some_getLast (by simp)⟩
 have hzl:la (some x) B'=some z:=by rw[← hz,← la_none];rfl
 have hS:S.getLast?=some z:=by
  rw[← hz,← hB,List.getLast?_drop,if_neg (by omega)]
 have hdd:dd (S++[x])=dd S++(if z=x then [] else [x]):=by
  unfold dd
  rw[zCM,la_none,hS,zAV]
  by_cases e:z=x
  ·subst e;simp[ddp]
  ·rw[if_neg (fun h=>e (Option.some.inj h)),if_neg e];rfl
 have hc1:cyc (B'++[x])=ddp (some x) B'++(if z=x then [] else [x]):=by
  unfold cyc
  rw[List.getLast?_concat,zCM,hzl,zAV]
  by_cases e:z=x
  ·subst e;simp[ddp]
  ·rw[if_neg (fun h=>e (Option.some.inj h)),if_neg e];rfl
 have hc:cyc (x :: B')=if z=x then ddp (some x) B' else x :: ddp (some x) B':=by
  unfold cyc;rw[hz,zAV]
  by_cases e:z=x
  ·subst e;simp
  ·rw[if_neg (fun h=>e (Option.some.inj h)),if_neg e]
 unfold normR
 rw[hd1,hB,hc1,hc,hdd]
 by_cases e:z=x
 ·rw[if_pos e,if_pos e,List.append_nil,List.append_nil]
 ·rw[if_neg e,if_neg e,if_neg (by simp),if_neg (by simp)]
  generalize ddp (some x) B'=T
  rw[zW2]
  have hs:=per_spec (x :: T) (by simp)
  generalize hp:per (x :: T)=p at *
  have hQ:(T++[x]).take p=T.take (p-1)++[x]:=by
   obtain⟨q,rfl⟩:∃q,p=q+1:=⟨p-1,by omega⟩
   simp only[List.length_cons] at hs
   rw[Nat.add_sub_cancel]
   by_cases h1:q=T.length
   ·subst h1
    rw[List.take_of_length_le (by simp),List.take_length]
   ·rw[List.take_append_of_le_length (by omega),List.take_add_one]
    congr 1
    have h2:=zJX (x :: T) (q+1) hs.1.2 hs.2.2 (q+1) (by simp;omega)
    rw[Nat.mod_self] at h2
    simp at h2
    rw[h2];rfl
  rw[hQ,List.reverse_append]
  show pull (x :: (dd S).reverse) _=_
  rw[zDC,if_pos (by simp),List.dropLast_concat]
  congr 1
  obtain⟨q,rfl⟩:∃q,p=q+1:=⟨p-1,by omega⟩
  rfl
theorem zYY (p:Option α)(U V:List α)(y:α):∀t,ddp p (U++(List.replicate t y++y :: V))=ddp p (U++y :: V)
 | 0=>rfl
 | t+1=>by
  rw[zCM p U (List.replicate (t+1) y++y :: V),zCM p U (y :: V)]
  congr 1
  rw[List.replicate_succ,List.cons_append,zAV]
  have h:∀q,ddp (some y) (List.replicate t y++y :: V)=ddp (some y) V∧ddp q (List.replicate t y++y :: V)=ddp q (y :: V):=by
   intro q
   induction t generalizing q with
   | zero=>exact⟨by simp[zAV],rfl⟩
   | succ t ih=>
    have h1:=(ih (some y)).1
    constructor
    ·rw[List.replicate_succ,List.cons_append,zAV,if_pos rfl,h1]
    ·rw[List.replicate_succ,List.cons_append,zAV,h1,zAV]
  rw[(h none).1,zAV]
theorem norm_stutter (U V:List α)(y:α)(t b:Nat):normR (U++(List.replicate t y++y :: V)) (if U.length<b then b+t else b)=normR (U++y :: V) b:=by
 have hd:dd (U++(List.replicate t y++y :: V))=dd (U++y :: V):=zYY none U V y t
 have hc:cyc ((U++(List.replicate t y++y :: V)).drop (if U.length<b then b+t else b))=cyc ((U++y :: V).drop b):=by
  split
  ·rename_i h
   congr 1
   rw[List.drop_append,List.drop_append,List.drop_append]
   rw[List.drop_eq_nil_of_le (by omega),List.drop_eq_nil_of_le (show U.length≤b by omega),List.drop_eq_nil_of_le (by simp;omega)]
   simp only[List.nil_append,List.length_replicate]
   congr 1;omega
  ·rename_i h
   rw[List.drop_append_of_le_length (by omega),List.drop_append_of_le_length (by omega)]
   unfold cyc
   have:(U.drop b++(List.replicate t y++y :: V)).getLast?=(U.drop b++y :: V).getLast?:=by
    rw[← la_none,← la_none,zOW,zOW,zOW];rw[zI0,zI0]
   rw[this]
   exact zYY _ _ V y t
 unfold normR
 rw[hd,hc]
theorem zNN (z:α)(B:List α)(hz:la (some z) B=some z):∀k,ddp (some z) (reps k B)=reps k (ddp (some z) B)
 | 0=>rfl
 | k+1=>by
  unfold reps
  rw[zCM,hz,zNN z B hz k]
theorem norm_reps (S:List α)(b k:Nat)(hb:b<S.length)(hk:1≤k):normR (S.take b++reps k (S.drop b)) b=normR S b:=by
 have hlt:(S.take b).length=b:=by rw[List.length_take];omega
 have hd:(S.take b++reps k (S.drop b)).drop b=reps k (S.drop b):=by
  conv=>lhs;rw[show b=(S.take b).length from hlt.symm]
  rw[hlt]
  conv=>lhs;arg 1;rw[← hlt]
  exact List.drop_left
 obtain⟨z,hz⟩:∃z,(S.drop b).getLast?=some z:=⟨_,List.getLast?_eq_some_getLast (by intro e;rw[List.drop_eq_nil_iff] at e;omega)⟩
 have hzl:∀p,la p (S.drop b)=some z:=by
  intro p
  cases hB:S.drop b with
  | nil=>rw[hB] at hz;cases hz
  | cons x r=>rw[zI0,← hB];exact hz
 have hlast:(reps k (S.drop b)).getLast?=some z:=by
  obtain⟨m,rfl⟩:∃m,k=m+1:=⟨k-1,by omega⟩
  clear hk hd
  induction m with
  | zero=>simp[reps,hz]
  | succ m ih=>
   show(S.drop b++reps (m+1) (S.drop b)).getLast?=_
   rw[List.getLast?_append,ih];rfl
 have hc:cyc (reps k (S.drop b))=reps k (cyc (S.drop b)):=by
  unfold cyc
  rw[hlast,hz]
  exact zNN z _ (hzl _) k
 have hdd:dd (S.take b++reps k (S.drop b))=dd S++reps (k-1) (cyc (S.drop b)):=by
  obtain⟨m,rfl⟩:∃m,k=m+1:=⟨k-1,by omega⟩
  show dd (S.take b++(S.drop b++reps m (S.drop b)))=_
  rw[← List.append_assoc,List.take_append_drop]
  unfold dd
  rw[zCM]
  congr 1
  have:la none S=some z:=by
   rw[la_none,← hz,List.getLast?_drop,if_neg (by omega)]
  rw[this,zNN z _ (hzl _)]
  unfold cyc;rw[hz];rfl
 unfold normR
 rw[hd,hc,hdd]
 by_cases e:cyc (S.drop b)=[]
 ·have e2:∀k,reps k (cyc (S.drop b))=[]:=by
   intro k;rw[e]
   induction k with
   | zero=>rfl
   | succ k ih=>unfold reps;rw[ih];rfl
  rw[e2,e2,if_pos rfl,if_pos e,List.append_nil]
 ·rw[if_neg (zWS _ _ hk e),if_neg e]
  generalize cyc (S.drop b)=L at *
  rw[per_reps L k hk e]
  have hs:=per_spec L e
  have ht:(reps k L).take (per L)=L.take (per L):=by
   obtain⟨m,rfl⟩:∃m,k=m+1:=⟨k-1,by omega⟩
   unfold reps
   rw[List.take_append_of_le_length hs.1.1]
  rw[ht]
  clear hc hdd ht hd hlast hk
  generalize dd S=X
  have:∀m (X:List α),pull (X++reps m L).reverse (L.take (per L))=pull X.reverse (L.take (per L)):=by
   intro m
   induction m with
   | zero=>intro X;simp[reps]
   | succ m ih=>
    intro X
    unfold reps
    rw[← List.append_assoc,ih,zM5 L X e]
  exact this _ X
theorem pull_len:∀(r Q:List α),(pull r Q).1.length+(pull r Q).2.length≤r.length+Q.length
 | [],Q=>Nat.le_refl _
 | x :: r,Q=>by
  rw[zDC]
  split
  ·rename_i e
   have h:=pull_len r (x :: Q.dropLast)
   have:Q≠[]:=by intro e2;rw[e2] at e;cases e
   have:0<Q.length:=List.length_pos_iff.2 this
   simp only[List.length_cons,List.length_dropLast] at h ⊢
   omega
  ·exact Nat.le_refl _
theorem shift_len:∀(L S:List α),(shift S L).1.length+(shift S L).2.length=S.length+L.length
 | [],S=>rfl
 | [x],S=>rfl
 | x :: y :: r,S=>by
  unfold shift
  split
  ·have:=shift_len (y :: r) (S++[x])
   simp only[List.length_append,List.length_cons,List.length_nil] at this ⊢
   omega
  ·rfl
theorem norm_len (S:List α)(b:Nat):(normP S b).1.length+(normP S b).2.length≤S.length:=by
 unfold normP
 have h1:=shift_len (dd (S.drop b)) (dd (S.take b))
 have h2:=dd_len none (S.take b)
 have h3:=dd_len none (S.drop b)
 have h6:(S.take b).length+(S.drop b).length=S.length:=by rw[← List.length_append,List.take_append_drop]
 generalize shift (dd (S.take b)) (dd (S.drop b))=x at *
 have h4:=pull_len (cut (dd x.1) x.2).reverse (x.2.take (per x.2))
 have h5:=dd_len none x.1
 have h7:(cut (dd x.1) x.2).length≤(dd x.1).length:=by
  unfold cut;split
  ·rw[List.length_dropLast];omega
  ·exact Nat.le_refl _
 have h8:(x.2.take (per x.2)).length≤x.2.length:=by rw[List.length_take];omega
 rw[List.length_reverse] at h4
 unfold dd at *
 show(pull (cut (ddp none x.1) x.2).reverse (x.2.take (per x.2))).1.length+(pull (cut (ddp none x.1) x.2).reverse (x.2.take (per x.2))).2.length≤S.length
 omega
end
end Lf
namespace Pl
structure Las where
 st:List (List V)
 back:Int
instance:DecidableEq V:=fun a b=>Classical.propDecidable _
def szSt (l:List V):Nat:=szVs l+1
def szSts:List (List V)→Nat
 | []=>0
 | s :: r=>szSt s+szSts r
def szL (a:Las):Nat:=szSts a.st
end Pl
namespace Go.Ab
open Go Pl
def zAD (s:List V):AV:=.sl 0 (s.map encV) .shut
def zAN (a:Las):List AV:=[.sl 0 (a.st.map zAD) .shut,.int .i64 a.back]
def zAK (a:Las):AV:=.agg (zAN a)
theorem flat_V (a:Pl.V):flatC (zBY a)=true:=(rfl)
theorem callV_y {t l:Nat}{b args:List AV}{s:Sto}:zJQ (.func t (.yield l) [] b) args s=.round l args s:=(rfl)
attribute [go_sem] flat_V callV_y
theorem resV_c {E:Env}{n:Nat}{le:List (Nat×AV)}{be:Nat→AV}{s:Sto}{a t:Nat}:resV E (Fl n le be) s [.cell a t]=(match zGV s (E.types t) (lget (Fl n le be).tmps a) with|some v=>some v|none=>none):=by
 unfold resV zC9 zC9
 cases zGV s (E.types t) (lget (Fl n le be).tmps a)<;>rfl
def gr (m:Nat)(xs:List AV):AV:=match xs with | []=>.sl 0 [] .nil|_ :: _=>.osl (m-1) 0 xs.length
def grOk (ty:TypeId)(base:Nat)(g:Nat→Box)(m:Nat)(xs:List AV):Prop:=base≤m∧(xs=[]∨(base<m∧g (m-1)=.row ty 1 xs false))
theorem app_gr {ty:TypeId}{b base m:Nat}{g:Nat→Box}{u:List (Nat×Nat)}{xs ys:List AV}(hg:grOk ty base g m xs)(hf:zAZ 1 ys=true)(hn:0<ys.length)(hb:(xs.length+ys.length)*b≤140737488355328∧xs.length+ys.length≤140737488355328)(ht:tops (xs++ys)=0) :
  ∃g',zAX ty 1 b (gr m xs) ys (S m g u)=some (gr (m+1) (xs++ys),S (m+1) g' u)∧grOk ty base g' (m+1) (xs++ys)∧∀k,k<base→g' k=g k:=by
 obtain⟨hm,h⟩:=hg
 rcases h with rfl|⟨hb1,hg⟩
 ·refine⟨updB g m (.row ty 1 ys false),?_,⟨by omega,.inr ⟨by omega,?_⟩⟩,fun k hk=>?_⟩
  ·rw[gr,zHO hf hn (by simpa using hb) (by simpa using ht)]
   cases ys with
   | nil=>simp at hn
   | cons a r=>rfl
  ·simp[updB]
  ·simp[updB,show k≠m by omega]
 ·cases xs with
  | nil=>
   refine⟨updB g m (.row ty 1 ys false),?_,⟨by omega,.inr ⟨by omega,?_⟩⟩,fun k hk=>?_⟩
   ·rw[gr,zHO hf hn (by simpa using hb) (by simpa using ht)]
    cases ys with
    | nil=>simp at hn
    | cons a r=>rfl
   ·simp[updB]
   ·simp[updB,show k≠m by omega]
  | cons a r=>
   refine⟨updB (updB g (m-1) .dead) m (.row ty 1 ((a :: r)++ys) false),?_,⟨by omega,.inr ⟨by omega,?_⟩⟩,fun k hk=>?_⟩
   ·show zAX ty 1 b (.osl (m-1) 0 (a :: r).length) ys _=_
    rw[zNT (by omega) hg hn hf rfl hb ht]
    show some (AV.osl m 0 ((a :: r).length+ys.length),_)=some (AV.osl (m+1-1) 0 ((a :: r)++ys).length,_)
    rw[List.length_append];rfl
   ·simp[updB]
   ·simp[updB,show k≠m by omega,show k≠m-1 by omega]
theorem seal_gr {ty:TypeId}{base m:Nat}{g:Nat→Box}{u:List (Nat×Nat)}{xs:List AV}(hg:grOk ty base g m xs)(ht:tops xs=0)(hn:0<xs.length) :
  zBA (S m g u) (gr m xs)=some (.sl 0 xs .shut,S m (updB g (m-1) (.row ty 1 xs true)) u):=by
 obtain⟨hm,rfl|⟨hb1,hg⟩⟩:=hg
 ·simp at hn
 ·cases xs with
  | nil=>simp at hn
  | cons a r=>exact zEQ (by omega) hg rfl ht
theorem tops_iv (l:List Int):tops (l.map iv)=0:=by induction l with|nil=>rfl|cons a l ih=>show max 0 (tops (l.map iv))=0;rw[ih];rfl
theorem gr_cells (m:Nat)(xs:List AV):cellsOf (gr m xs)=[gr m xs]:=by cases xs<;>rfl
theorem gr_flat (m:Nat)(xs:List AV):flatC [gr m xs]=true:=by cases xs<;>rfl
theorem zW8 (k o n:Nat):cellsOf (.osl k o n)=[.osl k o n]:=rfl
theorem osl_flat (k o n:Nat):flatC [.osl k o n]=true:=rfl
theorem tops_apd (xs ys:List AV):tops (xs++ys)=max (tops xs) (tops ys):=by induction xs with|nil=>exact(Nat.zero_max _).symm|cons a l ih=>show max (top a) (tops (l++ys))=max (max (top a) (tops l)) (tops ys);rw[ih,Nat.max_assoc]
theorem sealCs_app {xs:List AV}:∀{s s':Sto} {xs' ys:List AV},zC1 s xs=some (xs',s')→zC1 s (xs++ys)=(match zC1 s' ys with|some (r,s)=>some (xs'++r,s)|none=>none):=by
 induction xs with
 | nil=>intro s s' xs' ys h;cases h;rw[List.nil_append];cases zC1 s ys<;>rfl
 | cons a r ih=>
  intro s s' xs' ys h
  simp only[List.cons_append,zC1] at h ⊢
  cases h1:seal1 s a with
  | none=>rw[h1] at h;cases h
  | some p=>
   obtain⟨v,s1⟩:=p
   rw[h1] at h
   simp only at h ⊢
   cases h2:zC1 s1 r with
   | none=>rw[h2] at h;cases h
   | some q=>
    obtain⟨w,s2⟩:=q
    rw[h2] at h
    simp only at h ⊢
    cases h
    rw[ih h2]
    cases zC1 s' ys<;>rfl
attribute [go_sem] resV_c gr_cells gr_flat zW8 osl_flat
theorem zF0 {E:Env}{f:FuncId}{args args1:List AV}{s s1:Sto}{Q:CR→Sto→Prop}(hi:E.intr f args=none)(hi1:E.intr f args1=none)(hns:insM E f args s none=none)(hns1:insM E f args1 s1 none=none)(hm:(E.mode f).rawArgs=false)(h0:zBJ s args=some (args1,s1))(h1:zBJ s1 args1=some (args1,s1))(h:C E f args1 s1 Q):C E f args s Q:=by
 unfold C at *
 obtain⟨n,cr,b,s',hc,hq⟩:=h
 refine⟨n,cr,b,s',?_,hq⟩
 cases n with
 | zero=>exact absurd hc (by intro h;cases h)
 | succ n=>
  rw[zLC] at hc ⊢
  unfold zGW at hc ⊢
  have i0:zJP E f args none=none:=by unfold zJP;rw[hi]
  have i1:zJP E f args1 none=none:=by unfold zJP;rw[hi1]
  rw[i1,hns1,hm,h1] at hc
  rw[i0,hns,hm,h0]
  exact hc
def gE (ty:TypeId)(es base:Nat)(g:Nat→Box)(m:Nat)(xs:List AV):Prop:=base≤m∧(xs=[]∨(base<m∧g (m-1)=.row ty es xs false))
theorem zS1 {ty:TypeId}{es base m:Nat}{g:Nat→Box}(h:base≤m):gE ty es base g m []:=⟨h,.inl rfl⟩
theorem zPQ {ty:TypeId}{es b base m:Nat}{g:Nat→Box}{u:List (Nat×Nat)}{xs ys:List AV}(hg:gE ty es base g m xs)(hf:zAZ es ys=true)(hn:0<ys.length)(hb:(xs.length+ys.length)*b≤140737488355328∧xs.length+ys.length≤140737488355328)(ht:tops (xs++ys)=0) :
  ∃g',zAX ty es b (gr m xs) ys (S m g u)=some (gr (m+1) (xs++ys),S (m+1) g' u)∧gE ty es base g' (m+1) (xs++ys)∧∀k,k<base→g' k=g k:=by
 obtain⟨hm,h⟩:=hg
 rcases h with rfl|⟨hb1,hg⟩
 ·refine⟨updB g m (.row ty es ys false),?_,⟨by omega,.inr ⟨by omega,?_⟩⟩,fun k hk=>?_⟩
  ·rw[gr,zHO hf hn (by simpa using hb) (by simpa using ht)]
   cases ys with
   | nil=>simp at hn
   | cons a r=>rfl
  ·simp[updB]
  ·simp[updB,show k≠m by omega]
 ·cases xs with
  | nil=>
   refine⟨updB g m (.row ty es ys false),?_,⟨by omega,.inr ⟨by omega,?_⟩⟩,fun k hk=>?_⟩
   ·rw[gr,zHO hf hn (by simpa using hb) (by simpa using ht)]
    cases ys with
    | nil=>simp at hn
    | cons a r=>rfl
   ·simp[updB]
   ·simp[updB,show k≠m by omega]
  | cons a r=>
   refine⟨updB (updB g (m-1) .dead) m (.row ty es ((a :: r)++ys) false),?_,⟨by omega,.inr ⟨by omega,?_⟩⟩,fun k hk=>?_⟩
   ·show zAX ty es b (.osl (m-1) 0 (a :: r).length) ys _=_
    rw[zNT (by omega) hg hn hf rfl hb ht]
    show some (AV.osl m 0 ((a :: r).length+ys.length),_)=some (AV.osl (m+1-1) 0 ((a :: r)++ys).length,_)
    rw[List.length_append];rfl
   ·simp[updB]
   ·simp[updB,show k≠m by omega,show k≠m-1 by omega]
theorem seal_gE {ty:TypeId}{es base m:Nat}{g:Nat→Box}{u:List (Nat×Nat)}{xs:List AV}(hg:gE ty es base g m xs)(ht:tops xs=0):∃g',zBA (S m g u) (gr m xs)=some (.sl 0 xs .shut,S m g' u)∧∀k,k<base→g' k=g k:=by
 obtain⟨hm,rfl|⟨hb1,hg⟩⟩:=hg
 ·exact⟨g,rfl,fun _ _=>rfl⟩
 ·cases xs with
  | nil=>exact⟨g,rfl,fun _ _=>rfl⟩
  | cons a r=>exact⟨_,zEQ (by omega) hg rfl ht,fun k hk=>by simp[updB,show k≠m-1 by omega]⟩
theorem zZK {ty:TypeId}{es b base m:Nat}{g:Nat→Box}{u:List (Nat×Nat)}{xs ys:List AV}(hg:gE ty es base g m xs)(hf:zAZ es ys=true)(hb:(xs.length+ys.length)*b≤140737488355328∧xs.length+ys.length≤140737488355328)(ht:tops (xs++ys)=0) :
  ∃m' g',zAX ty es b (gr m xs) ys (S m g u)=some (gr m' (xs++ys),S m' g' u)∧gE ty es base g' m' (xs++ys)∧∀k,k<base→g' k=g k:=by
 cases ys with
 | nil=>exact⟨m,g,by rw[List.append_nil];cases xs<;>rfl,by rw[List.append_nil];exact hg,fun _ _=>rfl⟩
 | cons a r=>
  obtain⟨g',h⟩:=zPQ hg hf (by simp) hb ht
  exact⟨_,g',h⟩
theorem zS0 {m:Nat}{xs:List AV}(h:0<xs.length):gr m xs=.osl (m-1) 0 xs.length:=by
 cases xs with
 | nil=>simp at h
 | cons a r=>rfl
theorem zZJ {ty:TypeId}{es b m k n:Nat}{g:Nat→Box}{u:List (Nat×Nat)}{xs ys:List AV}(hk:k<m)(hg:g k=.row ty es xs false)(hf:zAZ es ys=true)(hn:n+ys.length≤xs.length)(ht:tops ys=0) :
  ∃g',zAX ty es b (.osl k 0 n) ys (S m g u)=some (.osl k 0 (n+ys.length),S m g' u)∧g' k=.row ty es (xs.take n++(ys++xs.drop (n+ys.length))) false∧∀i,i≠k→g' i=g i:=by
 cases ys with
 | nil=>exact⟨g,rfl,by rw[hg];simp,fun _ _=>rfl⟩
 | cons a r=>
  refine⟨updB g k (.row ty es (splice xs n (a :: r)) false),?_,by rw[zAE];simp only[splice,zBB,zA6,zBI,zAG],fun i hi=>zAA hi⟩
  simp only[zAX,hf,cond_true,zIN,zEM hk,hg,Nat.beq_refl,Bool.true_and,zAG,Nat.zero_add,zA8]
  rw[decide_eq_true (show n≤xs.length by omega),decide_eq_true hn]
  simp only[cond_true,cond_false,zNW hk]
  rw[zIO (by rw[ht];omega)]
theorem tops_St (l:List V):tops (l.map encV)=0:=zHS top_V l
theorem top_St (s:List V):top (zAD s)=0:=rfl
theorem zA2 (l:List (List V)):tops (l.map zAD)=0:=by
 induction l with
 | nil=>rfl
 | cons a l ih=>show max 0 (tops (l.map zAD))=0;rw[ih];rfl
theorem hasEs_St (l:List (List V)):zIE 1 (l.map zAD)=true:=zFC (h:=zAD) (fun _=>rfl) l
theorem zCZ (l:List (List V)):zAZ 1 (l.map zAD)=true:=zEA (fun _=>rfl) l
theorem cells_St (s:List V):cellsOf (zAD s)=[zAD s]:=rfl
theorem flat_St (s:List V):flatC [zAD s]=true:=rfl
theorem flat1_St (s:List V):flat1 (zAD s)=true:=rfl
theorem seal1_St (s:List V)(g:Sto):seal1 g (zAD s)=some (zAD s,g):=rfl
theorem zSA (s:List V)(g:Sto):zBA g (zAD s)=some (zAD s,g):=rfl
theorem shut_St (s:List V):shutV (zAD s)=zAD s:=rfl
theorem noOsl_St (s:List V):noOsl (zAD s)=true:=rfl
theorem noOsl_sl (t:Nat)(xs:List AV)(o:Own):noOsl (.sl t xs o)=true:=rfl
theorem shut_sl (t:Nat)(xs:List AV)(o:Own):shutV (.sl t xs o)=.sl t xs .shut:=rfl
theorem zXO (k:IntKind)(n:Int):noOsl (.int k n)=true:=rfl
theorem shut_int (k:IntKind)(n:Int):shutV (.int k n)=.int k n:=rfl
theorem noOsl_V (v:V):noOsl (encV v)=true:=by rw[zE2];rfl
theorem shut_V (v:V):shutV (encV v)=encV v:=by rw[zE2];rfl
attribute [go_sem] noOsl_sl shut_sl zXO shut_int
attribute [go_sem] zA2 top_St hasEs_St zCZ cells_St flat_St flat1_St seal1_St zSA shut_St noOsl_St
end Go.Ab
end
