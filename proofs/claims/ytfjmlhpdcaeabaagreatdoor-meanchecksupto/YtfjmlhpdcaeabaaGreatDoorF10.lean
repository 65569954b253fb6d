/- A part. -/
import Derived.Test.YtfjmlhpdcaeabaaGreatDoorF9
set_option linter.all false
noncomputable section
namespace Go.Ab
open Go Pl
theorem wr_id {a:Int}(h:-9223372036854775808≤a∧a<9223372036854775808):wr .i64 a=a:=by
 unfold wr
 have:inR .i64 a=true:=by
  cases a with
  | ofNat a=>simp only[inR,Nat.blt_eq];have:=h.2;simp only[Int.ofNat_eq_natCast] at this;omega
  | negSucc a=>simp only[inR,Nat.blt_eq];have:=h.1;omega
 rw[this];rfl
theorem zN9 {α:Type}{h:α→AV}(l:List α):llen (l.map h)=l.length:=by rw[zAM,List.length_map]
theorem llen_X (e:X):llen (zAO e)=11:=(rfl)
theorem llen_V (e:V):llen (zAZ e)=7:=(rfl)
theorem llen_T (e:T):llen (zTC e)=24:=(rfl)
theorem llen_Def (e:Pl.Def):llen (zBC e)=14:=(rfl)
theorem llen_Var (e:Pl.Var):llen (zCR e)=12:=(rfl)
theorem zUQ (e:Pl.Const):llen (zBL e)=8:=(rfl)
theorem zUP (e:Pl.Named):llen (zBU e)=12:=(rfl)
theorem zXI (e:Pl.Fair):llen (zB2 e)=23:=(rfl)
theorem llen_Prp (e:Pl.Prp):llen (zE8 e)=25:=(rfl)
theorem zXH (e:Pl.Spec):llen (zAE e)=35:=(rfl)
theorem lnth_0 (a:AV)(l:List AV):lnth (a :: l) 0=some a:=rfl
theorem lnth_s (a:AV)(l:List AV)(n:Nat):lnth (a :: l) (n+1)=lnth l n:=rfl
theorem lnth_nil (n:Nat):lnth [] n=none:=rfl
theorem zXG {α:Type}(a:α)(l:List α):llen (a :: l)=llen l+1:=(rfl)
theorem llen_nil {α:Type}:llen ([]:List α)=0:=(rfl)
theorem zCD (a b:Nat):Nat.ble a b=decide (a≤b):=by rw[Bool.eq_iff_iff];simp
theorem zGI (a b:Nat):Nat.blt a b=decide (a<b):=by rw[Bool.eq_iff_iff];simp
theorem zRY (a b:Nat):Nat.beq a b=decide (a=b):=by rw[Bool.eq_iff_iff];simp
def ldB (b:Box)(ti:TI)(o:Nat):Option AV:=match b with|.cells _ cs=>pick1 ti cs o|_=>none
def ldX (ti:TI)(o:Nat)(x:Option AV):Option AV:=match x with|some x=>pick1 ti (cellsOf x) o|none=>none
def ldR (b:Box)(ti:TI)(i o:Nat):Option AV:=match b with|.row _ _ xs _=>ldX ti o (lnth xs i)|_=>none
section
variable {m:Nat}{g:Nat→Box}{u:List (Nat×Nat)}{ti:TI}{k o i:Nat}{s:Sto}
theorem loadA_p (h:k<m):zIT (S m g u) ti (.ptr k o)=ldB (g k) ti o:=by simp only[zIT,zE1 h];unfold ldB;cases g k<;>rfl
theorem loadA_e (h:k<m):zIT (S m g u) ti (.eptr k i o)=ldR (g k) ti i o:=by
 simp only[zIT,zE1 h];unfold ldR ldX;cases g k with
 | row a b xs d=>simp only;cases lnth xs i<;>rfl
 | _=>rfl
theorem loadA_r {t:Nat}{cs:List AV}:zIT s ti (.rptr t cs)=pick1 ti cs 0:=(rfl)
theorem zXO {ty:TypeId}{cs:List AV}:ldB (.cells ty cs) ti o=pick1 ti cs o:=(rfl)
theorem ldR_row {ty:TypeId}{es:Nat}{xs:List AV}{sl:Bool}:ldR (.row ty es xs sl) ti i o=ldX ti o (lnth xs i):=(rfl)
theorem ldX_some {x:AV}:ldX ti o (some x)=pick1 ti (cellsOf x) o:=(rfl)
theorem zAD {b:Box}:updB g k b k=b:=if_pos rfl
theorem zAC {b:Box}{j:Nat}(h:k≠j):updB g j b k=g k:=if_neg h
theorem zA3 (h1:ti.size=1)(h2:ti.agg=false)(cs:List AV):pick1 ti cs o=lnth cs o:=by
 unfold pick1;rw[h1,h2,zEV,zAM,zCD]
 by_cases h:o+1≤cs.length
 ·rw[decide_eq_true h];rfl
 ·rw[decide_eq_false h];simp only[cond_false];rw[List.getElem?_eq_none (by omega)]
def stB (m:Nat)(g:Nat→Box)(u:List (Nat×Nat))(k:Nat)(b:Box)(ti:TI)(o:Nat)(v:AV):Option Sto:=
 match b with
 | .cells ty cs=>bif Nat.beq (llen (cellsOf v)) ti.size&&(Nat.ble (o+ti.size) (llen cs)&&flatC (cellsOf v)) then some ((S m (updB g k (.cells ty (splice cs o (cellsOf v)))) u).note k (top v)) else none
 | _=>none
theorem storeA_p {v:AV}(h:k<m):zGL (S m g u) ti (.ptr k o) v=stB m g u k (g k) ti o v:=by
 simp only[zGL,zE1 h];unfold stB;cases g k with
 | cells ty cs=>simp only;rw[zI6 h]
 | _=>rfl
theorem zV3 {v:AV}{ty:TypeId}{cs:List AV}:stB m g u k (.cells ty cs) ti o v=bif Nat.beq (llen (cellsOf v)) ti.size&&(Nat.ble (o+ti.size) (llen cs)&&flatC (cellsOf v)) then some ((S m (updB g k (.cells ty (splice cs o (cellsOf v)))) u).note k (top v)) else none:=(rfl)
def faV (x:AV)(s:Sto)(q:Option (Nat×TypeId)):Nx:=
 match q with
 | some (off,_)=>(match x with
   | .ptr k o=>.val (.ptr k (o+off)) s
   | .eptr k j o=>.val (.eptr k j (o+off)) s
   | .rptr t cs=>bif Nat.ble off (llen cs) then .val (.rptr t (ldrop cs off)) s else .no
   | _=>.no)
 | none=>.no
theorem faddr_eq {fs:List (Nat×TypeId)}{x:AV}:zB0 (.struct fs) (some x) i s=faV x s (zB3 fs i):=by
 unfold zB0 faV;simp only;cases zB3 fs i with
 | none=>rfl
 | some q=>obtain⟨a,b⟩:=q;cases x<;>rfl
theorem faV_p {off:Nat}{ft:TypeId}:faV (.ptr k o) s (some (off,ft))=.val (.ptr k (o+off)) s:=(rfl)
theorem faV_e {off:Nat}{ft:TypeId}:faV (.eptr k i o) s (some (off,ft))=.val (.eptr k i (o+off)) s:=(rfl)
theorem faV_r {off:Nat}{ft:TypeId}{t:Nat}{cs:List AV}:faV (.rptr t cs) s (some (off,ft))=bif Nat.ble off (llen cs) then .val (.rptr t (ldrop cs off)) s else .no:=(rfl)
theorem zZE {k:IntKind}{j:Nat}:asNat (.int k (j:Int))=some j:=(rfl)
theorem zF3 {k:IntKind}{z:Int}(h:0≤z):asNat (.int k z)=some z.toNat:=by cases z with
 | ofNat a=>rfl
 | negSucc a=>omega
def ixX (es tp:Nat)(s:Sto)(x:Option AV):Nx:=match x with|some x=>bif Nat.beq (llen (cellsOf x)) es then .val (.rptr tp (cellsOf x)) s else .no|none=>.no
theorem ixSl_eq {es tp:Nat}{xs:List AV}:ixSl es i tp xs s=ixX es tp s (lnth xs i):=by unfold ixSl ixX;cases lnth xs i<;>rfl
theorem ixX_some {es tp:Nat}{x:AV}:ixX es tp s (some x)=bif Nat.beq (llen (cellsOf x)) es then .val (.rptr tp (cellsOf x)) s else .no:=(rfl)
def ixO (es i k off len m:Nat)(g:Nat→Box)(u:List (Nat×Nat))(b:Box):Nx:=match b with|.row _ es' _ _=>bif Nat.blt i len&&Nat.beq es es' then .val (.eptr k (off+i) 0) (S m g u) else .no|_=>.no
theorem ixOsl_eq {es off len:Nat}(h:k<m):zQ7 es i k off len (S m g u)=ixO es i k off len m g u (g k):=by unfold zQ7 ixO;rw[zE1 h];cases g k<;>rfl
theorem ixO_row {es es' off len:Nat}{ty:TypeId}{xs:List AV}{sl:Bool}:ixO es i k off len m g u (.row ty es' xs sl)=bif Nat.blt i len&&Nat.beq es es' then .val (.eptr k (off+i) 0) (S m g u) else .no:=(rfl)
theorem zXF {α:Type}{h:α→AV}{l:List α}:lnth (l.map h) i=(l[i]?).map h:=by rw[zEV,List.getElem?_map]
end
theorem seal_V (s:Sto)(v:V):zA0 s (encV v)=some (encV v,s):=by rw[zGD];rfl
theorem zIH (s:Sto)(v:X):zA0 s (encX v)=some (encX v,s):=by rw[zBX];rfl
theorem zV6 (s:Sto)(v:Pl.Spec):zA0 s (zAX v)=some (zAX v,s):=(rfl)
theorem seal_Def (s:Sto)(v:Pl.Def):zA0 s (zCH v)=some (zCH v,s):=(rfl)
theorem zTZ (s:Sto)(v:Pl.Const):zA0 s (zBE v)=some (zBE v,s):=(rfl)
theorem seal_Var (s:Sto)(v:Pl.Var):zA0 s (zDL v)=some (zDL v,s):=(rfl)
theorem zTY (s:Sto)(v:Pl.Named):zA0 s (zBQ v)=some (zBQ v,s):=(rfl)
theorem seal_Prp (s:Sto)(v:Pl.Prp):zA0 s (zD9 v)=some (zD9 v,s):=(rfl)
theorem zDF (s:Sto)(k:IntKind)(n:Int):zA0 s (.int k n)=some (.int k n,s):=(rfl)
theorem zV5 (s:Sto)(b:Bool):zA0 s (.bool b)=some (.bool b,s):=(rfl)
theorem seal_str (s:Sto)(b:Str):zA0 s (.str b)=some (.str b,s):=(rfl)
theorem zEQ (s:Sto)(t:Nat)(xs:List AV)(o:Own):zA0 s (.sl t xs o)=some (.sl t xs .shut,s):=(rfl)
theorem zEM (s:Sto)(k o:Nat):zA0 s (.ptr k o)=some (.ptr k o,s):=(rfl)
theorem seal_map (s:Sto)(k:Nat):zA0 s (.map k)=some (.map k,s):=(rfl)
theorem zKU (s:Sto)(t:Nat)(f:Fn)(a b:List AV):zA0 s (.func t f a b)=some (.func t f a b,s):=(rfl)
theorem zVP (k:IntKind)(n:Int):top (.int k n)=0:=(rfl)
theorem top_bool (b:Bool):top (.bool b)=0:=(rfl)
theorem top_str (b:Str):top (.str b)=0:=(rfl)
theorem top_sl (t:Nat)(xs:List AV)(o:Own):top (.sl t xs o)=t:=(rfl)
theorem top_ptr (k o:Nat):top (.ptr k o)=k+1:=(rfl)
theorem top_osl (k o n:Nat):top (.osl k o n)=k+1:=(rfl)
theorem top_map (k:Nat):top (.map k)=k+1:=(rfl)
theorem top_rptr (t:Nat)(cs:List AV):top (.rptr t cs)=t:=(rfl)
theorem top_func (t:Nat)(f:Fn)(a b:List AV):top (.func t f a b)=t:=(rfl)
theorem max0 (n:Nat):Nat.max 0 n=n:=Nat.zero_max n
theorem maxn (n:Nat):Nat.max n 0=n:=Nat.max_zero n
theorem top_Def (d:Pl.Def):top (zCH d)=0:=(rfl)
theorem top_Var (d:Pl.Var):top (zDL d)=0:=(rfl)
theorem zVS (d:Pl.Const):top (zBE d)=0:=(rfl)
theorem zVR (d:Pl.Named):top (zBQ d)=0:=(rfl)
theorem top_Fair (d:Pl.Fair):top (zEF d)=0:=(rfl)
theorem top_Prp (d:Pl.Prp):top (zD9 d)=0:=(rfl)
theorem zSF (d:Pl.Spec):top (zAX d)=0:=(rfl)
theorem zY5 (d:Pl.Def):cellsOf (zCH d)=zBC d:=(rfl)
theorem zY3 (d:Pl.Var):cellsOf (zDL d)=zCR d:=(rfl)
theorem zRT (d:Pl.Const):cellsOf (zBE d)=zBL d:=(rfl)
theorem zRS (d:Pl.Named):cellsOf (zBQ d)=zBU d:=(rfl)
theorem zU9 (d:Pl.Fair):cellsOf (zEF d)=zB2 d:=(rfl)
theorem zY4 (d:Pl.Prp):cellsOf (zD9 d)=zE8 d:=(rfl)
theorem zU8 (d:Pl.Spec):cellsOf (zAX d)=zAE d:=(rfl)
section
variable {E:Env}{t:TypeId}{c:Bool}{k:IntKind}{a b:Int}{s:Sto}{x y:Str}{p q:Bool}
theorem b_eq:binA E .eql t c (.int k a) (.int k b) s=some (.bool (decide (a=b))):=by simp only[binA,isShift,zC1,cond_true,cond_false,arith,zHU]
theorem b_ne:binA E .neq t c (.int k a) (.int k b) s=some (.bool (!decide (a=b))):=by simp only[binA,isShift,zC1,cond_true,cond_false,arith,zHU]
theorem b_lt:binA E .lss t c (.int k a) (.int k b) s=some (.bool (decide (a<b))):=by simp only[binA,isShift,zC1,cond_true,cond_false,arith,zG1]
theorem b_gt:binA E .gtr t c (.int k a) (.int k b) s=some (.bool (decide (b<a))):=by simp only[binA,isShift,zC1,cond_true,cond_false,arith,zG1]
theorem b_le:binA E .leq t c (.int k a) (.int k b) s=some (.bool (decide (a≤b))):=by
 simp only[binA,isShift,zC1,cond_true,cond_false,arith,zG1];congr 2;rw[Bool.eq_iff_iff];simp
theorem b_ge:binA E .geq t c (.int k a) (.int k b) s=some (.bool (decide (b≤a))):=by
 simp only[binA,isShift,zC1,cond_true,cond_false,arith,zG1];congr 2;rw[Bool.eq_iff_iff];simp
theorem b_add:binA E .add t c (.int k a) (.int k b) s=some (.int k (wr k (a+b))):=by simp only[binA,isShift,zC1,cond_true,cond_false,arith]
theorem b_sub:binA E .sub t c (.int k a) (.int k b) s=some (.int k (wr k (a-b))):=by simp only[binA,isShift,zC1,cond_true,cond_false,arith]
theorem b_seq:binA E .eql t c (.str x) (.str y) s=some (.bool (decide (x=y))):=by simp only[binA,zOT,zDV]
theorem b_sne:binA E .neq t c (.str x) (.str y) s=some (.bool (!decide (x=y))):=by simp only[binA,zOT,zDV]
theorem b_beq:binA E .eql t c (.bool p) (.bool q) s=eqTy E .eql (E.types t).d c (.bool p) (.bool q) s:=(rfl)
theorem b_bne:binA E .neq t c (.bool p) (.bool q) s=eqTy E .neq (E.types t).d c (.bool p) (.bool q) s:=(rfl)
theorem e_beq:eqTy E .eql .bool c (.bool p) (.bool q) s=some (.bool (decide (p=q))):=by cases p<;>cases q<;>rfl
theorem e_bne:eqTy E .neq .bool c (.bool p) (.bool q) s=some (.bool (!decide (p=q))):=by cases p<;>cases q<;>rfl
theorem u_not:oUn .not (some (.bool p)) s=.val (.bool (!p)) s:=(rfl)
theorem lenA_sl {e:TypeId}{tp:Nat}{xs:List AV}{o:Own}:lenA (.slice e) (.sl tp xs o) s=some (llen xs):=(rfl)
theorem lenA_osl {e:TypeId}{j o n:Nat}:lenA (.slice e) (.osl j o n) s=some n:=(rfl)
theorem lenA_str:lenA .str (.str x) s=some x.length:=by simp only[lenA,zAM]
theorem max_2 {a b:Int}:bMax [.int k a,.int k b] s=.val (.int k (max a b)) s:=by
 simp only[bMax,foldMax,zG1,cond_eq_ite,decide_eq_true_eq];congr 2;simp only[Int.max_def];split<;>split<;>omega
theorem min_2 {a b:Int}:bMin [.int k a,.int k b] s=.val (.int k (min a b)) s:=by
 simp only[bMin,foldMin,zG1,cond_eq_ite,decide_eq_true_eq];congr 2;simp only[Int.min_def];split<;>split<;>omega
theorem zVM {v:AV}:valOf (.val v s)=some v:=(rfl)
theorem pick_t {o1 o2:AV}:zGW (some (.bool true)) (some o1) (some o2) s=.val o1 s:=(rfl)
theorem pick_f {o1 o2:AV}:zGW (some (.bool false)) (some o1) (some o2) s=.val o2 s:=(rfl)
theorem pick_bb {b p q:Bool}:zGW (some (.bool b)) (some (.bool p)) (some (.bool q)) s=.val (.bool (if b=true then p else q)) s:=by cases b<;>rfl
end
attribute [go_sem] iv slS mg_t mg_f gvalB_u gvalB_mt gvalB_mf pk_and pk_or pk_nand pk_nor Bool.not_not
attribute [go_sem] WP_skip WP_label WP_ret WP_exit zZL WP_draw WP_seq WP_block WP_cond WP_loop WP_range zZM TQ_ret TQ_exit TQ_panic zZY BQ_ret BQ_panic BQ_exit DQ_normal DQ_panic CW_true CW_false
 nthO_0 nthO_s RP_cons RP_nil RW_nil RW_cons RW_pnil PW_some RW_loud RW_quiet RW_chk RW_apart WG_none WG_some gdst_0 gdst_s zXY gvalB_t gvalB_f GW_0t GW_0f GW_1t GW_1f GW_2t GW_2f SV_val zZP SV_round SV_panic SQ_some SC_some KR_ret KR_panic
 Fl_put' Fl_putN at_nil at_cons Fl_tmp zZU Fl_const Fl_func Fl_defers FD_Fl FE_ret zZW FE_panic zZV FN_not zWA zWB resV_0 resV_1 resV_2 zVV zTM zQG zOS argL ub
 zY2 zA7 zA9 zBR zY1 zU7 zYZ cells_sl zY0 zU6 zY5 zY3 zRT zRS zU9 zY4 zU8
 top_V zVQ top_T zVP top_bool top_str top_sl top_ptr top_osl top_map top_rptr top_func zDE zCM tops_nil zAW max0 maxn top_Def top_Var zVS zVR top_Fair top_Prp zSF
 seal_V zIH zV6 seal_Def zTZ seal_Var zTY seal_Prp zDF zV5 seal_str zEQ zEM seal_map zKU zBT zKV cond_false cond_true
 zN9 llen_X llen_V llen_T llen_Def llen_Var zUQ zUP zXI llen_Prp zXH zCD zGI zRY
 loadA_p loadA_e loadA_r zXO ldR_row ldX_some zAD zAC storeA_p zV3 faddr_eq faV_p faV_e faV_r zZE zF3 ixSl_eq ixX_some ixOsl_eq ixO_row zXF
 b_eq b_ne b_lt b_gt b_le b_ge b_add b_sub b_seq b_sne b_beq b_bne e_beq e_bne u_not max_2 min_2 zVM pick_t pick_f pick_bb wr_id
 opA opQ oBin zQX zMY oBox oNil zN5 zDW zCG zCI zGX zGF bLen lenA_sl lenA_osl lenA_str hd0 nv nvs ns zBO zB5 ofConst ofValue zUA zKI splice flatC flat1
 S_n zJP zMB zZO zE1
 zCZ zXG llen_nil lnth_0 lnth_s lnth_nil zCK zC0 zBM List.length_cons List.length_nil List.getElem?_cons_succ List.getElem?_cons_zero List.take_succ_cons List.take_zero List.drop_succ_cons List.drop_zero List.take_nil List.drop_nil
 List.cons_append List.nil_append List.append_nil List.toList_toArray Option.map_some Int.toNat_natCast Int.cast_ofNat_Int Int.ofNat_eq_natCast decide_true decide_false Bool.and_true Bool.true_and Bool.and_false Bool.false_and Bool.not_true Bool.not_false Bool.or_false Bool.false_or Bool.or_true Bool.true_or if_true if_false Bool.false_eq_true true_and and_true
theorem zG2 {α:Type}{h:α→AV}{es:Nat}(hh:∀a,llen (cellsOf (h a))=es)(l:List α):zJ8 es (l.map h)=true:=by
 cases l with
 | nil=>rfl
 | cons a r=>show Nat.beq (llen (cellsOf (h a))) es=true;rw[hh];simp
theorem hasEs_S (l:List Str):zJ8 1 (l.map AV.str)=true:=zG2 (h:=AV.str) (fun _=>rfl) l
theorem hasEs_I (l:List Int):zJ8 1 (l.map iv)=true:=zG2 (h:=iv) (fun _=>rfl) l
theorem hasEs_X (l:List X):zJ8 11 (l.map encX)=true:=zG2 (fun _=>by rw[zA9];rfl) l
theorem hasEs_V (l:List V):zJ8 7 (l.map encV)=true:=zG2 (fun _=>by rw[zA7];rfl) l
theorem zXX (l:List Pl.Def):zJ8 14 (l.map zCH)=true:=zG2 (h:=zCH) (fun _=>rfl) l
theorem zX7 (l:List Str):zBN 1 (l.map AV.str)=true:=zFV (fun _=>rfl) l
theorem zPR (l:List Int):zBN 1 (l.map iv)=true:=zFV (fun _=>rfl) l
theorem zM9 (l:List X):zBN 11 (l.map encX)=true:=zFV (fun a=>by rw[zA9];rfl) l
theorem fits_V (l:List V):zBN 7 (l.map encV)=true:=zFV (fun a=>by rw[zA7];rfl) l
theorem sl_pre {α:Type}{h:α→AV}{l:List α}{es i:Nat}{s:Sto}(hi:i≤l.length):zIG es (.sl 0 (l.map h) .shut) none (some i) none s=bif zJ8 es (l.map h) then some (.sl 0 ((l.take i).map h) .shut,s) else none:=by
 simp only[zIG,zJD,zDM,zN9,zCD,Nat.zero_le,decide_true,hi,Bool.true_and,Bool.and_true,cond_true]
 cases zJ8 es (l.map h) with
 | false=>rfl
 | true=>
  simp only[cond_true]
  have e:zJB (l.map h) 0 i l.length=(l.take i).map h:=by
   unfold zJB
   rw[show Nat.beq 0 0=true from rfl,zRY,Bool.true_and]
   by_cases e:i=l.length
   ·rw[decide_eq_true e,e,List.take_length];rfl
   ·rw[decide_eq_false e];simp only[cond_false,zCK,zC0,List.drop_zero,Nat.sub_zero,List.map_take]
  rw[e]
  cases Nat.beq i l.length<;>rfl
theorem limit_eq:limit=140737488355328:=rfl
theorem zGJ {ty:TypeId}{es b m:Nat}{g:Nat→Box}{u:List (Nat×Nat)}{ys:List AV}(hf:zBN es ys=true)(hn:0<ys.length)(hb:ys.length*b≤140737488355328∧ys.length≤140737488355328)(ht:tops ys=0) :
  zAT ty es b (.sl 0 [] .nil) ys (S m g u)=some (.osl m 0 ys.length,S (m+1) (updB g m (.row ty es ys false)) u):=by
 cases ys with
 | nil=>simp at hn
 | cons a r=>
  simp only[zAT,hf,cond_true]
  rw[show zBN es []=true from rfl]
  simp only[cond_true,zG3]
  rw[show lapp [] (a :: r)=a :: r from rfl,show llen ([]:List AV)=0 from rfl,zAM,limit_eq,zCD,zCD,decide_eq_true hb.1,decide_eq_true hb.2]
  simp only[Bool.and_self,cond_true,Nat.zero_add,S_n,zJP]
  rw[zMB (by rw[ht];omega)]
theorem zTG {ty:TypeId}{es b m:Nat}{g:Nat→Box}{u:List (Nat×Nat)}{xs ys:List AV}{t:Nat}(hx:zBN es xs=true)(hf:zBN es ys=true)(hn:0<ys.length)(hb:(xs.length+ys.length)*b≤140737488355328∧xs.length+ys.length≤140737488355328)(ht:tops (xs++ys)=0) :
  zAT ty es b (.sl t xs .clip) ys (S m g u)=some (.osl m 0 (xs.length+ys.length),S (m+1) (updB g m (.row ty es (xs++ys) false)) u):=by
 cases ys with
 | nil=>simp at hn
 | cons a r=>
  simp only[zAT,hf,hx,cond_true,zG3,zBM]
  rw[zAM,zAM,zAM,limit_eq,zCD,zCD,List.length_append,decide_eq_true hb.1,decide_eq_true hb.2]
  simp only[Bool.and_self,cond_true,S_n,zJP]
  rw[zMB (by rw[ht];omega)]
theorem zR3 {ty:TypeId}{es b m k n:Nat}{g:Nat→Box}{u:List (Nat×Nat)}{xs ys:List AV}(hk:k<m)(hg:g k=.row ty es xs false)(hn:0<ys.length)(hf:zBN es ys=true)(hl:n=xs.length)(hb:(xs.length+ys.length)*b≤140737488355328∧xs.length+ys.length≤140737488355328)(ht:tops (xs++ys)=0) :
  zAT ty es b (.osl k 0 n) ys (S m g u)=some (.osl m 0 (n+ys.length),S (m+1) (updB (updB g k .dead) m (.row ty es (xs++ys) false)) u):=by
 subst hl
 cases ys with
 | nil=>simp at hn
 | cons a r=>
  simp only[zAT,hf,cond_true,zHA,zE1 hk,hg,Nat.beq_refl,Bool.true_and,zAM,Nat.zero_add,zCD,Nat.le_refl,decide_true]
  rw[decide_eq_false (by simp)]
  simp only[cond_false,Bool.and_self,cond_true,zG3,zBM,zCK,List.take_length,zAM,limit_eq,zCD,List.length_append,decide_eq_true hb.1,decide_eq_true hb.2,zI6 hk,S_n,zJP]
  rw[zMB (by rw[ht];omega)]
theorem zE5 {ty:TypeId}{es m k n:Nat}{g:Nat→Box}{u:List (Nat×Nat)}{xs:List AV}{sl:Bool}(hk:k<m)(hg:g k=.row ty es xs sl)(hl:n=xs.length)(ht:tops xs=0) :
  zA0 (S m g u) (.osl k 0 n)=some (.sl 0 xs .shut,S m (updB g k (.row ty es xs true)) u):=by
 subst hl
 show seal1 (S m g u) (.osl k 0 xs.length)=_
 simp only[seal1,zE1 hk,hg,Nat.zero_add,zAM,zCD,Nat.le_refl,decide_true,cond_true,zCK,zC0,List.drop_zero,List.take_length,ht,zI6 hk]
def zBB (sp:Pl.Spec)(d:Int)(sc:List Int):List AV:=zAE sp++[.int .i64 d,.sl 0 (sc.map iv) .shut]
def zFY (sp:Pl.Spec)(d:Int)(sc:List Int):AV:=.agg (zBB sp d sc)
theorem llen_Pl (sp:Pl.Spec)(d:Int)(sc:List Int):llen (zBB sp d sc)=37:=(rfl)
theorem top_Pl (sp:Pl.Spec)(d:Int)(sc:List Int):top (zFY sp d sc)=0:=(rfl)
theorem cells_Pl (sp:Pl.Spec)(d:Int)(sc:List Int):cellsOf (zFY sp d sc)=zBB sp d sc:=(rfl)
theorem zV7 (s:Sto)(sp:Pl.Spec)(d:Int)(sc:List Int):zA0 s (zFY sp d sc)=some (zFY sp d sc,s):=(rfl)
theorem lrep_0 (v:AV):lrep v 0=[]:=(rfl)
theorem lrep_s (v:AV)(n:Nat):lrep v (n+1)=v :: lrep v n:=(rfl)
theorem lset_0 (v a:AV)(l:List AV):lset v (a :: l) 0=v :: l:=(rfl)
theorem lset_s (v a:AV)(l:List AV)(n:Nat):lset v (a :: l) (n+1)=a :: lset v l n:=(rfl)
theorem fits_nil (es:Nat):zBN es []=true:=(rfl)
theorem zX6 (es:Nat)(x:AV)(r:List AV):zBN es (x :: r)=bif Nat.beq (llen (cellsOf x)) es&&flatC (cellsOf x) then zBN es r else false:=(rfl)
theorem u_neg {k:IntKind}{n:Int}{s:Sto}:oUn .neg (some (.int k n)) s=.val (.int k (wr k (0-n))) s:=(rfl)
attribute [go_sem] lrep_0 lrep_s lset_0 lset_s fits_nil zX6 u_neg zCB zKW zGM zDR eq_self
attribute [go_sem] llen_Pl top_Pl cells_Pl zV7
attribute [go_sem] hasEs_S hasEs_I hasEs_X hasEs_V zXX zX7 zPR zM9 fits_V sl_pre zGO zGN zJO isIntD isSeqD zG9
attribute [go_sem] Nat.reduceLT Nat.reduceLeDiff Nat.reduceEqDiff Nat.reduceAdd Nat.reduceSub Nat.reduceMul Int.reduceNeg Int.reduceLT Int.reduceLE Int.reduceEq Int.reduceAdd Int.reduceSub Int.reduceToNat
attribute [go_sem ↓] reduceIte
theorem zFR {α:Type}{l:List α}{i:Nat}(h:i<l.length):l[i]?=some l[i]∧l[i]∈l∧decide ((i:Int)<l.length)=true:=⟨List.getElem?_eq_getElem h,List.getElem_mem h,by simpa using h⟩
theorem zDB {α:Type}{l:List α}{i:Nat}(h:l.length≤i):decide ((i:Int)<l.length)=false:=by simpa using h
theorem zA1 {Q:CR→Sto→Prop}{s:Sto}{a b:Bool}(h:Q (.ret (.bool a)) s)(e:a=b):Q (.ret (.bool b)) s:=e ▸ h
theorem zFH {Q:CR→Sto→Prop}{s:Sto}{a b:Int}(h:Q (.ret (.int .i64 a)) s)(e:a=b):Q (.ret (.int .i64 b)) s:=e ▸ h
theorem nbw:(∀b:Bool,((!b)=true)=(b=false))∧(∀a b:Bool,((a&&b)=true)=(a=true∧b=true))∧∀b:Bool,((!b)=false)=(b=true):=
 ⟨fun b=>by simp,fun a b=>by simp,fun b=>by simp⟩
theorem nbs:(∀b:Bool,((!b)=true)=(b=false))∧(∀a b:Bool,((a&&b)=true)=(a=true∧b=true))∧(∀a b:Bool,((a||b)=false)=(a=false∧b=false))∧(∀(p:Prop) [Decidable p],(decide p=true)=p)∧
  (∀(p:Prop) [Decidable p],(decide p=false)=¬p)∧∀b:Bool,((!b)=false)=(b=true):=
 ⟨fun b=>by simp,fun a b=>by simp,fun a b=>by simp,fun p _=>by simp,fun p _=>by simp,fun b=>by simp⟩
end Go.Ab
end
