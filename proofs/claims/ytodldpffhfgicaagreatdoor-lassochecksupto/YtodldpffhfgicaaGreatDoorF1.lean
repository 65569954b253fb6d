/- A part. -/
import GoSem.Machine.Frame
import Derived.Laws.Sem
import Derived.Laws.Cells
import Derived.Laws.Entries
set_option linter.all false
noncomputable section
namespace Go.Ab
open Go
noncomputable section
inductive Own where
 | nil|clip|shut
 deriving DecidableEq,Repr,Inhabited
inductive AV where
 | bool (b:Bool)
 | int (k:IntKind) (n:Int)
 | str (s:List UInt8)
 | nilptr
 | ptr (k off:Nat)
 | eptr (k i off:Nat)
 | rptr (top:Nat) (cells:List AV)
 | sl (top:Nat) (xs:List AV) (own:Own)
 | osl (k off len:Nat)
 | nilmap
 | map (k:Nat)
 | func (top:Nat) (fn:Fn) (first captured:List AV)
 | nilfunc
 | iface (t:TypeId) (v:AV)
 | niliface
 | agg (cells:List AV)
 | tuple (vs:List AV)
 deriving Inhabited,Repr
def undef:AV:=.tuple []
def lget (l:List AV):Nat→AV:=
 List.rec (motive:=fun _=>Nat→AV) (fun _=>undef) (fun a _ ih i=>Nat.rec (motive:=fun _=>AV) a (fun j _=>ih j) i) l
def lnth (l:List AV):Nat→Option AV:=
 List.rec (motive:=fun _=>Nat→Option AV) (fun _=>none) (fun a _ ih i=>Nat.rec (motive:=fun _=>Option AV) (some a) (fun j _=>ih j) i) l
def lset (v:AV)(l:List AV):Nat→List AV:=
 List.rec (motive:=fun _=>Nat→List AV) (fun _=>[]) (fun a l ih i=>Nat.rec (motive:=fun _=>List AV) (v :: l) (fun j _=>a :: ih j) i) l
def llen {α:Type}(l:List α):Nat:=List.rec (motive:=fun _=>Nat) 0 (fun _ _ n=>Nat.succ n) l
def lapp (l m:List AV):List AV:=List.rec (motive:=fun _=>List AV) m (fun a _ ih=>a :: ih) l
def ltake (l:List AV):Nat→List AV:=
 List.rec (motive:=fun _=>Nat→List AV) (fun _=>[]) (fun a _ ih i=>Nat.rec (motive:=fun _=>List AV) [] (fun j _=>a :: ih j) i) l
def ldrop (l:List AV):Nat→List AV:=
 List.rec (motive:=fun _=>Nat→List AV) (fun _=>[]) (fun a l ih i=>Nat.rec (motive:=fun _=>List AV) (a :: l) (fun j _=>ih j) i) l
def lrep (v:AV)(n:Nat):List AV:=Nat.rec (motive:=fun _=>List AV) [] (fun _ ih=>v :: ih) n
def lmap {α β:Type}(f:α→β)(l:List α):List β:=List.rec (motive:=fun _=>List β) [] (fun a _ ih=>f a :: ih) l
def zB7 {α:Type}(l:List α):Nat→Option α:=
 List.rec (motive:=fun _=>Nat→Option α) (fun _=>none) (fun a _ ih i=>Nat.rec (motive:=fun _=>Option α) (some a) (fun j _=>ih j) i) l
def zX6 {α:Type}(l:List α):Nat→List α:=
 List.rec (motive:=fun _=>Nat→List α) (fun _=>[]) (fun a l ih i=>Nat.rec (motive:=fun _=>List α) (a :: l) (fun j _=>ih j) i) l
def lsetG {α:Type}(v:α)(l:List α):Nat→List α:=
 List.rec (motive:=fun _=>Nat→List α) (fun _=>[]) (fun a l ih i=>Nat.rec (motive:=fun _=>List α) (v :: l) (fun j _=>a :: ih j) i) l
def top (v:AV):Nat:=
 AV.rec (motive_1:=fun _=>Nat) (motive_2:=fun _=>Nat)
  (fun _=>0) (fun _ _=>0) (fun _=>0) 0 (fun k _=>Nat.succ k) (fun k _ _=>Nat.succ k) (fun t _ _=>t) (fun t _ _ _=>t)
  (fun k _ _=>Nat.succ k) 0 (fun k=>Nat.succ k) (fun t _ _ _ _ _=>t) 0 (fun _ _ ih=>ih) 0 (fun _ ih=>ih) (fun _ ih=>ih)
  0 (fun _ _ a b=>Nat.max a b) v
def tops (l:List AV):Nat:=List.rec (motive:=fun _=>Nat) 0 (fun a _ ih=>Nat.max (top a) ih) l
def ilt:Int→Int→Bool
 | .ofNat a,.ofNat b=>Nat.blt a b
 | .ofNat _,.negSucc _=>false
 | .negSucc _,.ofNat _=>true
 | .negSucc a,.negSucc b=>Nat.blt b a
def ieq:Int→Int→Bool
 | .ofNat a,.ofNat b=>Nat.beq a b
 | .negSucc a,.negSucc b=>Nat.beq a b
 | _,_=>false
def kidx:IntKind→Nat
 | .i8=>0|.i16=>1|.i32=>2|.i64=>3|.u8=>4|.u16=>5|.u32=>6|.u64=>7
def keq (a b:IntKind):Bool:=Nat.beq (kidx a) (kidx b)
def inR:IntKind→Int→Bool
 | .i64,.ofNat a=>Nat.blt a 9223372036854775808
 | .i64,.negSucc a=>Nat.blt a 9223372036854775808
 | .u8,.ofNat a=>Nat.blt a 256
 | _,_=>false
def wr (k:IntKind)(n:Int):Int:=bif inR k n then n else k.wrap n
def bytesEq:List UInt8→List UInt8→Bool
 | [],[]=>true
 | a :: x,b :: y=>bif Nat.beq a.toNat b.toNat then bytesEq x y else false
 | _,_=>false
def bytesLt:List UInt8→List UInt8→Bool
 | _,[]=>false
 | [],_ :: _=>true
 | a :: x,b :: y=>bif Nat.blt a.toNat b.toNat then true else bif Nat.beq a.toNat b.toNat then bytesLt x y else false
def ownB:Own→Own→Bool
 | .nil,.nil=>true
 | .clip,.clip=>true
 | .shut,.shut=>true
 | _,_=>false
def qBool (b:Bool):AV→Bool
 | .bool c=>bif b then c else !c
 | _=>false
def qInt (k:IntKind)(n:Int):AV→Bool
 | .int j m=>keq k j&&ieq n m
 | _=>false
def qStr (l:List UInt8):AV→Bool
 | .str m=>bytesEq l m
 | _=>false
def qNilptr:AV→Bool
 | .nilptr=>true
 | _=>false
def qPtr (k o:Nat):AV→Bool
 | .ptr j p=>Nat.beq k j&&Nat.beq o p
 | _=>false
def qEptr (k i o:Nat):AV→Bool
 | .eptr j h p=>Nat.beq k j&&(Nat.beq i h&&Nat.beq o p)
 | _=>false
def qRptr (t:Nat)(ih:List AV→Bool):AV→Bool
 | .rptr u cs=>Nat.beq t u&&ih cs
 | _=>false
def qSl (t:Nat)(o:Own)(ih:List AV→Bool):AV→Bool
 | .sl u xs p=>Nat.beq t u&&(ownB o p&&ih xs)
 | _=>false
def qOsl (k o n:Nat):AV→Bool
 | .osl j p m=>Nat.beq k j&&(Nat.beq o p&&Nat.beq n m)
 | _=>false
def qNilmap:AV→Bool
 | .nilmap=>true
 | _=>false
def qMap (k:Nat):AV→Bool
 | .map j=>Nat.beq k j
 | _=>false
def qFunc (t:Nat)(f:Fn)(iha ihb:List AV→Bool):AV→Bool
 | .func u g a b=>Nat.beq t u&&(decide (f=g)&&(iha a&&ihb b))
 | _=>false
def qNilfunc:AV→Bool
 | .nilfunc=>true
 | _=>false
def qIface (t:TypeId)(ih:AV→Bool):AV→Bool
 | .iface u v=>Nat.beq t u&&ih v
 | _=>false
def qNiliface:AV→Bool
 | .niliface=>true
 | _=>false
def qAgg (ih:List AV→Bool):AV→Bool
 | .agg cs=>ih cs
 | _=>false
def qTuple (ih:List AV→Bool):AV→Bool
 | .tuple cs=>ih cs
 | _=>false
def qNil:List AV→Bool
 | []=>true
 | _=>false
def qCons (a:AV→Bool)(l:List AV→Bool):List AV→Bool
 | b :: m=>bif a b then l m else false
 | _=>false
def beqV (v:AV):AV→Bool:=
 AV.rec (motive_1:=fun _=>AV→Bool) (motive_2:=fun _=>List AV→Bool)
  qBool qInt qStr qNilptr qPtr qEptr (fun t _ ih=>qRptr t ih) (fun t _ o ih=>qSl t o ih) qOsl qNilmap qMap
  (fun t f _ _ iha ihb=>qFunc t f iha ihb) qNilfunc (fun t _ ih=>qIface t ih) qNiliface (fun _ ih=>qAgg ih) (fun _ ih=>qTuple ih)
  qNil (fun _ _ a l=>qCons a l) v
end
noncomputable section
structure LoopB where
 state:Nat
 pending:Option Code
 fn:FuncId
 tmps:List AV
 params:List Tmp
 assign:Code
 body:Code
 deriving Inhabited
inductive Box where
 | cells (ty:TypeId) (cs:List AV)
 | row (ty:TypeId) (es:Nat) (xs:List AV) (sealed:Bool)
 | mapb (es:List (AV×AV))
 | loop (l:LoopB)
 | mark
 | dead
 deriving Inhabited
structure Sto where
 boxes:List Box
 n:Nat
 ups:List (Nat×Nat)
 deriving Inhabited
def Sto.empty:Sto:=⟨[],0,[]⟩
def Sto.get (s:Sto)(k:Nat):Box:=
 bif Nat.blt k s.n then(match zB7 s.boxes (s.n-1-k) with|some b=>b|none=>.dead) else .dead
def Sto.put (s:Sto)(k:Nat)(b:Box):Sto:=⟨lsetG b s.boxes (s.n-1-k),s.n,s.ups⟩
def Sto.alloc (s:Sto)(b:Box):Sto:=⟨b :: s.boxes,s.n+1,s.ups⟩
def zJO (k t:Nat):List (Nat×Nat)→List (Nat×Nat)
 | []=>[(k,t)]
 | e :: r=>bif Nat.beq e.1 k then(k,Nat.max e.2 t) :: r else e :: zJO k t r
def Sto.note (s:Sto)(k t:Nat):Sto:=bif Nat.ble t (k+1) then s else⟨s.boxes,s.n,zJO k t s.ups⟩
def zAQ (base:Nat):List (Nat×Nat)→Bool
 | []=>true
 | e :: r=>bif Nat.blt e.1 base then(bif Nat.ble e.2 base then zAQ base r else false) else zAQ base r
def zAJ (base:Nat):List (Nat×Nat)→List (Nat×Nat)
 | []=>[]
 | e :: r=>bif Nat.blt e.1 base then e :: zAJ base r else zAJ base r
def Sto.cut (s:Sto)(base:Nat):Sto:=⟨zX6 s.boxes (s.n-base),base,zAJ base s.ups⟩
def Sto.done (s:Sto)(base top:Nat):Sto:=
 bif Nat.ble top base then(bif zAQ base s.ups then s.cut base else s) else s
def cellsOf:AV→List AV
 | .agg cs=>cs
 | v=>[v]
def flat1:AV→Bool
 | .agg _=>false
 | .tuple _=>false
 | _=>true
def flatC:List AV→Bool
 | []=>true
 | x :: r=>bif flat1 x then flatC r else false
inductive TD where
 | bool|int (k:IntKind)|str|ptr (e:TypeId)|slice (e:TypeId)|array (n:Nat) (e:TypeId)|struct (fs:List (Nat×TypeId))|map (k e:TypeId)|func|iface|upt|other
 deriving Inhabited,Repr
structure TI where
 size:Nat
 bytes:Nat
 agg:Bool
 zero:List AV
 d:TD
 methods:List (String×FuncId)
 ok:Bool
 deriving Inhabited,Repr
structure Mode where
 iso:Bool
 rawArgs:Bool
 rawRes:Bool
 mutLit:Bool
 deriving Inhabited,Repr
inductive PStep where
 | l (i:Nat)
 | q (i:Nat)
 | chk (i:Nat)
 | apart (i j:Nat)
 deriving Inhabited,Repr
structure Env where
 types:TypeId→TI
 funcs:FuncId→Option Func
 mode:FuncId→Mode
 intr:FuncId→List AV→Option AV
 plan:FuncId→Nat→List PStep
 ins:FuncId→Option TypeId
inductive Out where
 | normal
 | exit (id:Nat)
 | goto (l:Nat)
 | ret
 | panic (v:AV)
 deriving Inhabited
structure Fr where
 tmps:List AV
 defers:List (AV×List AV)
 rec_:Option AV
 deriving Inhabited
def zAK (ti:TI):AV:=bif ti.agg then .agg ti.zero else(match ti.zero with|z :: _=>z | []=>undef)
def ofValue:Value→Option AV
 | .bool b=>some (.bool b)
 | .int k n=>some (.int k n)
 | .string s=>some (.str s.data.toList)
 | .pointer none=>some .nilptr
 | .slice none 0 0=>some (.sl 0 [] .nil)
 | .map none=>some .nilmap
 | .nilFunc=>some .nilfunc
 | .nilIface=>some .niliface
 | _=>none
def ofValues:List Value→Option (List AV)
 | []=>some []
 | v :: r=>match ofValue v with
  | some x=>match ofValues r with|some xs=>some (x :: xs)|none=>none
  | none=>none
def ofConst:Value→Option AV
 | .agg cs=>match ofValues cs.toList with|some xs=>some (.agg xs)|none=>none
 | .iface t v=>match ofValue v with|some x=>some (.iface t x)|none=>none
 | .func (.func f) first captured=>bif first.isEmpty&&captured.isEmpty then some (.func 0 (.func f) [] []) else none
 | v=>ofValue v
def Fr.get (fr:Fr)(t:Tmp):AV:=lget fr.tmps t
def Fr.put (fr:Fr)(t:Option Tmp)(v:AV):Fr:=match t with|some t=>⟨lset v fr.tmps t,fr.defers,fr.rec_⟩|none=>fr
def zAD (fr:Fr):Operand→Option AV
 | .tmp t=>some (lget fr.tmps t)
 | .const v=>ofConst v
 | .global _=>none
 | .func f=>some (.func 0 (.func f) [] [])
def zBR (fr:Fr):List Operand→Option (List AV)
 | []=>some []
 | o :: r=>match zAD fr o with
  | some v=>match zBR fr r with|some vs=>some (v :: vs)|none=>none
  | none=>none
def zBW (fr:Fr):List (Nat×Operand)→Option (List (Nat×AV))
 | []=>some []
 | (i,o) :: r=>match zAD fr o with
  | some v=>match zBW fr r with|some vs=>some ((i,v) :: vs)|none=>none
  | none=>none
def seal1 (s:Sto):AV→Option (AV×Sto)
 | .osl k off len=>match s.get k with
  | .row ty es xs _=>
   bif Nat.ble (off+len) (llen xs) then
    (match ltake (ldrop xs off) len with
     | ys=>some (.sl (tops ys) ys .shut,s.put k (.row ty es xs true)))
   else none
  | _=>none
 | .sl t xs _=>some (.sl t xs .shut,s)
 | v=>some (v,s)
def zC6 (s:Sto):List AV→Option (List AV×Sto)
 | []=>some ([],s)
 | v :: r=>match seal1 s v with
  | some (v,s)=>match zC6 s r with
   | some (r,s)=>some (v :: r,s)
   | none=>none
  | none=>none
def zBC (s:Sto):AV→Option (AV×Sto)
 | .agg cs=>match zC6 s cs with|some (cs,s)=>some (.agg cs,s)|none=>none
 | .iface t (.agg cs)=>match zC6 s cs with|some (cs,s)=>some (.iface t (.agg cs),s)|none=>none
 | v=>seal1 s v
def zBO (s:Sto):List AV→Option (List AV×Sto)
 | []=>some ([],s)
 | v :: r=>match zBC s v with
  | some (v,s)=>match zBO s r with
   | some (r,s)=>some (v :: r,s)
   | none=>none
  | none=>none
def zK8 (s:Sto):AV→Option (AV×Sto)
 | .tuple vs=>match zBO s vs with|some (vs,s)=>some (.tuple vs,s)|none=>none
 | v=>zBC s v
def pick1 (ti:TI)(cs:List AV)(off:Nat):Option AV:=
 bif Nat.ble (off+ti.size) (llen cs) then
  (bif ti.agg then some (.agg (ltake (ldrop cs off) ti.size)) else lnth cs off)
 else none
def zI6 (s:Sto)(ti:TI):AV→Option AV
 | .ptr k off=>match s.get k with|.cells _ cs=>pick1 ti cs off|_=>none
 | .eptr k i off=>match s.get k with
  | .row _ _ xs _=>match lnth xs i with|some x=>pick1 ti (cellsOf x) off|none=>none
  | _=>none
 | .rptr _ cs=>pick1 ti cs 0
 | _=>none
def splice (cs:List AV)(off:Nat)(vs:List AV):List AV:=lapp (ltake cs off) (lapp vs (ldrop cs (off+llen vs)))
def zJ8 (x:AV)(cs:List AV):AV:=match x with|.agg _=>.agg cs|_=>lget cs 0
def zGZ (s:Sto)(ti:TI)(a v:AV):Option Sto:=
 match a with
 | .ptr k off=>match s.get k with
  | .cells ty cs=>
   bif Nat.beq (llen (cellsOf v)) ti.size&&(Nat.ble (off+ti.size) (llen cs)&&flatC (cellsOf v)) then
    some ((s.put k (.cells ty (splice cs off (cellsOf v)))).note k (top v)) else none
  | _=>none
 | .eptr k i off=>match zBC s v with
  | some (v,s)=>match s.get k with
   | .row ty es xs false=>match lnth xs i with
    | some x=>
     bif Nat.beq (llen (cellsOf v)) ti.size&&(Nat.ble (off+ti.size) (llen (cellsOf x))&&(flatC (cellsOf v)&&flatC (splice (cellsOf x) off (cellsOf v)))) then
      some ((s.put k (.row ty es (lset (zJ8 x (splice (cellsOf x) off (cellsOf v))) xs i) false)).note k (top v)) else none
    | none=>none
   | _=>none
  | none=>none
 | _=>none
def arith (op:BinOp)(k:IntKind)(a b:Int):Option AV:=
 match op with
 | .add=>some (.int k (wr k (a+b)))
 | .sub=>some (.int k (wr k (a-b)))
 | .mul=>some (.int k (wr k (a*b)))
 | .quo=>bif ieq b 0 then none else some (.int k (wr k (a.tdiv b)))
 | .rem=>bif ieq b 0 then none else some (.int k (a.tmod b))
 | .and=>some (.int k (k.wrap (BitVec.ofInt k.bits a &&& BitVec.ofInt k.bits b).toNat))
 | .or=>some (.int k (k.wrap (BitVec.ofInt k.bits a ||| BitVec.ofInt k.bits b).toNat))
 | .xor=>some (.int k (k.wrap (BitVec.ofInt k.bits a ^^^ BitVec.ofInt k.bits b).toNat))
 | .eql=>some (.bool (ieq a b))
 | .neq=>some (.bool (!ieq a b))
 | .lss=>some (.bool (ilt a b))
 | .leq=>some (.bool (!ilt b a))
 | .gtr=>some (.bool (ilt b a))
 | .geq=>some (.bool (!ilt a b))
 | _=>none
def zWJ (op:BinOp)(k:IntKind)(a b:Int):Option AV:=
 bif ilt b 0 then none else
 match op with
 | .shl=>some (.int k (k.wrap (a*2 ^ (min b.toNat k.bits))))
 | .shr=>some (.int k (a.fdiv (2 ^ (min b.toNat k.bits))))
 | _=>none
def isShift:BinOp→Bool
 | .shl=>true|.shr=>true|_=>false
def eqOp (op:BinOp)(b:Bool):Option AV:=
 match op with
 | .eql=>some (.bool b)
 | .neq=>some (.bool !b)
 | _=>none
def zO3 (op:BinOp)(a b:List UInt8):Option AV:=
 match op with
 | .add=>bif Nat.ble (llen a+llen b) 140737488355328 then some (.str (a++b)) else none
 | .eql=>some (.bool (bytesEq a b))
 | .neq=>some (.bool (!bytesEq a b))
 | .lss=>some (.bool (bytesLt a b))
 | .leq=>some (.bool (!bytesLt b a))
 | .gtr=>some (.bool (bytesLt b a))
 | .geq=>some (.bool (!bytesLt a b))
 | _=>none
def zND (op:BinOp)(x y:AV):Option AV:=
 match y with
 | .sl _ [] .nil=>match x with|.sl _ [] .nil=>eqOp op true|.sl _ (_ :: _) _=>eqOp op false|.osl _ _ _=>eqOp op false|_=>none
 | _=>none
def zNP (op:BinOp)(x y:AV):Option AV:=
 match x with
 | .nilfunc=>match y with|.nilfunc=>eqOp op true|.func _ _ _ _=>eqOp op false|_=>none
 | .func _ _ _ _=>match y with|.nilfunc=>eqOp op false|_=>none
 | _=>none
def zL8 (op:BinOp)(c:Bool)(x y:AV):Option AV:=
 match x with
 | .niliface=>match y with|.niliface=>bif c then eqOp op true else none|.iface _ _=>eqOp op false|_=>none
 | .iface t _=>match y with|.niliface=>eqOp op false|.iface u _=>bif Nat.beq t u then none else eqOp op false|_=>none
 | _=>none
def isCells:Box→Bool
 | .cells _ _=>true
 | _=>false
def zVG (op:BinOp)(s:Sto)(pos:Bool)(x y:AV):Option AV:=
 match x with
 | .nilptr=>match y with|.nilptr=>eqOp op true|.ptr _ _=>eqOp op false|.rptr _ _=>eqOp op false|.eptr _ _ _=>eqOp op false|_=>none
 | .ptr k o=>match y with
  | .nilptr=>eqOp op false
  | .ptr k' o'=>bif pos&&(isCells (s.get k)&&isCells (s.get k')) then eqOp op (Nat.beq k k'&&Nat.beq o o') else none
  | _=>none
 | .rptr _ _=>match y with|.nilptr=>eqOp op false|_=>none
 | .eptr _ _ _=>match y with|.nilptr=>eqOp op false|_=>none
 | _=>none
def eqTy (E:Env)(op:BinOp)(d:TD)(c:Bool)(x y:AV)(s:Sto):Option AV:=
 match d with
 | .bool=>(match x with
  | .bool a=>(match y with|.bool b=>eqOp op (bif a then b else !b)|_=>none)
  | _=>none)
 | .iface=>zL8 op c x y
 | .ptr e=>zVG op s (bif (E.types e).ok then Nat.blt 0 (E.types e).size else false) x y
 | .func=>zNP op x y
 | .slice _=>zND op x y
 | _=>none
def binA (E:Env)(op:BinOp)(t:TypeId)(c:Bool)(x y:AV)(s:Sto):Option AV:=
 match x with
 | .int k a=>match y with
  | .int k' b=>bif isShift op then zWJ op k a b else bif keq k k' then arith op k a b else none
  | _=>none
 | .str a=>match y with|.str b=>zO3 op a b|_=>none
 | x=>eqTy E op (E.types t).d c x y s
def zKJ (x y:AV):Option Bool:=
 match x with
 | .int k a=>match y with|.int k' b=>bif keq k k' then some (ieq a b) else none|_=>none
 | .str a=>match y with|.str b=>some (bytesEq a b)|_=>none
 | _=>none
end
noncomputable section
inductive CR where
 | ret (v:AV)
 | panic (v:AV)
 deriving Inhabited
structure Rec where
 exec:FuncId→Option Nat→Code→Fr→Sto→Option (Out×Fr×Sto)
 call:FuncId→List AV→Option (Option AV)→Sto→Option (CR×Bool×Sto)
def Rec.bot:Rec:=⟨fun _ _ _ _ _=>none,fun _ _ _ _=>none⟩
inductive Nx where
 | val (v:AV) (s:Sto)
 | call (f:FuncId) (args:List AV) (s:Sto)
 | round (l:Nat) (args:List AV) (s:Sto)
 | panic (v:AV) (s:Sto)
 | defer (f:AV) (args:List AV) (s:Sto)
 | recover (s:Sto)
 | no
def nv (s:Sto):Option AV→Nx
 | some v=>.val v s
 | none=>.no
def nvs:Option (AV×Sto)→Nx
 | some (v,s)=>.val v s
 | none=>.no
def ns:Option Sto→Nx
 | some s=>.val undef s
 | none=>.no
def asNat:AV→Option Nat
 | .int _ (.ofNat n)=>some n
 | _=>none
def zE5 (k:AV):List (AV×AV)→Option (Option AV)
 | []=>some none
 | (k',v) :: r=>match zKJ k k' with
  | some b=>bif b then some (some v) else zE5 k r
  | none=>none
def zI4 (k v:AV):List (AV×AV)→Option (List (AV×AV))
 | []=>some [(k,v)]
 | (k',v') :: r=>match zKJ k k' with
  | some b=>bif b then some ((k',v) :: r) else(match zI4 k v r with|some r=>some ((k',v') :: r)|none=>none)
  | none=>none
def byteVs:List UInt8→List AV
 | []=>[]
 | b :: r=>.int .u8 (.ofNat b.toNat) :: byteVs r
def vsBytes:List AV→Option (List UInt8)
 | []=>some []
 | .int .u8 (.ofNat n) :: r=>match vsBytes r with|some bs=>some (UInt8.ofNat n :: bs)|none=>none
 | _=>none
def zHQ (s:Sto):AV→Option (List AV×Sto)
 | .sl _ xs _=>some (xs,s)
 | .osl k off len=>match seal1 s (.osl k off len) with
  | some (.sl _ xs _,s)=>some (xs,s)
  | _=>none
 | .str b=>some (byteVs b,s)
 | _=>none
def zYZ (n:Nat)(s:Sto):AV→Option (List AV×Sto)
 | .osl k off len=>match s.get k with
  | .row _ _ xs _=>bif Nat.ble (off+len) (llen xs) then some (ltake (ldrop xs off) (Nat.min len n),s) else none
  | _=>none
 | .sl _ xs _=>some (ltake xs (Nat.min (llen xs) n),s)
 | x=>zHQ s x
def limit:Nat:=140737488355328
def zBK (es:Nat):List AV→Bool
 | []=>true
 | x :: r=>bif Nat.beq (llen (cellsOf x)) es&&flatC (cellsOf x) then zBK es r else false
def zHJ (ty:TypeId)(es bytes:Nat)(zs:List AV)(sl:Bool)(off len:Nat)(s:Sto):Option (AV×Sto):=
 bif Nat.ble (llen zs*bytes) limit&&Nat.ble (llen zs) limit then
  some (.osl s.n off len,(s.alloc (.row ty es zs sl)).note s.n (tops zs))
 else none
def zHS (ty:TypeId)(es bytes:Nat)(k off len:Nat)(ys:List AV)(s:Sto):Option (AV×Sto):=
 match s.get k with
 | .row ty' es' xs sl=>
  bif Nat.beq ty ty'&&(Nat.beq es es'&&Nat.ble (off+len) (llen xs)) then
   (bif Nat.ble (off+len+llen ys) (llen xs) then
    (bif sl then none else some (.osl k off (len+llen ys),(s.put k (.row ty' es (splice xs (off+len) ys) false)).note k (tops ys)))
   else bif Nat.beq off 0&&(bif sl then Nat.beq len (llen xs) else true) then zHJ ty es bytes (lapp (ltake xs len) ys) sl 0 (len+llen ys) (s.put k .dead)
   else none)
  else none
 | _=>none
def zAR (ty:TypeId)(es bytes:Nat)(a:AV)(ys:List AV)(s:Sto):Option (AV×Sto):=
 match ys with
 | []=>(match a with
  | .sl t xs o=>some (.sl t xs o,s)
  | .osl k off len=>some (.osl k off len,s)
  | _=>none)
 | _=>bif zBK es ys then
  (match a with
  | .sl _ _ .shut=>none
  | .sl _ xs _=>bif zBK es xs then zHJ ty es bytes (lapp xs ys) false 0 (llen xs+llen ys) s else none
  | .osl k off len=>zHS ty es bytes k off len ys s
  | _=>none) else none
def zDY (len:Nat)(lo hi mx:Option Nat):Option (Nat×Nat):=
 let h:=match hi with|some h=>h|none=>len
 let l:=match lo with|some l=>l|none=>0
 bif Nat.ble l h&&Nat.ble h len&&(match mx with|some m=>Nat.beq m h|none=>true) then some (l,h) else none
def zJP (xs:List AV)(l h len:Nat):List AV:=
 bif Nat.beq l 0&&Nat.beq h len then xs else ltake (ldrop xs l) (h-l)
def zKS (b:List UInt8)(lo hi mx:Option Nat)(s:Sto):Option (AV×Sto):=
 match mx with
 | none=>match zDY (llen b) lo hi none with
  | some (l,h)=>some (.str ((b.drop l).take (h-l)),s)
  | none=>none
 | some _=>none
def zKL (es:Nat):List AV→Bool
 | []=>true
 | x :: _=>Nat.beq (llen (cellsOf x)) es
def zJQ (es t:Nat)(xs:List AV)(own:Own)(lo hi mx:Option Nat)(s:Sto):Option (AV×Sto):=
 match zDY (llen xs) lo hi mx with
 | some (l,h)=>bif zKL es xs then
   some (.sl t (zJP xs l h (llen xs)) (match mx with|some _=>.clip|none=>bif Nat.beq h (llen xs) then own else .shut),s)
  else none
 | none=>none
def zFF (es k off len:Nat)(lo hi mx:Option Nat)(s:Sto):Option (AV×Sto):=
 match s.get k with
 | .row _ es' _ _=>bif Nat.beq es es' then
   (match zDY len lo hi mx with
   | some (l,h)=>match mx with
    | none=>some (.osl k (off+l) (h-l),s)
    | some _=>match seal1 s (.osl k (off+l) (h-l)) with
     | some (.sl t xs _,s)=>some (.sl t xs .clip,s)
     | _=>none
   | none=>none) else none
 | _=>none
def zIS (es:Nat)(x:AV)(lo hi mx:Option Nat)(s:Sto):Option (AV×Sto):=
 match x with
 | .sl t xs own=>zJQ es t xs own lo hi mx s
 | .osl k off len=>zFF es k off len lo hi mx s
 | _=>none
def zF7 (name:String):List (String×FuncId)→Option FuncId
 | []=>none
 | e :: r=>bif e.1 == name then some e.2 else zF7 name r
def zIM (f:AV)(args:List AV)(s:Sto):Nx:=
 match f with
 | .func _ (.func f) a b=>.call f (lapp a (lapp args b)) s
 | .func _ (.yield l) [] _=>.round l args s
 | _=>.no
def foldMin:Int→List AV→Option Int
 | x,[]=>some x
 | x,.int _ y :: r=>foldMin (bif ilt y x then y else x) r
 | _,_=>none
def foldMax:Int→List AV→Option Int
 | x,[]=>some x
 | x,.int _ y :: r=>foldMax (bif ilt x y then y else x) r
 | _,_=>none
def isIntD:TD→Bool
 | .int _=>true
 | _=>false
def isSeqD:TD→Bool
 | .slice _=>true
 | .str=>true
 | _=>false
def zJ5 (E:Env)(tys:List TypeId)(args:List AV)(s:Sto):Nx:=
 match args with
 | [a,x]=>match tys with
  | [t,u]=>match(E.types t).d with
   | .slice e=>
    let ti:=E.types e
    bif isIntD (E.types u).d then
     (match asNat x with
     | some n=>bif Nat.ble (n*ti.bytes) limit&&Nat.ble n limit then nvs (zAR e ti.size ti.bytes a (lrep (zAK ti) n) s) else .no
     | none=>.no)
    else bif isSeqD (E.types u).d then(match zHQ s x with
     | some (ys,s)=>nvs (zAR e ti.size ti.bytes a ys s)
     | none=>.no) else .no
   | _=>.no
  | _=>.no
 | _=>.no
def lenA (d:TD)(x:AV)(s:Sto):Option Nat:=
 match d with
 | .slice _=>match x with|.sl _ xs _=>some (llen xs)|.osl _ _ n=>some n|_=>none
 | .array n _=>some n
 | .str=>match x with|.str b=>some (llen b)|_=>none
 | .map _ _=>match x with|.nilmap=>some 0|.map k=>(match s.get k with|.mapb es=>some (llen es)|_=>none)|_=>none
 | _=>none
def bLen (E:Env)(t:TypeId)(args:List AV)(s:Sto):Nx:=
 match args with
 | [x]=>match lenA (E.types t).d x s with
  | some n=>.val (.int .i64 (.ofNat n)) s
  | none=>.no
 | _=>.no
def zZ0 (E:Env)(t:TypeId)(args:List AV)(s:Sto):Nx:=
 match(E.types t).d with
 | .slice e=>
 (match args with
 | [.osl k off len,x]=>match zYZ len s x with
  | some (ys,s)=>match s.get k with
   | .row ty es xs false=>
    bif zBK es ys&&(Nat.ble (llen ys) len&&(Nat.ble (off+llen ys) (llen xs)&&Nat.beq es (E.types e).size)) then
     .val (.int .i64 (.ofNat (llen ys))) ((s.put k (.row ty es (splice xs off ys) false)).note k (tops ys))
    else .no
   | _=>.no
  | none=>.no
 | _=>.no)
 | _=>.no
def zQH (E:Env)(t:TypeId)(args:List AV)(s:Sto):Nx:=
 match args with
 | [.sl _ [] _]=>.val undef s
 | [.osl k off len]=>match(E.types t).d with
  | .slice e=>match s.get k with
   | .row ty es xs false=>bif Nat.ble (off+len) (llen xs)&&(zBK es [zAK (E.types e)]&&Nat.beq es (E.types e).size) then .val undef (s.put k (.row ty es (splice xs off (lrep (zAK (E.types e)) len)) false)) else .no
   | _=>.no
  | _=>.no
 | _=>.no
def bCap (E:Env)(t:TypeId)(args:List AV)(s:Sto):Nx:=
 match(E.types t).d with
 | .slice _=>(match args with
  | [.sl _ _ .nil]=>.val (.int .i64 0) s
  | [.sl _ xs .clip]=>.val (.int .i64 (.ofNat (llen xs))) s
  | _=>.no)
 | _=>.no
def u8s:List AV→Bool
 | []=>true
 | .int .u8 (.ofNat n) :: r=>bif Nat.blt n 256 then u8s r else false
 | _=>false
def zJK (E:Env)(tys:List TypeId)(args:List AV)(s:Sto):Nx:=
 match tys with
 | [t,_]=>(match(E.types t).d with
  | .ptr e=>(match args with
   | [.eptr k 0 0,.int .i64 (.ofNat (.succ n))]=>match s.get k with
    | .row ty es xs _=>bif Nat.beq ty e&&(Nat.beq es 1&&(Nat.ble (.succ n) (llen xs)&&(Nat.blt n limit&&(bif (E.types e).ok then Nat.beq (E.types e).size 1 else false)))) then
      (match ltake xs (.succ n) with|ys=>bif u8s ys then(match vsBytes ys with|some bs=>.val (.str bs) (s.put k .dead)|none=>.no) else .no) else .no
    | _=>.no
   | [.nilptr,.int .i64 (.ofNat 0)]=>.val (.str []) s
   | _=>.no)
  | _=>.no)
 | _=>.no
def zQG (args:List AV)(s:Sto):Nx:=
 match args with
 | [.osl k 0 (.succ _)]=>.val (.eptr k 0 0) s
 | [.sl _ [] .nil]=>.val .nilptr s
 | _=>.no
def bMin (args:List AV)(s:Sto):Nx:=
 match args with
 | .int k x :: r=>match foldMin x r with|some m=>.val (.int k m) s|none=>.no
 | _=>.no
def bMax (args:List AV)(s:Sto):Nx:=
 match args with
 | .int k x :: r=>match foldMax x r with|some m=>.val (.int k m) s|none=>.no
 | _=>.no
def hd0:List TypeId→TypeId
 | t :: _=>t
 | []=>0
def zGS (E:Env)(b:Builtin)(tys:List TypeId)(args:List AV)(s:Sto):Nx:=
 match b with
 | .append=>zJ5 E tys args s
 | .len=>bLen E (hd0 tys) args s
 | .min=>bMin args s
 | .max=>bMax args s
 | .recover=>.recover s
 | .copy=>zZ0 E (hd0 tys) args s
 | .clear=>zQH E (hd0 tys) args s
 | .cap=>bCap E (hd0 tys) args s
 | .unsafeSliceData=>zQG args s
 | .unsafeString=>zJK E tys args s
 | _=>.no
def zOL (E:Env)(d:TD):Bool:=
 match d with
 | .slice e=>(match(E.types e).d with|.int .u8=>true|_=>false)
 | _=>false
def zME (E:Env)(sd d:TD)(k o:Nat)(s:Sto):Nx:=
 match s.get k with
 | .cells ty cs=>(match sd with
  | .ptr t=>(match d with
   | .upt=>bif (E.types t).ok&&(Nat.blt 0 (E.types t).size&&Nat.blt o (llen cs)) then .val (.ptr k o) s else .no
   | _=>.no)
  | .upt=>(match d with
   | .ptr u=>bif Nat.beq ty u&&((E.types u).ok&&(Nat.blt 0 (E.types u).size&&(Nat.ble (E.types u).size (llen cs)&&Nat.beq o 0))) then .val (.ptr k o) s else .no
   | _=>.no)
  | _=>.no)
 | _=>.no
def zOT (E:Env)(sd d:TD)(x:AV)(s:Sto):Nx:=
 match x with
 | .int _ n=>match d with|.int k=>.val (.int k (wr k n)) s|_=>.no
 | .ptr k o=>zME E sd d k o s
 | .str b=>match d with
  | .str=>.val (.str b) s
  | .slice e=>bif zOL E (.slice e) then .val (.sl 0 (byteVs b) .shut) s else .no
  | _=>.no
 | x=>match d with
  | .str=>bif zOL E sd then(match zHQ s x with
   | some (xs,s)=>match vsBytes xs with|some bs=>.val (.str bs) s|none=>.no
   | none=>.no) else .no
  | _=>.no
def fillC (cells:List AV):List (Nat×AV)→List AV
 | []=>cells
 | (off,v) :: r=>fillC (splice cells off (cellsOf v)) r
def zKG (E:Env)(fs:List (Nat×TypeId))(cells:List AV):List (Nat×AV)→Option (List AV)
 | []=>some cells
 | (i,v) :: r=>match zB7 fs i with
  | some (off,ft)=>bif Nat.beq (llen (cellsOf v)) (E.types ft).size&&Nat.ble (off+llen (cellsOf v)) (llen cells) then zKG E fs (splice cells off (cellsOf v)) r else none
  | none=>none
def zKH (size:Nat)(cells:List AV):List (Nat×AV)→Option (List AV)
 | []=>some cells
 | (i,v) :: r=>bif Nat.beq (llen (cellsOf v)) size&&Nat.ble (i*size+llen (cellsOf v)) (llen cells) then zKH size (splice cells (i*size) (cellsOf v)) r else none
def zG0 (zs:List AV):List (Nat×AV)→List AV
 | []=>zs
 | (i,v) :: r=>zG0 (lset v zs i) r
def zK9 (s:Sto):List (Nat×AV)→Option (List (Nat×AV)×Sto)
 | []=>some ([],s)
 | (i,v) :: r=>match zBC s v with
  | some (v,s)=>match zK9 s r with
   | some (r,s)=>some ((i,v) :: r,s)
   | none=>none
  | none=>none
def zDL (E:Env)(fr:Fr)(t:TypeId)(ps:List (Nat×Operand))(s:Sto):Nx:=
 match zBW fr ps with
 | some ps=>let ti:=E.types t
  (match ti.d with
  | .struct fs=>match zKG E fs ti.zero ps with|some cs=>.val (.agg cs) s|none=>.no
  | .array _ e=>match zKH (E.types e).size ti.zero ps with|some cs=>.val (.agg cs) s|none=>.no
  | _=>.no)
 | none=>.no
def zD6 (es n:Nat):List (Nat×AV)→Bool
 | []=>true
 | (i,v) :: r=>bif Nat.blt i n&&Nat.beq (llen (cellsOf v)) es then zD6 es n r else false
def zCI (E:Env)(fid:FuncId)(fr:Fr)(t:TypeId)(n:Nat)(ps:List (Nat×Operand))(s:Sto):Nx:=
 match(E.types t).d with
 | .slice e=>match zBW fr ps with
  | some ps=>match zK9 s ps with
   | some (ps,s)=>
    let zs:=zG0 (lrep (zAK (E.types e)) n) ps
    bif zBK (E.types e).size zs&&(zD6 (E.types e).size n ps&&Nat.ble (n*(E.types e).size) 16777216) then
     (bif (E.mode fid).mutLit then .val (.osl s.n 0 n) ((s.alloc (.row e (E.types e).size zs false)).note s.n (tops zs))
     else .val (.sl (tops zs) zs .clip) s)
    else .no
   | none=>.no
  | none=>.no
 | _=>.no
def oBox (E:Env)(e:TypeId)(x:Option AV)(s:Sto):Nx:=
 match x with
 | some x=>bif Nat.beq (llen (cellsOf x)) (E.types e).size then .val (.ptr s.n 0) ((s.alloc (.cells e (cellsOf x))).note s.n (top x)) else .no
 | none=>.no
def zRB (E:Env)(t:TypeId)(a:Option AV)(s:Sto):Nx:=
 match a with
 | some a=>nv s (zI6 s (E.types t) a)
 | none=>.no
def zNB (E:Env)(t:TypeId)(a x:Option AV)(s:Sto):Nx:=
 match a with
 | some a=>match x with|some x=>ns (zGZ s (E.types t) a x)|none=>.no
 | none=>.no
def oNil (x:Option AV)(s:Sto):Nx:=
 match x with
 | some (.ptr k o)=>.val (.ptr k o) s
 | some (.func t (.func f) a b)=>.val (.func t (.func f) a b) s
 | some (.func t (.yield f) a b)=>.val (.func t (.yield f) a b) s
 | some (.iface t v)=>.val (.iface t v) s
 | some (.rptr t c)=>.val (.rptr t c) s
 | some (.eptr k i o)=>.val (.eptr k i o) s
 | _=>.no
def constO:Operand→Bool
 | .const _=>true
 | _=>false
def oBin (E:Env)(op:BinOp)(t:TypeId)(c:Bool)(x y:Option AV)(s:Sto):Nx:=
 match x with
 | some x=>match y with|some y=>nv s (binA E op t c x y s)|none=>.no
 | none=>.no
def oUn (op:UnOp)(x:Option AV)(s:Sto):Nx:=
 match x with
 | some (.bool b)=>match op with|.not=>.val (.bool (!b)) s|_=>.no
 | some (.int k n)=>match op with
  | .neg=>.val (.int k (wr k (0-n))) s
  | .xor=>nv s (arith .xor k (bif k.signed then -1 else k.max) n)
  | _=>.no
 | _=>.no
def zHY (E:Env)(src dst:TypeId)(x:Option AV)(s:Sto):Nx:=
 match x with
 | some x=>zOT E (E.types src).d (E.types dst).d x s
 | none=>.no
def zCN (fr:Fr)(fn:Fn)(a b:List Operand)(s:Sto):Nx:=
 match fn with
 | .func f=>(match zBR fr a with
  | some a=>match zBR fr b with|some b=>.val (.func (Nat.max (tops a) (tops b)) (.func f) a b) s|none=>.no
  | none=>.no)
 | _=>.no
def zB3 (E:Env)(t:TypeId)(l c:Option AV)(s:Sto):Nx:=
 match(E.types t).d with
 | .slice e=>match l with
  | some l=>match asNat l with
   | some l=>match c with
    | some c=>match asNat c with
     | some c=>bif Nat.ble l c&&(Nat.ble (c*(E.types e).bytes) limit&&Nat.ble c limit) then
       .val (.osl s.n 0 l) (s.alloc (.row e (E.types e).size (lrep (zAK (E.types e)) l) false)) else .no
     | none=>.no
    | none=>.no
   | none=>.no
  | none=>.no
 | _=>.no
def zG1 (fr:Fr):Option Operand→Option (Option Nat)
 | none=>some none
 | some o=>match zAD fr o with
  | some v=>match asNat v with|some n=>some (some n)|none=>none
  | none=>none
def zG2 (E:Env)(t:TypeId)(fr:Fr)(x:Option AV)(lo hi mx:Option Operand)(s:Sto):Nx:=
 match x with
 | some x=>match zG1 fr lo with
  | some lo=>match zG1 fr hi with
   | some hi=>match zG1 fr mx with
    | some mx=>match(E.types t).d with
     | .slice e=>nvs (zIS (E.types e).size x lo hi mx s)
     | .str=>match x with|.str b=>nvs (zKS b lo hi mx s)|_=>.no
     | _=>.no
    | none=>.no
   | none=>.no
  | none=>.no
 | none=>.no
def zB4 (d:TD)(x:Option AV)(i:Nat)(s:Sto):Nx:=
 match d with
 | .struct fs=>match zB7 fs i with
  | some (off,_)=>match x with
   | some (.ptr k o)=>.val (.ptr k (o+off)) s
   | some (.eptr k j o)=>.val (.eptr k j (o+off)) s
   | some (.rptr t cs)=>bif Nat.ble off (llen cs) then .val (.rptr t (ldrop cs off)) s else .no
   | _=>.no
  | none=>.no
 | _=>.no
def zH7 (E:Env)(t:TypeId)(x:Option AV)(i:Nat)(s:Sto):Nx:=
 match(E.types t).d with
 | .struct fs=>match zB7 fs i with
  | some (off,ft)=>match x with
   | some (.agg cs)=>nv s (pick1 (E.types ft) cs off)
   | _=>.no
  | none=>.no
 | _=>.no
def ixSl (es i tp:Nat)(xs:List AV)(s:Sto):Nx:=
 match lnth xs i with
 | some x=>bif Nat.beq (llen (cellsOf x)) es then .val (.rptr tp (cellsOf x)) s else .no
 | none=>.no
def zRM (es i k off len:Nat)(s:Sto):Nx:=
 match s.get k with
 | .row _ es' _ _=>bif Nat.blt i len&&Nat.beq es es' then .val (.eptr k (off+i) 0) s else .no
 | _=>.no
def ixArr (es n i:Nat)(x:AV)(s:Sto):Nx:=
 bif Nat.blt i n&&Nat.blt 1 n then
  (match x with
  | .ptr k o=>.val (.ptr k (o+i*es)) s
  | .rptr tp cs=>bif Nat.ble (i*es) (llen cs) then .val (.rptr tp (ldrop cs (i*es))) s else .no
  | _=>.no)
 else .no
def zCP (E:Env)(t:TypeId)(x i:Option AV)(s:Sto):Nx:=
 match i with
 | some i=>match asNat i with
  | some i=>match x with
   | some x=>match(E.types t).d with
    | .slice e=>(match x with
     | .sl tp xs _=>ixSl (E.types e).size i tp xs s
     | .osl k off len=>zRM (E.types e).size i k off len s
     | _=>.no)
    | .array n e=>ixArr (E.types e).size n i x s
    | _=>.no
   | none=>.no
  | none=>.no
 | none=>.no
def zHD (E:Env)(t:TypeId)(x i:Option AV)(s:Sto):Nx:=
 match i with
 | some i=>match asNat i with
  | some i=>match x with
   | some x=>match(E.types t).d with
    | .str=>(match x with
     | .str b=>(match zB7 b i with
      | some c=>.val (.int .u8 (.ofNat c.toNat)) s
      | none=>.no)
     | _=>.no)
    | .array n e=>(match x with
     | .agg cs=>bif Nat.blt i n then nv s (pick1 (E.types e) cs (i*(E.types e).size)) else .no
     | _=>.no)
    | _=>.no
   | none=>.no
  | none=>.no
 | none=>.no
def found (ti:TI)(ok:Bool)(s:Sto):Option (Option AV)→Nx
 | some (some v)=>.val (bif ok then .tuple [v,.bool true] else v) s
 | some none=>.val (bif ok then .tuple [zAK ti,.bool false] else zAK ti) s
 | none=>.no
def zH6 (d:TD)(k:AV):Bool:=
 match d with
 | .int _=>(match k with|.int _ _=>true|_=>false)
 | .str=>(match k with|.str _=>true|_=>false)
 | _=>false
def zDT (E:Env)(t:TypeId)(x i:Option AV)(ok:Bool)(s:Sto):Nx:=
 match(E.types t).d with
 | .map kt e=>match i with
  | some i=>bif zH6 (E.types kt).d i then
   (match x with
   | some .nilmap=>found (E.types e) ok s (some none)
   | some (.map k)=>(match s.get k with
    | .mapb es=>found (E.types e) ok s (zE5 i es)
    | _=>.no)
   | _=>.no) else .no
  | none=>.no
 | _=>.no
def zC9 (E:Env)(t:TypeId)(m k x:Option AV)(s:Sto):Nx:=
 match(E.types t).d with
 | .map kt _=>(match m with
  | some (.map j)=>(match k with
   | some k=>bif zH6 (E.types kt).d k then
    (match x with
    | some x=>(match zBC s x with
     | some (x,s)=>(match s.get j with
      | .mapb es=>(match zI4 k x es with
       | some es=>.val undef ((s.put j (.mapb es)).note j (top x))
       | none=>.no)
      | _=>.no)
     | none=>.no)
    | none=>.no) else .no
   | none=>.no)
  | _=>.no)
 | _=>.no
def zE3 (E:Env)(x:Option AV)(t:TypeId)(ok:Bool)(s:Sto):Nx:=
 match(E.types t).d with
 | .iface=>.no
 | .other=>.no
 | _=>match x with
  | some (.iface u y)=>bif Nat.beq u t then .val (bif ok then .tuple [y,.bool true] else y) s
    else bif ok then .val (.tuple [zAK (E.types t),.bool false]) s else .no
  | some .niliface=>bif ok then .val (.tuple [zAK (E.types t),.bool false]) s else .no
  | _=>.no
def zEA (x:Option AV)(i:Nat)(s:Sto):Nx:=
 match x with
 | some (.tuple vs)=>nv s (lnth vs i)
 | _=>.no
def zXQ (x:Option AV)(s:Sto):Nx:=
 match x with
 | some (.iface t y)=>.panic (.iface t y) s
 | _=>.no
def zNC (fr:Fr)(c:Call)(s:Sto):Nx:=
 match c.callee with
 | .value f=>match zAD fr f with
  | some (.func t (.func h) a b)=>(match zBR fr c.args.toList with|some args=>.defer (.func t (.func h) a b) args s|none=>.no)
  | _=>.no
 | _=>.no
def zRC (E:Env)(x:Option AV)(name:String)(args:List AV)(s:Sto):Nx:=
 match x with
 | some (.iface t y)=>bif (E.types t).ok then(match zF7 name (E.types t).methods with
  | some f=>.call f (y :: args) s
  | none=>.no) else .no
 | _=>.no
def zOE (E:Env)(fr:Fr)(c:Call)(s:Sto):Nx:=
 match zBR fr c.args.toList with
 | some args=>match c.callee with
  | .value f=>match f with
   | .func f=>.call f args s
   | f=>match zAD fr f with|some f=>zIM f args s|none=>.no
  | .invoke x name=>zRC E (zAD fr x) name args s
  | .builtin b=>zGS E b c.argTypes.toList args s
 | none=>.no
def zHC (c:Option AV)(a b:Option AV)(s:Sto):Nx:=
 match c with
 | some (.bool c)=>nv s (bif c then a else b)
 | _=>.no
def zI2 (d:TD)(t:TypeId)(x:Option AV)(s:Sto):Nx:=
 match x with
 | some x=>(match d with
  | .iface=>.no
  | .other=>.no
  | _=>.val (.iface t x) s)
 | none=>.no
def opA (E:Env)(fid:FuncId)(fr:Fr)(op:Op)(s:Sto):Nx:=
 match op with
 | .move x=>nv s (zAD fr x)
 | .assign x=>nv s (zAD fr x)
 | .pick c a b=>zHC (zAD fr c) (zAD fr a) (zAD fr b) s
 | .alloc e=>.val (.ptr s.n 0) (s.alloc (.cells e (cellsOf (zAK (E.types e)))))
 | .box e x=>oBox E e (zAD fr x) s
 | .build t ps=>zDL E fr t ps.toList s
 | .buildSlice t n ps=>zCI E fid fr t n ps.toList s
 | .load t a=>zRB E t (zAD fr a) s
 | .store t a x=>zNB E t (zAD fr a) (zAD fr x) s
 | .nilCheck x=>oNil (zAD fr x) s
 | .binOp op t x y _=>oBin E op t (constO x||constO y) (zAD fr x) (zAD fr y) s
 | .unOp op _ x=>oUn op (zAD fr x) s
 | .convert src dst x=>zHY E src dst (zAD fr x) s
 | .makeInterface t x=>zI2 (E.types t).d t (zAD fr x) s
 | .makeFunc fn a b=>zCN fr fn a.toList b.toList s
 | .makeMap _ _=>.val (.map s.n) (s.alloc (.mapb []))
 | .makeSlice t l c=>zB3 E t (zAD fr l) (zAD fr c) s
 | .slice t x lo hi mx=>zG2 E t fr (zAD fr x) lo hi mx s
 | .fieldAddr t x i=>zB4 (E.types t).d (zAD fr x) i s
 | .field t x i=>zH7 E t (zAD fr x) i s
 | .indexAddr t x i=>zCP E t (zAD fr x) (zAD fr i) s
 | .index t x i=>zHD E t (zAD fr x) (zAD fr i) s
 | .lookup t x i ok=>zDT E t (zAD fr x) (zAD fr i) ok s
 | .mapUpdate t m k x=>zC9 E t (zAD fr m) (zAD fr k) (zAD fr x) s
 | .insert t m k x=>zC9 E t (zAD fr m) (zAD fr k) (zAD fr x) s
 | .typeAssert x _ t ok=>zE3 E (zAD fr x) t ok s
 | .extract x i=>zEA (zAD fr x) i s
 | .panic x=>zXQ (zAD fr x) s
 | .defer c=>zNC fr c s
 | .call c=>zOE E fr c s
 | _=>.no
def noOsl1:AV→Bool
 | .osl _ _ _=>false
 | _=>true
def noOslC:List AV→Bool
 | []=>true
 | x :: r=>bif noOsl1 x then noOslC r else false
def noOsl:AV→Bool
 | .agg cs=>noOslC cs
 | .iface _ (.agg cs)=>noOslC cs
 | v=>noOsl1 v
def noOslP:List (Nat×AV)→Bool
 | []=>true
 | (_,x) :: r=>bif noOsl x then noOslP r else false
def shut1:AV→AV
 | .sl t xs _=>.sl t xs .shut
 | v=>v
def shutV:AV→AV
 | .agg cs=>.agg (lmap shut1 cs)
 | .iface t (.agg cs)=>.iface t (.agg (lmap shut1 cs))
 | v=>shut1 v
def zM4 (ps:List (Nat×AV)):List (Nat×AV):=lmap (fun p=>(p.1,shutV p.2)) ps
def valOf:Nx→Option AV
 | .val v _=>some v
 | _=>none
def zKV (E:Env)(b:Builtin)(t:TypeId)(args:List AV)(s:Sto):Option AV:=
 match b with
 | .len=>valOf (bLen E t args s)
 | .min=>valOf (bMin args s)
 | .max=>valOf (bMax args s)
 | .cap=>valOf (bCap E t args s)
 | _=>none
def zUO (E:Env)(fr:Fr)(c:Call)(s:Sto):Option AV:=
 match c.callee with
 | .builtin b=>match zBR fr c.args.toList with
  | some args=>zKV E b (hd0 c.argTypes.toList) args s
  | none=>none
 | _=>none
def zE2 (E:Env)(fid:FuncId)(fr:Fr)(t:TypeId)(n:Nat)(ps:List (Nat×Operand)):Option AV:=
 bif (E.mode fid).mutLit then none else
 match(E.types t).d with
 | .slice e=>match zBW fr ps with
  | some ps=>
   bif noOslP ps then
    (match zG0 (lrep (zAK (E.types e)) n) (zM4 ps) with
     | zs=>bif zBK (E.types e).size zs&&(zD6 (E.types e).size n ps&&Nat.ble (n*(E.types e).size) 16777216) then some (.sl (tops zs) zs .clip) else none)
   else none
  | none=>none
 | _=>none
def zF1 (E:Env)(t:TypeId)(l c:Option AV):Option AV:=
 match zB3 E t l c .empty with
 | .val (.osl _ _ n) ⟨[.row _ _ zs _],_,_⟩=>
  (match c with
  | some c=>(match asNat c with
   | some m=>bif Nat.beq n m then some (.sl (tops zs) zs .clip) else none
   | none=>none)
  | none=>none)
 | _=>none
def opQ (E:Env)(fid:FuncId)(fr:Fr)(op:Op)(s:Sto):Option AV:=
 match op with
 | .move x=>zAD fr x
 | .assign x=>zAD fr x
 | .pick c a b=>valOf (zHC (zAD fr c) (zAD fr a) (zAD fr b) s)
 | .build t ps=>valOf (zDL E fr t ps.toList s)
 | .buildSlice t n ps=>zE2 E fid fr t n ps.toList
 | .makeSlice t l c=>zF1 E t (zAD fr l) (zAD fr c)
 | .load t a=>valOf (zRB E t (zAD fr a) s)
 | .nilCheck x=>valOf (oNil (zAD fr x) s)
 | .binOp op t x y _=>valOf (oBin E op t (constO x||constO y) (zAD fr x) (zAD fr y) s)
 | .unOp op _ x=>valOf (oUn op (zAD fr x) s)
 | .makeInterface t x=>valOf (zI2 (E.types t).d t (zAD fr x) s)
 | .makeFunc fn a b=>valOf (zCN fr fn a.toList b.toList s)
 | .slice t x lo hi none=>valOf (zG2 E t fr (zAD fr x) lo hi none s)
 | .fieldAddr t x i=>valOf (zB4 (E.types t).d (zAD fr x) i s)
 | .field t x i=>valOf (zH7 E t (zAD fr x) i s)
 | .indexAddr t x i=>valOf (zCP E t (zAD fr x) (zAD fr i) s)
 | .index t x i=>valOf (zHD E t (zAD fr x) (zAD fr i) s)
 | .lookup t x i ok=>valOf (zDT E t (zAD fr x) (zAD fr i) ok s)
 | .typeAssert x _ t ok=>valOf (zE3 E (zAD fr x) t ok s)
 | .extract x i=>valOf (zEA (zAD fr x) i s)
 | .call c=>zUO E fr c s
 | _=>none
def zKO (ops:List Oper)(fr:Fr)(j:Nat):Option Bool:=
 match zB7 ops j with
 | some o=>match o.dst with
  | some d=>match lget fr.tmps d with|.bool b=>some b|_=>none
  | none=>none
 | none=>none
def zAM (ops:List Oper)(fr:Fr)(g:Option (Nat×Bool)):Bool:=
 match g with
 | none=>true
 | some (j,w)=>match zKO ops fr j with
  | some b=>bif w then b else !b
  | none=>false
def zFC (tm:List AV):List Tmp→List AV→Option (List AV)
 | [],[]=>some tm
 | t :: ts,a :: as=>zFC (lset a tm t) ts as
 | _,_=>none
def endRound (l:Nat)(lb:LoopB)(base:Nat)(j:Option Code)(s:Sto):Option (CR×Sto):=
 some (.ret (.bool j.isNone),(s.put l (.loop ⟨bif j.isNone then 0 else 2,j,lb.fn,lb.tmps,lb.params,lb.assign,lb.body⟩)).done base 0)
def zGL (l base:Nat)(o:Out)(fr:Fr)(s:Sto):Option (CR×Sto):=
 bif !fr.defers.isEmpty then none else
 match s.get l with
 | .loop lb=>match o with
  | .normal=>endRound l lb base none s
  | .ret=>endRound l lb base (some .ret) s
  | .exit id=>endRound l lb base (some (.exit id)) s
  | .goto _=>none
  | .panic v=>some (.panic v,s.done base (top v))
 | _=>none
def zIX (r:Rec)(l base:Nat)(f:FuncId)(body:Code)(fr:Fr)(s:Sto):Option (CR×Sto):=
 match s.get l with
 | .loop lb=>bif Nat.beq lb.state 0 then
   (match r.exec f (some l) body fr (s.put l (.loop ⟨1,lb.pending,lb.fn,lb.tmps,lb.params,lb.assign,lb.body⟩)) with
   | some (o,fr,s)=>zGL l base o fr s
   | none=>none) else none
 | _=>none
def zFA (r:Rec)(l:Nat)(args:List AV)(s:Sto):Option (CR×Sto):=
 match s.get l with
 | .loop lb=>match zBO s args with
  | some (args,s')=>match zFC lb.tmps lb.params args with
   | some tm=>match r.exec lb.fn (some l) lb.assign ⟨tm,[],some (.tuple [])⟩ s' with
    | some (.normal,fr,s'')=>zIX r l s.n lb.fn lb.body fr s''
    | _=>none
   | none=>none
  | none=>none
 | _=>none
def zGO (fr:Fr):Bool:=
 match fr.rec_ with
 | some (.tuple _)=>true
 | _=>false
def zBN (r:Rec)(E:Env)(fid:FuncId)(dst:Option Tmp)(fr:Fr)(nx:Nx)(k:Fr→Sto→Option (Out×Fr×Sto)):Option (Out×Fr×Sto):=
 match nx with
 | .val v s=>k (fr.put dst v) s
 | .call f args s=>match r.call f args none s with
  | some (.ret v,_,s)=>k (fr.put dst v) s
  | some (.panic v,_,s)=>some (.panic v,fr,s)
  | none=>none
 | .round l args s=>match zFA r l args s with
  | some (.ret v,s)=>k (fr.put dst v) s
  | some (.panic v,s)=>some (.panic v,fr,s)
  | none=>none
 | .panic v s=>some (.panic v,fr,s)
 | .defer f args s=>bif zGO fr then none else k ((⟨fr.tmps,(f,args) :: fr.defers,fr.rec_⟩:Fr).put dst undef) s
 | .recover s=>match fr.rec_ with
  | some (.iface t v)=>k ((⟨fr.tmps,fr.defers,none⟩:Fr).put dst (.iface t v)) s
  | some _=>none
  | none=>k (fr.put dst .niliface) s
 | .no=>none
def runL (r:Rec)(E:Env)(fid:FuncId)(ops:List Oper):List Oper→Fr→Sto→Option (Out×Fr×Sto)
 | [],fr,s=>some (.normal,fr,s)
 | o :: rest,fr,s=>
  bif zAM ops fr o.guard then zBN r E fid o.dst fr (opA E fid fr o.op s) (runL r E fid ops rest)
  else runL r E fid ops rest (fr.put o.dst undef) s
def zN2 (fr:Fr)(o:Option Oper):Option Nat:=
 match o with
 | some o=>match o.op with
  | .store _ a _=>match zAD fr a with
   | some (.ptr k _)=>some k
   | some (.eptr k _ _)=>some k
   | _=>none
  | _=>none
 | none=>none
def zQL (ops:List Oper)(fr:Fr)(i j:Nat):Bool:=
 match zN2 fr (zB7 ops i) with
 | some a=>match zN2 fr (zB7 ops j) with
  | some b=>!Nat.beq a b
  | none=>false
 | none=>false
def runP (r:Rec)(E:Env)(fid:FuncId)(ops:List Oper):List PStep→Fr→Sto→Option (Out×Fr×Sto)
 | [],fr,s=>some (.normal,fr,s)
 | .l i :: rest,fr,s=>match zB7 ops i with
  | some o=>
   bif zAM ops fr o.guard then zBN r E fid o.dst fr (opA E fid fr o.op s) (runP r E fid ops rest)
   else runP r E fid ops rest (fr.put o.dst undef) s
  | none=>none
 | .q i :: rest,fr,s=>match zB7 ops i with
  | some o=>
   bif zAM ops fr o.guard then
    (match opQ E fid fr o.op s with
     | some v=>runP r E fid ops rest (fr.put o.dst v) s
     | none=>none)
   else runP r E fid ops rest (fr.put o.dst undef) s
  | none=>none
 | .chk i :: rest,fr,s=>match zB7 ops i with
  | some o=>
   bif zAM ops fr o.guard then
    (match o.dst with
     | some d=>match opQ E fid fr o.op s with
      | some v=>bif beqV v (lget fr.tmps d) then runP r E fid ops rest fr s else none
      | none=>none
     | none=>none)
   else runP r E fid ops rest fr s
  | none=>none
 | .apart i j :: rest,fr,s=>bif zQL ops fr i j then runP r E fid ops rest fr s else none
def allMarks:List (AV×List AV)→Bool
 | []=>true
 | (.ptr _ _,_) :: r=>allMarks r
 | _=>false
def zMC (x:Option (Out×Fr×Sto)):Option (Out×Fr×Sto):=
 match x with
 | some (.panic v,fr,s)=>bif allMarks fr.defers then some (.panic v,fr,s) else none
 | x=>x
def zC0 (r:Rec)(E:Env)(fid:FuncId)(id:Nat)(ops:List Oper)(draw:Bool)(fr:Fr)(s:Sto):Option (Out×Fr×Sto):=
 bif draw then zMC (runP r E fid ops (E.plan fid id) fr s) else runL r E fid ops ops fr s
def zKI (x:Option (Out×Fr×Sto))(k:Fr→Sto→Option (Out×Fr×Sto)):Option (Out×Fr×Sto):=
 match x with
 | some (o,fr,s)=>match o with
  | .normal=>k fr s
  | o=>some (o,fr,s)
 | none=>none
def zQE (id:Nat)(x:Option (Out×Fr×Sto)):Option (Out×Fr×Sto):=
 match x with
 | some (o,fr,s)=>match o with
  | .exit id'=>some (bif Nat.beq id' id then .normal else .exit id',fr,s)
  | o=>some (o,fr,s)
 | none=>none
def endLoop (l:Nat)(fr:Fr)(x:Option (CR×Bool×Sto)):Option (Out×Fr×Sto):=
 match x with
 | some (.ret _,_,s)=>match s.get l with
  | .loop lb=>bif Nat.beq lb.state 1 then none else
   match lb.pending with
   | none=>some (.normal,fr,s.put l .dead)
   | some .ret=>some (.ret,fr,s.put l .dead)
   | some (.exit id)=>some (.exit id,fr,s.put l .dead)
   | _=>none
  | _=>none
 | some (.panic v,_,s)=>some (.panic v,fr,s)
 | none=>none
def zGM (r:Rec)(fid:FuncId)(fv:AV)(ps:List Tmp)(assign body:Code)(fr:Fr)(s:Sto):Option (Out×Fr×Sto):=
 match zIM fv [.func (s.n+1) (.yield s.n) [] []] (s.alloc (.loop ⟨0,none,fid,fr.tmps,ps,assign,body⟩)) with
 | .call g args s'=>endLoop s.n fr (r.call g args none s')
 | _=>none
def zJ9 (r:Rec)(fid:FuncId)(rnd:Option Nat)(fv:Option AV)(ps:List Tmp)(assign body:Code)(fr:Fr)(s:Sto):Option (Out×Fr×Sto):=
 match fv with
 | some fv=>match rnd with
  | none=>zGM r fid fv ps assign body ⟨fr.tmps,(.ptr s.n 0,[]) :: fr.defers,fr.rec_⟩ (s.alloc .mark)
  | some l=>match s.get l with
   | .loop _=>zGM r fid fv ps assign body fr s
   | _=>none
 | none=>none
def zZB (r:Rec)(fid:FuncId)(rnd:Option Nat)(c:Option AV)(a b:Code)(fr:Fr)(s:Sto):Option (Out×Fr×Sto):=
 match c with
 | some (.bool true)=>r.exec fid rnd a fr s
 | some (.bool false)=>r.exec fid rnd b fr s
 | _=>none
def zCR (r:Rec)(E:Env)(fid:FuncId)(rnd:Option Nat)(c:Code)(fr:Fr)(s:Sto):Option (Out×Fr×Sto):=
 match c with
 | .skip=>some (.normal,fr,s)
 | .label _=>some (.normal,fr,s)
 | .ret=>some (.ret,fr,s)
 | .exit id=>some (.exit id,fr,s)
 | .region id ops draw=>zC0 r E fid id ops.toList draw fr s
 | .seq a b=>zKI (r.exec fid rnd a fr s) (fun fr s=>r.exec fid rnd b fr s)
 | .cond c a b=>zZB r fid rnd (zAD fr c) a b fr s
 | .block id b=>zQE id (r.exec fid rnd b fr s)
 | .scope b=>r.exec fid rnd b fr s
 | .loop b=>zKI (r.exec fid rnd b fr s) (fun fr s=>r.exec fid rnd (.loop b) fr s)
 | .rangeFunc f ps assign body=>zJ9 r fid rnd (zAD fr f) ps.toList assign body fr s
 | _=>none
def zDG (E:Env)(fr:Fr)(s:Sto):List ResultVar→Option (List AV)
 | []=>some []
 | .tmp t :: r=>match zDG E fr s r with|some vs=>some (lget fr.tmps t :: vs)|none=>none
 | .cell a t :: r=>match zI6 s (E.types t) (lget fr.tmps a) with
  | some v=>match zDG E fr s r with|some vs=>some (v :: vs)|none=>none
  | none=>none
def zLC (E:Env)(fn:Func)(fr:Fr)(s:Sto):Option AV:=
 match zDG E fr s fn.results.toList with
 | some [v]=>some v
 | some vs=>some (.tuple vs)
 | none=>none
def zBY (r:Rec):List (AV×List AV)→Option AV→Sto→Option (Option AV×Sto)
 | [],m,s=>some (m,s)
 | (f,args) :: ds,m,s=>
  match f with
  | .func _ (.func f) a b=>match r.call f (lapp a (lapp args b)) (some m) s with
   | some (.ret _,recd,s)=>zBY r ds (bif recd then none else m) s
   | _=>none
  | .ptr k _=>match s.get k with
   | .mark=>zBY r ds m (s.put k .dead)
   | _=>none
  | _=>none
def zNG (iso:Bool)(v:AV)(recd:Bool)(base:Nat)(s0 s:Sto):Option (CR×Bool×Sto):=
 bif iso then(bif Nat.beq (top v) 0 then some (.panic v,recd,s0) else none)
 else some (.panic v,recd,s.done base (top v))
def zI7 (iso:Bool)(v:AV)(recd:Bool)(base:Nat)(s0 s:Sto):Option (CR×Bool×Sto):=
 bif iso then(bif Nat.beq (top v) 0 then some (.ret v,recd,s0) else none)
 else some (.ret v,recd,s.done base (top v))
def result0 (E:Env)(fn:Func)(md:Mode)(fr:Fr)(s:Sto):Option (AV×Sto):=
 match zLC E fn fr s with
 | some v=>bif md.rawRes then some (v,s) else zK8 s v
 | none=>none
def leave (E:Env)(fn:Func)(md:Mode)(recd:Bool)(base:Nat)(s0:Sto)(fr:Fr)(x:Option (Option AV×Sto)):Option (CR×Bool×Sto):=
 match x with
 | some (some v,s)=>zNG md.iso v recd base s0 s
 | some (none,s)=>match result0 E fn md fr s with
  | some (v,s)=>zI7 md.iso v recd base s0 s
  | none=>none
 | none=>none
def modeOut:Out→Option (Option AV)
 | .normal=>some none
 | .ret=>some none
 | .panic v=>some (some v)
 | _=>none
def behind (r:Rec)(E:Env)(fn:Func)(md:Mode)(m:Option AV)(base:Nat)(s0:Sto)(x:Option (Out×Fr×Sto)):Option (CR×Bool×Sto):=
 match x with
 | some (o,fr,s)=>match modeOut o with
  | some m0=>leave E fn md (m.isSome&&fr.rec_.isNone) base s0 fr (zBY r fr.defers m0 s)
  | none=>none
 | none=>none
def enter (r:Rec)(E:Env)(f:FuncId)(fn:Func)(body:Code)(md:Mode)(args:List AV)(m:Option AV)(s0:Sto):Option (CR×Bool×Sto):=
 bif md.iso then
  (match m with
  | none=>bif Nat.beq (tops args) 0 then
    behind r E fn md none 0 s0 (r.exec f none body ⟨lapp args (lrep undef (fn.ntmps-llen args)),[],none⟩ .empty) else none
  | some _=>none)
 else behind r E fn md m s0.n s0 (r.exec f none body ⟨lapp args (lrep undef (fn.ntmps-llen args)),[],m⟩ s0)
def zJY (E:Env)(f:FuncId)(args:List AV):Option (Option AV)→Option AV
 | none=>E.intr f args
 | some _=>none
def insRow (e:TypeId)(i m n:Nat)(k k2:Nat)(s:Sto):Option (AV×Sto):=
 match s.get k with
 | .row ty es xs false=>match s.get k2 with
  | .row ty2 es2 ys false=>
   bif !Nat.beq k k2&&(Nat.beq ty e&&(Nat.beq ty2 e&&(Nat.beq es 1&&(Nat.beq es2 1&&(Nat.beq n (llen xs)&&(Nat.beq m (llen ys)&&(Nat.blt i n&&(Nat.blt 0 m&&(zBK 1 xs&&(zBK 1 ys&&Nat.ble (n+m) 1048576)))))))))) then
    some (.osl s.n 0 (n+m),((s.put k .dead).alloc (.row ty 1 (lapp (ltake xs i) (lapp ys (ldrop xs i))) false)).note s.n (tops (lapp (ltake xs i) (lapp ys (ldrop xs i)))))
   else none
  | _=>none
 | _=>none
def insA (e:TypeId)(args:List AV)(s:Sto):Option (AV×Sto):=
 match args with
 | [.osl k 0 n,.int .i64 (.ofNat i),.osl k2 0 m]=>insRow e i m n k k2 s
 | _=>none
def insM (E:Env)(f:FuncId)(args:List AV)(s:Sto):Option (Option AV)→Option (AV×Sto)
 | none=>match E.ins f with|some e=>insA e args s|none=>none
 | some _=>none
def mJoin:Option (Option AV)→Option AV
 | some x=>x
 | none=>none
def zHR (r:Rec)(E:Env)(f:FuncId)(args:List AV)(m:Option (Option AV))(s0:Sto):Option (CR×Bool×Sto):=
 match zJY E f args m with
 | some v=>some (.ret v,false,s0)
 | none=>match insM E f args s0 m with
  | some (v,s)=>some (.ret v,false,s)
  | none=>match E.funcs f with
   | some fn=>match fn.body with
    | some body=>
     bif (E.mode f).rawArgs then enter r E f fn body (E.mode f) args (mJoin m) s0
     else(match zBO s0 args with
      | some (args,s0)=>enter r E f fn body (E.mode f) args (mJoin m) s0
      | none=>none)
    | none=>none
   | none=>none
def zO5 (E:Env)(r:Rec):Rec:=⟨fun fid rnd c fr s=>zCR r E fid rnd c fr s,fun f args m s=>zHR r E f args m s⟩
def iter (E:Env):Nat→Rec
 | 0=>Rec.bot
 | n+1=>zO5 E (iter E n)
end
noncomputable section
def zC2 (i:Nat):Nat:=Nat.pow 2 i
def orM (a b:Nat):Nat:=Nat.lor a b
def hasM (a i:Nat):Bool:=Nat.beq (Nat.land (Nat.shiftRight a i) 1) 1
def subM (a b:Nat):Bool:=Nat.beq (Nat.land a b) a
def zCF (e:Edge):Bool:=
 match e.ground with
 | .textOnly _=>false
 | .gcOnly _=>false
 | _=>true
def nthN (l:List Nat)(i:Nat):Nat:=match zB7 l i with|some x=>x|none=>0
def zMG (acc:List Nat):List Edge→Nat
 | []=>0
 | e :: r=>bif zCF e then orM (zC2 e.on) (orM (nthN acc e.on) (zMG acc r)) else zMG acc r
def lsnoc:List Nat→Nat→List Nat
 | [],x=>[x]
 | a :: l,x=>a :: lsnoc l x
def closes:List Oper→List Nat→List Nat
 | [],acc=>acc
 | o :: r,acc=>closes r (lsnoc acc (zMG acc o.after.toList))
def isAlloc:Op→Bool
 | .alloc _=>true
 | _=>false
def indep:Op→Bool
 | .move _=>true
 | .assign _=>true
 | .pick _ _ _=>true
 | .build _ _=>true
 | .buildSlice _ _ _=>true
 | .nilCheck _=>true
 | .unOp _ _ _=>true
 | .makeInterface _ _=>true
 | .makeFunc _ _ _=>true
 | .fieldAddr _ _ _=>true
 | .field _ _ _=>true
 | .index _ _ _=>true
 | .typeAssert _ _ _ _=>true
 | .extract _ _=>true
 | .makeSlice _ _ _=>true
 | .binOp op _ _ _ _=>(match op with|.eql=>false|.neq=>false|_=>true)
 | _=>false
def loudOk:Op→Bool
 | .defer _=>false
 | .call c=>(match c.callee with|.builtin .recover=>false|_=>true)
 | _=>true
def tmpsOf:List Operand→List Tmp
 | []=>[]
 | .tmp t :: r=>t :: tmpsOf r
 | _ :: r=>tmpsOf r
def dsts:List Oper→List Tmp
 | []=>[]
 | o :: r=>match o.dst with|some d=>d :: dsts r|none=>dsts r
def memT (t:Nat):List Nat→Bool
 | []=>false
 | a :: r=>bif Nat.beq a t then true else memT t r
def nodupT:List Nat→Bool
 | []=>true
 | a :: r=>bif memT a r then false else nodupT r
def maker (t:Nat):List Oper→Nat→Option Nat
 | [],_=>none
 | o :: r,i=>match o.dst with
  | some d=>bif Nat.beq d t then some i else maker t r (i+1)
  | none=>maker t r (i+1)
def useOk (ops:List Oper)(pre:List Nat)(j:Nat)(t:Tmp):Bool:=
 match maker t ops 0 with
 | none=>true
 | some i=>bif hasM (nthN pre j) i then true else hasM (nthN pre i) j
def zNY (ops:List Oper)(pre:List Nat)(j:Nat):List Tmp→Bool
 | []=>true
 | t :: r=>bif useOk ops pre j t then zNY ops pre j r else false
def zL1 (ops:List Oper)(o:Oper):List Tmp:=
 match o.guard with
 | some (j,_)=>(match zB7 ops j with|some q=>(match q.dst with|some d=>[d]|none=>[])|none=>[])
 | none=>[]
def zBJ (ops:List Oper)(o:Oper):List Tmp:=zL1 ops o++tmpsOf o.op.operands.toList
def zSQ (ops:List Oper)(pre:List Nat):List Oper→Nat→Bool
 | [],_=>true
 | o :: r,i=>bif zNY ops pre i (zBJ ops o) then zSQ ops pre r (i+1) else false
def zLM (ops:List Oper)(t:Tmp):List Nat→Bool
 | []=>true
 | i :: r=>match zB7 ops i with
  | some o=>bif memT t (zBJ ops o) then false else zLM ops t r
  | none=>false
def zLL (ops:List Oper)(d:Option Tmp)(U:List Nat):Bool:=
 match d with
 | some t=>zLM ops t U
 | none=>true
def zMB (i:Nat):List Edge→Bool
 | []=>true
 | e :: r=>bif zCF e then(bif Nat.blt e.on i then zMB i r else false) else zMB i r
def edgesOk:List Oper→Nat→Bool
 | [],_=>true
 | o :: r,i=>bif zMB i o.after.toList then edgesOk r (i+1) else false
def zFU (p:Nat):List Nat→List Nat
 | []=>[]
 | i :: r=>bif hasM p i then zFU p r else i :: zFU p r
def dueU (ops:List Oper):List Nat→List Nat
 | []=>[]
 | i :: r=>match zB7 ops i with
  | some o=>bif indep o.op then dueU ops r else i :: dueU ops r
  | none=>i :: dueU ops r
def zKF (t:Nat):List Nat→List Nat
 | []=>[]
 | a :: r=>bif Nat.beq a t then r else a :: zKF t r
def isNilT:List Nat→Bool
 | []=>true
 | _=>false
def zDK (ops:List Oper)(i:Nat):Bool:=
 match zB7 ops i with
 | some o=>(match o.op with
  | .store _ _ _=>(match o.dst with
   | none=>(match o.guard with|none=>true|some _=>false)
   | some _=>false)
  | _=>false)
 | none=>false
def zJE (i j:Nat):List Edge→Bool
 | []=>true
 | e :: r=>bif zCF e then(bif Nat.beq e.on i||Nat.beq e.on j then false else zJE i j r) else zJE i j r
def zLG (ops:List Oper)(i j q:Nat):Bool:=
 match zB7 ops q with
 | some o=>(match o.op with
  | .indexAddr _ _ _=>(match o.dst with
   | some d=>(match o.guard with|none=>(bif zLM ops d [j] then zJE i j o.after.toList else false)|some _=>false)
   | none=>false)
  | _=>false)
 | none=>false
def apartQ (ops:List Oper)(pre:List Nat)(i j:Nat)(U:List Nat):Bool:=
 match U with
 | []=>false
 | q :: _=>zLG ops i j q&&(hasM (nthN pre i) q&&Nat.beq (orM (nthN pre j) (orM (zC2 q) (orM (zC2 i) (zC2 j)))) (Nat.pow 2 (llen ops)-1))
def zB2 (ops:List Oper)(pre:List Nat):List PStep→Nat→Nat→List Nat→List Nat→Bool
 | [],done,_,_,due=>bif isNilT due then Nat.beq done (Nat.pow 2 (llen ops)-1) else false
 | .q i :: r,done,louds,U,due=>match zB7 ops i with
  | some o=>bif hasM done i then false else bif isAlloc o.op then false else bif subM (nthN pre i) done then(bif subM louds (nthN pre i) then(match o.dst with
   | some d=>bif zLM ops d U then zB2 ops pre r (orM done (zC2 i)) louds (i :: U) due else false
   | none=>false) else false) else false
  | none=>false
 | .chk i :: r,done,louds,U,due=>zB2 ops pre r done louds U (zKF i due)
 | .l i :: r,done,louds,U,due=>match zB7 ops i with
  | some o=>bif hasM done i then false else bif isNilT due then(bif subM (nthN pre i) done then(bif loudOk o.op then
    (bif isAlloc o.op then
     (match o.guard with
     | none=>bif Nat.beq (nthN pre i) 0 then(bif zLL ops o.dst U then zB2 ops pre r (orM done (zC2 i)) (orM louds (zC2 i)) U (dueU ops U) else false) else false
     | some _=>false)
    else bif subM louds (nthN pre i) then(bif zLL ops o.dst (zFU (nthN pre i) U) then zB2 ops pre r (orM done (zC2 i)) (orM louds (zC2 i)) (zFU (nthN pre i) U) (dueU ops (zFU (nthN pre i) U)) else false) else false)
    else false) else false) else false
  | none=>false
 | .apart i j :: r,done,_,U,due=>match r with
  | [.l i',.l j']=>bif Nat.beq i i'&&(Nat.beq j j'&&(isNilT due&&(!hasM done i&&(!hasM done j&&(!Nat.beq i j&&(zDK ops i&&(zDK ops j &&
    (Nat.beq (orM done (orM (zC2 i) (zC2 j))) (Nat.pow 2 (llen ops)-1)&&(Nat.beq (orM (nthN pre i) (orM (zC2 i) (zC2 j))) (Nat.pow 2 (llen ops)-1) &&
    (Nat.beq (orM (nthN pre j) (orM (zC2 i) (zC2 j))) (Nat.pow 2 (llen ops)-1)||apartQ ops pre i j U)))))))))) then true else false
  | _=>false
def zS7 (ops:List Oper)(plan:List PStep):Bool:=
 match closes ops [] with
 | pre=>bif nodupT (dsts ops) then(bif zSQ ops pre ops 0 then(bif edgesOk ops 0 then zB2 ops pre plan 0 0 [] [] else false) else false) else false
end
theorem zCJ (l:List AV)(i:Nat):lget l i=l.getD i undef:=by
 induction l generalizing i with
 | nil=>rfl
 | cons a l ih=>cases i with
  | zero=>rfl
  | succ j=>exact(ih j).trans (by simp)
theorem zE6 (l:List AV)(i:Nat):lnth l i=l[i]?:=by
 induction l generalizing i with
 | nil=>rfl
 | cons a l ih=>cases i with
  | zero=>rfl
  | succ j=>exact(ih j).trans (by simp)
theorem zFR (v:AV)(l:List AV)(i:Nat):lset v l i=l.set i v:=by
 induction l generalizing i with
 | nil=>rfl
 | cons a l ih=>cases i with
  | zero=>rfl
  | succ j=>exact congrArg (a :: ·) (ih j)
theorem zAH {α:Type}(l:List α):llen l=l.length:=by
 induction l with
 | nil=>rfl
 | cons a l ih=>exact congrArg Nat.succ ih
theorem zBP (l m:List AV):lapp l m=l++m:=by
 induction l with
 | nil=>rfl
 | cons a l ih=>exact congrArg (a :: ·) ih
theorem zCA (l:List AV)(i:Nat):ltake l i=l.take i:=by
 induction l generalizing i with
 | nil=>simp;rfl
 | cons a l ih=>cases i with
  | zero=>rfl
  | succ j=>exact congrArg (a :: ·) (ih j)
theorem zCZ (l:List AV)(i:Nat):ldrop l i=l.drop i:=by
 induction l generalizing i with
 | nil=>simp;rfl
 | cons a l ih=>cases i with
  | zero=>rfl
  | succ j=>exact ih j
theorem zD7 (v:AV)(n:Nat):lrep v n=List.replicate n v:=by
 induction n with
 | zero=>rfl
 | succ n ih=>exact congrArg (v :: ·) ih
theorem lmap_eq {α β:Type}(f:α→β)(l:List α):lmap f l=l.map f:=by
 induction l with
 | nil=>rfl
 | cons a l ih=>exact congrArg (f a :: ·) ih
theorem zDC {α:Type}(l:List α)(i:Nat):zB7 l i=l[i]?:=by
 induction l generalizing i with
 | nil=>rfl
 | cons a l ih=>cases i with
  | zero=>rfl
  | succ j=>exact(ih j).trans (by simp)
theorem zLQ {α:Type}(l:List α)(i:Nat):zX6 l i=l.drop i:=by
 induction l generalizing i with
 | nil=>simp;rfl
 | cons a l ih=>cases i with
  | zero=>rfl
  | succ j=>exact ih j
theorem zKW {α:Type}(v:α)(l:List α)(i:Nat):lsetG v l i=l.set i v:=by
 induction l generalizing i with
 | nil=>rfl
 | cons a l ih=>cases i with
  | zero=>rfl
  | succ j=>exact congrArg (a :: ·) (ih j)
theorem zHH (a b:Int):ilt a b=decide (a<b):=by
 rw[Bool.eq_iff_iff,decide_eq_true_eq]
 cases a<;>cases b<;>simp only[ilt,Nat.blt_eq,Bool.false_eq_true,Int.ofNat_eq_natCast,iff_true,true_iff,iff_false,false_iff]<;>omega
theorem zJC (a b:Int):ieq a b=decide (a=b):=by
 rw[Bool.eq_iff_iff,decide_eq_true_eq]
 cases a<;>cases b<;>simp only[ieq,Nat.beq_eq,Bool.false_eq_true,Int.ofNat_eq_natCast,iff_false,false_iff]<;>omega
theorem zPS (a b:IntKind):keq a b=decide (a=b):=by cases a<;>cases b<;>rfl
theorem u8eq (a b:UInt8):Nat.beq a.toNat b.toNat=decide (a=b):=by
 rw[Bool.eq_iff_iff];simp[UInt8.toNat_inj]
theorem zD9 (a b:List UInt8):bytesEq a b=decide (a=b):=by
 induction a generalizing b with
 | nil=>cases b<;>simp[bytesEq]
 | cons x a ih=>cases b with
  | nil=>simp[bytesEq]
  | cons y b=>simp only[bytesEq,u8eq,ih];by_cases h:x=y<;>simp[h]
theorem zGD (a b:List UInt8):bytesLt a b=Op.bytesLess a b:=by
 induction a generalizing b with
 | nil=>cases b<;>rfl
 | cons x a ih=>cases b with
  | nil=>rfl
  | cons y b=>
   simp only[bytesLt,Op.bytesLess,u8eq,ih]
   have h:Nat.blt x.toNat y.toNat=decide (x<y):=by rw[Bool.eq_iff_iff];simp[UInt8.lt_iff_toNat_lt]
   rw[h]
   by_cases h1:x<y<;>by_cases h2:x=y<;>simp[h1,h2]
theorem wr_eq (k:IntKind)(n:Int):wr k n=k.wrap n:=by
 unfold wr
 cases h:inR k n with
 | false=>rfl
 | true=>
  rw[cond_true]
  cases k<;>cases n<;>simp only[inR,Nat.blt_eq,Bool.false_eq_true] at h<;>simp only[IntKind.wrap,IntKind.bits,IntKind.signed,Int.ofNat_eq_natCast]<;>simp<;>omega
theorem tops_nil:tops []=0:=rfl
theorem zAU (a:AV)(l:List AV):tops (a :: l)=Nat.max (top a) (tops l):=rfl
theorem zDQ (cs:List AV):top (.agg cs)=tops cs:=by
 induction cs with
 | nil=>rfl
 | cons a l ih=>exact congrArg (Nat.max (top a)) ih
theorem zCU (cs:List AV):top (.tuple cs)=tops cs:=by
 induction cs with
 | nil=>rfl
 | cons a l ih=>exact congrArg (Nat.max (top a)) ih
theorem zO1 (t:TypeId)(v:AV):top (.iface t v)=top v:=rfl
theorem zAP {l:List AV}{n:Nat}:tops l≤n↔∀x∈l,top x≤n:=by
 induction l with
 | nil=>simp[tops_nil]
 | cons a l ih=>rw[zAU,Nat.max_le,ih];simp
theorem zCC (v:AV):tops (cellsOf v)=top v:=by
 cases v<;>first|exact(zDQ _).symm|exact Nat.max_eq_left (Nat.zero_le _)
structure Gh where
 mu:Nat→Nat
 es:Nat→Nat
 rl:Nat→Nat
 bs:Nat→Nat
 C:Nat→Nat→Option Value
 ok:FuncId→Code→Prop
 Cb:Nat→Nat→Option Value
 Z:Nat→Option Obj
def zON (g:Gh):Fn→Fn
 | .yield l=>.yield (g.mu l)
 | f=>f
inductive VR (g:Gh):AV→Value→Prop
 | bool (b:Bool):VR g (.bool b) (.bool b)
 | int (k:IntKind) (n:Int):VR g (.int k n) (.int k n)
 | str (s:ByteArray):VR g (.str s.data.toList) (.string s)
 | nilptr:VR g .nilptr (.pointer none)
 | ptr (k off:Nat):VR g (.ptr k off) (.pointer (some ⟨g.mu k,off,none⟩))
 | eptr (k i off:Nat):VR g (.eptr k i off) (.pointer (some ⟨g.mu k,i*g.es k+off,none⟩))
 | rptr (t:Nat) (cells:List AV) (b o:Nat) (vs:Nat→Value)
   (hc:∀(i:Nat) (c:AV),cells[i]?=some c→g.C b (o+i)=some (vs i))
   (hv:∀(i:Nat) (c:AV),cells[i]?=some c→VR g c (vs i)) (ht:tops cells≤t):VR g (.rptr t cells) (.pointer (some ⟨b,o,none⟩))
 | sl (t:Nat) (xs:List AV) (own:Own) (b off cap es:Nat) (vs:Nat→Nat→Value)
   (hl:∀(i:Nat) (x:AV),xs[i]?=some x→(cellsOf x).length=es)
   (hc:∀(i:Nat) (x:AV) (j:Nat) (c:AV),xs[i]?=some x→(cellsOf x)[j]?=some c→g.C b (off+i*es+j)=some (vs i j))
   (hv:∀(i:Nat) (x:AV) (j:Nat) (c:AV),xs[i]?=some x→(cellsOf x)[j]?=some c→VR g c (vs i j))
   (ht:tops xs≤t) (hcap:xs.length≤cap) (hown:own≠.shut→cap=xs.length) (hnil:own≠.nil) :
   VR g (.sl t xs own) (.slice (some ⟨b,off,none⟩) xs.length cap)
 | slnil (t:Nat) (own:Own):VR g (.sl t [] own) (.slice none 0 0)
 | slany (t:Nat) (own:Own) (a:Addr) (hnil:own≠.nil):VR g (.sl t [] own) (.slice (some a) 0 0)
 | osl (k off len cap:Nat) (hlen:len≤cap) (hb:(off+cap)*g.es k≤g.bs k) (hr:g.rl k≤off+cap) :
   VR g (.osl k off len) (.slice (some ⟨g.mu k,off*g.es k,none⟩) len cap)
 | oslE (k off b o:Nat) (hr:g.rl k≤off):VR g (.osl k off 0) (.slice (some ⟨b,o,none⟩) 0 0)
 | nilmap:VR g .nilmap (.map none)
 | map (k:Nat):VR g (.map k) (.map (some (g.mu k)))
 | func (t:Nat) (fn:Fn) (a b:List AV) (a' b':Array Value) (hf:∀l,fn=.yield l→l<t)
   (la:a.length=a'.size) (ha:∀(i:Nat) (x:AV) (v:Value),a[i]?=some x→a'[i]?=some v→VR g x v)
   (lb:b.length=b'.size) (hb:∀(i:Nat) (x:AV) (v:Value),b[i]?=some x→b'[i]?=some v→VR g x v)
   (hta:tops a≤t) (htb:tops b≤t):VR g (.func t fn a b) (.func (zON g fn) a' b')
 | nilfunc:VR g .nilfunc .nilFunc
 | iface (t:TypeId) (x:AV) (v:Value) (h:VR g x v):VR g (.iface t x) (.iface t v)
 | niliface:VR g .niliface .nilIface
 | agg (cs:List AV) (vs:Array Value) (l:cs.length=vs.size) (h:∀(i:Nat) (x:AV) (v:Value),cs[i]?=some x→vs[i]?=some v→VR g x v) :
   VR g (.agg cs) (.agg vs)
 | tuple (cs:List AV) (vs:Array Value) (l:cs.length=vs.size) (h:∀(i:Nat) (x:AV) (v:Value),cs[i]?=some x→vs[i]?=some v→VR g x v) :
   VR g (.tuple cs) (.tuple vs)
def VRs (g:Gh)(l:List AV)(vs:Array Value):Prop:=l.length=vs.size∧∀(i:Nat) (x:AV) (v:Value),l[i]?=some x→vs[i]?=some v→VR g x v
structure Grows (n:Nat) (g g':Gh):Prop where
 mu:∀k,k<n→g'.mu k=g.mu k
 es:∀k,k<n→g'.es k=g.es k
 rl:∀k,k<n→g'.rl k=g.rl k
 bs:∀k,k<n→g'.bs k=g.bs k
 C:∀b o v,g.C b o=some v→g'.C b o=some v
 ok:g'.ok=g.ok
 Cb:g'.Cb=g.Cb
 Z:g'.Z=g.Z
structure Grw (n:Nat) (g g':Gh):Prop where
 mu:∀k,k<n→g'.mu k=g.mu k
 es:∀k,k<n→g'.es k=g.es k
 rl:∀k,k<n→g'.rl k=g.rl k
 bs:∀k,k<n→g'.bs k=g.bs k
 C:∀b o v,g.C b o=some v→g'.C b o=some v
theorem Grows.grw {n:Nat}{g g':Gh}(h:Grows n g g'):Grw n g g':=⟨h.mu,h.es,h.rl,h.bs,h.C⟩
theorem Grows.refl (n:Nat)(g:Gh):Grows n g g:=⟨fun _ _=>rfl,fun _ _=>rfl,fun _ _=>rfl,fun _ _=>rfl,fun _ _ _ h=>h,rfl,rfl,rfl⟩
theorem Grows.trans {n:Nat}{g g' g'':Gh}(h:Grows n g g')(h':Grows n g' g''):Grows n g g'':=
 ⟨fun k hk=>(h'.mu k hk).trans (h.mu k hk),fun k hk=>(h'.es k hk).trans (h.es k hk),fun k hk=>(h'.rl k hk).trans (h.rl k hk),
  fun k hk=>(h'.bs k hk).trans (h.bs k hk),fun b o v hv=>h'.C b o v (h.C b o v hv),h'.ok.trans h.ok,h'.Cb.trans h.Cb,h'.Z.trans h.Z⟩
theorem Grows.less {n m:Nat}{g g':Gh}(h:Grows n g g')(hm:m≤n):Grows m g g':=
 ⟨fun k hk=>h.mu k (by omega),fun k hk=>h.es k (by omega),fun k hk=>h.rl k (by omega),fun k hk=>h.bs k (by omega),h.C,h.ok,h.Cb,h.Z⟩
theorem zCV {l:List AV}{n i:Nat}{x:AV}(h:tops l≤n)(hx:l[i]?=some x):top x≤n:=
 zAP.1 h x (List.mem_of_getElem? hx)
theorem zGI {l:List AV}{n i j:Nat}{x c:AV}(h:tops l≤n)(hx:l[i]?=some x)(hc:(cellsOf x)[j]?=some c):top c≤n:=by
 have h1:=zCV h hx
 rw[← zCC] at h1
 exact zCV h1 hc
theorem VR.grw {n:Nat}{g g':Gh}{a:AV}{v:Value}(h:VR g a v)(hg:Grw n g g')(ht:top a≤n):VR g' a v:=by
 induction h with
 | bool b=>exact .bool b
 | int k m=>exact .int k m
 | str s=>exact .str s
 | nilptr=>exact .nilptr
 | ptr k off=>rw[← hg.mu k ht];exact .ptr k off
 | eptr k i off=>rw[← hg.mu k ht,← hg.es k ht];exact .eptr k i off
 | rptr t cells b o vs hc hv h1 ih=>
  exact .rptr t cells b o vs (fun i c hi=>hg.C _ _ _ (hc i c hi)) (fun i c hi=>ih i c hi (Nat.le_trans (zCV h1 hi) ht)) h1
 | sl t xs own b off cap es vs hl hc hv h1 hcap hown hnil ih=>
  exact .sl t xs own b off cap es vs hl (fun i x j c hi hj=>hg.C _ _ _ (hc i x j c hi hj))
   (fun i x j c hi hj=>ih i x j c hi hj (Nat.le_trans (zGI h1 hi hj) ht)) h1 hcap hown hnil
 | slnil t own=>exact .slnil t own
 | slany t own a h=>exact .slany t own a h
 | osl k off len cap hlen hb hr=>
  rw[← hg.mu k ht,← hg.es k ht]
  exact .osl k off len cap hlen (by rw[hg.es k ht,hg.bs k ht];exact hb) (by rw[hg.rl k ht];exact hr)
 | oslE k off b o hr=>exact .oslE k off b o (by rw[hg.rl k ht];exact hr)
 | nilmap=>exact .nilmap
 | map k=>rw[← hg.mu k ht];exact .map k
 | func t fn a b a' b' hf la ha lb hb hta htb iha ihb=>
  have e:zON g fn=zON g' fn:=by
   cases fn<;>try rfl
   rename_i l
   have:l<n:=Nat.lt_of_lt_of_le (hf l rfl) ht
   simp[zON,hg.mu l this]
  rw[e]
  exact .func t fn a b a' b' hf la (fun i x v hi hv=>iha i x v hi hv (Nat.le_trans (zCV hta hi) ht)) lb
   (fun i x v hi hv=>ihb i x v hi hv (Nat.le_trans (zCV htb hi) ht)) hta htb
 | nilfunc=>exact .nilfunc
 | iface t x v _ ih=>exact .iface t x v (ih ht)
 | niliface=>exact .niliface
 | agg cs vs l _ ih=>rw[zDQ] at ht;exact .agg cs vs l fun i x v hi hv=>ih i x v hi hv (zCV ht hi)
 | tuple cs vs l _ ih=>rw[zCU] at ht;exact .tuple cs vs l fun i x v hi hv=>ih i x v hi hv (zCV ht hi)
theorem VR.grows {n:Nat}{g g':Gh}{a:AV}{v:Value}(h:VR g a v)(hg:Grows n g g')(ht:top a≤n):VR g' a v:=h.grw hg.grw ht
theorem VRs.grw {n:Nat}{g g':Gh}{l:List AV}{vs:Array Value}(h:VRs g l vs)(hg:Grw n g g')(ht:tops l≤n):VRs g' l vs:=
 ⟨h.1,fun i x v hi hv=>(h.2 i x v hi hv).grw hg (zCV ht hi)⟩
theorem VRs.grows {n:Nat}{g g':Gh}{l:List AV}{vs:Array Value}(h:VRs g l vs)(hg:Grows n g g')(ht:tops l≤n):VRs g' l vs:=
 ⟨h.1,fun i x v hi hv=>(h.2 i x v hi hv).grows hg (zCV ht hi)⟩
theorem VR.cells {g:Gh}{a:AV}{v:Value}(h:VR g a v):VRs g (cellsOf a) v.cells:=by
 have one:∀{x:AV} {u:Value},VR g x u→VRs g [x] #[u]:=by
  intro x u hx
  refine⟨rfl,fun i y w hi hw=>?_⟩
  cases i with
  | zero=>simp at hi hw;subst hi;subst hw;exact hx
  | succ i=>simp at hi
 cases h with
 | agg cs vs l h=>exact⟨l,h⟩
 | bool b=>exact one (.bool b)
 | int k m=>exact one (.int k m)
 | str s=>exact one (.str s)
 | nilptr=>exact one .nilptr
 | ptr k off=>exact one (.ptr k off)
 | eptr k i off=>exact one (.eptr k i off)
 | rptr t cells b o vs hc hv h1=>exact one (.rptr t cells b o vs hc hv h1)
 | sl t xs own b off cap es vs hl hc hv h1 hcap hown hnil=>exact one (.sl t xs own b off cap es vs hl hc hv h1 hcap hown hnil)
 | slnil t own=>exact one (.slnil t own)
 | slany t own a h=>exact one (.slany t own a h)
 | osl k off len cap hlen hb hr=>exact one (.osl k off len cap hlen hb hr)
 | oslE k off b o hr=>exact one (.oslE k off b o hr)
 | nilmap=>exact one .nilmap
 | map k=>exact one (.map k)
 | func t fn a b a' b' hf la ha lb hb hta htb=>exact one (.func t fn a b a' b' hf la ha lb hb hta htb)
 | nilfunc=>exact one .nilfunc
 | iface t x v h=>exact one (.iface t x v h)
 | niliface=>exact one .niliface
 | tuple cs vs l h=>exact one (.tuple cs vs l h)
def liveBox:Box→Bool
 | .dead=>false
 | _=>true
def boxTop:Box→Nat
 | .cells _ cs=>tops cs
 | .row _ _ xs _=>tops xs
 | .mapb es=>es.foldr (fun e m=>Nat.max (Nat.max (top e.1) (top e.2)) m) 0
 | .loop lb=>tops lb.tmps
 | .mark=>0
 | .dead=>0
def BoxR (g:Gh)(w:World)(k:Nat):Box→Prop
 | .cells ty cs=>∃arr,w.heap[g.mu k]?=some (.cells arr ty (0,0))∧VRs g cs arr∧∀o,g.C (g.mu k) o=none
 | .row ty es xs sealed=>∃arr,w.heap[g.mu k]?=some (.cells arr ty (0,0))∧0<es∧g.es k=es∧g.rl k=xs.length∧g.bs k=arr.size∧
   xs.length*es≤arr.size∧(∀(i:Nat) (x:AV),xs[i]?=some x→(cellsOf x).length=es)∧
   (∀(i:Nat) (x:AV) (j:Nat) (c:AV),xs[i]?=some x→(cellsOf x)[j]?=some c→∃v,arr[i*es+j]?=some v∧VR g c v)∧
   ∀o v,g.C (g.mu k) o=some v→sealed=true∧o<xs.length*es
 | .mapb es=>∃ents clock,w.heap[g.mu k]?=some (.map ents clock)∧es.length=ents.size∧
   (∀(i:Nat) (x:AV×AV) (e:MapEntry),es[i]?=some x→ents[i]?=some e→VR g x.1 e.key∧VR g x.2 e.val)∧∀o,g.C (g.mu k) o=none
 | .loop lb=>∃(lp:Loop) (d:Nat),w.heap[g.mu k]?=some (.loop lp)∧lp.state=(match lb.state with|0=>.ready|1=>.busy|_=>.done)∧lp.pending=lb.pending∧
   lp.fn=lb.fn∧VRs g lb.tmps lp.tmps∧lp.params.toList=lb.params∧lp.assign=lb.assign∧lp.body=lb.body∧lp.defers=d∧(g.ok lb.fn lb.assign∧g.ok lb.fn lb.body)∧∀o,g.C (g.mu k) o=none
 | .mark=>w.heap[g.mu k]?=some (.deferred (some []))∧∀o,g.C (g.mu k) o=none
 | .dead=>True
structure Rel (base:Nat) (w0:World) (g:Gh) (s:Sto) (w:World):Prop where
 len:s.boxes.length=s.n
 box:∀k,k<s.n→BoxR g w k (s.get k)
 at_:∀k,k<s.n→liveBox (s.get k)=true→base≤g.mu k∧g.mu k<w.heap.size
 inj:∀j k,j<s.n→k<s.n→liveBox (s.get j)=true→liveBox (s.get k)=true→g.mu j=g.mu k→j=k
 top:∀k,k<s.n→boxTop (s.get k)≤s.n
 ups:∀k,k<s.n→boxTop (s.get k)≤k+1∨∃t,(k,t)∈s.ups∧boxTop (s.get k)≤t
 C:∀b o v,g.C b o=some v→w.cell? ⟨b,o,none⟩=some v
 size:w0.heap.size=base∧base≤w.heap.size
 old:∀b,b<base→w.heap[b]?=w0.heap[b]?
 oldC:∀b o,b<base→g.C b o=g.Cb b o
 Z:∀b o,g.Z b=some o→w.heap[b]?=some o∧(∀k,k<s.n→liveBox (s.get k)=true→g.mu k≠b)∧∀i,g.C b i=none
 os:w.os=w0.os∧w.output=w0.output
def blit (arr:Array Value)(o:Nat):List Value→Array Value
 | []=>arr
 | v :: r=>blit (arr.setIfInBounds o v) (o+1) r
theorem zEM (vs:List Value):∀(arr:Array Value) (o:Nat),(blit arr o vs).size=arr.size:=by
 induction vs with
 | nil=>intro arr o;rfl
 | cons v r ih=>intro arr o;simp[blit,ih]
theorem zH3 (vs:List Value):∀(arr:Array Value) (o j:Nat),o+vs.length≤arr.size→
  (blit arr o vs)[j]?=if o≤j∧j<o+vs.length then vs[j-o]? else arr[j]?:=by
 induction vs with
 | nil=>intro arr o j _;simp[blit];omega
 | cons v r ih=>
  intro arr o j h
  simp only[List.length_cons] at h
  rw[blit,ih _ _ _ (by simp;omega)]
  by_cases h1:j=o
  ·subst h1
   rw[if_neg (by omega),if_pos ⟨Nat.le_refl _,by simp only[List.length_cons];omega⟩]
   simp[Array.getElem?_setIfInBounds]
   omega
  ·by_cases h2:o+1≤j∧j<o+1+r.length
   ·rw[if_pos h2,if_pos (by simp only[List.length_cons];omega)]
    have:j-o=(j-(o+1))+1:=by omega
    rw[this,List.getElem?_cons_succ]
   ·rw[if_neg h2,if_neg (by simp only[List.length_cons];omega)]
    simp[Array.getElem?_setIfInBounds]
    omega
def putB (w:World)(b:Nat)(o:Obj):World:={ w with heap:=w.heap.setIfInBounds b o }
theorem zPE (w:World)(b:Nat)(o:Obj)(j:Nat):(putB w b o).heap[j]?=if j=b∧j<w.heap.size then some o else w.heap[j]?:=by
 unfold putB
 simp only[Array.getElem?_setIfInBounds]
 by_cases h:b=j
 ·subst h
  by_cases h2:b<w.heap.size
  ·simp[h2]
  ·simp[h2]
 ·rw[if_neg h,if_neg (by omega)]
theorem zG9 (w:World)(b:Nat)(o:Obj):(putB w b o).heap.size=w.heap.size:=by simp[putB]
theorem zIY {w:World}{b:Nat}{o o':Obj}(h:w.heap[b]?=some o'):(putB w b o).heap[b]?=some o:=by
 rw[zPE,if_pos ⟨rfl,(Array.getElem?_eq_some_iff.1 h).1⟩]
theorem zCY {w:World}{b j:Nat}{o:Obj}(h:j≠b):(putB w b o).heap[j]?=w.heap[j]?:=by
 rw[zPE,if_neg (by omega)]
theorem zD0 {w:World}{b o:Nat}{arr:Array Value}{ty:TypeId}{fr:Nat×Nat}(h:w.heap[b]?=some (.cells arr ty fr)):w.cell? ⟨b,o,none⟩=arr[o]?:=by
 simp[World.cell?,h]
theorem zL2 {w:World}{b o:Nat}{arr:Array Value}{ty:TypeId}(h:w.heap[b]?=some (.cells arr ty (0,0))):w.frozen? ⟨b,o,none⟩=false:=by
 simp[World.frozen?,h]
theorem zT9 {w:World}{b o:Nat}{arr:Array Value}{ty:TypeId}{fr:Nat×Nat}(v:Value)(h:w.heap[b]?=some (.cells arr ty fr)) :
  w.setCell ⟨b,o,none⟩ v=putB w b (.cells (arr.setIfInBounds o v) ty fr):=by
 obtain⟨hlt,he⟩:=Array.getElem?_eq_some_iff.1 h
 unfold World.setCell putB
 congr 1
 apply Array.ext_getElem?
 intro j
 rw[Array.getElem?_modify,Array.getElem?_setIfInBounds]
 by_cases hj:b=j
 ·subst hj;simp[hlt,he]
 ·simp[hj]
theorem zD3 (b o n:Nat):(⟨b,o,none⟩:Addr).add n=⟨b,o+n,none⟩:=by
 unfold Addr.add;by_cases h:n=0<;>simp[h]
theorem zBH (P:Program)(b o:Nat)(ty:TypeId):∀(vs:List Value) (i:Nat) (w:World) (arr:Array Value),
  w.heap[b]?=some (.cells arr ty (0,0))→o+i+vs.length≤arr.size→(∀v∈vs,v.oneCell'=true)→
  ∃w',(storeCells ⟨b,o,none⟩ vs i).run P w=.ok () w'∧w'.heap.size=w.heap.size∧w'.heap[b]?=some (.cells (blit arr (o+i) vs) ty (0,0))∧
   (∀j,j≠b→w'.heap[j]?=w.heap[j]?)∧w'.tape=w.tape∧w'.os=w.os∧w'.output=w.output:=by
 intro vs
 induction vs with
 | nil=>intro i w arr h _ _;exact⟨w,by simp[storeCells],rfl,h,fun _ _=>rfl,rfl,rfl,rfl⟩
 | cons v r ih=>
  intro i w arr h hlen hone
  simp only[List.length_cons] at hlen
  have hv:=hone v (by simp)
  have hcell:w.cell? ⟨b,o+i,none⟩=some arr[o+i]:=by rw[zD0 h];exact Array.getElem?_eq_getElem (by omega)
  have hw1:(putB w b (.cells (arr.setIfInBounds (o+i) v) ty (0,0))).heap[b]?=some (.cells (arr.setIfInBounds (o+i) v) ty (0,0)):=zIY h
  obtain⟨w',h1,h2,h3,h4,h5,h6,h7⟩:=ih (i+1) _ _ hw1 (by simp;omega) (fun x hx=>hone x (by simp[hx]))
  refine⟨w',?_,h2.trans (zG9 ..),h3,fun j hj=>(h4 j hj).trans (zCY hj),h5,h6,h7⟩
  rw[storeCells,Sem.run_bind,zD3,run_store P w _ v _ hv,hcell]
  simp only[zL2 h,zT9 v h,Bool.false_eq_true,if_false,Result.andThen_ok]
  exact h1
def zED (fs:Array Field):List (Nat×TypeId):=fs.toList.map fun f=>(f.offset,f.type)
def TDR:TD→TypeDesc→Prop
 | .bool,.bool=>True
 | .int k,.int k'=>k=k'
 | .str,.string=>True
 | .ptr e,.pointer e'=>e=e'
 | .slice e,.slice e'=>e=e'
 | .array n e,.array n' e'=>n=n'∧e=e'
 | .struct fs,.struct fs'=>fs=zED fs'
 | .map k e,.map k' e'=>k=k'∧e=e'
 | .func,.func _ _ _=>True
 | .iface,.interface _=>True
 | .upt,.unsafePointer=>True
 | .other,_=>True
 | _,_=>False
def subOk (E:Env):TD→Prop
 | .slice e=>(E.types e).ok=true∧0<(E.types e).size
 | .array _ e=>(E.types e).ok=true∧0<(E.types e).size
 | .struct fs=>∀f∈fs,(E.types f.2).ok=true∧0<(E.types f.2).size
 | .map k e=>(E.types k).ok=true∧(E.types e).ok=true
 | _=>True
def aggDesc:TypeDesc→Bool
 | .struct _=>true
 | .array _ _=>true
 | _=>false
structure TIR (E:Env) (P:Program) (t:TypeId) (ti:TI):Prop where
 info:∃i z,P.info? t=some i∧i.size=ti.size∧i.bytes=ti.bytes∧i.zero=some z∧ofValues z.cells.toList=some ti.zero∧
  (ti.agg=true→z=.agg z.cells)∧(ti.agg=false→z.cells=#[z])∧ti.zero.length=ti.size
 und:∃d,P.underlying t=some d∧TDR ti.d d∧aggDesc d=ti.agg
 sub:subOk E ti.d
 meth:∀name f,zF7 name ti.methods=some f→∀(v:Value) (w:World),(method (P.types.size+Made.depth) t v name).run P w=.ok (f,v) w
structure TysOk (E:Env) (P:Program):Prop where
 ti:∀t,(E.types t).ok=true→TIR E P t (E.types t)
theorem VR.ofValue {g:Gh}{v:Value}{x:AV}(h:ofValue v=some x):VR g x v:=by
 cases v with
 | bool b=>cases h;exact .bool b
 | int k n=>cases h;exact .int k n
 | string s=>cases h;exact .str s
 | pointer a=>cases a with
  | none=>cases h;exact .nilptr
  | some a=>cases h
 | slice a n c=>
  cases a with
  | some a=>cases h
  | none=>
   cases n with
   | succ n=>cases h
   | zero=>cases c with
    | succ c=>cases h
    | zero=>cases h;exact .slnil 0 .nil
 | map r=>cases r with
  | none=>cases h;exact .nilmap
  | some r=>cases h
 | nilFunc=>cases h;exact .nilfunc
 | nilIface=>cases h;exact .niliface
 | float k b=>cases h
 | complex k a b=>cases h
 | chan r=>cases h
 | func f a b=>cases h
 | iface t v=>cases h
 | agg cs=>cases h
 | tuple cs=>cases h
theorem ofValues_spec:∀{vs:List Value} {xs:List AV},ofValues vs=some xs→
  xs.length=vs.length∧∀(i:Nat) (x:AV) (v:Value),xs[i]?=some x→vs[i]?=some v→ofValue v=some x:=by
 intro vs
 induction vs with
 | nil=>intro xs h;cases h;exact⟨rfl,fun i x v hx _=>by simp at hx⟩
 | cons v r ih=>
  intro xs h
  simp only[ofValues] at h
  cases h1:Go.Ab.ofValue v with
  | none=>rw[h1] at h;cases h
  | some x=>
   rw[h1] at h
   cases h2:ofValues r with
   | none=>rw[h2] at h;cases h
   | some ys=>
    rw[h2] at h
    cases h
    obtain⟨hl,hi⟩:=ih h2
    refine⟨by simp[hl],fun i y w hy hw=>?_⟩
    cases i with
    | zero=>simp at hy hw;subst hy;subst hw;exact h1
    | succ i=>simp at hy hw;exact hi i y w hy hw
theorem VRs.ofValues {g:Gh}{vs:List Value}{xs:List AV}(h:ofValues vs=some xs):VRs g xs vs.toArray:=by
 obtain⟨hl,hi⟩:=ofValues_spec h
 exact⟨by simpa using hl,fun i x v hx hv=>.ofValue (hi i x v hx (by simpa using hv))⟩
theorem zA6 {v:Value}{x:AV}(h:ofValue v=some x):top x=0:=by
 cases v with
 | slice a n c=>
  cases a with
  | some a=>cases h
  | none=>cases n with
   | succ n=>cases h
   | zero=>cases c with
    | succ c=>cases h
    | zero=>cases h;rfl
 | pointer a=>cases a<;>cases h;rfl
 | map r=>cases r<;>cases h;rfl
 | _=>cases h<;>rfl
theorem zGH {vs:List Value}{xs:List AV}(h:ofValues vs=some xs):tops xs=0:=by
 obtain⟨hl,hi⟩:=ofValues_spec h
 refine Nat.le_zero.1 (zAP.2 fun x hx=>?_)
 obtain⟨i,hi'⟩:=List.getElem?_of_mem hx
 have hlt:i<vs.length:=by rw[← hl];exact(List.getElem?_eq_some_iff.1 hi').1
 rw[zA6 (hi i x vs[i] hi' (List.getElem?_eq_getElem hlt))]
 exact Nat.le_refl _
theorem zKB {g:Gh}{v:Value}{x:AV}(h:ofConst v=some x):VR g x v∧top x=0:=by
 cases v with
 | agg cs=>
  simp only[ofConst] at h
  cases h1:ofValues cs.toList with
  | none=>rw[h1] at h;cases h
  | some xs=>
   rw[h1] at h;cases h
   have:=VRs.ofValues (g:=g) h1
   exact⟨.agg xs cs (by simpa using this.1) (by simpa using this.2),by rw[zDQ,zGH h1]⟩
 | iface t v=>
  simp only[ofConst] at h
  cases h1:ofValue v with
  | none=>rw[h1] at h;cases h
  | some y=>rw[h1] at h;cases h;exact⟨.iface t y v (.ofValue h1),show top y=0 from zA6 h1⟩
 | func f a b=>
  cases f with
  | func f=>
   simp only[ofConst] at h
   cases ha:(a.isEmpty&&b.isEmpty) with
   | false=>rw[ha] at h;cases h
   | true=>
    rw[ha] at h;cases h
    simp at ha
    obtain⟨rfl,rfl⟩:=ha
    exact⟨.func 0 (.func f) [] [] #[] #[] (by simp) rfl (by simp) rfl (by simp) (Nat.le_refl _) (Nat.le_refl _),rfl⟩
  | _=>cases h
 | bool b=>have h':ofValue (.bool b)=some x:=h;exact⟨.ofValue h',zA6 h'⟩
 | int k n=>have h':ofValue (.int k n)=some x:=h;exact⟨.ofValue h',zA6 h'⟩
 | float k n=>have h':ofValue (.float k n)=some x:=h;exact⟨.ofValue h',zA6 h'⟩
 | complex k m n=>have h':ofValue (.complex k m n)=some x:=h;exact⟨.ofValue h',zA6 h'⟩
 | string s=>have h':ofValue (.string s)=some x:=h;exact⟨.ofValue h',zA6 h'⟩
 | pointer a=>have h':ofValue (.pointer a)=some x:=h;exact⟨.ofValue h',zA6 h'⟩
 | slice a m n=>have h':ofValue (.slice a m n)=some x:=h;exact⟨.ofValue h',zA6 h'⟩
 | map a=>have h':ofValue (.map a)=some x:=h;exact⟨.ofValue h',zA6 h'⟩
 | chan a=>have h':ofValue (.chan a)=some x:=h;exact⟨.ofValue h',zA6 h'⟩
 | nilFunc=>have h':ofValue .nilFunc=some x:=h;exact⟨.ofValue h',zA6 h'⟩
 | nilIface=>have h':ofValue .nilIface=some x:=h;exact⟨.ofValue h',zA6 h'⟩
 | tuple vs=>have h':ofValue (.tuple vs)=some x:=h;exact⟨.ofValue h',zA6 h'⟩
def zAE (tmps:Array Value):Operand→Value
 | .tmp t=>tmps.getD t Go.undef
 | .const v=>v
 | .global g=>.pointer (some ⟨g,0,none⟩)
 | .func f=>.func (.func f) #[] #[]
theorem VR.undef (g:Gh):VR g undef Go.undef:=.tuple [] #[] rfl (by simp)
theorem zA9 {g:Gh}{fr:Fr}{tmps:Array Value}(h:VRs g fr.tmps tmps){o:Operand}{x:AV}(he:zAD fr o=some x):VR g x (zAE tmps o):=by
 cases o with
 | tmp t=>
  cases he
  rw[zCJ]
  simp only[zAE]
  by_cases ht:t<fr.tmps.length
  ·have ht':t<tmps.size:=by rw[← h.1];exact ht
   rw[List.getD_eq_getElem?_getD,List.getElem?_eq_getElem ht,Array.getD_eq_getD_getElem?,Array.getElem?_eq_getElem ht']
   exact h.2 t _ _ (List.getElem?_eq_getElem ht) (Array.getElem?_eq_getElem ht')
  ·have ht':¬ t<tmps.size:=by rw[← h.1];exact ht
   rw[List.getD_eq_getElem?_getD,List.getElem?_eq_none (Nat.le_of_not_lt ht),Array.getD_eq_getD_getElem?,Array.getElem?_eq_none (Nat.le_of_not_lt ht')]
   exact .undef g
 | const v=>exact(zKB he).1
 | global _=>cases he
 | func f=>cases he;exact .func 0 (.func f) [] [] #[] #[] (by simp) rfl (by simp) rfl (by simp) (Nat.le_refl _) (Nat.le_refl _)
theorem zCX {fr:Fr}{n:Nat}(h:tops fr.tmps≤n){o:Operand}{x:AV}(he:zAD fr o=some x):top x≤n:=by
 cases o with
 | tmp t=>
  cases he
  rw[zCJ]
  by_cases ht:t<fr.tmps.length
  ·rw[List.getD_eq_getElem?_getD,List.getElem?_eq_getElem ht];exact zCV h (List.getElem?_eq_getElem ht)
  ·rw[List.getD_eq_getElem?_getD,List.getElem?_eq_none (Nat.le_of_not_lt ht)];exact Nat.zero_le _
 | const v=>
  have:=(zKB (g:=⟨fun _=>0,fun _=>0,fun _=>0,fun _=>0,fun _ _=>none,fun _ _=>True,fun _ _=>none,fun _=>none⟩) he).2
  omega
 | global _=>cases he
 | func f=>cases he;exact Nat.zero_le _
end Go.Ab
end
